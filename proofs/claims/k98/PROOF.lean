import PyProof.Rows.All
import Wide.All
import OpenK.AllK
import Wide.FinOn
import KE.KStateDown
import HandS.ForMost
import HandS.ForExc
import HandS.CallSlots
import HandS.Defaults
import HandS.TryMany
import HandS.HeadHook1
import HandS.HeadHook2
import HandS.TupAny
import HandS.Deep
import HandS.Walk
import HandS.Zip
import HandS.Conv
import KE.GoesMore
import KE.GoesEnum
import HandS.Flow
import HandS.Steps
import HandS.Text
import HandS.More
import HandS.Style
import KE.KExcInit
import HandS.ExcInit
import HandS.ExcOwn
import HandS.ExcValue
import HandS.ExcIs
import HandS.IsInst
import KE.KExcIs
import HandS.HeadHook4
import HandS.ExcField
import HandS.Ends
import HandS.HeadEnd
import HandS.Codes
import PyProof.ReprRoads
import PyProof.InstStoreFacts
import PySem.Challenge.RW_mayrest_k98_errors_and_limits
import HandS.Head0
import HandS.Head1
import HandS.Head2
set_option Elab.async false
set_option linter.all false
set_option maxRecDepth 100000
set_option maxHeartbeats 1000000
/-! ML0: values as trees over a store of mutable cells; what represents them in the abstract heap; readings by a plain Lean function -/
namespace ML
open PySem PySem.Spec PyProof.Rows L2

/-- a key of a dict: a text, or a tuple of texts -/
inductive DK where
  | s (x : Str) | t (xs : List Str)
  deriving DecidableEq
/-- a value as a tree; ref n: the n-th cell of the store -/
inductive D where
  | non | bl (b : Bool) | int (i : Int) | str (x : Str)
  | tup (xs : List D) | lst (xs : List D) | dic (ks : List DK) (vs : List D)
  | obj (c : Str) (ns : List Str) (vs : List D)
  | exn (c : Str) (ns : List Str) (vs : List D)
  | ref (n : Nat)
  | scr (ns : List Int)
/-- a mutable thing -/
inductive Cell where
  | lst (xs : List D) | dic (ks : List DK) (vs : List D) | ins (c : Str) (ns : List Str) (vs : List D)
abbrev Sto := List Cell
/-- what code comes to: a value, an error of the program's own, or nothing said -/
inductive R (α : Type) where
  | ok (a : α) (st : Sto) | ex (c : Str) (ns : List Str) (vs : List D) (st : Sto) | bad
def R.bind {α β : Type} (r : R α) (k : α → Sto → R β) : R β := match r with
  | .ok a st => k a st
  | .ex c ns vs st => .ex c ns vs st
  | .bad => .bad
@[simp] theorem R.bind_ok {α β : Type} (a : α) (st : Sto) (k : α → Sto → R β) : (R.ok a st).bind k = k a st := rfl
@[simp] theorem R.bind_ex {α β : Type} (c : Str) (ns : List Str) (vs : List D) (st : Sto) (k : α → Sto → R β) : (R.ex c ns vs st : R α).bind k = .ex c ns vs st := rfl
@[simp] theorem R.bind_bad {α β : Type} (k : α → Sto → R β) : (R.bad : R α).bind k = .bad := rfl
abbrev Env' := List (Option D)
abbrev ME := Env' → Sto → R D
/-- the addresses of the store's cells; addresses that are kept apart (a comprehension's list while it is made) -/
structure Ix where
  c : List Addr
  p : List Addr
def Ix.no (ι : Ix) (a : Addr) : Prop := a ∉ ι.c ∧ a ∉ ι.p
def Ix.push (ι : Ix) (a : Addr) : Ix := ⟨ι.c ++ [a], ι.p⟩

section rep
variable (K : PySem.W.Frag) (ι : Ix) (H : Hp)
def KTup (a : Addr) (vs : List V) : Prop := ∃ (o : Obj) (its : Array Value) (n : Nat), K.lookup a = some o ∧ o.cls = .type "tuple" ∧ o.data = .seq its n ∧ its.size ≤ sizeLine ∧ Vals vs its.toList
def TupAt (a : Addr) (vs : List V) : Prop := (ι.no a ∧ H a = some (.tup vs)) ∨ KTup K a vs
def KLst (a : Addr) (vs : List V) : Prop := ∃ (o : Obj) (its : Array Value) (n : Nat), K.lookup a = some o ∧ o.cls = .type "list" ∧ o.dict = none ∧ o.data = .seq its n ∧ its.size ≤ sizeLine ∧ Vals vs its.toList
def LstAt (a : Addr) (vs : List V) : Prop := ι.no a ∧ H a = some (.lst vs)
def keyS : List DK → Option (List Str)
  | [] => some []
  | .s x :: r => (keyS r).map (x :: ·)
  | .t _ :: _ => none
def keyT : List DK → Option (List (List Str))
  | [] => some []
  | .t x :: r => (keyT r).map (x :: ·)
  | .s _ :: _ => none
/-- the dict object of these keys and values -/
def DicHO (ks : List DK) (vs : List V) (o : HO) : Prop := ks.length = vs.length ∧
  ((∃ ss, keyS ks = some ss ∧ o = .dK ((ss.map Sum.inr).zip vs)) ∨ (∃ ss, keyT ks = some ss ∧ o = .dT ((ss.map (·.map Sum.inr)).zip vs)))
/-- an exception object, made or caught -/
def ExnO (C a : Addr) (dd : Option Addr) : HO := .ext fun h => ∃ (oe : Obj) (vs : Array Value), h.get? a = some oe ∧ oe.cls = .ref C ∧ oe.dict = dd ∧ oe.data = .fields vs
mutual
def Rep : D → V → Prop
  | .non, v => v = .non
  | .bl b, v => v = .bl b
  | .int i, v => v = .int i
  | .str x, v => v = .str x ∧ PyData.strOk x = true
  | .tup xs, v => ∃ a vs, v = .ref a ∧ TupAt K ι H a vs ∧ Reps xs vs
  | .lst xs, v => ∃ a vs, v = .ref a ∧ LstAt ι H a vs ∧ Reps xs vs
  | .dic ks xs, v => ∃ a vs o, v = .ref a ∧ ι.no a ∧ H a = some o ∧ DicHO ks vs o ∧ Reps xs vs
  | .obj c ns xs, v => ∃ a dx fs, v = .ref a ∧ ι.no a ∧ H a = some (.ins (He.ga K c) dx fs) ∧ fs.map (·.1) = ns ∧ Reps xs (fs.map (·.2))
  | .exn c ns xs, v => ∃ a dd, v = .ref a ∧ ι.no a ∧ H a = some (ExnO (He.ga K c) a dd) ∧
      ((ns = [] ∧ xs = [] ∧ dd = none) ∨ ∃ d fs, dd = some d ∧ ι.no d ∧ H d = some (.xd fs) ∧ fs.map (·.1) = ns ∧ Reps xs (fs.map (·.2)))
  | .ref n, v => ∃ a, ι.c[n]? = some a ∧ v = .ref a
  | .scr ns, v => ∃ a, v = .ref a ∧ ((ι.no a ∧ ∃ o, H a = some (.frz o (.lst (ns.map V.int)))) ∨ KLst K a (ns.map V.int))
def Reps : List D → List V → Prop
  | [], vs => vs = []
  | d :: ds, vs => ∃ v r, vs = v :: r ∧ Rep d v ∧ Reps ds r
end
def CellAt (a : Addr) : Cell → Prop
  | .lst xs => ∃ vs, H a = some (.lst vs) ∧ Reps K ι H xs vs
  | .dic ks xs => ∃ vs o, H a = some o ∧ DicHO ks vs o ∧ Reps K ι H xs vs
  | .ins c ns xs => ∃ dx fs, H a = some (.ins (He.ga K c) dx fs) ∧ fs.map (·.1) = ns ∧ Reps K ι H xs (fs.map (·.2))
structure RepSto (st : Sto) : Prop where
  nd : ι.c.Nodup
  len : ι.c.length = st.length
  prot : ∀ a ∈ ι.p, ∃ o, H a = some o
  at_ : ∀ (n : Nat) (c : Cell) (a : Addr), st[n]? = some c → ι.c[n]? = some a → CellAt K ι H a c
structure RepEnv (env : Env') (σ : L2.St) : Prop where
  len : env.length = σ.length
  at_ : ∀ (i : Nat) (d : D), env[i]? = some (some d) → ∃ v, σ[i]? = some (some v) ∧ Rep K ι H d v
end rep
/-- the heap grows; what is no cell stays -/
structure Ext (ι : Ix) (H : Hp) (ι' : Ix) (H' : Hp) : Prop where
  pre : ∃ κ, ι'.c = ι.c ++ κ ∧ ∀ a ∈ κ, H a = none
  prt : ∀ a ∈ ι.p, a ∈ ι'.p
  prn : ∀ a ∈ ι'.p, a ∈ ι.p ∨ H a = none
  keep : ∀ a o, H a = some o → a ∉ ι.c → H' a = some o
  there : ∀ a, H' a = none → H a = none
theorem Ext.refl (ι : Ix) (H : Hp) : Ext ι H ι H := ⟨⟨[], by simp⟩, fun _ h => h, fun _ h => .inl h, fun _ _ h _ => h, fun _ h => h⟩
theorem Ext.notc {ι ι' : Ix} {H H' : Hp} (e : Ext ι H ι' H') {a : Addr} {o : HO} (h : H a = some o) (n : a ∉ ι.c) : a ∉ ι'.c := by
  obtain ⟨κ, e1, hk⟩ := e.pre
  rw [e1]
  intro hm
  rcases List.mem_append.mp hm with q | q
  · exact n q
  · rw [hk a q] at h; cases h
theorem Ext.notin {ι ι' : Ix} {H H' : Hp} (e : Ext ι H ι' H') {a : Addr} {o : HO} (h : H a = some o) (n : ι.no a) : ι'.no a := ⟨e.notc h n.1, fun q => by
  rcases e.prn a q with z | z
  · exact n.2 z
  · rw [z] at h; cases h⟩
theorem Ext.keep' {ι ι' : Ix} {H H' : Hp} (e : Ext ι H ι' H') {a : Addr} {o : HO} (h : H a = some o) (n : ι.no a) : H' a = some o := e.keep a o h n.1
theorem Ext.trans {ι ι' ι'' : Ix} {H H' H'' : Hp} (a : Ext ι H ι' H') (b : Ext ι' H' ι'' H'') : Ext ι H ι'' H'' := by
  obtain ⟨κ, e1, hk⟩ := a.pre
  obtain ⟨μ, e2, hm⟩ := b.pre
  refine ⟨⟨κ ++ μ, by rw [e2, e1, List.append_assoc], fun x hx => ?_⟩, fun x h => b.prt x (a.prt x h), fun x h => ?_, fun x o h n => b.keep x o (a.keep x o h n) (a.notc h n), fun x h => a.there x (b.there x h)⟩
  · rcases List.mem_append.mp hx with q | q
    · exact hk x q
    · exact a.there x (hm x q)
  · rcases b.prn x h with z | z
    · exact a.prn x z
    · exact .inr (a.there x z)
/-- a new object that is no cell -/
theorem Ext.new {ι : Ix} {H : Hp} {p : Addr} {o : HO} (h : H p = none) : Ext ι H ι (upd H p o) :=
  ⟨⟨[], by simp⟩, fun _ h => h, fun _ h => .inl h, fun a u e _ => by rw [upd_ne (ne_of_none e h)]; exact e, fun a e => by
    by_cases q : a = p
    · rw [q]; exact h
    · rw [upd_ne q] at e; exact e⟩
/-- .. that is a cell -/
theorem Ext.newC {ι : Ix} {H : Hp} {p : Addr} {o : HO} (h : H p = none) : Ext ι H (ι.push p) (upd H p o) :=
  ⟨⟨[p], rfl, fun a ha => by simp at ha; rw [ha]; exact h⟩, fun _ h => h, fun _ h => .inl h, fun a u e _ => by rw [upd_ne (ne_of_none e h)]; exact e, fun a e => by
    by_cases q : a = p
    · rw [q]; exact h
    · rw [upd_ne q] at e; exact e⟩
/-- a cell is written -/
theorem Ext.write {ι : Ix} {H : Hp} {p : Addr} {o : HO} (h : p ∈ ι.c) : Ext ι H ι (upd H p o) :=
  ⟨⟨[], by simp⟩, fun _ h => h, fun _ h => .inl h, fun a u e n => by rw [upd_ne (fun q => n (by rw [q]; exact h))]; exact e, fun a e => by
    by_cases q : a = p
    · rw [q, upd_same] at e; cases e
    · rw [upd_ne q] at e; exact e⟩
section
variable {K : PySem.W.Frag} {ι ι' : Ix} {H H' : Hp}
theorem TupAt.ext {a : Addr} {vs : List V} (e : Ext ι H ι' H') (h : TupAt K ι H a vs) : TupAt K ι' H' a vs := by
  rcases h with ⟨n, r⟩ | h
  · exact .inl ⟨e.notin r n, e.keep' r n⟩
  · exact .inr h
theorem TupAt.sq {a : Addr} {vs : List V} (h : TupAt K ι H a vs) : SqT K H a vs := by
  rcases h with ⟨n, r⟩ | h
  · exact .inl (.inl r)
  · exact .inr h
theorem LstAt.sq {a : Addr} {vs : List V} (h : LstAt ι H a vs) : SqL K H a vs := .inl (.inl h.2)
theorem Ext.ref {n : Nat} {a : Addr} (e : Ext ι H ι' H') (h : ι.c[n]? = some a) : ι'.c[n]? = some a := by
  obtain ⟨κ, e1, _⟩ := e.pre
  rw [e1, List.getElem?_append_left (List.getElem?_eq_some_iff.mp h).1]
  exact h
/-- what trees lean on stands in the other place, too -/
structure Keeps (ι : Ix) (H : Hp) (ι' : Ix) (H' : Hp) : Prop where
  at_ : ∀ a o, H a = some o → ι.no a → ι'.no a ∧ H' a = some o
  ref : ∀ (n : Nat) (a : Addr), ι.c[n]? = some a → ι'.c[n]? = some a
theorem Ext.keeps (e : Ext ι H ι' H') : Keeps ι H ι' H' := ⟨fun a o h n => ⟨e.notin h n, e.keep' h n⟩, fun n a h => e.ref h⟩
mutual
theorem Rep.re (e : Keeps ι H ι' H') : ∀ {d : D} {v : V}, Rep K ι H d v → Rep K ι' H' d v
  | .non, v, h => by simp only [Rep] at h ⊢; exact h
  | .bl b, v, h => by simp only [Rep] at h ⊢; exact h
  | .int i, v, h => by simp only [Rep] at h ⊢; exact h
  | .str x, v, h => by simp only [Rep] at h ⊢; exact h
  | .tup xs, v, h => by
    simp only [Rep] at h ⊢
    obtain ⟨a, vs, rfl, ht, hr⟩ := h
    refine ⟨a, vs, rfl, ?_, Reps.re e hr⟩
    rcases ht with ⟨n, r⟩ | r
    · exact .inl (e.at_ _ _ r n)
    · exact .inr r
  | .lst xs, v, h => by
    simp only [Rep] at h ⊢
    obtain ⟨a, vs, rfl, ht, hr⟩ := h
    exact ⟨a, vs, rfl, e.at_ _ _ ht.2 ht.1, Reps.re e hr⟩
  | .dic ks xs, v, h => by
    simp only [Rep] at h ⊢
    obtain ⟨a, vs, o, rfl, hn, ho, hd, hr⟩ := h
    exact ⟨a, vs, o, rfl, (e.at_ _ _ ho hn).1, (e.at_ _ _ ho hn).2, hd, Reps.re e hr⟩
  | .obj c ns xs, v, h => by
    simp only [Rep] at h ⊢
    obtain ⟨a, dx, fs, rfl, hn, ho, hd, hr⟩ := h
    exact ⟨a, dx, fs, rfl, (e.at_ _ _ ho hn).1, (e.at_ _ _ ho hn).2, hd, Reps.re e hr⟩
  | .exn c ns xs, v, h => by
    simp only [Rep] at h ⊢
    obtain ⟨a, dd, rfl, hn, ho, hd⟩ := h
    refine ⟨a, dd, rfl, (e.at_ _ _ ho hn).1, (e.at_ _ _ ho hn).2, ?_⟩
    rcases hd with hd | ⟨d, fs, rfl, hn2, ho2, h3, h4⟩
    · exact .inl hd
    · exact .inr ⟨d, fs, rfl, (e.at_ _ _ ho2 hn2).1, (e.at_ _ _ ho2 hn2).2, h3, Reps.re e h4⟩
  | .ref n, v, h => by
    simp only [Rep] at h ⊢
    obtain ⟨a, ha, rfl⟩ := h
    exact ⟨a, e.ref n a ha, rfl⟩
  | .scr ns, v, h => by
    simp only [Rep] at h ⊢
    obtain ⟨a, rfl, h⟩ := h
    refine ⟨a, rfl, ?_⟩
    rcases h with ⟨hn, o, ha⟩ | h
    · exact .inl ⟨(e.at_ _ _ ha hn).1, o, (e.at_ _ _ ha hn).2⟩
    · exact .inr h
theorem Reps.re (e : Keeps ι H ι' H') : ∀ {ds : List D} {vs : List V}, Reps K ι H ds vs → Reps K ι' H' ds vs
  | [], vs, h => by simp only [Reps] at h ⊢; exact h
  | d :: ds, vs, h => by
    simp only [Reps] at h ⊢
    obtain ⟨v, r, rfl, h1, h2⟩ := h
    exact ⟨v, r, rfl, Rep.re e h1, Reps.re e h2⟩
end
theorem Rep.ext (e : Ext ι H ι' H') {d : D} {v : V} (h : Rep K ι H d v) : Rep K ι' H' d v := Rep.re e.keeps h
theorem Reps.ext (e : Ext ι H ι' H') {d : List D} {v : List V} (h : Reps K ι H d v) : Reps K ι' H' d v := Reps.re e.keeps h
theorem RepEnv.re {env : Env'} {σ : L2.St} (e : Keeps ι H ι' H') (h : RepEnv K ι H env σ) : RepEnv K ι' H' env σ :=
  ⟨h.len, fun i d q => let ⟨v, h1, h2⟩ := h.at_ i d q; ⟨v, h1, Rep.re e h2⟩⟩
theorem CellAt.re {a : Addr} {c : Cell} (e : Keeps ι H ι' H') (hH : H' a = H a) (h : CellAt K ι H a c) : CellAt K ι' H' a c := by
  cases c with
  | lst xs => obtain ⟨vs, h1, h2⟩ := h; exact ⟨vs, by rw [hH]; exact h1, Reps.re e h2⟩
  | dic ks xs => obtain ⟨vs, o, h1, h2, h3⟩ := h; exact ⟨vs, o, by rw [hH]; exact h1, h2, Reps.re e h3⟩
  | ins c ns xs => obtain ⟨dx, fs, h1, h2, h3⟩ := h; exact ⟨dx, fs, by rw [hH]; exact h1, h2, Reps.re e h3⟩
theorem RepEnv.ext {env : Env'} {σ : L2.St} (e : Ext ι H ι' H') (h : RepEnv K ι H env σ) : RepEnv K ι' H' env σ :=
  ⟨h.len, fun i d q => let ⟨v, h1, h2⟩ := h.at_ i d q; ⟨v, h1, h2.ext e⟩⟩
theorem Reps.length : ∀ {ds : List D} {vs : List V}, Reps K ι H ds vs → ds.length = vs.length
  | [], vs, h => by simp only [Reps] at h; subst h; rfl
  | d :: ds, vs, h => by
    simp only [Reps] at h
    obtain ⟨v, r, rfl, _, h2⟩ := h
    rw [List.length_cons, List.length_cons, h2.length]
theorem Reps.get : ∀ {ds : List D} {vs : List V} {i : Nat} {d : D}, Reps K ι H ds vs → ds[i]? = some d → ∃ v, vs[i]? = some v ∧ Rep K ι H d v
  | [], vs, i, d, _, q => by simp at q
  | d :: ds, vs, 0, x, h, q => by
    simp only [Reps] at h
    obtain ⟨v, r, rfl, h1, _⟩ := h
    simp at q; subst q
    exact ⟨v, rfl, h1⟩
  | d :: ds, vs, i + 1, x, h, q => by
    simp only [Reps] at h
    obtain ⟨v, r, rfl, _, h2⟩ := h
    obtain ⟨u, h3, h4⟩ := h2.get (i := i) (d := x) (by simpa using q)
    exact ⟨u, by simpa using h3, h4⟩
theorem Reps.append : ∀ {ds es : List D} {vs us : List V}, Reps K ι H ds vs → Reps K ι H es us → Reps K ι H (ds ++ es) (vs ++ us)
  | [], es, vs, us, h, g => by simp only [Reps] at h; subst h; exact g
  | d :: ds, es, vs, us, h, g => by
    simp only [Reps] at h
    obtain ⟨v, r, rfl, h1, h2⟩ := h
    show Reps K ι H (d :: (ds ++ es)) _
    simp only [Reps]
    exact ⟨v, r ++ us, rfl, h1, h2.append g⟩
theorem Reps.nil : Reps K ι H [] [] := by simp only [Reps]
theorem Reps.cons {d : D} {ds : List D} {v : V} {vs : List V} (h : Rep K ι H d v) (g : Reps K ι H ds vs) : Reps K ι H (d :: ds) (v :: vs) := by
  simp only [Reps]; exact ⟨v, vs, rfl, h, g⟩
theorem Reps.one {d : D} {v : V} (h : Rep K ι H d v) : Reps K ι H [d] [v] := .cons h .nil
theorem Reps.nil_iff {vs : List V} : Reps K ι H [] vs ↔ vs = [] := by simp only [Reps]
theorem Reps.cons_iff {d : D} {ds : List D} {vs : List V} : Reps K ι H (d :: ds) vs ↔ ∃ v r, vs = v :: r ∧ Rep K ι H d v ∧ Reps K ι H ds r := by
  rw [Reps]
theorem Reps.take : ∀ {ds : List D} {vs : List V} (n : Nat), Reps K ι H ds vs → Reps K ι H (ds.take n) (vs.take n)
  | _, _, 0, _ => by simpa using Reps.nil
  | [], vs, n + 1, h => by rw [Reps.nil_iff] at h; subst h; simpa using Reps.nil
  | d :: ds, vs, n + 1, h => by
    rw [Reps.cons_iff] at h
    obtain ⟨v, r, rfl, h1, h2⟩ := h
    rw [List.take_succ_cons, List.take_succ_cons]
    exact .cons h1 (h2.take n)
theorem Reps.drop : ∀ {ds : List D} {vs : List V} (n : Nat), Reps K ι H ds vs → Reps K ι H (ds.drop n) (vs.drop n)
  | _, _, 0, h => h
  | [], vs, n + 1, h => by rw [Reps.nil_iff] at h; subst h; simpa using Reps.nil
  | d :: ds, vs, n + 1, h => by
    rw [Reps.cons_iff] at h
    obtain ⟨v, r, rfl, h1, h2⟩ := h
    exact h2.drop n
theorem Reps.set {d : D} {v : V} (hd : Rep K ι H d v) : ∀ {ds : List D} {vs : List V} (n : Nat), Reps K ι H ds vs → Reps K ι H (ds.set n d) (vs.set n v)
  | [], vs, _, h => by rw [Reps.nil_iff] at h; subst h; simpa using Reps.nil
  | e :: ds, vs, 0, h => by
    rw [Reps.cons_iff] at h
    obtain ⟨v', r, rfl, h1, h2⟩ := h
    exact .cons hd h2
  | e :: ds, vs, n + 1, h => by
    rw [Reps.cons_iff] at h
    obtain ⟨v', r, rfl, h1, h2⟩ := h
    exact .cons h1 (h2.set hd n)
theorem Reps.eraseIdx : ∀ {ds : List D} {vs : List V} (n : Nat), Reps K ι H ds vs → Reps K ι H (ds.eraseIdx n) (vs.eraseIdx n)
  | [], vs, _, h => by rw [Reps.nil_iff] at h; subst h; simpa using Reps.nil
  | e :: ds, vs, 0, h => by
    rw [Reps.cons_iff] at h
    obtain ⟨v', r, rfl, h1, h2⟩ := h
    exact h2
  | e :: ds, vs, n + 1, h => by
    rw [Reps.cons_iff] at h
    obtain ⟨v', r, rfl, h1, h2⟩ := h
    exact .cons h1 (h2.eraseIdx n)
theorem CellAt.ext {a : Addr} {c : Cell} (e : Ext ι H ι' H') (hH : H' a = H a) (h : CellAt K ι H a c) : CellAt K ι' H' a c := by
  cases c with
  | lst xs => obtain ⟨vs, h1, h2⟩ := h; exact ⟨vs, by rw [hH]; exact h1, h2.ext e⟩
  | dic ks xs => obtain ⟨vs, o, h1, h2, h3⟩ := h; exact ⟨vs, o, by rw [hH]; exact h1, h2, h3.ext e⟩
  | ins c ns xs => obtain ⟨dx, fs, h1, h2, h3⟩ := h; exact ⟨dx, fs, by rw [hH]; exact h1, h2, h3.ext e⟩
theorem CellAt.some {a : Addr} {c : Cell} (h : CellAt K ι H a c) : ∃ o, H a = some o := by
  cases c with
  | lst xs => obtain ⟨vs, h1, h2⟩ := h; exact ⟨_, h1⟩
  | dic ks xs => obtain ⟨vs, o, h1, _⟩ := h; exact ⟨_, h1⟩
  | ins c ns xs => obtain ⟨dx, fs, h1, _⟩ := h; exact ⟨_, h1⟩
theorem RepSto.cell {st : Sto} (h : RepSto K ι H st) {n : Nat} {c : Cell} (q : st[n]? = some c) : ∃ a, ι.c[n]? = some a ∧ CellAt K ι H a c := by
  have hl : n < ι.c.length := by rw [h.len]; exact (List.getElem?_eq_some_iff.mp q).1
  exact ⟨ι.c[n], List.getElem?_eq_getElem hl, h.at_ n c _ q (List.getElem?_eq_getElem hl)⟩
theorem RepSto.tracked {st : Sto} (h : RepSto K ι H st) {a : Addr} (ha : a ∈ ι.c) : ∃ o, H a = some o := by
  obtain ⟨n, hn, e⟩ := List.mem_iff_getElem.mp ha
  have hs : n < st.length := by rw [← h.len]; exact hn
  exact (h.at_ n st[n] a (List.getElem?_eq_getElem hs) (by rw [← e]; exact List.getElem?_eq_getElem hn)).some
theorem RepSto.fresh {st : Sto} (h : RepSto K ι H st) {p : Addr} (hp : H p = none) : ι.no p := by
  refine ⟨fun q => ?_, fun q => ?_⟩
  · obtain ⟨u, hu⟩ := h.tracked q
    rw [hp] at hu; cases hu
  · obtain ⟨u, hu⟩ := h.prot p q
    rw [hp] at hu; cases hu
/-- nothing but new things: the store stands -/
theorem RepSto.new {st : Sto} {p : Addr} {o : HO} (h : RepSto K ι H st) (hp : H p = none) : RepSto K ι (upd H p o) st :=
  ⟨h.nd, h.len, fun a ha => by
    obtain ⟨u, hu⟩ := h.prot a ha
    exact ⟨u, by rw [upd_ne (ne_of_none hu hp)]; exact hu⟩, fun n c a h1 h2 => by
    have hc := h.at_ n c a h1 h2
    obtain ⟨u, hu⟩ := hc.some
    exact hc.ext (Ext.new hp) (upd_ne (ne_of_none hu hp))⟩
/-- a new cell -/
theorem RepSto.alloc {st : Sto} {p : Addr} {o : HO} {c : Cell} (h : RepSto K ι H st) (hp : H p = none) (hc : CellAt K (ι.push p) (upd H p o) p c) : RepSto K (ι.push p) (upd H p o) (st ++ [c]) := by
  have np : p ∉ ι.c := (h.fresh hp).1
  refine ⟨List.nodup_append.mpr ⟨h.nd, by simp, fun a ha b hb => by simp at hb; subst hb; exact fun q => np (q ▸ ha)⟩, by simp [Ix.push, h.len], fun a ha => (h.new hp).prot a ha, fun n c' a h1 h2 => ?_⟩
  have h2' : (ι.c ++ [p])[n]? = some a := h2
  by_cases hn : n < st.length
  · rw [List.getElem?_append_left hn] at h1
    rw [List.getElem?_append_left (by rw [h.len]; exact hn)] at h2'
    have q := h.at_ n c' a h1 h2'
    obtain ⟨u, hu⟩ := q.some
    exact q.ext (Ext.newC hp) (upd_ne (ne_of_none hu hp))
  · have e : n = st.length := by
      have := (List.getElem?_eq_some_iff.mp h1).1
      simp at this; omega
    subst e
    rw [List.getElem?_append_right (Nat.le_refl _)] at h1
    rw [← h.len, List.getElem?_append_right (Nat.le_refl _)] at h2'
    simp at h1 h2'
    subst h1 h2'
    exact hc
/-- a cell is written -/
theorem RepSto.write {st : Sto} {n : Nat} {p : Addr} {o : HO} {c : Cell} (h : RepSto K ι H st) (hp : ι.c[n]? = some p) (hc : CellAt K ι (upd H p o) p c) : RepSto K ι (upd H p o) (st.set n c) := by
  have hm : p ∈ ι.c := List.mem_of_getElem? hp
  refine ⟨h.nd, by rw [List.length_set]; exact h.len, fun a ha => ?_, fun m c' a h1 h2 => ?_⟩
  · obtain ⟨u, hu⟩ := h.prot a ha
    by_cases q : a = p
    · exact ⟨o, by rw [q, upd_same]⟩
    · exact ⟨u, by rw [upd_ne q]; exact hu⟩
  by_cases hmn : m = n
  · subst hmn
    rw [hp] at h2; cases h2
    have hl : m < st.length := by rw [← h.len]; exact (List.getElem?_eq_some_iff.mp hp).1
    rw [List.getElem?_set_self hl] at h1
    cases h1
    exact hc
  · rw [List.getElem?_set_ne (Ne.symm hmn)] at h1
    have q := h.at_ m c' a h1 h2
    refine q.ext (Ext.write hm) (upd_ne ?_)
    rintro rfl
    obtain ⟨l1, e1⟩ := List.getElem?_eq_some_iff.mp hp
    obtain ⟨l2, e2⟩ := List.getElem?_eq_some_iff.mp h2
    exact hmn ((List.getElem_inj h.nd).mp (e2.trans e1.symm))
end
end ML

set_option Elab.async false
set_option linter.all false
set_option maxRecDepth 100000
set_option maxHeartbeats 1000000
/-! ML1: readings by plain functions; the judgements over them -/
namespace ML
open PySem PySem.Spec PyProof.Rows L2
abbrev St' := L2.St
section
variable (K : PySem.W.Frag)
/-- an exception: its class, its own dict -/
def ExAt (ι : Ix) (H : Hp) (c : Str) (ns : List Str) (vs : List D) (cls : Value) (dd : Option Addr) : Prop := cls = .ref (He.ga K c) ∧
  ((ns = [] ∧ vs = [] ∧ dd = none) ∨ ∃ d fs, dd = some d ∧ ι.no d ∧ H d = some (.xd fs) ∧ fs.map (·.1) = ns ∧ Reps K ι H vs (fs.map (·.2)))
abbrev RepT (α β : Type) := Ix → Hp → α → β → Prop
def Out {α β : Type} (rep : RepT α β) (W : WX) (ι : Ix) (σ : St') (H : Hp) (Q : β → Hp → Prop) : R α → Prop
  | .ok a st => ∀ b ι' H', Ext ι H ι' H' → rep ι' H' a b → RepSto K ι' H' st → Q b H'
  | .ex c ns vs st => ∀ cls dd ι' H', Ext ι H ι' H' → ExAt K ι' H' c ns vs cls dd → RepSto K ι' H' st → W cls dd σ H'
  | .bad => False
def repD : RepT D V := fun ι H d v => Rep K ι H d v
def repL : RepT (List D) (List V) := fun ι H d v => Reps K ι H d v
def repB : RepT Bool Bool := fun _ _ a b => a = b
def tX {α β : Type} (rep : RepT α β) (W : WX) (m : Env' → Sto → R α) : St' → Hp → (β → Hp → Prop) → Prop := fun σ H Q => ∃ ι env st, RepEnv K ι H env σ ∧ RepSto K ι H st ∧ Out K rep W ι σ H Q (m env st)
abbrev tE (W : WX) (m : ME) : TE := tX K (repD K) W m
abbrev tT (W : WX) (m : Env' → Sto → R Bool) : TT := tX K repB W m
abbrev tA (W : WX) (m : Env' → Sto → R (List D)) : TA := tX K (repL K) W m
end
section
variable {K : PySem.W.Frag} {α β γ δ : Type} {rep : RepT α β} {rep' : RepT γ δ} {W : WX} {ι ι' : Ix} {σ : St'} {H H' : Hp}
theorem Out.shift {Q : β → Hp → Prop} (e : Ext ι H ι' H') : ∀ {r : R α}, Out K rep W ι σ H Q r → Out K rep W ι' σ H' Q r
  | .ok a st, h => fun b ι'' H'' e2 => h b ι'' H'' (e.trans e2)
  | .ex c ns vs st, h => fun cls dd ι'' H'' e2 => h cls dd ι'' H'' (e.trans e2)
  | .bad, h => h
theorem Out.imp {Q Q' : β → Hp → Prop} (f : ∀ b H, Q b H → Q' b H) : ∀ {r : R α}, Out K rep W ι σ H Q r → Out K rep W ι σ H Q' r
  | .ok a st, h => fun b ι'' H'' e1 e2 e3 => f _ _ (h b ι'' H'' e1 e2 e3)
  | .ex c ns vs st, h => h
  | .bad, h => h
/-- what stands behind the first part -/
def Then (K : PySem.W.Frag) (rep : RepT α β) (rep' : RepT γ δ) (W : WX) (ι : Ix) (σ : St') (H : Hp) (Q : δ → Hp → Prop) (k : α → Sto → R γ) : β → Hp → Prop := fun b H' =>
  ∃ ι' a st, Ext ι H ι' H' ∧ rep ι' H' a b ∧ RepSto K ι' H' st ∧ Out K rep' W ι' σ H' Q (k a st)
theorem Out.bind {Q : δ → Hp → Prop} {k : α → Sto → R γ} : ∀ {r : R α}, Out K rep' W ι σ H Q (r.bind k) → Out K rep W ι σ H (Then K rep rep' W ι σ H Q k) r
  | .ok a st, h => fun b ι' H' e1 e2 e3 => ⟨ι', a, st, e1, e2, e3, Out.shift e1 h⟩
  | .ex c ns vs st, h => h
  | .bad, h => h
/-- an error is nothing that is said of -/
def R.noex {α : Type} : R α → R α
  | .ex _ _ _ _ => .bad
  | r => r
@[simp] theorem R.noex_ok {α : Type} (a : α) (st : Sto) : (R.ok a st).noex = .ok a st := rfl
@[simp] theorem R.noex_bad {α : Type} : (R.bad : R α).noex = .bad := rfl
@[simp] theorem R.noex_ex {α : Type} (c : Str) (ns : List Str) (vs : List D) (st : Sto) : (R.ex c ns vs st : R α).noex = .bad := rfl
/-- the end is told from the start on -/
theorem Out.bindN {W' : WX} {ι1 : Ix} {σ1 : St'} {H1 : Hp} {Q : δ → Hp → Prop} {k : α → Sto → R γ} : ∀ {r : R α}, Out K rep' W ι σ H Q (r.noex.bind k) →
    Out K rep W' ι1 σ1 H1 (fun b H' => ∃ ι' a st', Ext ι1 H1 ι' H' ∧ rep ι' H' a b ∧ RepSto K ι' H' st' ∧ Out K rep' W ι σ H Q (k a st')) r
  | .ok a st, h => fun b ι' H' e1 e2 e3 => ⟨ι', a, st, e1, e2, e3, h⟩
  | .ex c ns vs st, h => h.elim
  | .bad, h => h
/-- a value that is there -/
theorem Out.val {Q : β → Hp → Prop} {a : α} {b : β} {st : Sto} (h : Out K rep W ι σ H Q (.ok a st)) (r : rep ι H a b) (s : RepSto K ι H st) : Q b H := h b ι H (Ext.refl _ _) r s
/-- .. a new object, no cell -/
theorem Out.new {Q : β → Hp → Prop} {a : α} {b : β} {st : Sto} {p : Addr} {o : HO} (h : Out K rep W ι σ H Q (.ok a st)) (hp : H p = none) (s : RepSto K ι H st) (r : rep ι (upd H p o) a b) : Q b (upd H p o) :=
  h b ι _ (Ext.new hp) r (s.new hp)
end
/-! ### the judgements -/
abbrev SE (X : Cx) (W : WX) (e : Expr) (m : ME) : Prop := PE X e (tE X.K W m)
abbrev ST (X : Cx) (W : WX) (e : Expr) (m : Env' → Sto → R Bool) : Prop := PT X e (tT X.K W m)
abbrev SW (X : Cx) (W : WX) (e : Expr) (m : Env' → Sto → R Bool) : Prop := PW X e (tT X.K W m)
abbrev SA (X : Cx) (W : WX) (es : List Expr) (m : Env' → Sto → R (List D)) : Prop := PA X es (tA X.K W m)
/-- two-place operations on values -/
def Op2 (X : Cx) (W : WX) (sem : Value → Value → Sem Value) (f : D → D → Sto → R D) : Prop :=
  ∀ (pins : List (Addr × Obj)) (s : Shared) (σ : St') (H : Hp) (x y : V) (u v : Value) (dx dy : D) (ι : Ix) (st : Sto) (Q : VK), Inv X pins σ H s → RelV x u → RelV y v → Rep X.K ι H dx x → Rep X.K ι H dy y → RepSto X.K ι H st →
    Out X.K (repD X.K) W ι σ H Q (f dx dy st) → wpAny (model X.prog X.w) X.A (sem u v) (EP X pins σ Q) X.xe s
def Op1 (X : Cx) (W : WX) (sem : Value → Sem Value) (f : D → Sto → R D) : Prop :=
  ∀ (pins : List (Addr × Obj)) (s : Shared) (σ : St') (H : Hp) (x : V) (u : Value) (dx : D) (ι : Ix) (st : Sto) (Q : VK), Inv X pins σ H s → RelV x u → Rep X.K ι H dx x → RepSto X.K ι H st →
    Out X.K (repD X.K) W ι σ H Q (f dx st) → wpAny (model X.prog X.w) X.A (sem u) (EP X pins σ Q) X.xe s
/-- a call of a known value -/
def OpN (X : Cx) (W : WX) (f : Value) (g : List D → Sto → R D) : Prop :=
  ∀ (pins : List (Addr × Obj)) (s : Shared) (σ : St') (H : Hp) (xs : List V) (us : List Value) (ds : List D) (ι : Ix) (st : Sto) (Q : VK), Inv X pins σ H s → Vals xs us → Reps X.K ι H ds xs → RepSto X.K ι H st →
    Out X.K (repD X.K) W ι σ H Q (g ds st) → wpAny (model X.prog X.w) X.A (call f us) (EP X pins σ Q) X.xe s
theorem Op2.of {X : Cx} {W : WX} {sem : Value → Value → Sem Value} {f : D → D → Sto → R D} {r : R2} (h : OpR X sem r)
    (l : ∀ (σ : St') (H : Hp) (x y : V) (dx dy : D) (ι : Ix) (st : Sto) (Q : VK), Rep X.K ι H dx x → Rep X.K ι H dy y → RepSto X.K ι H st → Out X.K (repD X.K) W ι σ H Q (f dx dy st) → r x y H Q) : Op2 X W sem f :=
  fun pins s σ H x y u v dx dy ι st Q I ru rv rx ry rs o => h pins s σ H x y u v Q I ru rv (l σ H x y dx dy ι st Q rx ry rs o)
theorem Op1.of {X : Cx} {W : WX} {sem : Value → Sem Value} {f : D → Sto → R D} {r : V → Hp → VK → Prop} (h : UnR X sem r)
    (l : ∀ (σ : St') (H : Hp) (x : V) (dx : D) (ι : Ix) (st : Sto) (Q : VK), Rep X.K ι H dx x → RepSto X.K ι H st → Out X.K (repD X.K) W ι σ H Q (f dx st) → r x H Q) : Op1 X W sem f :=
  fun pins s σ H x u dx ι st Q I ru rx rs o => h pins s σ H x u Q I ru (l σ H x dx ι st Q rx rs o)
theorem OpN.of {X : Cx} {W : WX} {f : Value} {g : List D → Sto → R D} {r : List V → Hp → VK → Prop} (h : CallR X f r)
    (l : ∀ (σ : St') (H : Hp) (xs : List V) (ds : List D) (ι : Ix) (st : Sto) (Q : VK), Reps X.K ι H ds xs → RepSto X.K ι H st → Out X.K (repD X.K) W ι σ H Q (g ds st) → r xs H Q) : OpN X W f g :=
  fun pins s σ H xs us ds ι st Q I ru rx rs o => h pins s σ H xs us Q I ru (l σ H xs ds ι st Q rx rs o)
section
variable {X : Cx} {W : WX} {e a b c : Expr} {es : List Expr} {ma mb mc : ME} {pos : Pos}
/-! ### names, constants -/
def mVar (i : Nat) : ME := fun env st => match env[i]? with
  | some (some d) => .ok d st
  | _ => .bad
def mC (d : D) : ME := fun _ st => .ok d st
theorem se_var (i : Nat) {x : Str} {pos : Pos} (hN : X.N[i]? = some x := by rfl) (hv : Vis X.env.scope x := by first | exact Or.inl rfl | exact Or.inr (Or.inl rfl) | exact Or.inr (Or.inr rfl)) (hd : (x == ("__debug__" : Str)) = false := by decide)
    (hcd : (x == ("__classdict__" : Str)) = false := by decide) : SE X W (.Name x pos) (mVar i) := by
  refine ⟨fun pins s σ H Q I h => (pe_var hN hv hd hcd).run pins s σ H Q I ?_⟩
  obtain ⟨ι, env, st, re, rs, o⟩ := h
  unfold mVar at o
  cases q : env[i]? with
  | none => rw [q] at o; exact o.elim
  | some z =>
    rw [q] at o
    cases z with
    | none => exact o.elim
    | some d =>
      obtain ⟨v, h1, h2⟩ := re.at_ i d q
      exact ⟨v, h1, o.val h2 rs⟩
theorem se_const {d : D} {v : V} (h : PE X e (tC v)) (hr : ∀ ι H, Rep X.K ι H d v) : SE X W e (mC d) := by
  refine ⟨fun pins s σ H Q I hw => h.run pins s σ H Q I ?_⟩
  obtain ⟨ι, env, st, re, rs, o⟩ := hw
  exact o.val (hr ι H) rs
theorem se_int {i : Int} {j pos} : SE X W (.Constant (.int i) j pos) (mC (.int i)) := se_const pe_int fun _ _ => by simp only [Rep]
theorem se_bl {i : Bool} {j pos} : SE X W (.Constant (.bool i) j pos) (mC (.bl i)) := se_const pe_bl fun _ _ => by simp only [Rep]
theorem se_non {j pos} : SE X W (.Constant .none j pos) (mC .non) := se_const pe_non fun _ _ => by simp only [Rep]
theorem se_str {x : Str} {j pos} (h : PyData.strOk x = true := by decide +kernel) : SE X W (.Constant (.str x) j pos) (mC (.str x)) := se_const pe_str fun _ _ => by simp [Rep, h]
/-! ### parts in a row -/
def mOp (f : D → D → Sto → R D) (ma mb : ME) : ME := fun env st => (ma env st).bind fun x st1 => (mb env st1).bind fun y st2 => f x y st2
def mUn (f : D → Sto → R D) (ma : ME) : ME := fun env st => (ma env st).bind f
/-- the second part behind the first -/
theorem two {pins : List (Addr × Obj)} {s : Shared} {H : Hp} {σ : St'} {Q : VK} {f : D → D → Sto → R D} (ha : SE X W a ma) (hb : SE X W b mb) (I : Inv X pins σ H s) (h : tE X.K W (mOp f ma mb) σ H Q) :
    wpAny (model X.prog X.w) X.A (eval a X.env) (fun u s₁ => wpAny (model X.prog X.w) X.A (eval b X.env) (fun v s₂ => ∃ x y H2 ι dx dy st, Inv X pins σ H2 s₂ ∧ RelV x u ∧ RelV y v ∧ Rep X.K ι H2 dx x ∧ Rep X.K ι H2 dy y ∧ RepSto X.K ι H2 st ∧
      Out X.K (repD X.K) W ι σ H2 Q (f dx dy st)) X.xe s₁) X.xe s := by
  obtain ⟨ι, env, st, re, rs, o⟩ := h
  refine thn (ha.run pins s σ H _ I ⟨ι, env, st, re, rs, Out.bind (rep := repD X.K) o⟩) fun u s1 ⟨x, H1, I1, ru, ι1, dx, st1, e1, rx, rs1, o1⟩ => ?_
  refine thn (hb.run pins s1 σ H1 _ I1 ⟨ι1, env, st1, re.ext e1, rs1, Out.bind (rep := repD X.K) o1⟩) fun v s2 ⟨y, H2, I2, rv, ι2, dy, st2, e2, ry, rs2, o2⟩ => ?_
  exact ⟨x, y, H2, ι2, dx, dy, st2, I2, ru, rv, Rep.ext e2 rx, ry, rs2, o2⟩
theorem se_op {op : Operator} {f : D → D → Sto → R D} (ho : Op2 X W (binaryOp op) f) (ha : SE X W a ma) (hb : SE X W b mb) : SE X W (.BinOp a op b pos) (mOp f ma mb) := by
  refine ⟨fun pins s σ H Q I h => ?_⟩
  refine wpAny_BinOp (thn (two ha hb I h) fun u s1 q => thn q fun v s2 ⟨x, y, H2, ι, dx, dy, st, I2, ru, rv, rx, ry, rs, o⟩ => ?_)
  exact ho pins s2 σ H2 x y u v dx dy ι st Q I2 ru rv rx ry rs o
theorem se_un {op : UnaryOp} {f : D → Sto → R D} (ho : Op1 X W (unaryOp op) f) (ha : SE X W a ma) : SE X W (.UnaryOp op a pos) (mUn f ma) := by
  refine ⟨fun pins s σ H Q I h => ?_⟩
  obtain ⟨ι, env, st, re, rs, o⟩ := h
  refine UnaryOp_ (thn (ha.run pins s σ H _ I ⟨ι, env, st, re, rs, Out.bind (rep := repD X.K) o⟩) fun u s1 ⟨x, H1, I1, ru, ι1, dx, st1, e1, rx, rs1, o1⟩ => ?_)
  exact ho pins s1 σ H1 x u dx ι1 st1 Q I1 ru rx rs1 o1
/-- a comparison as a value -/
theorem se_cmp {op : CmpOp} {f : D → D → Sto → R D} (ho : Op2 X W (compareOp op) f) (ha : SE X W a ma) (hb : SE X W b mb) (hm : behindInMarks op b = false := by first | exact nobehind _ (by decide) (by decide) | rfl) :
    SE X W (.Compare a [op] [b] pos) (mOp f ma mb) := by
  refine ⟨fun pins s σ H Q I h => ?_⟩
  refine wpAny_Compare1 (thn (two ha hb I h) fun u s1 q => thn q fun v s2 ⟨x, y, H2, ι, dx, dy, st, I2, ru, rv, rx, ry, rs, o⟩ => ?_) hm
  exact ho pins s2 σ H2 x y u v dx dy ι st Q I2 ru rv rx ry rs o
/-! ### tests -/
def isBl (d : D) (st : Sto) : R Bool := match d with
  | .bl b => .ok b st
  | _ => .bad
def mBool (m : ME) : Env' → Sto → R Bool := fun env st => (m env st).bind isBl
/-- a test by a value that is a bool -/
theorem st_val {m : ME} (h : SE X W e m) (he : ∀ whole, isTrue e X.env whole = (do let v ← whole; standAt e.pos; holding [v] (truthy v)) := by intro _; rfl) : ST X W e (mBool m) := by
  refine ⟨fun pins s σ H Q I hw => (pt_val h he).run pins s σ H Q I ?_⟩
  obtain ⟨ι, env, st, re, rs, o⟩ := hw
  refine ⟨ι, env, st, re, rs, Out.imp ?_ (Out.bind (rep := repD X.K) o)⟩
  rintro v H1 ⟨ι1, d, st1, e1, rx, rs1, o1⟩
  unfold isBl at o1
  cases d with
  | bl k =>
    have rx' : Rep X.K ι1 H1 (.bl k) v := rx
    simp only [Rep] at rx'
    exact ⟨k, rx', o1.val (b := k) (show repB ι1 H1 k k from rfl) rs1⟩
  | _ => exact o1.elim
/-- a comparison as a test -/
theorem st_cmp {op : CmpOp} {f : D → D → Sto → R D} (ho : Op2 X W (compareOp op) f) (ha : SE X W a ma) (hb : SE X W b mb) (hm : behindInMarks op b = false := by first | exact nobehind _ (by decide) (by decide) | rfl) :
    ST X W (.Compare a [op] [b] pos) (mBool (mOp f ma mb)) := by
  refine ⟨fun pins s σ H Q I h => ?_⟩
  have h' : tE X.K W (mOp f ma mb) σ H (fun v H' => ∃ k, v = .bl k ∧ Q k H') := by
    obtain ⟨ι, env, st, re, rs, o⟩ := h
    refine ⟨ι, env, st, re, rs, Out.imp ?_ (Out.bind (rep := repD X.K) o)⟩
    rintro v H1 ⟨ι1, d, st1, e1, rx, rs1, o1⟩
    unfold isBl at o1
    cases d with
    | bl k =>
      have rx' : Rep X.K ι1 H1 (.bl k) v := rx
      simp only [Rep] at rx'
      exact ⟨k, rx', o1.val (b := k) (show repB ι1 H1 k k from rfl) rs1⟩
    | _ => exact o1.elim
  refine wpAny_isTrue_Compare1 (thn (two ha hb I h') fun u s1 q => thn q fun v s2 ⟨x, y, H2, ι, dx, dy, st, I2, ru, rv, rx, ry, rs, o⟩ => ?_) hm
  refine thn (ho pins s2 σ H2 x y u v dx dy ι st _ I2 ru rv rx ry rs o) fun w s3 ⟨z, H3, I3, r3, k, e3, q3⟩ => ?_
  subst e3
  cases r3
  exact wpAny_truthy_bool ⟨H3, I3, q3⟩
abbrev MT := Env' → Sto → R Bool
def mAnd (ma mb : MT) : MT := fun env st => (ma env st).bind fun c st1 => if c = true then mb env st1 else .ok false st1
def mOr (ma mb : MT) : MT := fun env st => (ma env st).bind fun c st1 => if c = true then .ok true st1 else mb env st1
def mNot (ma : MT) : MT := fun env st => (ma env st).bind fun c st1 => .ok (!c) st1
variable {ta tb tc : MT} {rest : List Expr}
theorem sw_and1 (ha : ST X W a ta) : SW X W (.BoolOp .And [a] pos) ta := pw_and1 ha
theorem sw_or1 (ha : ST X W a ta) : SW X W (.BoolOp .Or [a] pos) ta := pw_or1 ha
theorem tT_bind {k : Bool → Sto → R Bool} {σ : St'} {H : Hp} {Q : Bool → Hp → Prop} {t : MT} (h : tT X.K W (fun env st => (t env st).bind k) σ H Q) : tT X.K W t σ H (fun c H1 => ∃ ι env st, RepEnv X.K ι H1 env σ ∧ RepSto X.K ι H1 st ∧ Out X.K repB W ι σ H1 Q (k c st)) := by
  obtain ⟨ι, env, st, re, rs, o⟩ := h
  refine ⟨ι, env, st, re, rs, Out.imp ?_ (Out.bind (rep := repB) o)⟩
  rintro c H1 ⟨ι1, c', st1, e1, rx, rs1, o1⟩
  obtain rfl : c' = c := rx
  exact ⟨ι1, env, st1, re.ext e1, rs1, o1⟩
theorem tT_bindE {k : Bool → Env' → Sto → R Bool} {σ : St'} {H : Hp} {Q : Bool → Hp → Prop} {t : MT} (h : tT X.K W (fun env st => (t env st).bind fun c => k c env) σ H Q) : tT X.K W t σ H (fun c H1 => tT X.K W (k c) σ H1 Q) := by
  obtain ⟨ι, env, st, re, rs, o⟩ := h
  refine ⟨ι, env, st, re, rs, Out.imp ?_ (Out.bind (rep := repB) o)⟩
  rintro c H1 ⟨ι1, c', st1, e1, rx, rs1, o1⟩
  obtain rfl : c' = c := rx
  exact ⟨ι1, env, st1, re.ext e1, rs1, o1⟩
theorem tT_const {c : Bool} {σ : St'} {H : Hp} {Q : Bool → Hp → Prop} (h : tT X.K W (fun _ st => .ok c st) σ H Q) : Q c H := by
  obtain ⟨ι, env, st, re, rs, o⟩ := h
  exact o.val (b := c) (show repB ι H c c from rfl) rs
theorem sw_and (ha : ST X W a ta) (hb : SW X W (.BoolOp .And (b :: rest) pos) tb) : SW X W (.BoolOp .And (a :: b :: rest) pos) (mAnd ta tb) := by
  refine ⟨fun wh pins s σ H Q I h => (pw_and ha hb).run wh pins s σ H Q I ?_⟩
  have h1 := tT_bindE (k := fun c env st1 => if c = true then tb env st1 else .ok false st1) h
  obtain ⟨ι, env, st, re, rs, o⟩ := h1
  refine ⟨ι, env, st, re, rs, Out.imp (fun c H1 q => ?_) o⟩
  cases c with
  | true => exact q
  | false => exact tT_const q
theorem sw_or (ha : ST X W a ta) (hb : SW X W (.BoolOp .Or (b :: rest) pos) tb) : SW X W (.BoolOp .Or (a :: b :: rest) pos) (mOr ta tb) := by
  refine ⟨fun wh pins s σ H Q I h => (pw_or ha hb).run wh pins s σ H Q I ?_⟩
  have h1 := tT_bindE (k := fun c env st1 => if c = true then .ok true st1 else tb env st1) h
  obtain ⟨ι, env, st, re, rs, o⟩ := h1
  refine ⟨ι, env, st, re, rs, Out.imp (fun c H1 q => ?_) o⟩
  cases c with
  | true => exact tT_const q
  | false => exact q
theorem st_not (ha : ST X W a ta) : ST X W (.UnaryOp .Not a pos) (mNot ta) := by
  refine ⟨fun pins s σ H Q I h => (pt_not ha).run pins s σ H Q I ?_⟩
  have h1 := tT_bindE (k := fun c _ st1 => .ok (!c) st1) h
  obtain ⟨ι, env, st, re, rs, o⟩ := h1
  exact ⟨ι, env, st, re, rs, Out.imp (fun c H1 q => tT_const q) o⟩
end
end ML

set_option Elab.async false
set_option linter.all false
set_option maxRecDepth 100000
set_option maxHeartbeats 1000000
/-! ML2: arguments, displays, places, parts, arithmetic and comparisons of trees -/
namespace ML
open PySem PySem.Spec PyProof.Rows L2
abbrev MA := Env' → Sto → R (List D)
/-! ### new lists: frozen, or a cell -/
def finL (md : Bool) (ds : List D) (st : Sto) : R D := match md with
  | false => .ok (.lst ds) st
  | true => .ok (.ref st.length) (st ++ [.lst ds])
@[simp] theorem finL_f (ds : List D) (st : Sto) : finL false ds st = .ok (.lst ds) st := rfl
@[simp] theorem finL_t (ds : List D) (st : Sto) : finL true ds st = .ok (.ref st.length) (st ++ [.lst ds]) := rfl
section
variable {K : PySem.W.Frag} {W : WX} {ι : Ix} {σ : St'} {H : Hp} {Q : VK} {st : Sto}
theorem Out.newT {ds : List D} {vs : List V} (h : Out K (repD K) W ι σ H Q (.ok (.tup ds) st)) (r : Reps K ι H ds vs) (s : RepSto K ι H st) : ∀ p, H p = none → Q (.ref p) (upd H p (.tup vs)) := fun p hp =>
  h.new hp s (by
    show Rep _ _ _ _ _
    simp only [Rep]
    exact ⟨p, vs, rfl, .inl ⟨s.fresh hp, upd_same⟩, r.ext (Ext.new hp)⟩)
theorem Out.newL {md : Bool} {ds : List D} {vs : List V} (h : Out K (repD K) W ι σ H Q (finL md ds st)) (r : Reps K ι H ds vs) (s : RepSto K ι H st) : ∀ p, H p = none → Q (.ref p) (upd H p (.lst vs)) := fun p hp => by
  cases md with
  | false =>
    refine Out.new (a := D.lst ds) h hp s ?_
    show Rep _ _ _ _ _
    simp only [Rep]
    exact ⟨p, vs, rfl, ⟨s.fresh hp, upd_same⟩, r.ext (Ext.new hp)⟩
  | true =>
    refine h _ _ _ (Ext.newC hp) ?_ (s.alloc hp ⟨vs, upd_same, r.ext (Ext.newC hp)⟩)
    show Rep _ _ _ _ _
    simp only [Rep]
    exact ⟨p, by rw [← s.len]; show (ι.c ++ [p])[ι.c.length]? = some p; rw [List.getElem?_append_right (Nat.le_refl _)]; simp, rfl⟩
theorem Out.ofInt {i : Int} (h : Out K (repD K) W ι σ H Q (.ok (.int i) st)) (s : RepSto K ι H st) : Q (.int i) H := h.val (by show Rep _ _ _ _ _; simp only [Rep]) s
theorem Out.ofBl {i : Bool} (h : Out K (repD K) W ι σ H Q (.ok (.bl i) st)) (s : RepSto K ι H st) : Q (.bl i) H := h.val (by show Rep _ _ _ _ _; simp only [Rep]) s
theorem Out.ofNon (h : Out K (repD K) W ι σ H Q (.ok .non st)) (s : RepSto K ι H st) : Q .non H := h.val (by show Rep _ _ _ _ _; simp only [Rep]) s
theorem Out.ofStr {x : Str} (h : Out K (repD K) W ι σ H Q (.ok (.str x) st)) (s : RepSto K ι H st) (e : PyData.strOk x = true) : Q (.str x) H := h.val (by show Rep _ _ _ _ _; simp [Rep, e]) s
end
/-! ### what a tree is -/
section
variable {K : PySem.W.Frag} {ι : Ix} {H : Hp} {v : V}
theorem Rep.int_iff {i : Int} : Rep K ι H (.int i) v ↔ v = .int i := by simp only [Rep]
theorem Rep.bl_iff {i : Bool} : Rep K ι H (.bl i) v ↔ v = .bl i := by simp only [Rep]
theorem Rep.non_iff : Rep K ι H .non v ↔ v = .non := by simp only [Rep]
theorem Rep.str_iff {x : Str} : Rep K ι H (.str x) v ↔ v = .str x ∧ PyData.strOk x = true := by simp only [Rep]
theorem Rep.tup_iff {xs : List D} : Rep K ι H (.tup xs) v ↔ ∃ a vs, v = .ref a ∧ TupAt K ι H a vs ∧ Reps K ι H xs vs := by simp only [Rep]
theorem Rep.lst_iff {xs : List D} : Rep K ι H (.lst xs) v ↔ ∃ a vs, v = .ref a ∧ LstAt ι H a vs ∧ Reps K ι H xs vs := by simp only [Rep]
theorem Rep.ref_iff {n : Nat} : Rep K ι H (.ref n) v ↔ ∃ a, ι.c[n]? = some a ∧ v = .ref a := by simp only [Rep]
theorem Rep.scr_iff {ns : List Int} : Rep K ι H (.scr ns) v ↔ ∃ a, v = .ref a ∧ ((ι.no a ∧ ∃ o, H a = some (.frz o (.lst (ns.map V.int)))) ∨ KLst K a (ns.map V.int)) := by simp only [Rep]
theorem Rep.obj_iff {c : Str} {ns : List Str} {xs : List D} : Rep K ι H (.obj c ns xs) v ↔ ∃ a dx fs, v = .ref a ∧ ι.no a ∧ H a = some (.ins (He.ga K c) dx fs) ∧ fs.map (·.1) = ns ∧ Reps K ι H xs (fs.map (·.2)) := by simp only [Rep]
theorem Rep.dic_iff {ks : List DK} {xs : List D} : Rep K ι H (.dic ks xs) v ↔ ∃ a vs o, v = .ref a ∧ ι.no a ∧ H a = some o ∧ DicHO ks vs o ∧ Reps K ι H xs vs := by simp only [Rep]
theorem Reps.ints : ∀ (ns : List Int), Reps K ι H (ns.map D.int) (ns.map V.int)
  | [] => .nil
  | n :: r => .cons (Rep.int_iff.mpr rfl) (Reps.ints r)
end
/-- the items of a sequence -/
def seqD (st : Sto) : D → Option (List D)
  | .tup xs => some xs
  | .lst xs => some xs
  | .scr ns => some (ns.map D.int)
  | .ref n => match st[n]? with
    | some (.lst xs) => some xs
    | _ => none
  | _ => none
/-- .. of a list -/
def lstD (st : Sto) : D → Option (List D)
  | .lst xs => some xs
  | .scr ns => some (ns.map D.int)
  | .ref n => match st[n]? with
    | some (.lst xs) => some xs
    | _ => none
  | _ => none
@[simp] theorem seqD_tup (st : Sto) (xs : List D) : seqD st (.tup xs) = some xs := rfl
@[simp] theorem seqD_lst (st : Sto) (xs : List D) : seqD st (.lst xs) = some xs := rfl
@[simp] theorem lstD_lst (st : Sto) (xs : List D) : lstD st (.lst xs) = some xs := rfl
theorem seqD_ref {st : Sto} {n : Nat} {xs : List D} (h : st[n]? = some (.lst xs)) : seqD st (.ref n) = some xs := by simp [seqD, h]
theorem lstD_ref {st : Sto} {n : Nat} {xs : List D} (h : st[n]? = some (.lst xs)) : lstD st (.ref n) = some xs := by simp [lstD, h]
section
variable {K : PySem.W.Frag} {ι : Ix} {H : Hp} {st : Sto}
theorem lstD_at {d : D} {v : V} {xs : List D} (h : lstD st d = some xs) (r : Rep K ι H d v) (s : RepSto K ι H st) : ∃ a vs, v = .ref a ∧ SqL K H a vs ∧ Reps K ι H xs vs := by
  cases d with
  | lst ys =>
    cases h
    obtain ⟨a, vs, e, h1, h2⟩ := Rep.lst_iff.mp r
    exact ⟨a, vs, e, h1.sq, h2⟩
  | scr ns =>
    cases h
    obtain ⟨a, e, ⟨_, o, h1⟩ | h1⟩ := Rep.scr_iff.mp r
    · exact ⟨a, _, e, .inl (.inr ⟨o, h1⟩), Reps.ints ns⟩
    · exact ⟨a, _, e, .inr h1, Reps.ints ns⟩
  | ref n =>
    obtain ⟨a, ha, e⟩ := Rep.ref_iff.mp r
    unfold lstD at h
    cases q : st[n]? with
    | none => simp [q] at h
    | some c =>
      cases c with
      | lst ys =>
        simp [q] at h
        subst h
        obtain ⟨vs, h1, h2⟩ := s.at_ n _ a q ha
        exact ⟨a, vs, e, SqL.of h1, h2⟩
      | dic _ _ => simp [q] at h
      | ins _ _ _ => simp [q] at h
  | _ => simp [lstD] at h
theorem seqD_at {d : D} {v : V} {xs : List D} (h : seqD st d = some xs) (r : Rep K ι H d v) (s : RepSto K ι H st) : ∃ a vs, v = .ref a ∧ (SqL K H a vs ∨ SqT K H a vs) ∧ Reps K ι H xs vs := by
  cases d with
  | tup ys =>
    cases h
    obtain ⟨a, vs, e, h1, h2⟩ := Rep.tup_iff.mp r
    exact ⟨a, vs, e, .inr h1.sq, h2⟩
  | lst ys => obtain ⟨a, vs, e, h1, h2⟩ := lstD_at (st := st) (d := .lst ys) h r s; exact ⟨a, vs, e, .inl h1, h2⟩
  | scr ys => obtain ⟨a, vs, e, h1, h2⟩ := lstD_at (st := st) (d := .scr ys) h r s; exact ⟨a, vs, e, .inl h1, h2⟩
  | ref n => obtain ⟨a, vs, e, h1, h2⟩ := lstD_at (st := st) (d := .ref n) h r s; exact ⟨a, vs, e, .inl h1, h2⟩
  | _ => simp [seqD] at h
end
section
variable {X : Cx} {W : WX} {e a b c : Expr} {es : List Expr} {ma mb mc : ME} {mr : MA} {pos : Pos}
/-! ### arguments, displays -/
def mNil : MA := fun _ st => .ok [] st
def mCons (ma : ME) (mr : MA) : MA := fun env st => (ma env st).bind fun d st1 => (mr env st1).bind fun ds st2 => .ok (d :: ds) st2
theorem sa_nil : SA X W [] mNil := by
  refine ⟨fun pos pins s σ H Q I h => pa_nil.run pos pins s σ H Q I ?_⟩
  obtain ⟨ι, env, st, re, rs, o⟩ := h
  exact Out.val (b := ([] : List V)) o (show Reps _ _ _ _ _ from .nil) rs
theorem sa_cons (ha : SE X W e ma) (hr : SA X W es mr) (hs : starEach (e :: es) X.env = (false, eval e X.env) :: starEach es X.env := by rfl) : SA X W (e :: es) (mCons ma mr) := by
  refine ⟨fun pos pins s σ H Q I h => (pa_cons ha hr hs).run pos pins s σ H Q I ?_⟩
  obtain ⟨ι, env, st, re, rs, o⟩ := h
  refine ⟨ι, env, st, re, rs, Out.imp ?_ (Out.bind (rep := repD X.K) o)⟩
  rintro v H1 ⟨ι1, d, st1, e1, rx, rs1, o1⟩
  refine ⟨ι1, env, st1, re.ext e1, rs1, Out.imp ?_ (Out.bind (rep := repL X.K) o1)⟩
  rintro vs H2 ⟨ι2, ds, st2, e2, ry, rs2, o2⟩
  exact Out.val (b := v :: vs) o2 (show Reps _ _ _ _ _ from .cons (Rep.ext e2 rx) ry) rs2
/-- behind arguments -/
theorem tA_then {mr : MA} {k : List D → Sto → R D} {σ : St'} {H : Hp} {Q : VK} (h : tE X.K W (fun env st => (mr env st).bind k) σ H Q) :
    tA X.K W mr σ H (fun vs H1 => ∃ ι ds st, Reps X.K ι H1 ds vs ∧ RepSto X.K ι H1 st ∧ Out X.K (repD X.K) W ι σ H1 Q (k ds st)) := by
  obtain ⟨ι, env, st, re, rs, o⟩ := h
  refine ⟨ι, env, st, re, rs, Out.imp ?_ (Out.bind (rep := repL X.K) o)⟩
  rintro vs H1 ⟨ι1, ds, st1, e1, rx, rs1, o1⟩
  exact ⟨ι1, ds, st1, rx, rs1, o1⟩
theorem tE_then {m : ME} {k : D → Sto → R D} {σ : St'} {H : Hp} {Q : VK} (h : tE X.K W (fun env st => (m env st).bind k) σ H Q) :
    tE X.K W m σ H (fun v H1 => ∃ ι d st, Rep X.K ι H1 d v ∧ RepSto X.K ι H1 st ∧ Out X.K (repD X.K) W ι σ H1 Q (k d st)) := by
  obtain ⟨ι, env, st, re, rs, o⟩ := h
  refine ⟨ι, env, st, re, rs, Out.imp ?_ (Out.bind (rep := repD X.K) o)⟩
  rintro vs H1 ⟨ι1, ds, st1, e1, rx, rs1, o1⟩
  exact ⟨ι1, ds, st1, rx, rs1, o1⟩
/-- few enough for a sequence -/
def fits (n : Nat) : Bool := Nat.ble n 16777216
theorem fits_le {n : Nat} (h : fits n = true) : n ≤ sizeLine := by rw [sizeLine_eq]; exact Nat.le_of_ble_eq_true h
theorem fits_of {n : Nat} (h : n ≤ 16777216) : fits n = true := Nat.ble_eq_true_of_le h
def mTup (mr : MA) : ME := fun env st => (mr env st).bind fun ds st1 => if fits ds.length then .ok (.tup ds) st1 else .bad
def mLst (md : Bool) (mr : MA) : ME := fun env st => (mr env st).bind fun ds st1 => if fits ds.length then finL md ds st1 else .bad
theorem se_tup {x1} (h : SA X W es mr) : SE X W (.Tuple es x1 pos) (mTup mr) := by
  refine ⟨fun pins s σ H Q I hw => (pe_tup h).run pins s σ H Q I ?_⟩
  obtain ⟨ι, env, st, re, rs, o⟩ := tA_then hw
  refine ⟨ι, env, st, re, rs, Out.imp ?_ o⟩
  rintro vs H1 ⟨ι1, ds, st1, rx, rs1, o1⟩
  cases q : fits ds.length with
  | false => simp [q] at o1; exact o1.elim
  | true =>
    simp only [q, if_true] at o1
    exact ⟨by rw [← rx.length]; exact fits_le q, Out.newT o1 rx rs1⟩
theorem se_lst (md : Bool) (h : SA X W es mr) : SE X W (.List es pos) (mLst md mr) := by
  refine ⟨fun pins s σ H Q I hw => (pe_lst h).run pins s σ H Q I ?_⟩
  obtain ⟨ι, env, st, re, rs, o⟩ := tA_then hw
  refine ⟨ι, env, st, re, rs, Out.imp ?_ o⟩
  rintro vs H1 ⟨ι1, ds, st1, rx, rs1, o1⟩
  cases q : fits ds.length with
  | false => simp [q] at o1; exact o1.elim
  | true =>
    simp only [q, if_true] at o1
    exact ⟨by rw [← rx.length]; exact fits_le q, Out.newL o1 rx rs1⟩
/-! ### ints -/
def int2 (f : Int → Int → D) (x y : D) (st : Sto) : R D := match x, y with
  | .int i, .int j => .ok (f i j) st
  | _, _ => .bad
theorem int2_ok {K : PySem.W.Frag} {ι : Ix} {σ : St'} {H : Hp} {Q : VK} {f : Int → Int → D} {dx dy : D} {st : Sto} (h : Out K (repD K) W ι σ H Q (int2 f dx dy st)) : ∃ i j, dx = .int i ∧ dy = .int j ∧ Out K (repD K) W ι σ H Q (.ok (f i j) st) := by
  unfold int2 at h
  cases dx <;> cases dy <;> first | exact h.elim | exact ⟨_, _, rfl, rfl, h⟩
def small64 (i : Int) : Bool := decide (-(2 ^ 64) < i) && decide (i < 2 ^ 64)
def mulD (x y : D) (st : Sto) : R D := match x, y with
  | .int i, .int j => if small64 i || small64 j then .ok (.int (i * j)) st else .bad
  | _, _ => .bad
theorem o2_sub : Op2 X W (binaryOp .Sub) (int2 fun i j => .int (i - j)) := Op2.of op_sub fun σ H x y dx dy ι st Q rx ry rs o => by
  obtain ⟨i, j, rfl, rfl, o⟩ := int2_ok o
  exact ⟨i, j, Rep.int_iff.mp rx, Rep.int_iff.mp ry, o.ofInt rs⟩
theorem o2_mul : Op2 X W (binaryOp .Mult) mulD := Op2.of op_mul fun σ H x y dx dy ι st Q rx ry rs o => by
  unfold mulD at o
  cases dx <;> cases dy <;> try exact o.elim
  rename_i i j
  simp only at o
  split at o
  · rename_i hs
    refine ⟨i, j, Rep.int_iff.mp rx, Rep.int_iff.mp ry, ?_, o.ofInt rs⟩
    rcases Bool.or_eq_true_iff.mp hs with h | h
    · obtain ⟨h1, h2⟩ := Bool.and_eq_true_iff.mp h
      exact .inl ⟨of_decide_eq_true h1, of_decide_eq_true h2⟩
    · obtain ⟨h1, h2⟩ := Bool.and_eq_true_iff.mp h
      exact .inr ⟨of_decide_eq_true h1, of_decide_eq_true h2⟩
  · exact o.elim
def fdivD (x y : D) (st : Sto) : R D := match x, y with
  | .int i, .int j => if decide (0 < j) && decide (j < 1073741824) then .ok (.int (i / j)) st else .bad
  | _, _ => .bad
def modD (x y : D) (st : Sto) : R D := match x, y with
  | .int i, .int j => if decide (0 < j) then .ok (.int (i % j)) st else .bad
  | _, _ => .bad
def powD (x y : D) (st : Sto) : R D := match x, y with
  | .int i, .int j => if decide (0 ≤ j) && decide (j ≤ 1000) && decide (i.natAbs < 1000) then .ok (.int (i ^ j.toNat)) st else .bad
  | _, _ => .bad
theorem o2_fdiv : Op2 X W (binaryOp .FloorDiv) fdivD := Op2.of op_fdiv fun σ H x y dx dy ι st Q rx ry rs o => by
  unfold fdivD at o
  cases dx <;> cases dy <;> try exact o.elim
  rename_i i j
  simp only at o
  split at o
  · rename_i hs
    obtain ⟨h1, h2⟩ := Bool.and_eq_true_iff.mp hs
    exact ⟨i, j, Rep.int_iff.mp rx, Rep.int_iff.mp ry, ⟨of_decide_eq_true h1, of_decide_eq_true h2⟩, o.ofInt rs⟩
  · exact o.elim
theorem o2_mod : Op2 X W (binaryOp .Mod) modD := Op2.of op_mod fun σ H x y dx dy ι st Q rx ry rs o => by
  unfold modD at o
  cases dx <;> cases dy <;> try exact o.elim
  rename_i i j
  simp only at o
  split at o
  · rename_i hs
    exact ⟨i, j, Rep.int_iff.mp rx, Rep.int_iff.mp ry, of_decide_eq_true hs, o.ofInt rs⟩
  · exact o.elim
theorem o2_pow : Op2 X W (binaryOp .Pow) powD := Op2.of op_pow fun σ H x y dx dy ι st Q rx ry rs o => by
  unfold powD at o
  cases dx <;> cases dy <;> try exact o.elim
  rename_i i j
  simp only at o
  split at o
  · rename_i hs
    obtain ⟨h1, h3⟩ := Bool.and_eq_true_iff.mp hs
    obtain ⟨h1, h2⟩ := Bool.and_eq_true_iff.mp h1
    have h1 := of_decide_eq_true h1
    have h2 := of_decide_eq_true h2
    have h3 := of_decide_eq_true h3
    exact ⟨i, j, Rep.int_iff.mp rx, Rep.int_iff.mp ry, ⟨h1, by omega, by omega⟩, o.ofInt rs⟩
  · exact o.elim
def negD (x : D) (st : Sto) : R D := match x with
  | .int i => .ok (.int (-i)) st
  | _ => .bad
theorem o1_neg : Op1 X W (unaryOp .USub) negD := Op1.of un_neg fun σ H x dx ι st Q rx rs o => by
  unfold negD at o
  cases dx <;> try exact o.elim
  exact ⟨_, Rep.int_iff.mp rx, o.ofInt rs⟩
/-! ### + -/
theorem strOk_append {x y : Str} (h1 : PyData.strOk x = true) (h2 : PyData.strOk y = true) : PyData.strOk (x ++ y) = true := by
  unfold PyData.strOk at h1 h2 ⊢
  rw [← Array.all_toList] at h1 h2 ⊢
  have e : (x ++ y).cps.toList = x.cps.toList ++ y.cps.toList := TL.tl_append x y
  rw [e, List.all_append, h1, h2]; rfl
/-- a + b; md: a new list is a cell -/
def addD (md : Bool) (x y : D) (st : Sto) : R D := match x, y with
  | .int i, .int j => .ok (.int (i + j)) st
  | .str i, .str j => if fits (i.length + j.length) then .ok (.str (i ++ j)) st else .bad
  | .tup xs, .tup ys => if fits (xs.length + ys.length) then .ok (.tup (xs ++ ys)) st else .bad
  | .scr _, _ => .bad
  | _, .scr _ => .bad
  | x, y => match lstD st x, lstD st y with
    | some xs, some ys => if fits (xs.length + ys.length) then finL md (xs ++ ys) st else .bad
    | _, _ => .bad
/-- a list that is its own -/
theorem lstD_own {K : PySem.W.Frag} {ι : Ix} {H : Hp} {st : Sto} {d : D} {v : V} {xs : List D} (h : lstD st d = some xs) (hn : ∀ ns, d ≠ .scr ns) (r : Rep K ι H d v) (s : RepSto K ι H st) : ∃ a vs, v = .ref a ∧ H a = some (.lst vs) ∧ Reps K ι H xs vs := by
  cases d with
  | lst ys =>
    cases h
    obtain ⟨a, vs, e, h1, h2⟩ := Rep.lst_iff.mp r
    exact ⟨a, vs, e, h1.2, h2⟩
  | scr ns => exact absurd rfl (hn ns)
  | ref n =>
    obtain ⟨a, ha, e⟩ := Rep.ref_iff.mp r
    unfold lstD at h
    cases q : st[n]? with
    | none => simp [q] at h
    | some c =>
      cases c with
      | lst ys =>
        simp [q] at h
        subst h
        obtain ⟨vs, h1, h2⟩ := s.at_ n _ a q ha
        exact ⟨a, vs, e, h1, h2⟩
      | dic _ _ => simp [q] at h
      | ins _ _ _ => simp [q] at h
  | _ => simp [lstD] at h
def rAddA (K : PySem.W.Frag) : R2 := fun x y H Q => (((∃ i j, x = .int i ∧ y = .int j ∧ Q (.int (i + j)) H) ∨ (∃ i j, x = .str i ∧ y = .str j ∧ i.length + j.length ≤ sizeLine ∧ Q (.str (i ++ j)) H)) ∨ rCat x y H Q) ∨ rCatA K x y H Q
theorem op_addA : OpR X (binaryOp .Add) (rAddA X.K) := OpR.or (OpR.or (OpR.or op_add op_add_str) op_cat) op_catA
theorem o2_add (md : Bool) : Op2 X W (binaryOp .Add) (addD md) := Op2.of op_addA fun σ H x y dx dy ι st Q rx ry rs o => by
  have cat : ∀ {xs ys : List D}, lstD st dx = some xs → lstD st dy = some ys → (∀ ns, dx ≠ .scr ns) → (∀ ns, dy ≠ .scr ns) → Out X.K (repD X.K) W ι σ H Q (if fits (xs.length + ys.length) then finL md (xs ++ ys) st else .bad) → rAddA X.K x y H Q := by
    intro xs ys h1 h2 n1 n2 o
    obtain ⟨a, vs, rfl, ha, r1⟩ := lstD_own h1 n1 rx rs
    obtain ⟨b, us, rfl, hb, r2⟩ := lstD_own h2 n2 ry rs
    split at o
    · rename_i hf
      exact .inl (.inr ⟨a, b, vs, us, rfl, rfl, ha, hb, by rw [← r1.length, ← r2.length]; exact fits_le hf, Out.newL o (r1.append r2) rs⟩)
    · exact o.elim
  unfold addD at o
  split at o
  · exact .inl (.inl (.inl ⟨_, _, Rep.int_iff.mp rx, Rep.int_iff.mp ry, o.ofInt rs⟩))
  · split at o
    · rename_i hf
      obtain ⟨e1, k1⟩ := Rep.str_iff.mp rx
      obtain ⟨e2, k2⟩ := Rep.str_iff.mp ry
      exact .inl (.inl (.inr ⟨_, _, e1, e2, fits_le hf, o.ofStr rs (strOk_append k1 k2)⟩))
    · exact o.elim
  · split at o
    · rename_i xs ys hf
      obtain ⟨a, vs, rfl, h1, r1⟩ := Rep.tup_iff.mp rx
      obtain ⟨b, us, rfl, h2, r2⟩ := Rep.tup_iff.mp ry
      refine .inr ⟨a, b, vs, us, rfl, rfl, h1.sq, h2.sq, by rw [← r1.length, ← r2.length]; exact fits_le hf, fun e => ?_, fun _ e => ?_, fun _ _ => ?_⟩
      · subst e
        cases xs with
        | nil => exact o.val (b := V.ref b) (Rep.tup_iff.mpr ⟨b, us, rfl, h2, r2⟩) rs
        | cons z zs => have := r1.length; simp at this
      · subst e
        cases ys with
        | nil => simp at o; exact o.val (b := V.ref a) (Rep.tup_iff.mpr ⟨a, vs, rfl, h1, r1⟩) rs
        | cons z zs => have := r2.length; simp at this
      · exact Out.newT o (r1.append r2) rs
    · exact o.elim
  · exact o.elim
  · exact o.elim
  · split at o
    · rename_i xs ys h1 h2
      exact cat h1 h2 (by intro ns e; simp_all) (by intro ns e; simp_all) o
    · exact o.elim
/-! ### the order of ints, texts -/
def cmpD (p : Int → Int → Bool) (q : List Nat → List Nat → Bool) (x y : D) (st : Sto) : R D := match x, y with
  | .int i, .int j => .ok (.bl (p i j)) st
  | .str i, .str j => .ok (.bl (q i.cps.toList j.cps.toList)) st
  | _, _ => .bad
theorem o2_cmp {op : CmpOp} {p : Int → Int → Bool} {q : List Nat → List Nat → Bool} (h1 : OpR X (compareOp op) (rI0 fun i j => .bl (p i j)))
    (h2 : OpR X (compareOp op) (fun x y H Q => ∃ i j, x = .str i ∧ y = .str j ∧ Q (.bl (q i.cps.toList j.cps.toList)) H)) : Op2 X W (compareOp op) (cmpD p q) := Op2.of (OpR.or h1 h2) fun σ H x y dx dy ι st Q rx ry rs o => by
  unfold cmpD at o
  split at o
  · exact .inl ⟨_, _, Rep.int_iff.mp rx, Rep.int_iff.mp ry, o.ofBl rs⟩
  · exact .inr ⟨_, _, (Rep.str_iff.mp rx).1, (Rep.str_iff.mp ry).1, o.ofBl rs⟩
  · exact o.elim
abbrev ltD := cmpD (fun i j => decide (i < j)) (fun i j => decide (i < j))
theorem o2_lt : Op2 X W (compareOp .Lt) ltD := o2_cmp op_lt op_lt_str
end
end ML

set_option Elab.async false
set_option linter.all false
set_option maxRecDepth 100000
set_option maxHeartbeats 1000000
/-! ML3: statements, loops, defs -/
namespace ML
open PySem PySem.Spec PyProof.Rows L2
/-- what a statement comes to -/
inductive RS where
  | nx (env : Env') (st : Sto) | rt (d : D) (st : Sto) | ex (c : Str) (ns : List Str) (vs : List D) (env : Env') (st : Sto) | bad
abbrev MS := Env' → Sto → RS
/-- behind an expression -/
def R.toS {α : Type} (r : R α) (env : Env') (k : α → Sto → RS) : RS := match r with
  | .ok a st => k a st
  | .ex c ns vs st => .ex c ns vs env st
  | .bad => .bad
@[simp] theorem R.toS_ok {α : Type} (a : α) (st : Sto) (env : Env') (k : α → Sto → RS) : (R.ok a st).toS env k = k a st := rfl
@[simp] theorem R.toS_ex {α : Type} (c : Str) (ns : List Str) (vs : List D) (st : Sto) (env : Env') (k : α → Sto → RS) : (R.ex c ns vs st : R α).toS env k = .ex c ns vs env st := rfl
@[simp] theorem R.toS_bad {α : Type} (env : Env') (k : α → Sto → RS) : (R.bad : R α).toS env k = .bad := rfl
def RS.bind (r : RS) (k : Env' → Sto → RS) : RS := match r with
  | .nx env st => k env st
  | .rt d st => .rt d st
  | .ex c ns vs env st => .ex c ns vs env st
  | .bad => .bad
@[simp] theorem RS.bind_nx (env : Env') (st : Sto) (k : Env' → Sto → RS) : (RS.nx env st).bind k = k env st := rfl
@[simp] theorem RS.bind_rt (d : D) (st : Sto) (k : Env' → Sto → RS) : (RS.rt d st).bind k = .rt d st := rfl
@[simp] theorem RS.bind_ex (c : Str) (ns : List Str) (vs : List D) (env : Env') (st : Sto) (k : Env' → Sto → RS) : (RS.ex c ns vs env st).bind k = .ex c ns vs env st := rfl
@[simp] theorem RS.bind_bad (k : Env' → Sto → RS) : (RS.bad).bind k = .bad := rfl
section
variable (K : PySem.W.Frag)
def OutS (W : WX) (ι : Ix) (H : Hp) (E : Ends) : RS → Prop
  | .nx env st => ∀ σ' ι' H', Ext ι H ι' H' → RepEnv K ι' H' env σ' → RepSto K ι' H' st → E.nx σ' H'
  | .rt d st => ∀ v ι' H', Ext ι H ι' H' → Rep K ι' H' d v → RepSto K ι' H' st → E.rt v H'
  | .ex c ns vs env st => ∀ cls dd σ' ι' H', Ext ι H ι' H' → RepEnv K ι' H' env σ' → ExAt K ι' H' c ns vs cls dd → RepSto K ι' H' st → W cls dd σ' H'
  | .bad => False
def tS (W : WX) (m : MS) : TS := fun E σ H => ∃ ι env st, RepEnv K ι H env σ ∧ RepSto K ι H st ∧ OutS K W ι H E (m env st)
end
section
variable {K : PySem.W.Frag} {W : WX} {ι ι' : Ix} {H H' : Hp} {E : Ends}
theorem OutS.shift (e : Ext ι H ι' H') : ∀ {r : RS}, OutS K W ι H E r → OutS K W ι' H' E r
  | .nx env st, h => fun σ' ι'' H'' e2 => h σ' ι'' H'' (e.trans e2)
  | .rt d st, h => fun v ι'' H'' e2 => h v ι'' H'' (e.trans e2)
  | .ex c ns vs env st, h => fun cls dd σ' ι'' H'' e2 => h cls dd σ' ι'' H'' (e.trans e2)
  | .bad, h => h
theorem OutS.bind {k : Env' → Sto → RS} : ∀ {r : RS}, OutS K W ι H E (r.bind k) → OutS K W ι H { E with nx := fun σ' H' => ∃ ι' env st, Ext ι H ι' H' ∧ RepEnv K ι' H' env σ' ∧ RepSto K ι' H' st ∧ OutS K W ι' H' E (k env st) } r
  | .nx env st, h => fun σ' ι' H' e1 e2 e3 => ⟨ι', env, st, e1, e2, e3, OutS.shift e1 h⟩
  | .rt d st, h => h
  | .ex c ns vs env st, h => h
  | .bad, h => h
/-- an expression ahead of a statement's end -/
theorem Out.toS {α β : Type} {rep : RepT α β} {σ : St'} {env : Env'} {k : α → Sto → RS} (re : RepEnv K ι H env σ) : ∀ {r : R α}, OutS K W ι H E (r.toS env k) → Out K rep W ι σ H (fun b H' => ∃ ι' a st, Ext ι H ι' H' ∧ rep ι' H' a b ∧ RepSto K ι' H' st ∧ OutS K W ι' H' E (k a st)) r
  | .ok a st, h => fun b ι' H' e1 e2 e3 => ⟨ι', a, st, e1, e2, e3, OutS.shift e1 h⟩
  | .ex c ns vs st, h => fun cls dd ι' H' e1 e2 e3 => h cls dd σ ι' H' e1 (re.ext e1) e2 e3
  | .bad, h => h
theorem OutS.go {env : Env'} {st : Sto} {σ : St'} (h : OutS K W ι H E (.nx env st)) (re : RepEnv K ι H env σ) (rs : RepSto K ι H st) : E.nx σ H := h σ ι H (Ext.refl _ _) re rs
theorem OutS.ret {d : D} {v : V} {st : Sto} (h : OutS K W ι H E (.rt d st)) (r : Rep K ι H d v) (rs : RepSto K ι H st) : E.rt v H := h v ι H (Ext.refl _ _) r rs
theorem RepEnv.set {env : Env'} {σ : St'} {i : Nat} {d : D} {v : V} (re : RepEnv K ι H env σ) (r : Rep K ι H d v) : RepEnv K ι H (env.set i (some d)) (σ.set i (some v)) := by
  refine ⟨by simp [re.len], fun j e h => ?_⟩
  by_cases hj : j = i
  · subst hj
    have hl : j < env.length := by
      have := (List.getElem?_eq_some_iff.mp h).1
      simpa using this
    rw [List.getElem?_set_self hl] at h
    cases h
    exact ⟨v, List.getElem?_set_self (by rw [← re.len]; exact hl), r⟩
  · rw [List.getElem?_set_ne (Ne.symm hj)] at h
    rw [List.getElem?_set_ne (Ne.symm hj)]
    exact re.at_ j e h
end
abbrev SS (X : Cx) (W : WX) (s : Stmt) (m : MS) : Prop := PS X s (tS X.K W m)
abbrev SSs (X : Cx) (W : WX) (s : List Stmt) (m : MS) : Prop := PSs X s (tS X.K W m)
section
variable {X : Cx} {W : WX} {e a b c : Expr} {es : List Expr} {me ma mb mc : ME} {mt : MT} {s : Stmt} {ss ss' : List Stmt} {m m' : MS} {pos : Pos}
def mNext : MS := fun env st => .nx env st
def mSeq (m m' : MS) : MS := fun env st => (m env st).bind m'
theorem sss_nil : SSs X W [] mNext := by
  refine ⟨fun pins s σ H D I h => pss_nil.run pins s σ H D I ?_⟩
  obtain ⟨ι, env, st, re, rs, o⟩ := h
  exact OutS.go o re rs
theorem sss_one (h : SS X W s m) : SSs X W [s] m := pss_one h
theorem sss_cons (h : SS X W s m) (h' : SSs X W ss m') : SSs X W (s :: ss) (mSeq m m') := by
  refine ⟨fun pins s σ H D I hw => (pss_cons h h').run pins s σ H D I ?_⟩
  obtain ⟨ι, env, st, re, rs, o⟩ := hw
  refine ⟨ι, env, st, re, rs, ?_⟩
  have q := OutS.bind o
  revert q
  generalize m env st = r
  intro q
  cases r with
  | nx env1 st1 =>
    intro σ' ι' H' e1 e2 e3
    obtain ⟨ι2, env2, st2, e4, e5, e6, e7⟩ := q σ' ι' H' e1 e2 e3
    exact ⟨ι2, env2, st2, e5, e6, e7⟩
  | rt d st1 => exact q
  | ex c ns vs env1 st1 => exact q
  | bad => exact q
theorem ss_pass : SS X W (.Pass pos) mNext := by
  refine ⟨fun pins s σ H D I h => ps_pass.run pins s σ H D I ?_⟩
  obtain ⟨ι, env, st, re, rs, o⟩ := h
  exact OutS.go o re rs
/-- name = e -/
def mSet (i : Nat) (me : ME) : MS := fun env st => (me env st).toS env fun d st1 => .nx (env.set i (some d)) st1
theorem ss_set (i : Nat) {x : Str} {pos' : Pos} (hN : X.N.Nodup) (he : SE X W e me) (hi : X.N[i]? = some x := by rfl) (hx : Loc X.env.scope x := by first | exact Or.inl rfl | exact Or.inr rfl)
    (hs : swapsWith e (some (.Name x pos')) pos.line X.env = pure false := by rfl) (hf : X.fn x = true ∨ X.env.scope.names.lookup x = some .local := by first | exact .inl rfl | exact .inr rfl) : SS X W (.Assign [.Name x pos'] e pos) (mSet i me) := by
  refine ⟨fun pins s σ H D I h => (ps_set (i := i) hN hi hx he hs hf).run pins s σ H D I ?_⟩
  obtain ⟨ι, env, st, re, rs, o⟩ := h
  refine ⟨ι, env, st, re, rs, Out.imp ?_ (Out.toS (rep := repD X.K) re o)⟩
  rintro v H1 ⟨ι1, d, st1, e1, rx, rs1, o1⟩
  exact OutS.go o1 ((re.ext e1).set rx) rs1
def mDrop (me : ME) : MS := fun env st => (me env st).toS env fun _ st1 => .nx env st1
theorem ss_expr (he : SE X W e me) (hs : swapsWith e none pos.line X.env = pure false := by rfl) : SS X W (.Expr e pos) (mDrop me) := by
  refine ⟨fun pins s σ H D I h => (ps_expr he hs).run pins s σ H D I ?_⟩
  obtain ⟨ι, env, st, re, rs, o⟩ := h
  refine ⟨ι, env, st, re, rs, Out.imp ?_ (Out.toS (rep := repD X.K) re o)⟩
  rintro v H1 ⟨ι1, d, st1, e1, rx, rs1, o1⟩
  exact OutS.go o1 (re.ext e1) rs1
def mRet (me : ME) : MS := fun env st => (me env st).toS env fun d st1 => .rt d st1
theorem ss_ret (he : SE X W e me) : SS X W (.Return (some e) pos) (mRet me) := by
  refine ⟨fun pins s σ H D I h => (ps_ret he).run pins s σ H D I ?_⟩
  obtain ⟨ι, env, st, re, rs, o⟩ := h
  refine ⟨ι, env, st, re, rs, Out.imp ?_ (Out.toS (rep := repD X.K) re o)⟩
  rintro v H1 ⟨ι1, d, st1, e1, rx, rs1, o1⟩
  exact OutS.ret o1 rx rs1
def mIf (mt : MT) (m m' : MS) : MS := fun env st => (mt env st).toS env fun c st1 => if c = true then m env st1 else m' env st1
theorem ss_if {c : Expr} (hc : ST X W c mt) (h : SSs X W ss m) (h' : SSs X W ss' m') : SS X W (.If c ss ss' pos) (mIf mt m m') := by
  refine ⟨fun pins s σ H D I hw => (ps_if hc h h').run pins s σ H D I ?_⟩
  obtain ⟨ι, env, st, re, rs, o⟩ := hw
  refine ⟨ι, env, st, re, rs, Out.imp ?_ (Out.toS (rep := repB) re o)⟩
  rintro c H1 ⟨ι1, c', st1, e1, rx, rs1, o1⟩
  obtain rfl : c' = c := rx
  cases c' with
  | true => exact ⟨ι1, env, st1, re.ext e1, rs1, o1⟩
  | false => exact ⟨ι1, env, st1, re.ext e1, rs1, o1⟩
/-! ### while -/
/-- so many turns at most -/
def mWhileN (mt : MT) (m : MS) : Nat → MS
  | 0 => fun _ _ => .bad
  | n + 1 => fun env st => (mt env st).toS env fun c st1 => if c = true then (m env st1).bind (mWhileN mt m n) else .nx env st1
theorem ss_while (n : Nat) {c : Expr} (hp : PassesOwn (model X.prog X.w) X.A X.env X.xe) (hc : ST X W c mt) (h : SSs X W ss m) : SS X W (.While c ss [] pos) (mWhileN mt m n) := by
  refine ⟨fun pins s σ H D I hw => (ps_while hp hc h).run pins s σ H D I ?_⟩
  refine ⟨fun n σ H => ∃ ι env st, RepEnv X.K ι H env σ ∧ RepSto X.K ι H st ∧ OutS X.K W ι H D (mWhileN mt m n env st), ⟨n, hw⟩, ?_⟩
  rintro n σ H ⟨ι, env, st, re, rs, o⟩
  cases n with
  | zero => exact o.elim
  | succ n =>
    refine ⟨ι, env, st, re, rs, Out.imp ?_ (Out.toS (rep := repB) re o)⟩
    rintro c H1 ⟨ι1, c', st1, e1, rx, rs1, o1⟩
    obtain rfl : c' = c := rx
    cases c' with
    | true =>
      refine ⟨fun σ' H' => ∃ ι env st, RepEnv X.K ι H' env σ' ∧ RepSto X.K ι H' st ∧ OutS X.K W ι H' D (mWhileN mt m n env st), fun σ' H' h => ⟨n, Nat.lt_succ_self n, h⟩, ι1, env, st1, re.ext e1, rs1, ?_⟩
      have q := OutS.bind (show OutS X.K W ι1 H1 D ((m env st1).bind (mWhileN mt m n)) from o1)
      revert q
      generalize m env st1 = r
      intro q
      cases r with
      | nx env1 st2 =>
        intro σ' ι' H' e4 e5 e6
        obtain ⟨ι2, env2, st3, e7, e8, e9, e10⟩ := q σ' ι' H' e4 e5 e6
        exact ⟨ι2, env2, st3, e8, e9, e10⟩
      | rt d st1 => exact q
      | ex c ns vs env1 st1 => exact q
      | bad => exact q
    | false => exact OutS.go (show OutS X.K W ι1 H1 D (.nx env st1) from o1) (re.ext e1) rs1
end
/-! ### defs -/
/-- what a def does with its arguments -/
abbrev FN := List D → Sto → R D
/-- a body with p parameters and n names -/
def runB (p n : Nat) (m : MS) : FN := fun ds st => if ds.length = p then (match m (ds.map some ++ List.replicate (n - ds.length) none) st with
  | .nx _ st' => .ok .non st'
  | .rt d st' => .ok d st'
  | .ex c ns vs _ st' => .ex c ns vs st'
  | .bad => .bad) else .bad
section
variable (K : PySem.W.Frag)
def OutF (ι : Ix) (H : Hp) (Q : VK) (E : XK) : R D → Prop
  | .ok d st => ∀ v ι' H', Ext ι H ι' H' → Rep K ι' H' d v → RepSto K ι' H' st → Q v H'
  | .ex c ns vs st => ∀ cls dd ι' H', Ext ι H ι' H' → ExAt K ι' H' c ns vs cls dd → RepSto K ι' H' st → E cls dd H'
  | .bad => False
/-- the promise of a def that does F -/
def spF (F : FN) : Sp := fun vs H Q E => ∃ ι ds st, Reps K ι H ds vs ∧ RepSto K ι H st ∧ OutF K ι H Q E (F ds st)
end
theorem repEnv_start {K : PySem.W.Frag} {ι : Ix} {H : Hp} {N : List Str} {ds : List D} {vs : List V} (r : Reps K ι H ds vs) : RepEnv K ι H (ds.map some ++ List.replicate (N.length - ds.length) none) (L2.start N vs) := by
  refine ⟨by simp [L2.start, r.length], fun i d h => ?_⟩
  by_cases hi : i < ds.length
  · rw [List.getElem?_append_left (by simpa using hi)] at h
    rw [List.getElem?_map] at h
    cases q : ds[i]? with
    | none => simp [q] at h
    | some d' =>
      simp [q] at h
      subst h
      obtain ⟨v, h1, h2⟩ := r.get q
      refine ⟨v, ?_, h2⟩
      unfold L2.start
      rw [List.getElem?_append_left (by simp; rw [← r.length]; exact hi), List.getElem?_map, h1]
      rfl
  · rw [List.getElem?_append_right (by simpa using hi)] at h
    have := List.mem_of_getElem? h
    simp at this
/-- where an exception goes to from a def's body -/
abbrev WF (E : XK) : WX := fun cls d _ H => E cls d H
/-- nothing is let out -/
abbrev W0 : WX := fun _ _ _ _ => False
/-- a def's body's context -/
abbrev XF (P : Program) (w : World) (K : PySem.W.Frag) (mg : Str → Option Value) (base : Heap) (N : List Str) (qual : Str) (scope : Scope) (f : Addr) (cdv : Value) (A : Around) (outer : List Env) (s : Shared) (H : Hp) (E : XK) : Cx := cxOf (L2.CX P w) P w K mg base N qual scope f cdv A outer s H E
theorem takesF {P : Program} {w : World} {K : PySem.W.Frag} {mg : Str → Option Value} {base : Heap} {N : List Str} {qual : Str} {scope : Scope} {f : Addr} {cdv : Value} {A : Around} {outer : List Env} {s : Shared} {H : Hp} {E : XK} :
    Takes (XF P w K mg base N qual scope f cdv A outer s H E) (WF E) := takes_of rfl rfl rfl rfl
theorem passesF {P : Program} {w : World} {K : PySem.W.Frag} {mg : Str → Option Value} {base : Heap} {N : List Str} {qual : Str} {scope : Scope} {f : Addr} {cdv : Value} {A : Around} {outer : List Env} {s : Shared} {H : Hp} {E : XK} :
    PassesOwn (model (XF P w K mg base N qual scope f cdv A outer s H E).prog (XF P w K mg base N qual scope f cdv A outer s H E).w) (XF P w K mg base N qual scope f cdv A outer s H E).A (XF P w K mg base N qual scope f cdv A outer s H E).env (XF P w K mg base N qual scope f cdv A outer s H E).xe := passes_of rfl
/-- THE RULE for a def: its body does m -/
theorem fn_ok {P : Program} {w : World} {K : PySem.W.Frag} {mg : Str → Option Value} {base : Heap} {k : Nat} {f : Addr} {name qual : Str} {params : Arguments} {body : List Stmt} {scope : Scope} {dvs : List V} {kws : List (Str × V)} {fd : FuncData} {N ps : List Str} {m : MS}
    (F : FunD K name qual params body scope dvs kws f fd) (S : FnScope N ps scope)
    (hb : ∀ (cdv : Value) (A : Around) (outer : List Env) (s : Shared) (H : Hp) (E : XK), Room k (XF P w K mg base N qual scope f cdv A outer s H E).A → SSs (XF P w K mg base N qual scope f cdv A outer s H E) (WF E) body m) :
    FnOk P w K mg base (L2.CX P w) (k + 1) f fd ps (spF K (runB ps.length N.length m)) := by
  refine F.ok S (fun vs H Q E h => ?_) (fun cdv A outer s H vs Q E hr h => ⟨_, hb cdv A outer s H E hr, ?_⟩)
  · obtain ⟨ι, ds, st, r, rs, o⟩ := h
    unfold runB at o
    split at o
    · rename_i hl
      rw [← r.length]; exact hl
    · exact o.elim
  obtain ⟨ι, ds, st, r, rs, o⟩ := h
  refine ⟨ι, _, st, repEnv_start r, rs, ?_⟩
  unfold runB at o
  rcases Nat.decEq ds.length ps.length with hl | hl
  · rw [if_neg hl] at o; exact o.elim
  rw [if_pos hl] at o
  revert o
  generalize m (ds.map some ++ List.replicate (N.length - ds.length) none) st = z
  intro o
  cases z with
  | nx env st' => exact fun σ' ι' H' e1 _ e3 => o V.non ι' H' e1 (Rep.non_iff.mpr rfl) e3
  | rt d st' => exact o
  | ex c ns vs env st' => exact fun cls dd σ' ι' H' e1 _ e3 e4 => o cls dd ι' H' e1 e3 e4
  | bad => exact o.elim
section
variable {X : Cx} {W : WX} {x : Str} {k : Nat} {f : Addr} {fd : FuncData} {ps : List Str} {F : FN} {p pos : Pos} {e : Expr} {es : List Expr} {mr : MA} {ds : List D} {dvs : List V} {dus : List Value}
/-- f(e, ..), the defaults' values behind -/
def mCall (F : FN) (dd : List D) (mr : MA) : ME := fun env st => (mr env st).bind fun ds st1 => F (ds ++ dd) st1
theorem se_call (F1 : FnOk X.prog X.w X.K X.mg X.base (L2.CX X.prog X.w) k f fd ps (spF X.K F)) (hr : Room k X.A) (hm : X.mg x = some (.ref f)) (hk : PySem.W.keepIn X.K (.ref f) = true) (hb : Binds X.K fd ps dus) (hd : Vals dvs dus)
    (hdr : ∀ ι H, Reps X.K ι H ds dvs) (tk : Takes X W) (ha : SA X W (e :: es) mr) (hg : Gl X x := by rfl) (hdb : (x == ("__debug__" : Str)) = false := by decide)
    (he : starEach (e :: es) X.env = (false, eval e X.env) :: starEach es X.env := by rfl) (hpl : (backTo pos (starEach es X.env)).any (·.1) = false := by rfl) :
    SE X W (.Call (.Name x p) (e :: es) [] pos) (mCall F ds mr) := by
  refine ⟨fun pins s σ H Q I h => (pe_callSD (E := WE W) F1 hr hg hm hk hb hd (passAt tk) ha hdb he hpl).run pins s σ H Q I ?_⟩
  obtain ⟨ι, env, st, re, rs, o⟩ := tA_then h
  refine ⟨ι, env, st, re, rs, Out.imp ?_ o⟩
  rintro vs H1 ⟨ι1, ds1, st1, rx, rs1, o1⟩
  refine ⟨ι1, ds1 ++ ds, st1, rx.append (hdr ι1 H1), rs1, ?_⟩
  revert o1
  generalize F (ds1 ++ ds) st1 = z
  intro o1
  cases z with
  | ok d st' => exact o1
  | ex c ns vs st' => exact o1
  | bad => exact o1
end
end ML

set_option Elab.async false
set_option linter.all false
set_option maxRecDepth 100000
set_option maxHeartbeats 1000000
/-! ML4: targets, what is walked, for, comprehensions -/
namespace ML
open PySem PySem.Spec PyProof.Rows L2
/-- a target: a name's slot, a tuple of targets -/
inductive Pat where
  | nm (i : Nat) | tp (ps : List Pat)
mutual
def gOf (K : PySem.W.Frag) : Pat → TG
  | .nm i => gName i
  | .tp ps => gTup K ps.length (gsOf K ps)
def gsOf (K : PySem.W.Frag) : List Pat → TGs
  | [] => gNil
  | p :: r => gCons (gOf K p) (gsOf K r)
end
mutual
def bindP : Pat → D → Env' → Option Env'
  | .nm i, d, env => some (env.set i (some d))
  | .tp ps, d, env => match d with
    | .tup ds => bindPs ps ds env
    | _ => none
def bindPs : List Pat → List D → Env' → Option Env'
  | [], [], env => some env
  | p :: r, d :: ds, env => match bindP p d env with
    | some env1 => bindPs r ds env1
    | none => none
  | [], _ :: _, _ => none
  | _ :: _, [], _ => none
end
mutual
def slots : Pat → List Nat
  | .nm i => [i]
  | .tp ps => slotss ps
def slotss : List Pat → List Nat
  | [] => []
  | p :: r => slots p ++ slotss r
end
theorem bindPs_len : ∀ {ps : List Pat} {ds : List D} {env env' : Env'}, bindPs ps ds env = some env' → ps.length = ds.length
  | [], [], _, _, _ => rfl
  | p :: r, d :: ds, env, env', h => by
    simp only [bindPs] at h
    split at h
    · rw [List.length_cons, List.length_cons, bindPs_len h]
    · cases h
  | [], _ :: _, _, _, h => by simp [bindPs] at h
  | _ :: _, [], _, _, h => by simp [bindPs] at h
theorem wipe_set {σ : St'} {i : Nat} {v : Option V} : ∀ {vs : List Nat}, i ∈ vs → wipe (σ.set i v) vs = wipe σ vs
  | j :: vs, h => by
    show (wipe (σ.set i v) vs).set j none = (wipe σ vs).set j none
    by_cases e : i ∈ vs
    · rw [wipe_set e]
    · have e2 : i = j := by
        rcases List.mem_cons.mp h with q | q
        · exact q
        · exact absurd q e
      subst e2
      have gen : ∀ (us : List Nat), i ∉ us → wipe (σ.set i v) us = (wipe σ us).set i v := by
        intro us
        induction us with
        | nil => intro _; rfl
        | cons k us ih =>
          intro hk
          show (wipe (σ.set i v) us).set k none = ((wipe σ us).set k none).set i v
          rw [ih (fun q => hk (List.mem_cons_of_mem _ q)), List.set_comm _ _ (fun q => hk (by rw [q]; exact List.mem_cons_self))]
      rw [gen vs e, List.set_set]
section
variable {K : PySem.W.Frag} {ι : Ix} {H : Hp} {vs : List Nat}
mutual
theorem gOf_ok : ∀ (p : Pat) {d : D} {v : V} {env env' : Env'} {σ : St'} {Q : St' → Hp → Prop}, RepEnv K ι H env σ → Rep K ι H d v → bindP p d env = some env' →
    (∀ σ', RepEnv K ι H env' σ' → ((∀ i ∈ slots p, i ∈ vs) → wipe σ' vs = wipe σ vs) → Q σ' H) → gOf K p v σ H Q
  | .nm i, d, v, env, env', σ, Q, re, r, h, q => by
    simp only [bindP] at h
    cases h
    simp only [gOf]
    exact q _ (re.set r) fun hs => wipe_set (hs i (by simp [slots]))
  | .tp ps, d, v, env, env', σ, Q, re, r, h, q => by
    cases d with
    | tup ds =>
      simp only [bindP] at h
      simp only [gOf]
      obtain ⟨a, us, e1, e2, e3⟩ := Rep.tup_iff.mp r
      refine ⟨a, us, e1, e2.sq, ?_, gsOf_ok ps re e3 h fun σ' r' w => q σ' r' fun hs => w fun i hi => hs i (by simpa [slots] using hi)⟩
      rw [← e3.length, bindPs_len h]
    | _ => simp [bindP] at h
theorem gsOf_ok : ∀ (ps : List Pat) {ds : List D} {us : List V} {env env' : Env'} {σ : St'} {Q : St' → Hp → Prop}, RepEnv K ι H env σ → Reps K ι H ds us → bindPs ps ds env = some env' →
    (∀ σ', RepEnv K ι H env' σ' → ((∀ i ∈ slotss ps, i ∈ vs) → wipe σ' vs = wipe σ vs) → Q σ' H) → gsOf K ps us σ H Q
  | [], [], us, env, env', σ, Q, re, r, h, q => by
    simp only [bindPs] at h
    cases h
    simp only [gsOf]
    exact ⟨Reps.nil_iff.mp r, q σ re fun _ => rfl⟩
  | p :: ps, d :: ds, us, env, env', σ, Q, re, r, h, q => by
    simp only [bindPs] at h
    simp only [gsOf]
    obtain ⟨v, us', e1, r1, r2⟩ := Reps.cons_iff.mp r
    cases hb : bindP p d env with
    | none => simp [hb] at h
    | some env1 =>
      simp only [hb] at h
      refine ⟨v, us', e1, gOf_ok p re r1 hb fun σ1 re1 w1 => gsOf_ok ps re1 r2 h fun σ2 re2 w2 => q σ2 re2 fun hs => ?_⟩
      rw [w2 fun i hi => hs i (by simp [slotss, hi]), w1 fun i hi => hs i (by simp [slotss, hi])]
  | [], _ :: _, _, _, _, _, _, _, _, h, _ => by simp [bindPs] at h
  | _ :: _, [], _, _, _, _, _, _, _, h, _ => by simp [bindPs] at h
end
end
abbrev SG (X : Cx) (tg : Expr) (p : Pat) : Prop := PG X tg (gOf X.K p)
abbrev SGs (X : Cx) (tgs : List Expr) (ps : List Pat) : Prop := PGs X tgs (gsOf X.K ps)
section
variable {X : Cx} {W : WX} {e a b c tg iter elt : Expr} {es : List Expr} {me ma mb mc : ME} {mt : MT} {s : Stmt} {ss ss' : List Stmt} {m m' : MS} {pos : Pos} {p : Pat} {ps : List Pat}
theorem sg_nm (i : Nat) {x : Str} (hN : X.N.Nodup) (hi : X.N[i]? = some x := by rfl) (hx : Loc X.env.scope x := by first | exact Or.inl rfl | exact Or.inr rfl) (hf : X.fn x = true ∨ X.env.scope.names.lookup x = some .local := by first | exact .inl rfl | exact .inr rfl) :
    SG X (.Name x pos) (.nm i) := by
  show PG X _ (gOf X.K (.nm i))
  simp only [gOf]
  exact pg_name hN hi hx hf
theorem sgs_nil : SGs X [] [] := by
  show PGs X _ (gsOf X.K [])
  simp only [gsOf]
  exact pgs_nil
theorem sgs_cons (h : SG X tg p) (h' : SGs X es ps) (hs : (assignEach (tg :: es) X.env).map (·.2) = assign tg X.env :: (assignEach es X.env).map (·.2) := by rfl) : SGs X (tg :: es) (p :: ps) := by
  show PGs X _ (gsOf X.K (p :: ps))
  simp only [gsOf]
  exact pgs_cons h h' hs
theorem sg_tp {k : Nat} (hc : X.calm = true) (h : SGs X es ps) (hn : (assignEach es X.env).length = ps.length := by rfl) (hst : (assignEach es X.env).findIdx? (·.1) = none := by rfl) : SG X (.Tuple es k pos) (.tp ps) := by
  show PG X _ (gOf X.K (.tp ps))
  simp only [gOf]
  exact pg_tup hc h hn hst
/-- target = e -/
def mAsg (p : Pat) (me : ME) : MS := fun env st => (me env st).toS env fun d st1 => match bindP p d env with
  | some env1 => .nx env1 st1
  | none => .bad
theorem ss_asg (hg : SG X tg p) (he : SE X W e me) (hs : swapsWithSole [tg] e pos.line X.env = pure false := by rfl) (hw : swappedStores [tg] e X.env = pure none := by rfl) (h1 : (assignEach [tg] X.env).map (·.2) = [assign tg X.env] := by rfl) :
    SS X W (.Assign [tg] e pos) (mAsg p me) := by
  refine ⟨fun pins s σ H D I h => (ps_asg he hg hs hw h1).run pins s σ H D I ?_⟩
  obtain ⟨ι, env, st, re, rs, o⟩ := h
  refine ⟨ι, env, st, re, rs, Out.imp ?_ (Out.toS (rep := repD X.K) re o)⟩
  rintro v H1 ⟨ι1, d, st1, e1, rx, rs1, o1⟩
  cases q : bindP p d env with
  | none => simp only [q] at o1; exact o1.elim
  | some env1 =>
    simp only [q] at o1
    exact gOf_ok (vs := []) p (re.ext e1) rx q fun σ' re' _ => OutS.go o1 re' rs1
end
/-! ### what is walked -/
/-- J gives the items xs while keep holds of the store -/
def WalkD (K : PySem.W.Frag) (ι : Ix) (H : Hp) (xs : List D) (keep : Sto → Prop) (J : It) : Prop :=
  Walk J xs.length (fun H1 => ∃ ι1 st1, Ext ι H ι1 H1 ∧ RepSto K ι1 H1 st1 ∧ keep st1)
    (fun i H1 x H2 => ∀ ι1 st1, Ext ι H ι1 H1 → RepSto K ι1 H1 st1 → keep st1 → Ext ι1 H1 ι1 H2 ∧ RepSto K ι1 H2 st1 ∧ ∃ d, xs[i]? = some d ∧ Rep K ι1 H2 d x)
/-- what must stay while it is walked -/
abbrev Kp := List (D × List D)
def Kp.P : Kp → Sto → Prop
  | [], _ => True
  | p :: r, st => lstD st p.1 = some p.2 ∧ Kp.P r st
open Classical in
noncomputable def chk {α : Type} (k : Kp) (st : Sto) (bad r : α) : α := match k with
  | [] => r
  | p :: k => if Kp.P (p :: k) st then r else bad
theorem chk_pos {α : Type} {k : Kp} {st : Sto} {bad r : α} (h : k.P st) : chk k st bad r = r := by
  unfold chk
  split
  · rfl
  · rw [if_pos h]
@[simp] theorem chk_nil {α : Type} {st : Sto} {bad r : α} : chk [] st bad r = r := rfl
theorem chk_out {α : Type} {k : Kp} {st : Sto} {bad r : α} {Q : α → Prop} (h : Q (chk k st bad r)) (hb : ¬ Q bad) : k.P st := by
  unfold chk at h
  split at h
  · trivial
  · split at h
    · assumption
    · exact absurd h hb
abbrev ItD := List D × Kp
def repI (K : PySem.W.Frag) : RepT ItD It := fun ι H p J => WalkD K ι H p.1 p.2.P J
abbrev MI := Env' → Sto → R ItD
abbrev SI (X : Cx) (W : WX) (tg iter : Expr) (m : MI) : Prop := PI X tg iter (tX X.K (repI X.K) W m)
noncomputable def mLoop (keep : Kp) (step : D → Env' → Sto → RS) : List D → Env' → Sto → RS
  | [], env, st => chk keep st .bad (.nx env st)
  | d :: ds, env, st => chk keep st .bad ((step d env st).bind (mLoop keep step ds))
def mStep (p : Pat) (m : MS) : D → Env' → Sto → RS := fun d env st => match bindP p d env with
  | some env1 => m env1 st
  | none => .bad
noncomputable def mFor (mi : MI) (p : Pat) (m : MS) : MS := fun env st => (mi env st).toS env fun q st1 => mLoop q.2 (mStep p m) q.1 env st1
section
variable {K : PySem.W.Frag} {W : WX} {ι : Ix} {H : Hp} {E : Ends} {keep : Kp} {step : D → Env' → Sto → RS}
theorem mLoop_keep {xs : List D} {env : Env'} {st : Sto} (h : OutS K W ι H E (mLoop keep step xs env st)) : keep.P st := by
  cases xs with
  | nil => exact chk_out (Q := fun r => OutS K W ι H E r) (by unfold mLoop at h; exact h) id
  | cons d ds => exact chk_out (Q := fun r => OutS K W ι H E r) (by unfold mLoop at h; exact h) id
end
section
variable {X : Cx} {W : WX} {e a b c tg iter elt : Expr} {es : List Expr} {me ma mb mc : ME} {mt : MT} {s : Stmt} {ss ss' : List Stmt} {m m' : MS} {mi : MI} {pos : Pos} {p : Pat} {ps : List Pat}
theorem ss_for (hp : PassesOwn (model X.prog X.w) X.A X.env X.xe) (hc : X.calm = true) (hi : SI X W tg iter mi) (hg : SG X tg p) (hb : SSs X W ss m) (hs : ∀ x, foldedSetIterable iter X.env x = pure x := by intro _; rfl) : SS X W (.For tg iter ss [] pos) (mFor mi p m) := by
  refine ⟨fun pins s σ H D I h => (ps_for hp hc hi hg hb hs).run pins s σ H D I ?_⟩
  obtain ⟨ι, env, st, re, rs, o⟩ := h
  refine ⟨ι, env, st, re, rs, Out.imp ?_ (Out.toS (rep := repI X.K) re o)⟩
  rintro J H0 ⟨ι0, ⟨xs, keep⟩, st0, e0, wd, rs0, o0⟩
  have wd' : WalkD X.K ι0 H0 xs keep.P J := wd
  refine for_it wd' (fun i σ' H' => ∃ ι1 env1 st1, Ext ι0 H0 ι1 H' ∧ RepEnv X.K ι1 H' env1 σ' ∧ RepSto X.K ι1 H' st1 ∧ OutS X.K W ι1 H' D (mLoop keep (mStep p m) (xs.drop i) env1 st1)) ⟨ι0, env, st0, Ext.refl _ _, re.ext e0, rs0, by simpa using o0⟩
    (fun i σ' H' _ ⟨ι1, env1, st1, e1, _, rs1, o1⟩ => ⟨ι1, st1, e1, rs1, mLoop_keep o1⟩) ?_ ?_
  · rintro i x σ1 H1 H2 hi ⟨ι1, env1, st1, e1, re1, rs1, o1⟩ hy
    have hk := mLoop_keep o1
    obtain ⟨e2, rs2, d, hd, rx⟩ := hy ι1 st1 e1 rs1 hk
    have hdrop : xs.drop i = d :: xs.drop (i + 1) := by
      obtain ⟨hl, hx⟩ := List.getElem?_eq_some_iff.mp hd
      rw [List.drop_eq_getElem_cons hl, hx]
    rw [hdrop] at o1
    unfold mLoop at o1
    rw [chk_pos hk] at o1
    unfold mStep at o1
    cases q : bindP p d env1 with
    | none => simp only [q] at o1; exact o1.elim
    | some env2 =>
      simp only [q] at o1
      refine gOf_ok (vs := []) p (re1.ext e2) rx q fun σ' re' _ => ?_
      refine ⟨ι1, env2, st1, re', rs2, ?_⟩
      have o2 := OutS.bind (OutS.shift e2 o1)
      revert o2
      generalize m env2 st1 = r
      intro o2
      cases r with
      | nx env3 st3 =>
        intro σ3 ι3 H3 e3 re3 rs3
        obtain ⟨ι4, env4, st4, e4, re4, rs4, o4⟩ := o2 σ3 ι3 H3 e3 re3 rs3
        exact ⟨ι4, env4, st4, (e1.trans e2).trans e4, re4, rs4, o4⟩
      | rt d st1 => exact o2
      | ex c ns vs env1 st1 => exact o2
      | bad => exact o2
  · rintro σ1 H1 ⟨ι1, env1, st1, e1, re1, rs1, o1⟩
    have hk := mLoop_keep o1
    rw [List.drop_length] at o1
    unfold mLoop at o1
    rw [chk_pos hk] at o1
    exact OutS.go o1 re1 rs1
/-! ### comprehensions -/
def wipeE (env : Env') : List Nat → Env'
  | [] => env
  | v :: vs => (wipeE env vs).set v none
theorem wipeE_rep {K : PySem.W.Frag} {ι : Ix} {H : Hp} {env : Env'} {σ : St'} (re : RepEnv K ι H env σ) : ∀ vs : List Nat, RepEnv K ι H (wipeE env vs) (wipe σ vs)
  | [] => re
  | v :: vs => by
    have r := wipeE_rep re vs
    refine ⟨by show ((wipeE env vs).set v none).length = ((wipe σ vs).set v none).length; simp [r.len], fun i d h => ?_⟩
    have h' : ((wipeE env vs).set v none)[i]? = some (some d) := h
    show ∃ u, ((wipe σ vs).set v none)[i]? = some (some u) ∧ _
    by_cases hv : i = v
    · subst hv
      by_cases hl : i < (wipeE env vs).length
      · rw [List.getElem?_set_self hl] at h'; cases h'
      · rw [List.getElem?_eq_none (by simpa using hl)] at h'; cases h'
    · rw [List.getElem?_set_ne (Ne.symm hv)] at h' ⊢
      exact r.at_ i d h'
noncomputable def mLCgo (keep : Kp) (p : Pat) (mc : MT) (me : ME) (env : Env') : List D → List D → Sto → R (List D)
  | [], acc, st => chk keep st .bad (.ok acc st)
  | d :: ds, acc, st => chk keep st .bad (match bindP p d env with
    | some env1 => (mc env1 st).noex.bind fun b st1 => if b = true then (me env1 st1).noex.bind fun y st2 => if fits (acc.length + 1) = true then mLCgo keep p mc me env ds (acc ++ [y]) st2 else .bad else mLCgo keep p mc me env ds acc st1
    | none => .bad)
noncomputable def mLC (md : Bool) (mi : MI) (p : Pat) (vs : List Nat) (mc : MT) (me : ME) : ME := fun env st => (mi env st).bind fun q st1 => (mLCgo q.2 p mc me (wipeE env vs) q.1 [] st1).bind fun ds st2 => finL md ds st2
def mYes : MT := fun _ st => .ok true st
abbrev STs (X : Cx) (W : WX) (ifs : List Expr) (m : MT) : Prop := PTs X ifs (tT X.K W m)
theorem sts_nil : STs X W [] mYes := by
  refine ⟨fun pins s σ H Q I h => pts_nil.run pins s σ H Q I ?_⟩
  exact tT_const h
theorem sts_one (h : ST X W e mt) : STs X W [e] mt := pts_one h
theorem mLCgo_keep {keep : Kp} {mc : MT} {β : Type} {rep : RepT (List D) β} {K : PySem.W.Frag} {ι : Ix} {σ : St'} {H : Hp} {Q : β → Hp → Prop} {xs acc : List D} {env : Env'} {st : Sto} (h : Out K rep W ι σ H Q (mLCgo keep p mc me env xs acc st)) : keep.P st := by
  cases xs with
  | nil => exact chk_out (Q := fun r => Out K rep W ι σ H Q r) (by unfold mLCgo at h; exact h) id
  | cons d ds => exact chk_out (Q := fun r => Out K rep W ι σ H Q r) (by unfold mLCgo at h; exact h) id
end
theorem wipe_get (σ : St') (i : Nat) : ∀ vs : List Nat, (wipe σ vs)[i]? = if i ∈ vs then (if i < σ.length then some none else none) else σ[i]?
  | [] => by simp [wipe]
  | v :: vs => by
    show ((wipe σ vs).set v none)[i]? = _
    by_cases e : v = i
    · subst e
      by_cases hl : v < σ.length
      · rw [List.getElem?_set_self (by rw [wipe_length]; exact hl)]; simp [hl]
      · rw [List.getElem?_eq_none (by simp [wipe_length]; omega)]; simp [hl]
    · rw [List.getElem?_set_ne e, wipe_get σ i vs]
      have : i ≠ v := fun q => e q.symm
      simp [this]
theorem wipe_wipe (σ : St') (vs : List Nat) : wipe (wipe σ vs) vs = wipe σ vs := by
  apply List.ext_getElem?
  intro i
  rw [wipe_get, wipe_length, wipe_get]
  by_cases h : i ∈ vs <;> simp [h]
/-- with one more address kept apart -/
def Ix.guard (ι : Ix) (a : Addr) : Ix := ⟨ι.c, a :: ι.p⟩
section
variable {K : PySem.W.Frag} {ι ι' : Ix} {H H' : Hp} {D' : Addr}
theorem Ext.guard {o : HO} (h : H D' = none) : Ext ι H (ι.guard D') (upd H D' o) :=
  ⟨⟨[], by simp [Ix.guard]⟩, fun _ h => List.mem_cons_of_mem _ h, fun a ha => (List.mem_cons.mp ha).elim (fun q => .inr (by rw [q]; exact h)) .inl, (Ext.new (ι := ι) h).keep, (Ext.new (ι := ι) h).there⟩
/-- the guarded thing changes -/
theorem Keeps.turn {o : HO} (h : D' ∈ ι.p) : Keeps ι H ι (upd H D' o) := ⟨fun a u e n => ⟨n, by rw [upd_ne (fun q => n.2 (by rw [q]; exact h))]; exact e⟩, fun _ _ h => h⟩
theorem Keeps.weak {p : List Addr} (h : ∀ a ∈ p, a ∈ ι.p) : Keeps ι H ⟨ι.c, p⟩ H := ⟨fun a u e n => ⟨⟨n.1, fun q => n.2 (h a q)⟩, e⟩, fun _ _ h => h⟩
theorem Keeps.cell {p : List Addr} (h : ∀ a ∈ p, a ∈ ι.p) (hd : D' ∈ ι.p) : Keeps ι H ⟨ι.c ++ [D'], p⟩ H :=
  ⟨fun a u e n => ⟨⟨fun q => by
    rcases List.mem_append.mp q with z | z
    · exact n.1 z
    · simp at z; exact n.2 (by rw [z]; exact hd), fun q => n.2 (h a q)⟩, e⟩, fun n a h => by
    show (ι.c ++ [D'])[n]? = some a
    rw [List.getElem?_append_left (List.getElem?_eq_some_iff.mp h).1]; exact h⟩
theorem RepSto.guard {st : Sto} {o : HO} (h : RepSto K ι H st) (hD : H D' = none) : RepSto K (ι.guard D') (upd H D' o) st := by
  refine ⟨h.nd, h.len, fun a ha => ?_, fun n c a h1 h2 => ?_⟩
  · rcases List.mem_cons.mp ha with q | q
    · exact ⟨o, by rw [q, upd_same]⟩
    · obtain ⟨u, hu⟩ := h.prot a q
      exact ⟨u, by rw [upd_ne (ne_of_none hu hD)]; exact hu⟩
  · have q := h.at_ n c a h1 h2
    obtain ⟨u, hu⟩ := q.some
    exact q.re (Ext.guard hD).keeps (upd_ne (ne_of_none hu hD))
theorem RepSto.turn {st : Sto} {o : HO} (h : RepSto K ι H st) (hp : D' ∈ ι.p) (hn : D' ∉ ι.c) : RepSto K ι (upd H D' o) st := by
  refine ⟨h.nd, h.len, fun a ha => ?_, fun n c a h1 h2 => ?_⟩
  · by_cases q : a = D'
    · exact ⟨o, by rw [q, upd_same]⟩
    · obtain ⟨u, hu⟩ := h.prot a ha
      exact ⟨u, by rw [upd_ne q]; exact hu⟩
  · refine (h.at_ n c a h1 h2).re (Keeps.turn hp) (upd_ne fun q => hn ?_)
    rw [← q]
    exact List.mem_of_getElem? h2
theorem RepSto.weak {st : Sto} {p : List Addr} (h : RepSto K ι H st) (hp : ∀ a ∈ p, a ∈ ι.p) : RepSto K ⟨ι.c, p⟩ H st :=
  ⟨h.nd, h.len, fun a ha => h.prot a (hp a ha), fun n c a h1 h2 => (h.at_ n c a h1 h2).re (Keeps.weak hp) rfl⟩
theorem RepSto.cell' {st : Sto} {p : List Addr} {c : Cell} (h : RepSto K ι H st) (hp : ∀ a ∈ p, a ∈ ι.p) (hd : D' ∈ ι.p) (hn : D' ∉ ι.c) (hc : CellAt K ⟨ι.c ++ [D'], p⟩ H D' c) : RepSto K ⟨ι.c ++ [D'], p⟩ H (st ++ [c]) := by
  refine ⟨List.nodup_append.mpr ⟨h.nd, by simp, fun a ha b hb => by simp at hb; subst hb; exact fun q => hn (q ▸ ha)⟩, by simp [h.len], fun a ha => h.prot a (hp a ha), fun n c' a h1 h2 => ?_⟩
  have h2' : (ι.c ++ [D'])[n]? = some a := h2
  by_cases hl : n < st.length
  · rw [List.getElem?_append_left hl] at h1
    rw [List.getElem?_append_left (by rw [h.len]; exact hl)] at h2'
    exact (h.at_ n c' a h1 h2').re (Keeps.cell hp hd) rfl
  · have e : n = st.length := by
      have := (List.getElem?_eq_some_iff.mp h1).1
      simp at this; omega
    subst e
    rw [List.getElem?_append_right (Nat.le_refl _)] at h1
    rw [← h.len, List.getElem?_append_right (Nat.le_refl _)] at h2'
    simp at h1 h2'
    subst h1 h2'
    exact hc
end
section
variable {X : Cx} {W : WX} {e a b c tg iter elt : Expr} {es ifs : List Expr} {me ma mb mc : ME} {mt : MT} {mi : MI} {pos : Pos} {p : Pat} {scope : Scope} {own : List (Str × Nat)}
theorem lc_then (md : Bool) (vs : List Nat) (p : Pat) (hp : ∀ i ∈ slots p, i ∈ vs) {σ : St'} {H : Hp} {Q : VK} (h : tE X.K W (mLC md mi p vs mt me) σ H Q) : tLc (tX X.K (repI X.K) W mi) (gOf X.K p) (tT X.K W0 mt) (tE X.K W0 me) vs σ H Q := by
  obtain ⟨ι, env, st, re, rs, o⟩ := h
  refine ⟨ι, env, st, re, rs, Out.imp ?_ (Out.bind (rep := repI X.K) o)⟩
  rintro J H0 ⟨ι0, ⟨xs, keep⟩, st0, e0, wd, rs0, o0⟩
  intro DD hDD
  have re0 : RepEnv X.K ι0 H0 env σ := re.ext e0
  have wd' : WalkD X.K ι0 H0 xs keep.P J := wd
  refine lc_it wd' (fun i H' => ∃ ι1 st1 acc us, Ext ι0 H0 ι1 H' ∧ DD ∈ ι1.p ∧ DD ∉ ι1.c ∧ RepSto X.K ι1 H' st1 ∧ RepEnv X.K ι1 H' (wipeE env vs) (wipe σ vs) ∧ H' DD = some (.lst us) ∧ Reps X.K ι1 H' acc us ∧
    Out X.K (repD X.K) W ι0 σ H0 Q ((mLCgo keep p mt me (wipeE env vs) (xs.drop i) acc st1).bind fun ds st2 => finL md ds st2)) ?_ ?_ ?_ ?_
  · refine ⟨ι0.guard DD, st0, [], [], Ext.guard hDD, List.mem_cons_self, (rs0.fresh hDD).1, rs0.guard hDD, (wipeE_rep re0 vs).ext (Ext.guard hDD), upd_same, .nil, ?_⟩
    rw [List.drop_zero]
    exact o0
  · rintro i H1 _ ⟨ι1, st1, acc, us, e1, _, _, rs1, _, _, _, o1⟩
    exact ⟨ι1, st1, e1, rs1, mLCgo_keep (p := p) (me := me) (rep := repL X.K) (Out.bind (rep := repL X.K) o1)⟩
  · rintro i x H1 H2 hi ⟨ι1, st1, acc, us, e1, hp1, hn1, rs1, re1, hu1, ra1, o1⟩ hy
    have hk := mLCgo_keep (p := p) (me := me) (rep := repL X.K) (Out.bind (rep := repL X.K) o1)
    obtain ⟨e2, rs2, d, hd, rx⟩ := hy ι1 st1 e1 rs1 hk
    have hdrop : xs.drop i = d :: xs.drop (i + 1) := by
      obtain ⟨hl, hx⟩ := List.getElem?_eq_some_iff.mp hd
      rw [List.drop_eq_getElem_cons hl, hx]
    rw [hdrop] at o1
    unfold mLCgo at o1
    rw [chk_pos hk] at o1
    cases q : bindP p d (wipeE env vs) with
    | none => simp only [q] at o1; exact o1.elim
    | some env2 =>
      simp only [q] at o1
      refine gOf_ok (vs := vs) p (re1.ext e2) rx q fun σ2 re2 hw => ⟨by rw [hw hp, wipe_wipe], ?_⟩
      have hu2 : H2 DD = some (.lst us) := e2.keep _ _ hu1 hn1
      have o1' : Out X.K (repD X.K) W ι0 σ H0 Q ((mt env2 st1).noex.bind fun b st1 => (if b = true then (me env2 st1).noex.bind fun y st2 => if fits (acc.length + 1) = true then mLCgo keep p mt me (wipeE env vs) (xs.drop (i + 1)) (acc ++ [y]) st2 else .bad
          else mLCgo keep p mt me (wipeE env vs) (xs.drop (i + 1)) acc st1).bind fun ds st2 => finL md ds st2) := by
        revert o1
        cases mt env2 st1 with
        | ok b st3 => exact id
        | ex c ns vs' st3 => exact id
        | bad => exact id
      refine ⟨ι1, env2, st1, re2, rs2, Out.imp ?_ (Out.bindN (rep := repB) (W' := W0) (ι1 := ι1) (σ1 := σ2) (H1 := H2) o1')⟩
      rintro b H3 ⟨ι3, b', st3, e3, rb, rs3, o3⟩
      obtain rfl : b' = b := rb
      have e13 := (e1.trans e2).trans e3
      have hp3 := e3.prt _ hp1
      have hn3 : DD ∉ ι3.c := e3.notc hu2 hn1
      have hu3 : H3 DD = some (.lst us) := e3.keep _ _ hu2 hn1
      cases b' with
      | false =>
        rw [if_neg Bool.false_ne_true]
        rw [if_neg Bool.false_ne_true] at o3
        exact ⟨ι3, st3, acc, us, e13, hp3, hn3, rs3, (re1.ext e2).ext e3, hu3, Reps.ext e3 (Reps.ext e2 ra1), o3⟩
      | true =>
        rw [if_pos rfl]
        rw [if_pos rfl] at o3
        have o3' : Out X.K (repD X.K) W ι0 σ H0 Q ((me env2 st3).noex.bind fun y st2 => (if fits (acc.length + 1) = true then mLCgo keep p mt me (wipeE env vs) (xs.drop (i + 1)) (acc ++ [y]) st2 else .bad).bind fun ds st2 => finL md ds st2) := by
          revert o3
          cases me env2 st3 with
          | ok b st3 => exact id
          | ex c ns vs' st3 => exact id
          | bad => exact id
        refine ⟨ι3, env2, st3, re2.ext e3, rs3, Out.imp ?_ (Out.bindN (rep := repD X.K) (W' := W0) (ι1 := ι3) (σ1 := σ2) (H1 := H3) o3')⟩
        rintro y H4 ⟨ι4, dy, st4, e4, ry, rs4, o4⟩
        cases hf : fits (acc.length + 1) with
        | false => rw [hf, if_neg Bool.false_ne_true] at o4; exact o4.elim
        | true =>
          rw [hf, if_pos rfl] at o4
          have hu4 : H4 DD = some (.lst us) := e4.keep _ _ hu3 hn3
          have hp4 := e4.prt _ hp3
          have hn4 : DD ∉ ι4.c := e4.notc hu3 hn3
          have e14 := e13.trans e4
          have ra4 := Reps.ext e4 (Reps.ext e3 (Reps.ext e2 ra1))
          refine ⟨us, hu4, by rw [← ra1.length]; exact fits_le hf, ι4, st4, acc ++ [dy], us ++ [y], ?_, hp4, hn4, rs4.turn hp4 hn4, (((re1.ext e2).ext e3).ext e4).re (Keeps.turn hp4), upd_same, Reps.re (Keeps.turn hp4) (ra4.append (.one ry)), o4⟩
          refine ⟨e14.pre, e14.prt, e14.prn, fun a u ha hna => ?_, fun a ha => ?_⟩
          · rw [upd_ne (ne_of_none ha hDD)]
            exact e14.keep a u ha hna
          · by_cases hq : a = DD
            · rw [hq]; exact hDD
            · rw [upd_ne hq] at ha
              exact e14.there a ha
  · rintro H1 ⟨ι1, st1, acc, us, e1, hp1, hn1, rs1, re1, hu1, ra1, o1⟩
    have hk := mLCgo_keep (p := p) (me := me) (rep := repL X.K) (Out.bind (rep := repL X.K) o1)
    rw [List.drop_length] at o1
    unfold mLCgo at o1
    rw [chk_pos hk] at o1
    have hsub : ∀ a ∈ ι0.p, a ∈ ι1.p := e1.prt
    have hDp : DD ∉ ι0.p := (rs0.fresh hDD).2
    cases md with
    | false =>
      refine o1 _ ⟨ι1.c, ι0.p⟩ H1 ⟨e1.pre, fun _ h => h, fun _ h => .inl h, e1.keep, e1.there⟩ ?_ (rs1.weak hsub)
      exact Rep.lst_iff.mpr ⟨DD, us, rfl, ⟨⟨hn1, hDp⟩, hu1⟩, Reps.re (Keeps.weak hsub) ra1⟩
    | true =>
      obtain ⟨κ, k1, k2⟩ := e1.pre
      refine o1 _ ⟨ι1.c ++ [DD], ι0.p⟩ H1 ⟨⟨κ ++ [DD], by show ι1.c ++ [DD] = _; rw [k1, List.append_assoc], fun a ha => ?_⟩, fun _ h => h, fun _ h => .inl h, e1.keep, e1.there⟩ ?_
        (rs1.cell' hsub hp1 hn1 ⟨us, hu1, Reps.re (Keeps.cell hsub hp1) ra1⟩)
      · rcases List.mem_append.mp ha with z | z
        · exact k2 a z
        · simp at z; rw [z]; exact hDD
      · exact Rep.ref_iff.mpr ⟨DD, by rw [← rs1.len]; show (ι1.c ++ [DD])[ι1.c.length]? = some DD; rw [List.getElem?_append_right (Nat.le_refl _)]; simp, rfl⟩
theorem se_lc (md : Bool) (own : List (Str × Nat)) (p : Pat) (hc : X.calm = true) (hN : X.N.Nodup) (hi : SI X W tg iter mi) (ok : blkC X.N X.env.scope scope own = true)
    (hp : ∀ i ∈ slots p, i ∈ own.map (·.2))
    (hg : ∀ (s : Shared) (H : Hp) (C : Addr) (cl : List (Str × Addr)) (fp : List Addr), SG (X.blk s H scope (compEnvC scope cl C X.env) fp) tg p)
    (ht : ∀ (s : Shared) (H : Hp) (C : Addr) (cl : List (Str × Addr)) (fp : List Addr), STs (X.blk s H scope (compEnvC scope cl C X.env) fp) W0 ifs mt)
    (he : ∀ (s : Shared) (H : Hp) (C : Addr) (cl : List (Str × Addr)) (fp : List Addr), SE (X.blk s H scope (compEnvC scope cl C X.env) fp) W0 elt me) (hs : ∀ x, foldedSetIterable iter X.env x = pure x := by intro _; rfl) :
    SE X W (.ListComp elt [⟨tg, iter, ifs, 0⟩] scope pos) (mLC md mi p (own.map (·.2)) mt me) := by
  exact ⟨fun pins s σ H Q I h => (pe_lc (g := gOf X.K p) (tt := tT X.K W0 mt) (te := tE X.K W0 me) hc hN hi (blkOk_by ok) hg ht he hs).run pins s σ H Q I (lc_then md _ p hp h)⟩
/-- name = [ .. ], the name a local one -/
theorem ss_setLc (i : Nat) (md : Bool) (own : List (Str × Nat)) (p : Pat) {y : Str} {py spos : Pos} (hc : X.calm = true) (hN : X.N.Nodup) (hi : SI X W tg iter mi) (ok : blkC X.N X.env.scope scope own = true)
    (hp : ∀ i ∈ slots p, i ∈ own.map (·.2))
    (hg : ∀ (s : Shared) (H : Hp) (C : Addr) (cl : List (Str × Addr)) (fp : List Addr), SG (X.blk s H scope (compEnvC scope cl C X.env) fp) tg p)
    (ht : ∀ (s : Shared) (H : Hp) (C : Addr) (cl : List (Str × Addr)) (fp : List Addr), STs (X.blk s H scope (compEnvC scope cl C X.env) fp) W0 ifs mt)
    (he : ∀ (s : Shared) (H : Hp) (C : Addr) (cl : List (Str × Addr)) (fp : List Addr), SE (X.blk s H scope (compEnvC scope cl C X.env) fp) W0 elt me) (hs : ∀ x, foldedSetIterable iter X.env x = pure x := by intro _; rfl)
    (hy : X.N[i]? = some y := by rfl) (hyl : X.env.scope.names.lookup y = some .local := by rfl) (hsw : swapsWith (.ListComp elt [⟨tg, iter, ifs, 0⟩] scope pos) (some (.Name y py)) spos.line X.env = pure true := by rfl) :
    SS X W (.Assign [.Name y py] (.ListComp elt [⟨tg, iter, ifs, 0⟩] scope pos) spos) (mSet i (mLC md mi p (own.map (·.2)) mt me)) := by
  refine ⟨fun pins s σ H D I h => (ps_setLc (g := gOf X.K p) (tt := tT X.K W0 mt) (te := tE X.K W0 me) hc hN hy hyl hsw hi (blkOk_by ok) hg ht he hs).run pins s σ H D I ?_⟩
  obtain ⟨ι, env, st, re, rs, o⟩ := h
  refine lc_then (W := W) md _ p hp ⟨ι, env, st, re, rs, Out.imp ?_ (Out.toS (rep := repD X.K) re o)⟩
  rintro v H1 ⟨ι1, d, st1, e1, rx, rs1, o1⟩
  exact OutS.go o1 ((re.ext e1).set rx) rs1
end
end ML

set_option Elab.async false
set_option linter.all false
set_option maxRecDepth 100000
set_option maxHeartbeats 1000000
/-! MLa: enumerate over a tuple, as a walk of the hand layer -/
namespace PySem
theorem ml_enum_new1 {v : Value} {o : Obj} {H : Heap → Prop} (B : Begins v o H) :
    Meets (Builtin.«enumerate.__new__» ⟨[.type "enumerate", v], []⟩) (fun _ R s => H s.heap ∧
      R (.ok (.ret (.ref (s.heap.push o).objs.size))) { s with heap := (s.heap.push o).push { cls := .type "enumerate", data := .fields #[.none, .bool false, .ref s.heap.objs.size, rawInt 0, .none, .none] } }) :=
  .of_wp fun prog w A R s h => by
    obtain ⟨hp, g, d, tk, os⟩ := s; obtain ⟨h1, h⟩ := h
    have hsub := sub_enumerate
    have q1 : ∀ {A' : Around} {E : Value → Shared → Prop} {Q : Value → Shared → Prop}, Q (.ref hp.objs.size) ⟨hp.push o, g, d, tk, os⟩ → wpAny (model prog w) A' (pyIter v) Q E ⟨hp, g, d, tk, os⟩ :=
      fun q => B.iter prog w _ _ ⟨hp, g, d, tk, os⟩ _ h1 q
    wp_walk using q1
    refine wpAny_stack_any fun st => wpAny_pure ?_
    split
    · rename_i c _ _ _ _ _
      cases (c == Value.type "enumerate")
      · wp_walk using q1
        exact ⟨_, rfl, h⟩
      · wp_walk using q1
        exact ⟨_, rfl, h⟩
    · wp_walk using q1
      exact ⟨_, rfl, h⟩
section
variable {prog : Program} {w : World} {A : Around} {E : Value → Shared → Prop} {s : Shared}
theorem ml_enum1 {v : Value} {o : Obj} {H : Heap → Prop} {Q : Value → Shared → Prop} (B : Begins v o H) (h1 : H s.heap)
    (h : ∀ h', IsEnum h' (s.heap.objs.size + 1) s.heap.objs.size 0 .none → h'.get? s.heap.objs.size = some o → h'.objs.size = s.heap.objs.size + 2 →
      (∀ b o, s.heap.get? b = some o → h'.get? b = some o) → Q (.ref (s.heap.objs.size + 1)) { s with heap := h' }) :
    wpAny (model prog w) A (call (.type "enumerate") [v]) Q E s := by
  refine callType_new F.called_enumerate (by decide) (F.typeCall_enumerate_1 _) (F.newCall_enumerate_1 _) (fun obj => F.args_object_init_2 obj _) F.entry_enumerate_new
    (ml_enum_new1 B) ⟨h1, ?_⟩
  have hz : (s.heap.push o).objs.size = s.heap.objs.size + 1 := Heap.size_push ..
  show _ ∧ _
  rw [hz]
  have he : IsEnum ((s.heap.push o).push { cls := .type "enumerate", data := .fields #[.none, .bool false, .ref s.heap.objs.size, rawInt 0, .none, .none] }) (s.heap.objs.size + 1) s.heap.objs.size 0 .none := by
    have := Heap.get?_push_size (s.heap.push o) (o := { cls := .type "enumerate", data := .fields #[.none, .bool false, .ref s.heap.objs.size, rawInt 0, .none, .none] }) rfl
    rw [hz] at this; exact this
  refine ⟨⟨_, he, rfl⟩, h _ he (Heap.get?_push_of_some _ (Heap.get?_push_size _ B.free)) (by rw [Heap.size_push, hz]) fun b o x => Heap.get?_push_of_some _ (Heap.get?_push_of_some _ x)⟩
end
end PySem
namespace L2
open PySem PySem.Spec PyProof.Rows
def IteT (K : PySem.W.Frag) (a : Addr) : It :=
  ⟨fun i H => ∃ (xs : List V) (x : V), SqT K H a xs ∧ xs[i]? = some x, fun i H v H' => ∃ T x, v = .ref T ∧ H T = none ∧ H' = upd H T (.tup [.int (i : Nat), x]) ∧ ∀ xs, SqT K H a xs → xs[i]? = some x, fun i H => ∃ xs : List V, SqT K H a xs ∧ xs.length = i⟩
theorem turn_enumT {P : Program} {w : World} {K : PySem.W.Frag} {elts : List Expr} {kk : Nat} {tpos : Pos} (a e it : Addr) :
    Turn P w K (.Tuple elts kk tpos) (IteT K a) [e, it] e (fun i h => (∃ old, IsEnum h e it ((i : Nat) : Int) old) ∧ h.IsTupleIter it a i ∧ e ≠ it) where
  mem := by simp
  obj := fun i h st b hb => by
    obtain ⟨⟨old, he⟩, ⟨o, ho, hc, hd⟩, _⟩ := st
    have e' : b = e ∨ b = it := by simpa using hb
    rcases e' with z | z
    · rw [z]; exact ⟨_, he, fun v q => nomatch q⟩
    · rw [z]; exact ⟨o, ho, fun v q => by rw [hd] at q; cases q⟩
  keep := fun i h h' st k => let ⟨⟨old, he⟩, hi, hne⟩ := st; ⟨⟨old, k e (by simp) _ he⟩, hi.at fun o q => k it (by simp) o q, hne⟩
  item := by
    intro X hP hw hK hc i pins s σ H E I hf st hg
    subst hP hw hK
    obtain ⟨⟨old, he⟩, hit, hne⟩ := st
    obtain ⟨xs, x, hq, hx⟩ := hg
    obtain ⟨its, rv, p, hz⟩ := I.tuple hq
    obtain ⟨u, hu, ru⟩ := rv.get hx
    have hel : e < s.heap.objs.size := Heap.lt_size he
    have hil : it < s.heap.objs.size := by obtain ⟨_, q, _⟩ := hit; exact Heap.lt_size q
    have ne1 : a ≠ it := by
      intro q
      obtain ⟨o1, h1, c1, _⟩ := p
      obtain ⟨o2, h2, c2, _⟩ := hit
      rw [q, h2] at h1; cases h1; rw [c1] at c2; exact absurd c2 (by decide +kernel)
    have ne2 : e ≠ a := by
      intro q
      obtain ⟨o1, h1, c1, _⟩ := p
      have h2 : s.heap.get? e = some _ := he
      rw [q, h1] at h2; cases h2; exact absurd (show Value.type "enumerate" = Value.type "tuple" from c1) (by decide +kernel)
    have hh : X.A.in1.handled = none := I.ok.hd hc
    refine wpAny_pyNext_enum_itemD (Draws.tuple (prog := X.prog) (w := X.w) hh it a ne1 its.toArray) he ⟨hit, p⟩ (by
      have := (List.getElem?_eq_some_iff.mp hu).1
      simpa using this) hne (by simp [hne, ne2]) fun y h' tk hy ho st' hT hsz hk => ?_
    have ey : y = u := by
      have hy' : its.toArray[i]? = some y := hy
      simp only [List.getElem?_toArray] at hy'
      rw [hu] at hy'; cases hy'; rfl
    subst ey
    refine ⟨_, rfl, wpAny_letOwnedTupleGo_enum (s := { s with heap := h', toks := tk + 1 }) ho fun h'' he' sb => ?_⟩
    have hT2 : h''.get? s.heap.objs.size = some { cls := .type "tuple", data := .seq #[.int i tk, y] } := (sb.2 _ (Nat.ne_of_gt hel)).trans hT
    have new : ObjOk X.prog X.w (upd H s.heap.objs.size (.tup [.int (i : Nat), x])) h'' s.heap.objs.size (.tup [.int (i : Nat), x]) :=
      ⟨by show 2 ≤ sizeLine; decide, [.int i tk, y], .cons ⟨_, rfl⟩ (.cons ru .nil), ⟨_, hT2, rfl, _, rfl⟩⟩
    have I1 : Inv X pins σ (upd H s.heap.objs.size (.tup [.int (i : Nat), x])) { s with heap := h'', toks := tk + 1 } :=
      I.turnedNew (ch := [e, it]) (fun b ob hb q => (sb.2 b (fun z => hb (by simp [z]))).trans (hk b ob (fun z => hb (by simp [z])) (fun z => hb (by simp [z])) q)) hf (Nat.le_refl _) new
    refine ⟨.ref s.heap.objs.size, _, I1, rfl, ⟨_, x, rfl, I.hok.fresh (Nat.le_refl _), rfl, fun ys hy => by rw [I.tuple_inj hy hq]; exact hx⟩, ⟨⟨y, ?_⟩, st'.1.at fun o q => (sb.2 it (Ne.symm hne)).trans q, hne⟩, fun b hb => ?_⟩
    · have e1 : ((i + 1 : Nat) : Int) = (i : Int) + 1 := by omega
      rw [e1]; exact he'
    · have hb' : b < s.heap.objs.size := by
        have e' : b = e ∨ b = it := by simpa using hb
        rcases e' with z | z
        · rw [z]; exact hel
        · rw [z]; exact hil
      rw [upd_ne (Nat.ne_of_lt hb')]
      exact (hf b hb).1
  done := by
    intro X hP hw hK hc i pins s σ H E I hf st hg
    subst hP hw hK
    obtain ⟨⟨old, he⟩, hit, hne⟩ := st
    obtain ⟨xs, hq, hx⟩ := hg
    obtain ⟨its, rv, p, hz⟩ := I.tuple hq
    obtain ⟨f0, f1, f2, f3, f4, f5⟩ := hf it (by simp)
    have hl := rv.length
    have ne1 : a ≠ it := by
      intro q
      obtain ⟨o1, h1, c1, _⟩ := p
      obtain ⟨o2, h2, c2, _⟩ := hit
      rw [q, h2] at h1; cases h1; rw [c1] at c2; exact absurd c2 (by decide +kernel)
    have hh : X.A.in1.handled = none := I.ok.hd hc
    have hsz : its.toArray.size = i := by simp; omega
    refine wpAny_pyNext_enum_endD (Draws.tuple (prog := X.prog) (w := X.w) hh it a ne1 its.toArray) he ⟨by rw [hsz]; exact hit, p⟩ fun h' eb => ⟨rfl, I.turned (t' := s.toks) (fun b o hb q => eb b o hb q) f0 f1 f3 f4 f5⟩
  self := fun A i s Q E st h => let ⟨⟨_, he⟩, _⟩ := st; wpAny_pyIter_enum he h
def iEnumT (K : PySem.W.Frag) (ta : TA) : TI := fun σ H R => ta σ H fun vs H1 => ∃ a xs, vs = [.ref a] ∧ SqT K H1 a xs ∧ R (IteT K a) H1
theorem pi_enumT {X : Cx} {e : Expr} {ta : TA} {p pos tpos : Pos} {elts : List Expr} {kk : Nat} (hg : Gl X "enumerate") (hm : X.mg "enumerate" = none) (ha : PA X [e] ta) (hs : starEach [e] X.env = [(false, eval e X.env)] := by rfl) :
    PI X (.Tuple elts kk tpos) (.Call (.Name "enumerate" p) [e] [] pos) (iEnumT X.K ta) := by
  refine ⟨fun pins s σ H R I h => ?_⟩
  refine Call_ (ld_blt I hg hm boot_enumerate (PyProof.Rows.callWith_type1 (thn (ha.run pos pins s σ H _ I h) fun us s1 ⟨vs, H1, I1, r1, q1⟩ => ?_) hs rfl))
  obtain ⟨a, xs, ex, hq, q⟩ := q1
  subst ex
  cases r1 with
  | cons r rr =>
    cases rr
    cases r
    obtain ⟨its, rv, p', hz⟩ := I1.tuple hq
    refine ml_enum1 (begins_tuple a its.toArray) p' fun h' he hit hsz hk => wpAny_pyIter_enum he ?_
    have I2 : Inv X pins σ H1 { s1 with heap := h' } := I1.kept (t' := s1.toks) hk
    refine ⟨s1.heap.objs.size + 1, [s1.heap.objs.size + 1, s1.heap.objs.size], _, _, H1, rfl, I2, turn_enumT a (s1.heap.objs.size + 1) s1.heap.objs.size, ⟨⟨.none, he⟩, ⟨_, hit, rfl, rfl⟩, Nat.succ_ne_self _⟩, fun b hb => ?_, q⟩
    have e' : b = s1.heap.objs.size + 1 ∨ b = s1.heap.objs.size := by simpa using hb
    have hle : s1.heap.objs.size ≤ b := by
      rcases e' with z | z
      · rw [z]; exact Nat.le_add_right _ _
      · rw [z]; exact Nat.le_refl _
    exact I1.fpOk hle (I1.hok.fresh hle)
end L2

set_option Elab.async false
set_option linter.all false
set_option maxRecDepth 100000
set_option maxHeartbeats 1000000
/-! ML5: what is walked; places; parts; equality; in; len .. -/
namespace ML
open PySem PySem.Spec PyProof.Rows L2
/-- while the list at d is as it was -/
def keepSeq (d : D) (xs : List D) : Sto → Prop := fun st => seqD st d = some xs
def isTup : D → Bool
  | .tup _ => true
  | _ => false
section
variable {K : PySem.W.Frag} {ι : Ix} {H : Hp} {st : Sto} {d : D} {v : V} {xs : List D}
theorem tupD_at {xs : List D} (r : Rep K ι H (.tup xs) v) : ∃ a vs, v = .ref a ∧ SqT K H a vs ∧ Reps K ι H xs vs := by
  obtain ⟨a, vs, e, h1, h2⟩ := Rep.tup_iff.mp r
  exact ⟨a, vs, e, h1.sq, h2⟩
/-- a list's walk -/
theorem walkD_list (h : lstD st d = some xs) (r : Rep K ι H d v) (s : RepSto K ι H st) : ∃ a vs, v = .ref a ∧ SqL K H a vs ∧ WalkD K ι H xs (fun st => lstD st d = some xs) (Itl K a) := by
  obtain ⟨a, vs, e, h1, h2⟩ := lstD_at h r s
  subst e
  refine ⟨a, vs, rfl, h1, fun i H1 hi q => ?_, fun H1 q => ?_, fun i H1 x H2 hi q y => ?_⟩
  · obtain ⟨ι1, st1, e1, rs1, k1⟩ := q
    obtain ⟨a', us, e2, h3, h4⟩ := lstD_at k1 (r.ext e1) rs1
    cases e2
    exact ⟨us, us[i]'(by rw [← h4.length]; exact hi), h3, List.getElem?_eq_getElem _⟩
  · obtain ⟨ι1, st1, e1, rs1, k1⟩ := q
    obtain ⟨a', us, e2, h3, h4⟩ := lstD_at k1 (r.ext e1) rs1
    cases e2
    exact ⟨us, h3, by rw [h4.length]; exact Nat.le_refl _⟩
  · intro ι1 st1 e1 rs1 k1
    obtain ⟨a', us, e2, h3, h4⟩ := lstD_at k1 (r.ext e1) rs1
    cases e2
    obtain ⟨rfl, y2⟩ := y
    refine ⟨Ext.refl _ _, rs1, xs[i], List.getElem?_eq_getElem hi, ?_⟩
    obtain ⟨u, hu, ru⟩ := h4.get (List.getElem?_eq_getElem hi)
    have := y2 us h3
    rw [hu] at this; cases this
    exact ru
/-- what is to stay of a list -/
def kpOf (d : D) (xs : List D) : Kp := match d with
  | .ref _ => [(d, xs)]
  | _ => []
theorem kpOf_ok {st st' : Sto} {d : D} {xs : List D} (h : lstD st d = some xs) (k : (kpOf d xs).P st') : lstD st' d = some xs := by
  unfold kpOf at k
  split at k
  · exact k.1
  · rename_i hn
    cases d with
    | ref n => exact absurd rfl (hn n)
    | _ => exact h
theorem WalkD.imp {K : PySem.W.Frag} {ι : Ix} {H : Hp} {J : It} {xs : List D} {keep keep' : Sto → Prop} (w : WalkD K ι H xs keep J) (f : ∀ st, keep' st → keep st) : WalkD K ι H xs keep' J := by
  refine ⟨fun i H1 hi ⟨ι1, st1, e1, rs1, k1⟩ => w.goes i H1 hi ⟨ι1, st1, e1, rs1, f _ k1⟩, fun H1 ⟨ι1, st1, e1, rs1, k1⟩ => w.stops H1 ⟨ι1, st1, e1, rs1, f _ k1⟩, fun i H1 v H2 hi ⟨ι0, st0, e0, rs0, k0⟩ y ι1 st1 e1 rs1 k1 => ?_⟩
  exact w.yields i H1 v H2 hi ⟨ι0, st0, e0, rs0, f _ k0⟩ y ι1 st1 e1 rs1 (f _ k1)
theorem walkD_tup (r : Rep K ι H (.tup xs) v) : ∃ a vs, v = .ref a ∧ SqT K H a vs ∧ WalkD K ι H xs (Kp.P []) (Itt K a) := by
  obtain ⟨a, vs, e, h1, h2⟩ := tupD_at r
  subst e
  refine ⟨a, vs, rfl, h1, fun i H1 hi q => ?_, fun H1 q => ?_, fun i H1 x H2 hi q y => ?_⟩
  · obtain ⟨ι1, st1, e1, rs1, _⟩ := q
    obtain ⟨a', us, e2, h3, h4⟩ := tupD_at (r.ext e1)
    cases e2
    exact ⟨us, us[i]'(by rw [← h4.length]; exact hi), h3, List.getElem?_eq_getElem _⟩
  · obtain ⟨ι1, st1, e1, rs1, _⟩ := q
    obtain ⟨a', us, e2, h3, h4⟩ := tupD_at (r.ext e1)
    cases e2
    exact ⟨us, h3, by rw [h4.length]; exact Nat.le_refl _⟩
  · intro ι1 st1 e1 rs1 _
    obtain ⟨a', us, e2, h3, h4⟩ := tupD_at (r.ext e1)
    cases e2
    obtain ⟨rfl, y2⟩ := y
    refine ⟨Ext.refl _ _, rs1, xs[i], List.getElem?_eq_getElem hi, ?_⟩
    obtain ⟨u, hu, ru⟩ := h4.get (List.getElem?_eq_getElem hi)
    have := y2 us h3
    rw [hu] at this; cases this
    exact ru
/-- new pairs of what is the i-th -/
theorem walkD_pairs {K : PySem.W.Frag} {ι : Ix} {H : Hp} {J : It} {xs : List D} {keep : Sto → Prop} {f g : Nat → Option V} {n : Nat} {G : Hp → Prop} (w : Walk J n G (YPair f g)) (hn : n = xs.length)
    (hG : ∀ ι1 H1 st1, Ext ι H ι1 H1 → RepSto K ι1 H1 st1 → keep st1 → G H1)
    (hx : ∀ i ι1 H1 st1 x y, Ext ι H ι1 H1 → RepSto K ι1 H1 st1 → keep st1 → f i = some x → g i = some y → i < n → ∃ dx dy, xs[i]? = some (.tup [dx, dy]) ∧ Rep K ι1 H1 dx x ∧ Rep K ι1 H1 dy y) : WalkD K ι H xs keep J := by
  subst hn
  refine ⟨fun i H1 hi ⟨ι1, st1, e1, rs1, k1⟩ => w.goes i H1 hi (hG ι1 H1 st1 e1 rs1 k1), fun H1 ⟨ι1, st1, e1, rs1, k1⟩ => w.stops H1 (hG ι1 H1 st1 e1 rs1 k1), fun i H1 v H2 hi _ y ι1 st1 e1 rs1 k1 => ?_⟩
  obtain ⟨T, x, z, rfl, hT, rfl, q1, q2⟩ := w.yields i H1 v H2 hi (hG ι1 H1 st1 e1 rs1 k1) y
  obtain ⟨dx, dy, h1, r1, r2⟩ := hx i ι1 H1 st1 x z e1 rs1 k1 q1 q2 hi
  refine ⟨Ext.new hT, rs1.new hT, _, h1, Rep.tup_iff.mpr ⟨T, _, rfl, .inl ⟨rs1.fresh hT, upd_same⟩, ?_⟩⟩
  exact .cons (r1.ext (Ext.new hT)) (.one (r2.ext (Ext.new hT)))
end
section
variable {X : Cx} {W : WX} {e e2 a b c tg iter elt : Expr} {es ifs : List Expr} {me ma mb mc : ME} {mr : MA} {mt : MT} {mi : MI} {pos : Pos} {p : Pat} {scope : Scope} {own : List (Str × Nat)}
/-- walking a list, a tuple -/
def itL (d : D) (st : Sto) : R ItD := match lstD st d with
  | some xs => .ok (xs, kpOf d xs) st
  | none => .bad
def itT (d : D) (st : Sto) : R ItD := match d with
  | .tup xs => .ok (xs, []) st
  | _ => .bad
def mIt (f : D → Sto → R ItD) (me : ME) : MI := fun env st => (me env st).bind f
theorem tI_then {f : D → Sto → R ItD} {σ : St'} {H : Hp} {Q : It → Hp → Prop} (h : tX X.K (repI X.K) W (mIt f me) σ H Q) :
    tE X.K W me σ H (fun v H1 => ∃ ι d st, Rep X.K ι H1 d v ∧ RepSto X.K ι H1 st ∧ Out X.K (repI X.K) W ι σ H1 Q (f d st)) := by
  obtain ⟨ι, env, st, re, rs, o⟩ := h
  refine ⟨ι, env, st, re, rs, Out.imp ?_ (Out.bind (rep := repD X.K) o)⟩
  rintro v H1 ⟨ι1, d, st1, e1, rx, rs1, o1⟩
  exact ⟨ι1, d, st1, rx, rs1, o1⟩
theorem si_list (he : SE X W e me) : SI X W tg e (mIt itL me) := by
  refine ⟨fun pins s σ H Q I h => (pi_list he).run pins s σ H Q I ?_⟩
  obtain ⟨ι, env, st, re, rs, o⟩ := tI_then h
  refine ⟨ι, env, st, re, rs, Out.imp ?_ o⟩
  rintro v H1 ⟨ι1, d, st1, rx, rs1, o1⟩
  unfold itL at o1
  cases q : lstD st1 d with
  | none => simp only [q] at o1; exact o1.elim
  | some xs =>
    simp only [q] at o1
    obtain ⟨a, vs, rfl, h1, h2⟩ := walkD_list q rx rs1
    exact ⟨a, rfl, ⟨vs, h1⟩, Out.val (b := Itl X.K a) o1 (h2.imp fun st k => kpOf_ok q k) rs1⟩
theorem si_tup (he : SE X W e me) : SI X W tg e (mIt itT me) := by
  refine ⟨fun pins s σ H Q I h => (pi_tup he).run pins s σ H Q I ?_⟩
  obtain ⟨ι, env, st, re, rs, o⟩ := tI_then h
  refine ⟨ι, env, st, re, rs, Out.imp ?_ o⟩
  rintro v H1 ⟨ι1, d, st1, rx, rs1, o1⟩
  unfold itT at o1
  cases d with
  | tup xs =>
    obtain ⟨a, vs, rfl, h1, h2⟩ := walkD_tup rx
    exact ⟨a, rfl, ⟨vs, h1⟩, Out.val (b := Itt X.K a) o1 h2 rs1⟩
  | _ => exact o1.elim
/-- range -/
def rngD (lo : Int) (n : Nat) : List D := (List.range n).map fun i => .int (lo + (i : Nat))
theorem walkD_range {K : PySem.W.Frag} {ι : Ix} {H : Hp} {lo : Int} {n : Nat} : WalkD K ι H (rngD lo n) (Kp.P []) (Itr lo n) := by
  have hl : (rngD lo n).length = n := by simp [rngD]
  refine ⟨fun i H1 hi _ => by show i < n; rw [← hl]; exact hi, fun H1 _ => by show n ≤ (rngD lo n).length; rw [hl]; exact Nat.le_refl _, fun i H1 x H2 hi _ y ι1 st1 e1 rs1 _ => ?_⟩
  obtain ⟨rfl, rfl⟩ := y
  refine ⟨Ext.refl _ _, rs1, .int (lo + (i : Nat)), ?_, Rep.int_iff.mpr rfl⟩
  have : i < n := by rw [← hl]; exact hi
  simp [rngD, this]
def r62 (i : Int) : Bool := decide (-4611686018427387904 ≤ i) && decide (i < 4611686018427387904)
theorem r62_ok {i : Int} (h : r62 i = true) : -(2 ^ 62) ≤ i ∧ i < 2 ^ 62 := by
  obtain ⟨h1, h2⟩ := Bool.and_eq_true_iff.mp h
  have h1 := of_decide_eq_true h1
  have h2 := of_decide_eq_true h2
  omega
def itR1 (ds : List D) (st : Sto) : R ItD := match ds with
  | [.int j] => if r62 j = true then .ok (rngD 0 j.toNat, []) st else .bad
  | _ => .bad
def itR2 (ds : List D) (st : Sto) : R ItD := match ds with
  | [.int i, .int j] => if (r62 i && r62 j) = true then .ok (rngD i (j - i).toNat, []) st else .bad
  | _ => .bad
def mItA (f : List D → Sto → R ItD) (mr : MA) : MI := fun env st => (mr env st).bind f
theorem tIA_then {f : List D → Sto → R ItD} {σ : St'} {H : Hp} {Q : It → Hp → Prop} (h : tX X.K (repI X.K) W (mItA f mr) σ H Q) :
    tA X.K W mr σ H (fun vs H1 => ∃ ι ds st, Reps X.K ι H1 ds vs ∧ RepSto X.K ι H1 st ∧ Out X.K (repI X.K) W ι σ H1 Q (f ds st)) := by
  obtain ⟨ι, env, st, re, rs, o⟩ := h
  refine ⟨ι, env, st, re, rs, Out.imp ?_ (Out.bind (rep := repL X.K) o)⟩
  rintro v H1 ⟨ι1, d, st1, e1, rx, rs1, o1⟩
  exact ⟨ι1, d, st1, rx, rs1, o1⟩
theorem Reps.one_iff {K : PySem.W.Frag} {ι : Ix} {H : Hp} {d : D} {vs : List V} : Reps K ι H [d] vs ↔ ∃ v, vs = [v] ∧ Rep K ι H d v := by
  rw [Reps.cons_iff]
  constructor
  · rintro ⟨v, r, rfl, h1, h2⟩
    rw [Reps.nil_iff] at h2; subst h2
    exact ⟨v, rfl, h1⟩
  · rintro ⟨v, rfl, h⟩
    exact ⟨v, [], rfl, h, .nil⟩
theorem Reps.two_iff {K : PySem.W.Frag} {ι : Ix} {H : Hp} {d d' : D} {vs : List V} : Reps K ι H [d, d'] vs ↔ ∃ v v', vs = [v, v'] ∧ Rep K ι H d v ∧ Rep K ι H d' v' := by
  rw [Reps.cons_iff]
  constructor
  · rintro ⟨v, r, rfl, h1, h2⟩
    obtain ⟨v', rfl, h3⟩ := Reps.one_iff.mp h2
    exact ⟨v, v', rfl, h1, h3⟩
  · rintro ⟨v, v', rfl, h, h'⟩
    exact ⟨v, [v'], rfl, h, .one h'⟩
theorem si_range1 {p pos : Pos} (hm : X.mg "range" = none) (ha : SA X W [a] mr) (hg : Gl X "range" := by rfl) (hs : starEach [a] X.env = [(false, eval a X.env)] := by rfl) : SI X W tg (.Call (.Name "range" p) [a] [] pos) (mItA itR1 mr) := by
  refine ⟨fun pins s σ H Q I h => (pi_range1 hg hm ha hs).run pins s σ H Q I ?_⟩
  obtain ⟨ι, env, st, re, rs, o⟩ := tIA_then h
  refine ⟨ι, env, st, re, rs, Out.imp ?_ o⟩
  rintro vs H1 ⟨ι1, ds, st1, rx, rs1, o1⟩
  unfold itR1 at o1
  split at o1
  · split at o1
    · rename_i hr
      obtain ⟨v, rfl, h1⟩ := Reps.one_iff.mp rx
      rw [Rep.int_iff] at h1
      exact ⟨_, by rw [h1], (r62_ok hr).1, (r62_ok hr).2, Out.val o1 walkD_range rs1⟩
    · exact o1.elim
  · exact o1.elim
theorem si_range2 {p pos : Pos} (hm : X.mg "range" = none) (ha : SA X W [a, b] mr) (hg : Gl X "range" := by rfl) (hs : starEach [a, b] X.env = [(false, eval a X.env), (false, eval b X.env)] := by rfl) (hs2 : starEach [b] X.env = [(false, eval b X.env)] := by rfl) : SI X W tg (.Call (.Name "range" p) [a, b] [] pos) (mItA itR2 mr) := by
  refine ⟨fun pins s σ H Q I h => (pi_range2 hg hm ha hs hs2).run pins s σ H Q I ?_⟩
  obtain ⟨ι, env, st, re, rs, o⟩ := tIA_then h
  refine ⟨ι, env, st, re, rs, Out.imp ?_ o⟩
  rintro vs H1 ⟨ι1, ds, st1, rx, rs1, o1⟩
  unfold itR2 at o1
  split at o1
  · split at o1
    · rename_i hr
      obtain ⟨v, v', rfl, h1, h2⟩ := Reps.two_iff.mp rx
      rw [Rep.int_iff] at h1 h2
      obtain ⟨q1, q2⟩ := Bool.and_eq_true_iff.mp hr
      exact ⟨_, _, by rw [h1, h2], ⟨(r62_ok q1).1, (r62_ok q1).2, (r62_ok q2).1, (r62_ok q2).2⟩, Out.val o1 walkD_range rs1⟩
    · exact o1.elim
  · exact o1.elim
/-- a text, sign by sign -/
def sgns (x : Str) : List D := x.cps.toList.map fun c => .str ⟨#[c]⟩
def itS (d : D) (st : Sto) : R ItD := match d with
  | .str x => .ok (sgns x, []) st
  | _ => .bad
theorem strOk_at {x : Str} (h : PyData.strOk x = true) {c : Nat} (hc : c ∈ x.cps.toList) : PyData.strOk ⟨#[c]⟩ = true := by
  unfold PyData.strOk at h ⊢
  rw [← Array.all_toList] at h ⊢
  simpa using List.all_eq_true.mp h c hc
theorem si_str (he : SE X W e me) : SI X W tg e (mIt itS me) := by
  refine ⟨fun pins s σ H Q I h => (pi_str he).run pins s σ H Q I ?_⟩
  obtain ⟨ι, env, st, re, rs, o⟩ := tI_then h
  refine ⟨ι, env, st, re, rs, Out.imp ?_ o⟩
  rintro v H1 ⟨ι1, d, st1, rx, rs1, o1⟩
  unfold itS at o1
  cases d with
  | str x =>
    obtain ⟨rfl, hk⟩ := Rep.str_iff.mp rx
    refine ⟨x, rfl, Out.val (b := Its x) o1 ?_ rs1⟩
    have hl : (sgns x).length = x.cps.size := by simp [sgns]
    refine ⟨fun i H1 hi _ => by show i < x.cps.size; rw [← hl]; exact hi, fun H1 _ => by show x.cps.size ≤ (sgns x).length; rw [hl]; exact Nat.le_refl _, fun i H1 y H2 hi _ q ι1 st1 e1 rs1 _ => ?_⟩
    obtain ⟨rfl, c, hc, rfl⟩ := q
    have hc' : x.cps.toList[i]? = some c := by rw [Array.getElem?_toList]; exact hc
    refine ⟨Ext.refl _ _, rs1, .str ⟨#[c]⟩, by simp only [sgns, List.getElem?_map, hc', Option.map_some], Rep.str_iff.mpr ⟨rfl, strOk_at hk (List.mem_of_getElem? hc')⟩⟩
  | _ => exact o1.elim
/-- enumerate of a list -/
def enumD (xs : List D) : List D := (List.range xs.length).zipWith (fun i x => .tup [.int (i : Nat), x]) xs
theorem enumD_len (xs : List D) : (enumD xs).length = xs.length := by simp [enumD]
theorem enumD_get {xs : List D} {i : Nat} {x : D} (h : xs[i]? = some x) : (enumD xs)[i]? = some (.tup [.int (i : Nat), x]) := by
  have hl := (List.getElem?_eq_some_iff.mp h).1
  simp only [enumD, List.getElem?_zipWith, List.getElem?_range hl, h]
def itEL (ds : List D) (st : Sto) : R ItD := match ds with
  | [d] => (match lstD st d with
    | some xs => .ok (enumD xs, kpOf d xs) st
    | none => .bad)
  | _ => .bad
def itET (ds : List D) (st : Sto) : R ItD := match ds with
  | [.tup xs] => .ok (enumD xs, []) st
  | _ => .bad
/-- a new pair given out -/
theorem pair_out {K : PySem.W.Frag} {ι1 : Ix} {H1 : Hp} {st1 : Sto} {T : Addr} {dx dy : D} {x y : V} (rs : RepSto K ι1 H1 st1) (hT : H1 T = none) (r1 : Rep K ι1 H1 dx x) (r2 : Rep K ι1 H1 dy y) :
    Ext ι1 H1 ι1 (upd H1 T (.tup [x, y])) ∧ RepSto K ι1 (upd H1 T (.tup [x, y])) st1 ∧ Rep K ι1 (upd H1 T (.tup [x, y])) (.tup [dx, dy]) (.ref T) :=
  ⟨Ext.new hT, rs.new hT, Rep.tup_iff.mpr ⟨T, _, rfl, .inl ⟨rs.fresh hT, upd_same⟩, .cons (r1.ext (Ext.new hT)) (.one (r2.ext (Ext.new hT)))⟩⟩
theorem si_enumL {elts : List Expr} {kk : Nat} {tpos p : Pos} (hm : X.mg "enumerate" = none) (ha : SA X W [e] mr) (hg : Gl X "enumerate" := by rfl) (hs : starEach [e] X.env = [(false, eval e X.env)] := by rfl) :
    SI X W (.Tuple elts kk tpos) (.Call (.Name "enumerate" p) [e] [] pos) (mItA itEL mr) := by
  refine ⟨fun pins s σ H Q I h => (pi_enum hg hm ha hs).run pins s σ H Q I ?_⟩
  obtain ⟨ι, env, st, re, rs, o⟩ := tIA_then h
  refine ⟨ι, env, st, re, rs, Out.imp ?_ o⟩
  rintro vs H1 ⟨ι1, ds, st1, rx, rs1, o1⟩
  unfold itEL at o1
  split at o1
  · rename_i d
    cases q : lstD st1 d with
    | none => simp only [q] at o1; exact o1.elim
    | some xs =>
      simp only [q] at o1
      obtain ⟨v, rfl, h1⟩ := Reps.one_iff.mp rx
      obtain ⟨a, us, rfl, h2, h3⟩ := lstD_at q h1 rs1
      refine ⟨a, us, rfl, h2, Out.val (b := Ite X.K a) o1 ?_ rs1⟩
      show WalkD X.K ι1 H1 (enumD xs) _ _
      refine ⟨fun i H2 hi ⟨ι2, st2, e2, rs2, k2⟩ => ?_, fun H2 ⟨ι2, st2, e2, rs2, k2⟩ => ?_, fun i H2 v H3 hi _ y ι2 st2 e2 rs2 k2 => ?_⟩
      · obtain ⟨a', us', q1, q2, q3⟩ := lstD_at (kpOf_ok q k2) (h1.ext e2) rs2
        cases q1
        exact ⟨us', us'[i]'(by rw [← q3.length, ← enumD_len]; exact hi), q2, List.getElem?_eq_getElem _⟩
      · obtain ⟨a', us', q1, q2, q3⟩ := lstD_at (kpOf_ok q k2) (h1.ext e2) rs2
        cases q1
        exact ⟨us', q2, by rw [enumD_len, q3.length]; exact Nat.le_refl _⟩
      · obtain ⟨a', us', q1, q2, q3⟩ := lstD_at (kpOf_ok q k2) (h1.ext e2) rs2
        cases q1
        obtain ⟨T, x, rfl, hT, rfl, hx⟩ := y
        have hi' : i < xs.length := by rw [← enumD_len]; exact hi
        obtain ⟨u, hu, ru⟩ := q3.get (List.getElem?_eq_getElem hi')
        have := hx us' q2
        rw [hu] at this; cases this
        obtain ⟨r1, r2, r3⟩ := pair_out rs2 hT (dx := .int (i : Nat)) (Rep.int_iff.mpr rfl) ru
        exact ⟨r1, r2, _, enumD_get (List.getElem?_eq_getElem hi'), r3⟩
  · exact o1.elim
theorem si_enumT {elts : List Expr} {kk : Nat} {tpos p : Pos} (hm : X.mg "enumerate" = none) (ha : SA X W [e] mr) (hg : Gl X "enumerate" := by rfl) (hs : starEach [e] X.env = [(false, eval e X.env)] := by rfl) :
    SI X W (.Tuple elts kk tpos) (.Call (.Name "enumerate" p) [e] [] pos) (mItA itET mr) := by
  refine ⟨fun pins s σ H Q I h => (pi_enumT hg hm ha hs).run pins s σ H Q I ?_⟩
  obtain ⟨ι, env, st, re, rs, o⟩ := tIA_then h
  refine ⟨ι, env, st, re, rs, Out.imp ?_ o⟩
  rintro vs H1 ⟨ι1, ds, st1, rx, rs1, o1⟩
  unfold itET at o1
  split at o1
  · rename_i xs
    obtain ⟨v, rfl, h1⟩ := Reps.one_iff.mp rx
    obtain ⟨a, us, rfl, h2, h3⟩ := tupD_at h1
    refine ⟨a, us, rfl, h2, Out.val (b := IteT X.K a) o1 ?_ rs1⟩
    show WalkD X.K ι1 H1 (enumD xs) _ _
    refine ⟨fun i H2 hi ⟨ι2, st2, e2, rs2, k2⟩ => ?_, fun H2 ⟨ι2, st2, e2, rs2, k2⟩ => ?_, fun i H2 v H3 hi _ y ι2 st2 e2 rs2 k2 => ?_⟩
    · obtain ⟨a', us', q1, q2, q3⟩ := tupD_at (h1.ext e2)
      cases q1
      exact ⟨us', us'[i]'(by rw [← q3.length, ← enumD_len]; exact hi), q2, List.getElem?_eq_getElem _⟩
    · obtain ⟨a', us', q1, q2, q3⟩ := tupD_at (h1.ext e2)
      cases q1
      exact ⟨us', q2, by rw [enumD_len, q3.length]⟩
    · obtain ⟨a', us', q1, q2, q3⟩ := tupD_at (h1.ext e2)
      cases q1
      obtain ⟨T, x, rfl, hT, rfl, hx⟩ := y
      have hi' : i < xs.length := by rw [← enumD_len]; exact hi
      obtain ⟨u, hu, ru⟩ := q3.get (List.getElem?_eq_getElem hi')
      have := hx us' q2
      rw [hu] at this; cases this
      obtain ⟨r1, r2, r3⟩ := pair_out rs2 hT (dx := .int (i : Nat)) (Rep.int_iff.mpr rfl) ru
      exact ⟨r1, r2, _, enumD_get (List.getElem?_eq_getElem hi'), r3⟩
  · exact o1.elim
/-- zip of two lists, of two tuples -/
def zipD (xs ys : List D) : List D := xs.zipWith (fun x y => .tup [x, y]) ys
theorem zipD_get {xs ys : List D} {i : Nat} {x y : D} (h : xs[i]? = some x) (h' : ys[i]? = some y) : (zipD xs ys)[i]? = some (.tup [x, y]) := by
  simp only [zipD, List.getElem?_zipWith, h, h']
theorem zipD_lt {xs ys : List D} {i : Nat} (h : i < (zipD xs ys).length) : i < xs.length ∧ i < ys.length := by
  simp [zipD] at h; omega
def itZ (ds : List D) (st : Sto) : R ItD := match ds with
  | [.tup xs, .tup ys] => .ok (zipD xs ys, []) st
  | [d, d'] => (match lstD st d, lstD st d' with
    | some xs, some ys => .ok (zipD xs ys, kpOf d xs ++ kpOf d' ys) st
    | _, _ => .bad)
  | _ => .bad
theorem kp_app {st : Sto} : ∀ {k k' : Kp}, (k ++ k').P st → k.P st ∧ k'.P st
  | [], k', h => ⟨trivial, h⟩
  | p :: k, k', h => ⟨⟨h.1, (kp_app (k := k) h.2).1⟩, (kp_app (k := k) h.2).2⟩
theorem si_zip {elts : List Expr} {kk : Nat} {tpos p : Pos} (hm : X.mg "zip" = none) (ha : SA X W [e, e2] mr) (hg : Gl X "zip" := by rfl)
    (hs : starEach [e, e2] X.env = (false, eval e X.env) :: starEach [e2] X.env := by rfl) (hpl : (backTo pos (starEach [e2] X.env)).any (·.1) = false := by rfl) :
    SI X W (.Tuple elts kk tpos) (.Call (.Name "zip" p) [e, e2] [] pos) (mItA itZ mr) := by
  refine ⟨fun pins s σ H Q I h => (RZ.pi_zipA hg hm ha hs hpl).run pins s σ H Q I ?_⟩
  obtain ⟨ι, env, st, re, rs, o⟩ := tIA_then h
  refine ⟨ι, env, st, re, rs, Out.imp ?_ o⟩
  rintro vs H1 ⟨ι1, ds, st1, rx, rs1, o1⟩
  unfold itZ at o1
  split at o1
  · rename_i xs ys
    obtain ⟨v, v', rfl, h1, h2⟩ := Reps.two_iff.mp rx
    obtain ⟨a, us, rfl, h3, h4⟩ := tupD_at h1
    obtain ⟨b, ws, rfl, h5, h6⟩ := tupD_at h2
    refine ⟨a, b, us, ws, rfl, .inr ⟨h3, h5, Out.val (b := RZ.ItzT X.K a b) o1 ?_ rs1⟩⟩
    show WalkD X.K ι1 H1 (zipD xs ys) _ _
    refine ⟨fun i H2 hi ⟨ι2, st2, e2, rs2, k2⟩ => ?_, fun H2 ⟨ι2, st2, e2, rs2, k2⟩ => ?_, fun i H2 v H3 hi _ y ι2 st2 e2 rs2 k2 => ?_⟩
    · obtain ⟨_, us', q1, q2, q3⟩ := tupD_at (h1.ext e2)
      cases q1
      obtain ⟨_, ws', q1, q4, q5⟩ := tupD_at (h2.ext e2)
      cases q1
      obtain ⟨l1, l2⟩ := zipD_lt hi
      exact ⟨us', ws', us'[i]'(by rw [← q3.length]; exact l1), ws'[i]'(by rw [← q5.length]; exact l2), q2, q4, List.getElem?_eq_getElem _, List.getElem?_eq_getElem _⟩
    · obtain ⟨_, us', q1, q2, q3⟩ := tupD_at (h1.ext e2)
      cases q1
      obtain ⟨_, ws', q1, q4, q5⟩ := tupD_at (h2.ext e2)
      cases q1
      refine ⟨us', ws', q2, q4, ?_⟩
      rw [← q3.length, ← q5.length]
      simp [zipD]
      omega
    · obtain ⟨_, us', q1, q2, q3⟩ := tupD_at (h1.ext e2)
      cases q1
      obtain ⟨_, ws', q1, q4, q5⟩ := tupD_at (h2.ext e2)
      cases q1
      obtain ⟨l1, l2⟩ := zipD_lt hi
      obtain ⟨T, x, z, rfl, hT, rfl, hx, hz⟩ := y
      obtain ⟨u, hu, ru⟩ := q3.get (List.getElem?_eq_getElem l1)
      obtain ⟨u2, hu2, ru2⟩ := q5.get (List.getElem?_eq_getElem l2)
      have w1 := hx us' q2
      have w2 := hz ws' q4
      rw [hu] at w1; cases w1
      rw [hu2] at w2; cases w2
      obtain ⟨r1, r2, r3⟩ := pair_out rs2 hT ru ru2
      exact ⟨r1, r2, _, zipD_get (List.getElem?_eq_getElem l1) (List.getElem?_eq_getElem l2), r3⟩
  · rename_i d d' _
    split at o1
    · rename_i xs ys g1 g2
      obtain ⟨v, v', rfl, h1, h2⟩ := Reps.two_iff.mp rx
      obtain ⟨a, us, rfl, h3, h4⟩ := lstD_at g1 h1 rs1
      obtain ⟨b, ws, rfl, h5, h6⟩ := lstD_at g2 h2 rs1
      refine ⟨a, b, us, ws, rfl, .inl ⟨h3, h5, Out.val (b := Itz X.K a b) o1 ?_ rs1⟩⟩
      show WalkD X.K ι1 H1 (zipD xs ys) _ _
      refine ⟨fun i H2 hi ⟨ι2, st2, e2, rs2, k2⟩ => ?_, fun H2 ⟨ι2, st2, e2, rs2, k2⟩ => ?_, fun i H2 v H3 hi _ y ι2 st2 e2 rs2 k2 => ?_⟩
      · obtain ⟨_, us', q1, q2, q3⟩ := lstD_at (kpOf_ok g1 (kp_app k2).1) (h1.ext e2) rs2
        cases q1
        obtain ⟨_, ws', q1, q4, q5⟩ := lstD_at (kpOf_ok g2 (kp_app k2).2) (h2.ext e2) rs2
        cases q1
        obtain ⟨l1, l2⟩ := zipD_lt hi
        exact ⟨us', ws', us'[i]'(by rw [← q3.length]; exact l1), ws'[i]'(by rw [← q5.length]; exact l2), q2, q4, List.getElem?_eq_getElem _, List.getElem?_eq_getElem _⟩
      · obtain ⟨_, us', q1, q2, q3⟩ := lstD_at (kpOf_ok g1 (kp_app k2).1) (h1.ext e2) rs2
        cases q1
        obtain ⟨_, ws', q1, q4, q5⟩ := lstD_at (kpOf_ok g2 (kp_app k2).2) (h2.ext e2) rs2
        cases q1
        refine ⟨us', ws', q2, q4, ?_⟩
        rw [← q3.length, ← q5.length]
        simp [zipD]
        omega
      · obtain ⟨_, us', q1, q2, q3⟩ := lstD_at (kpOf_ok g1 (kp_app k2).1) (h1.ext e2) rs2
        cases q1
        obtain ⟨_, ws', q1, q4, q5⟩ := lstD_at (kpOf_ok g2 (kp_app k2).2) (h2.ext e2) rs2
        cases q1
        obtain ⟨l1, l2⟩ := zipD_lt hi
        obtain ⟨T, x, z, rfl, hT, rfl, hx, hz⟩ := y
        obtain ⟨u, hu, ru⟩ := q3.get (List.getElem?_eq_getElem l1)
        obtain ⟨u2, hu2, ru2⟩ := q5.get (List.getElem?_eq_getElem l2)
        have w1 := hx us' q2
        have w2 := hz ws' q4
        rw [hu] at w1; cases w1
        rw [hu2] at w2; cases w2
        obtain ⟨r1, r2, r3⟩ := pair_out rs2 hT ru ru2
        exact ⟨r1, r2, _, zipD_get (List.getElem?_eq_getElem l1) (List.getElem?_eq_getElem l2), r3⟩
    · exact o1.elim
  · exact o1.elim
/-! ### places -/
def ixD (x y : D) (st : Sto) : R D := match y with
  | .int i => (match x with
    | .str z => if fits z.length = true then (match atI z.cps.toList i with
      | some c => .ok (.str ⟨#[c]⟩) st
      | none => .bad) else .bad
    | x => (match seqD st x with
      | some xs => (match atI xs i with
        | some d => .ok d st
        | none => .bad)
      | none => .bad))
  | _ => .bad
theorem atI_reps {K : PySem.W.Frag} {ι : Ix} {H : Hp} {ds : List D} {vs : List V} {i : Int} {d : D} (r : Reps K ι H ds vs) (h : atI ds i = some d) : ∃ v, atI vs i = some v ∧ Rep K ι H d v := by
  unfold atI at h ⊢
  rw [← r.length]
  cases q : ixN ds.length i with
  | none => rw [q] at h; cases h
  | some j =>
    rw [q] at h
    exact r.get h
theorem ix_ok {K : PySem.W.Frag} {ι : Ix} {σ : St'} {H : Hp} {Q : VK} {dx dy : D} {x y : V} {st : Sto} (rx : Rep K ι H dx x) (ry : Rep K ι H dy y) (rs : RepSto K ι H st) (o : Out K (repD K) W ι σ H Q (ixD dx dy st)) : rIx K x y H Q := by
  unfold ixD at o
  split at o
  · rename_i i
    rw [Rep.int_iff] at ry
    subst ry
    split at o
    · rename_i z
      obtain ⟨rfl, hk⟩ := Rep.str_iff.mp rx
      split at o
      · rename_i hf
        split at o
        · rename_i c hc
          have hm : c ∈ z.cps.toList := by
            obtain ⟨j, _, h2, _⟩ := atI_get hc
            exact List.mem_of_getElem? h2
          exact .inr (.inr ⟨z, i, c, rfl, rfl, fits_le hf, hc, o.ofStr rs (strOk_at hk hm)⟩)
        · exact o.elim
      · exact o.elim
    · split at o
      · rename_i xs hx
        split at o
        · rename_i d hd
          obtain ⟨a, vs, rfl, h1, h2⟩ := seqD_at hx rx rs
          obtain ⟨v, h3, h4⟩ := atI_reps h2 hd
          rcases h1 with h1 | h1
          · exact .inl ⟨a, vs, i, v, rfl, rfl, h1, h3, o.val (b := v) h4 rs⟩
          · exact .inr (.inl ⟨a, vs, i, v, rfl, rfl, h1, h3, o.val (b := v) h4 rs⟩)
        · exact o.elim
      · exact o.elim
  · exact o.elim
theorem se_ix (ha : SE X W a ma) (hb : SE X W b mb) (hs : PlainIx b := by intro _ _; rfl) : SE X W (.Subscript a b pos) (mOp ixD ma mb) := by
  refine ⟨fun pins s σ H Q I h => (pe_ix ix_seq ha hb hs).run pins s σ H Q I ?_⟩
  obtain ⟨ι, env, st, re, rs, o⟩ := h
  refine ⟨ι, env, st, re, rs, Out.imp ?_ (Out.bind (rep := repD X.K) o)⟩
  rintro v H1 ⟨ι1, d, st1, e1, rx, rs1, o1⟩
  refine ⟨ι1, env, st1, re.ext e1, rs1, Out.imp ?_ (Out.bind (rep := repD X.K) o1)⟩
  rintro u H2 ⟨ι2, d', st2, e2, ry, rs2, o2⟩
  exact ix_ok (Rep.ext e2 rx) ry rs2 o2
/-! ### parts -/
def cutG {α : Type} (xs : List α) (lo hi : Option Int) : List α := (xs.drop (HT.sIx xs.length 0 lo)).take (HT.sIx xs.length xs.length hi - HT.sIx xs.length 0 lo)
def optI (m : Option ME) : Env' → Sto → R (Option Int) := match m with
  | none => fun _ st => .ok none st
  | some m => fun env st => (m env st).bind fun d st1 => match d with
    | .int i => .ok (some i) st1
    | _ => .bad
def slD (md : Bool) (x : D) (lo hi : Option Int) (st : Sto) : R D := match x with
  | .str z => if fits z.length = true then .ok (.str (cutS z lo hi)) st else .bad
  | .tup xs => .ok (.tup (cutG xs lo hi)) st
  | x => (match lstD st x with
    | some xs => finL md (cutG xs lo hi) st
    | none => .bad)
def mSl (md : Bool) (ma : ME) (ml mh : Option ME) : ME := fun env st => (ma env st).bind fun x st1 => (optI ml env st1).bind fun lo st2 => (optI mh env st2).bind fun hi st3 => slD md x lo hi st3
theorem Reps.cut {K : PySem.W.Frag} {ι : Ix} {H : Hp} {ds : List D} {vs : List V} (r : Reps K ι H ds vs) (lo hi : Option Int) : Reps K ι H (cutG ds lo hi) (cutV vs lo hi) := by
  unfold cutG cutV
  rw [r.length]
  exact (r.drop _).take _
theorem strOk_cut {z : Str} (h : PyData.strOk z = true) (lo hi : Option Int) : PyData.strOk (cutS z lo hi) = true := by
  unfold PyData.strOk at h ⊢
  rw [← Array.all_toList] at h ⊢
  have e : ∀ c ∈ (cutS z lo hi).cps.toList, c ∈ z.cps.toList := by
    intro c hc
    have : c ∈ ((z.cps.toList.drop (HT.sIx z.length 0 lo)).take (HT.sIx z.length z.length hi - HT.sIx z.length 0 lo)) := by
      simpa [cutS] using hc
    exact List.mem_of_mem_drop (List.mem_of_mem_take this)
  rw [List.all_eq_true] at h ⊢
  exact fun c hc => h c (e c hc)
abbrev SO (X : Cx) (W : WX) (e : Option Expr) (m : Env' → Sto → R (Option Int)) : Prop := PO X e (tX X.K (fun _ _ a b => a = b) W m)
theorem so_none : SO X W none (optI none) := by
  refine ⟨fun pins s σ H Q I h => po_none.run pins s σ H Q I ?_⟩
  obtain ⟨ι, env, st, re, rs, o⟩ := h
  exact Out.val (b := (none : Option Int)) o rfl rs
theorem so_some (h : SE X W e me) : SO X W (some e) (optI (some me)) := by
  refine ⟨fun pins s σ H Q I hw => (po_some h).run pins s σ H Q I ?_⟩
  obtain ⟨ι, env, st, re, rs, o⟩ := hw
  refine ⟨ι, env, st, re, rs, Out.imp ?_ (Out.bind (rep := repD X.K) o)⟩
  rintro v H1 ⟨ι1, d, st1, e1, rx, rs1, o1⟩
  cases d with
  | int i => exact ⟨i, Rep.int_iff.mp rx, Out.val (b := some i) o1 rfl rs1⟩
  | _ => exact o1.elim
def rSlAll (K : PySem.W.Frag) : V → Option Int → Option Int → Hp → VK → Prop := fun x lo hi H Q => (rSlS x lo hi H Q ∨ rSlA K x lo hi H Q) ∨ rSlL K x lo hi H Q
theorem sl_all : SlR X (rSlAll X.K) := SlR.or (SlR.or sl_str sl_tupA) sl_list
theorem se_slice (md : Bool) {lo hi : Option Expr} {ml mh : Option ME} {p2 : Pos} (he : SE X W e me) (hl : SO X W lo (optI ml)) (hh : SO X W hi (optI mh)) : SE X W (.Subscript e (.Slice lo hi none p2) pos) (mSl md me ml mh) := by
  refine ⟨fun pins s σ H Q I h => (pe_slice sl_all he hl hh).run pins s σ H Q I ?_⟩
  obtain ⟨ι, env, st, re, rs, o⟩ := h
  refine ⟨ι, env, st, re, rs, Out.imp ?_ (Out.bind (rep := repD X.K) o)⟩
  rintro v H1 ⟨ι1, d, st1, e1, rx, rs1, o1⟩
  refine ⟨ι1, env, st1, re.ext e1, rs1, Out.imp ?_ (Out.bind (rep := fun _ _ a b => a = b) o1)⟩
  rintro lo1 H2 ⟨ι2, lo', st2, e2, rfl, rs2, o2⟩
  refine ⟨ι2, env, st2, (re.ext e1).ext e2, rs2, Out.imp ?_ (Out.bind (rep := fun _ _ a b => a = b) o2)⟩
  rintro hi1 H3 ⟨ι3, hi', st3, e3, rfl, rs3, o3⟩
  have rx3 := Rep.ext e3 (Rep.ext e2 rx)
  replace o3 : Out X.K (repD X.K) W ι3 σ H3 Q (slD md d lo' hi' st3) := o3
  unfold slD at o3
  split at o3
  · rename_i z
    obtain ⟨rfl, hk⟩ := Rep.str_iff.mp rx3
    split at o3
    · rename_i hf
      exact .inl (.inl ⟨z, rfl, fits_le hf, o3.ofStr rs3 (strOk_cut hk _ _)⟩)
    · exact o3.elim
  · rename_i xs
    obtain ⟨a, vs, rfl, h1, h2⟩ := Rep.tup_iff.mp rx3
    refine .inl (.inr ⟨a, vs, rfl, h1.sq, fun hw => ?_, fun _ => Out.newT o3 (h2.cut _ _) rs3⟩)
    have e : cutG xs lo' hi' = xs := by
      unfold cutG
      rw [h2.length, hw.1, hw.2, ← h2.length]
      simp
    rw [e] at o3
    exact o3.val (b := V.ref a) (Rep.tup_iff.mpr ⟨a, vs, rfl, h1, h2⟩) rs3
  · split at o3
    · rename_i xs hx
      obtain ⟨a, vs, rfl, h1, h2⟩ := lstD_at hx rx3 rs3
      exact .inr ⟨a, vs, rfl, h1, Out.newL o3 (h2.cut _ _) rs3⟩
    · exact o3.elim
end
end ML

set_option Elab.async false
set_option linter.all false
set_option maxRecDepth 100000
set_option maxHeartbeats 1000000
/-! ML6: comparisons, equality, in; truth; calls of builtins and of methods; stores into lists -/
namespace ML
open PySem PySem.Spec PyProof.Rows L2
section
variable {X : Cx} {W : WX} {e a b c : Expr} {es : List Expr} {me ma mb mc : ME} {mr : MA} {mt : MT} {pos : Pos}
abbrev leD := cmpD (fun i j => decide (i ≤ j)) (fun i j => !decide (j < i))
abbrev gtD := cmpD (fun i j => decide (j < i)) (fun i j => decide (j < i))
abbrev geD := cmpD (fun i j => decide (j ≤ i)) (fun i j => !decide (i < j))
theorem o2_le : Op2 X W (compareOp .LtE) leD := o2_cmp op_le op_le_str
theorem o2_gt : Op2 X W (compareOp .Gt) gtD := o2_cmp op_gt op_gt_str
theorem o2_ge : Op2 X W (compareOp .GtE) geD := o2_cmp op_ge op_ge_str
/-! ### == of data -/
def datL (f : D → Option PyData) : List D → Option (List PyData)
  | [] => some []
  | d :: r => match f d, datL f r with
    | some x, some y => some (x :: y)
    | _, _ => none
def dat (st : Sto) : Nat → D → Option PyData
  | 0, _ => none
  | n + 1, d => match d with
    | .non => some .none
    | .bl b => some (.bool b)
    | .int i => some (.int i)
    | .str x => some (.str x)
    | .tup xs => (datL (dat st n) xs).map .tuple
    | d => match lstD st d with
      | some xs => (datL (dat st n) xs).map .list
      | none => none
theorem datL_ok {K : PySem.W.Frag} {ι : Ix} {H : Hp} {f : D → Option PyData} {n : Nat} (hf : ∀ d p v, f d = some p → Rep K ι H d v → Dp K H v p ∧ p.canLay0 = true ∧ p.depth ≤ n) :
    ∀ {ds : List D} {ps : List PyData} {vs : List V}, datL f ds = some ps → Reps K ι H ds vs → DpAll K H vs ps ∧ PyData.canLayAll0 ps = true ∧ PyData.depthAll ps ≤ n
  | [], ps, vs, h, r => by
    rw [Reps.nil_iff] at r; subst r
    cases h
    exact ⟨.nil, rfl, Nat.zero_le _⟩
  | d :: ds, ps, vs, h, r => by
    rw [Reps.cons_iff] at r
    obtain ⟨v, us, rfl, h1, h2⟩ := r
    unfold datL at h
    cases q1 : f d with
    | none => simp [q1] at h
    | some x =>
      cases q2 : datL f ds with
      | none => simp [q1, q2] at h
      | some y =>
        simp [q1, q2] at h
        subst h
        obtain ⟨a1, a2, a3⟩ := hf d x v q1 h1
        obtain ⟨b1, b2, b3⟩ := datL_ok hf q2 h2
        exact ⟨.cons a1 b1, by simp [PyData.canLayAll0, a2, b2], by simp [PyData.depthAll]; omega⟩
theorem dat_ok {K : PySem.W.Frag} {ι : Ix} {H : Hp} {st : Sto} (rs : RepSto K ι H st) : ∀ (n : Nat) (d : D) (p : PyData) (v : V), dat st n d = some p → Rep K ι H d v → Dp K H v p ∧ p.canLay0 = true ∧ p.depth ≤ n
  | 0, d, p, v, h, r => by simp [dat] at h
  | n + 1, d, p, v, h, r => by
    have hl : ∀ xs, lstD st d = some xs → (datL (dat st n) xs).map PyData.list = some p → Dp K H v p ∧ p.canLay0 = true ∧ p.depth ≤ n + 1 := by
      intro xs hx hp
      obtain ⟨a, vs, rfl, h1, h2⟩ := lstD_at hx r rs
      cases q : datL (dat st n) xs with
      | none => simp [q] at hp
      | some ps =>
        simp [q] at hp
        subst hp
        obtain ⟨b1, b2, b3⟩ := datL_ok (dat_ok rs n) q h2
        exact ⟨.lst h1 b1, by simpa [PyData.canLay0] using b2, by simp [PyData.depth]; omega⟩
    cases d with
    | non => cases h; rw [Rep.non_iff] at r; subst r; exact ⟨.non, rfl, Nat.zero_le _⟩
    | bl b => cases h; rw [Rep.bl_iff] at r; subst r; exact ⟨.bl b, rfl, Nat.zero_le _⟩
    | int i => cases h; rw [Rep.int_iff] at r; subst r; exact ⟨.int i, rfl, Nat.zero_le _⟩
    | str x =>
      cases h
      obtain ⟨rfl, hk⟩ := Rep.str_iff.mp r
      exact ⟨.str x, by simpa [PyData.canLay0] using hk, Nat.zero_le _⟩
    | tup xs =>
      obtain ⟨a, vs, rfl, h1, h2⟩ := Rep.tup_iff.mp r
      have h' : (datL (dat st n) xs).map PyData.tuple = some p := h
      cases q : datL (dat st n) xs with
      | none => simp [q] at h'
      | some ps =>
        simp [q] at h'
        subst h'
        obtain ⟨b1, b2, b3⟩ := datL_ok (dat_ok rs n) q h2
        exact ⟨.tup h1.sq b1, by simpa [PyData.canLay0] using b2, by simp [PyData.depth]; omega⟩
    | lst xs => exact hl xs rfl h
    | scr ns => exact hl _ rfl h
    | ref k =>
      have h' : (match lstD st (.ref k) with | some xs => (datL (dat st n) xs).map PyData.list | none => none) = some p := h
      cases q : lstD st (.ref k) with
      | none => simp [q] at h'
      | some xs => simp only [q] at h'; exact hl xs q h'
    | _ => simp [dat, lstD] at h
def dfuel : Nat := 40
theorem dat_shaped {K : PySem.W.Frag} {ι : Ix} {H : Hp} {st : Sto} (rs : RepSto K ι H st) {d : D} {p : PyData} {v : V} (h : dat st dfuel d = some p) (r : Rep K ι H d v) : Dp K H v p ∧ SeqAt.shaped p = true := by
  obtain ⟨h1, h2, h3⟩ := dat_ok rs dfuel d p v h r
  refine ⟨h1, ?_⟩
  have : dfuel = 40 := rfl
  simp [SeqAt.shaped, h2]
  omega
/-- d = e -/
def eqD (neg : Bool) (x y : D) (st : Sto) : R D := match dat st dfuel x, dat st dfuel y with
  | some p, some q => .ok (.bl (if neg = true then !PyData.eqv p q else PyData.eqv p q)) st
  | _, _ => .bad
theorem o2_eq (hu : X.A.units + 64 < cLine) : Op2 X W (compareOp .Eq) (eqD false) := Op2.of (op_eqD hu) fun σ H x y dx dy ι st Q rx ry rs o => by
  unfold eqD at o
  cases q1 : dat st dfuel dx with
  | none => simp [q1] at o; exact o.elim
  | some p =>
    cases q2 : dat st dfuel dy with
    | none => simp [q1, q2] at o; exact o.elim
    | some q =>
      simp only [q1, q2, Bool.false_eq_true, if_false] at o
      obtain ⟨a1, a2⟩ := dat_shaped rs q1 rx
      obtain ⟨b1, b2⟩ := dat_shaped rs q2 ry
      exact ⟨p, q, a1, b1, a2, b2, o.ofBl rs⟩
theorem o2_ne (hu : X.A.units + 64 < cLine) : Op2 X W (compareOp .NotEq) (eqD true) := Op2.of (op_neD hu) fun σ H x y dx dy ι st Q rx ry rs o => by
  unfold eqD at o
  cases q1 : dat st dfuel dx with
  | none => simp [q1] at o; exact o.elim
  | some p =>
    cases q2 : dat st dfuel dy with
    | none => simp [q1, q2] at o; exact o.elim
    | some q =>
      simp only [q1, q2, if_true] at o
      obtain ⟨a1, a2⟩ := dat_shaped rs q1 rx
      obtain ⟨b1, b2⟩ := dat_shaped rs q2 ry
      exact ⟨p, q, a1, b1, a2, b2, o.ofBl rs⟩
/-! ### in -/
theorem room_in_shaped' {A : Around} {ds : List PyData} {d : PyData} (h : SeqAt.shaped d = true) (hu : A.units + 65 < cLine) : A.units + 1 + min (PyData.depthAll ds) d.depth < cLine := by
  have := SeqAt.depth_of_shaped h
  omega
def rInT (K : PySem.W.Frag) (neg : Bool) : R2 := fun x y H Q => ∃ d ds, Dp K H x d ∧ (Dp K H y (.list ds) ∨ Dp K H y (.tuple ds)) ∧ SeqAt.shaped d = true ∧ PyData.canLayAll0 ds = true ∧ Q (.bl (if neg = true then !ds.any fun z => PyData.eqv z d else ds.any fun z => PyData.eqv z d)) H
theorem op_inT (hu : X.A.units + 65 < cLine) : OpR X (compareOp .In) (rInT X.K false) := by
  intro pins s σ H x y v u Q I rx ry h
  obtain ⟨d, ds, hd, he, sd, se, q⟩ := h
  obtain ⟨as, r1⟩ := Dp.reads I d x v hd rx
  rcases he with he | he
  · obtain ⟨bs, r2⟩ := Dp.reads I (.list ds) y u he ry
    exact SeqAt.in_list_reads r2 r1 se (SeqAt.canLay_of_shaped sd) (room_in_shaped' sd hu) ⟨.bl _, H, I, rfl, q⟩
  · obtain ⟨bs, r2⟩ := Dp.reads I (.tuple ds) y u he ry
    exact SeqAt.in_tuple_reads r2 r1 se (SeqAt.canLay_of_shaped sd) (room_in_shaped' sd hu) ⟨.bl _, H, I, rfl, q⟩
theorem op_notInT (hu : X.A.units + 65 < cLine) : OpR X (compareOp .NotIn) (rInT X.K true) := by
  intro pins s σ H x y v u Q I rx ry h
  obtain ⟨d, ds, hd, he, sd, se, q⟩ := h
  obtain ⟨as, r1⟩ := Dp.reads I d x v hd rx
  rcases he with he | he
  · obtain ⟨bs, r2⟩ := Dp.reads I (.list ds) y u he ry
    exact SeqAt.notIn_list_reads r2 r1 se (SeqAt.canLay_of_shaped sd) (room_in_shaped' sd hu) ⟨.bl _, H, I, rfl, q⟩
  · obtain ⟨bs, r2⟩ := Dp.reads I (.tuple ds) y u he ry
    exact SeqAt.notIn_tuple_reads r2 r1 se (SeqAt.canLay_of_shaped sd) (room_in_shaped' sd hu) ⟨.bl _, H, I, rfl, q⟩
def occS (x y : Str) : Bool := !(Builtin.Str.occurrences y x 0 y.length 1).isEmpty
/-- x in y: texts, or data in a list or tuple of data -/
def inD (neg : Bool) (x y : D) (st : Sto) : R D := match x, y with
  | .str i, .str j => .ok (.bl (if neg = true then !occS i j else occS i j)) st
  | x, y => match dat st dfuel x, dat st dfuel y with
    | some p, some (.list qs) => .ok (.bl (if neg = true then !qs.any fun z => PyData.eqv z p else qs.any fun z => PyData.eqv z p)) st
    | some p, some (.tuple qs) => .ok (.bl (if neg = true then !qs.any fun z => PyData.eqv z p else qs.any fun z => PyData.eqv z p)) st
    | _, _ => .bad
theorem o2_in_aux {sem : Value → Value → Sem Value} {neg : Bool} (h1 : OpR X sem (fun x y H Q => ∃ i j, x = .str i ∧ y = .str j ∧ Q (.bl (if neg = true then !occS i j else occS i j)) H)) (h2 : OpR X sem (rInT X.K neg)) : Op2 X W sem (inD neg) :=
  Op2.of (OpR.or h1 h2) fun σ H x y dx dy ι st Q rx ry rs o => by
    unfold inD at o
    split at o
    · exact .inl ⟨_, _, (Rep.str_iff.mp rx).1, (Rep.str_iff.mp ry).1, o.ofBl rs⟩
    · split at o
      · rename_i q1 q2
        obtain ⟨a1, a2⟩ := dat_shaped rs q1 rx
        obtain ⟨b1, b2⟩ := dat_shaped rs q2 ry
        exact .inr ⟨_, _, a1, .inl b1, a2, SeqAt.canLay_of_shaped b2, o.ofBl rs⟩
      · rename_i q1 q2
        obtain ⟨a1, a2⟩ := dat_shaped rs q1 rx
        obtain ⟨b1, b2⟩ := dat_shaped rs q2 ry
        exact .inr ⟨_, _, a1, .inr b1, a2, SeqAt.canLay_of_shaped b2, o.ofBl rs⟩
      · exact o.elim
theorem o2_in (hu : X.A.units + 65 < cLine) : Op2 X W (compareOp .In) (inD false) := o2_in_aux op_in_str (op_inT hu)
theorem o2_notin (hu : X.A.units + 65 < cLine) : Op2 X W (compareOp .NotIn) (inD true) := o2_in_aux op_notin_str (op_notInT hu)
/-! ### is None -/
def isNon : D → Bool
  | .non => true
  | _ => false
theorem isNon_iff {K : PySem.W.Frag} {ι : Ix} {H : Hp} {d : D} {v : V} (r : Rep K ι H d v) : decide (v = .non) = isNon d := by
  cases d with
  | non => rw [Rep.non_iff] at r; subst r; rfl
  | bl b => rw [Rep.bl_iff] at r; subst r; rfl
  | int b => rw [Rep.int_iff] at r; subst r; rfl
  | str b => obtain ⟨rfl, _⟩ := Rep.str_iff.mp r; rfl
  | _ =>
    simp only [Rep] at r
    obtain ⟨a, r⟩ := r
    have : ∃ a, v = .ref a := by
      first
      | exact ⟨a, r.2⟩
      | exact ⟨a, r.1⟩
      | (obtain ⟨x, r⟩ := r; exact ⟨a, r.1⟩)
      | (obtain ⟨x, y, r⟩ := r; exact ⟨a, r.1⟩)
    obtain ⟨a, rfl⟩ := this
    rfl
def isnD (neg : Bool) (x y : D) (st : Sto) : R D := match y with
  | .non => .ok (.bl (if neg = true then !isNon x else isNon x)) st
  | _ => .bad
theorem o2_is : Op2 X W (compareOp .Is) (isnD false) := Op2.of op_isN1 fun σ H x y dx dy ι st Q rx ry rs o => by
  unfold isnD at o
  split at o
  · refine ⟨Rep.non_iff.mp ry, ?_⟩
    rw [isNon_iff rx]
    exact o.ofBl rs
  · exact o.elim
theorem o2_isnot : Op2 X W (compareOp .IsNot) (isnD true) := Op2.of op_notN1 fun σ H x y dx dy ι st Q rx ry rs o => by
  unfold isnD at o
  split at o
  · refine ⟨Rep.non_iff.mp ry, ?_⟩
    rw [isNon_iff rx]
    exact o.ofBl rs
  · exact o.elim
/-! ### truth of values -/
def truD (d : D) (st : Sto) : Option Bool := match d with
  | .non => some false
  | .bl b => some b
  | .int i => some (i != 0)
  | .str x => if fits x.length = true then some ((x.length : Int) != 0) else none
  | d => match seqD st d with
    | some xs => some (!xs.isEmpty)
    | none => none
theorem reps_empty {K : PySem.W.Frag} {ι : Ix} {H : Hp} {ds : List D} {vs : List V} (r : Reps K ι H ds vs) : vs.isEmpty = ds.isEmpty := by
  have := r.length
  cases ds <;> cases vs <;> simp_all
theorem truD_ok {K : PySem.W.Frag} {ι : Ix} {H : Hp} {st : Sto} {d : D} {v : V} {k : Bool} (rs : RepSto K ι H st) (r : Rep K ι H d v) (h : truD d st = some k) : TruV K v H k := by
  have seq : ∀ xs, seqD st d = some xs → some (!xs.isEmpty) = some k → TruV K v H k := by
    intro xs hx hk
    cases hk
    obtain ⟨a, vs, rfl, h1, h2⟩ := seqD_at hx r rs
    rcases h1 with h1 | h1
    · exact .inl ⟨vs, h1, by rw [reps_empty h2]⟩
    · exact .inr (.inl ⟨vs, h1, by rw [reps_empty h2]⟩)
  unfold truD at h
  split at h
  · cases h; rw [Rep.non_iff] at r; subst r; exact rfl
  · cases h; rw [Rep.bl_iff] at r; subst r; exact rfl
  · cases h; rw [Rep.int_iff] at r; subst r; exact rfl
  · split at h
    · rename_i hf
      cases h
      obtain ⟨rfl, _⟩ := Rep.str_iff.mp r
      exact ⟨fits_le hf, rfl⟩
    · cases h
  · split at h
    · rename_i xs hx; exact seq xs hx h
    · cases h
def truR (d : D) (st : Sto) : R Bool := match truD d st with
  | some b => .ok b st
  | none => .bad
def mTru (m : ME) : MT := fun env st => (m env st).bind truR
theorem st_tru {m : ME} (h : SE X W e m) (he : ∀ whole, isTrue e X.env whole = (do let v ← whole; standAt e.pos; holding [v] (truthy v)) := by intro _; rfl) : ST X W e (mTru m) := by
  refine ⟨fun pins s σ H Q I hw => (pt_truth h he).run pins s σ H Q I ?_⟩
  obtain ⟨ι, env, st, re, rs, o⟩ := hw
  refine ⟨ι, env, st, re, rs, Out.imp ?_ (Out.bind (rep := repD X.K) o)⟩
  rintro v H1 ⟨ι1, d, st1, e1, rx, rs1, o1⟩
  unfold truR at o1
  cases q : truD d st1 with
  | none => simp only [q] at o1; exact o1.elim
  | some k =>
    simp only [q] at o1
    exact ⟨k, truD_ok rs1 rx q, o1.val (b := k) (show repB ι1 H1 k k from rfl) rs1⟩
def mAndV (ma mb : ME) : ME := fun env st => (ma env st).bind fun d st1 => match truD d st1 with
  | some true => mb env st1
  | some false => .ok d st1
  | none => .bad
def mOrV (ma mb : ME) : ME := fun env st => (ma env st).bind fun d st1 => match truD d st1 with
  | some true => .ok d st1
  | some false => mb env st1
  | none => .bad
def mNotV (ma : ME) : ME := fun env st => (ma env st).bind fun d st1 => match truD d st1 with
  | some k => .ok (.bl (!k)) st1
  | none => .bad
variable {rest : List Expr}
theorem se_and1 (h : SE X W a ma) : SE X W (.BoolOp .And [a] pos) ma := pe_one h
theorem se_or1 (h : SE X W a ma) : SE X W (.BoolOp .Or [a] pos) ma := pe_one h
theorem se_and (ha : SE X W a ma) (hb : SE X W (.BoolOp .And (b :: rest) pos) mb) : SE X W (.BoolOp .And (a :: b :: rest) pos) (mAndV ma mb) := by
  refine ⟨fun pins s σ H Q I h => (pe_andT ha hb).run pins s σ H Q I ?_⟩
  obtain ⟨ι, env, st, re, rs, o⟩ := h
  refine ⟨ι, env, st, re, rs, Out.imp ?_ (Out.bind (rep := repD X.K) o)⟩
  rintro v H1 ⟨ι1, d, st1, e1, rx, rs1, o1⟩
  dsimp only at o1
  split at o1
  · rename_i q
    exact ⟨true, truD_ok rs1 rx q, by rw [if_pos rfl]; exact ⟨ι1, env, st1, re.ext e1, rs1, o1⟩⟩
  · rename_i q
    exact ⟨false, truD_ok rs1 rx q, by rw [if_neg Bool.false_ne_true]; exact o1.val (b := v) rx rs1⟩
  · exact o1.elim
theorem se_or (ha : SE X W a ma) (hb : SE X W (.BoolOp .Or (b :: rest) pos) mb) : SE X W (.BoolOp .Or (a :: b :: rest) pos) (mOrV ma mb) := by
  refine ⟨fun pins s σ H Q I h => (pe_orT ha hb).run pins s σ H Q I ?_⟩
  obtain ⟨ι, env, st, re, rs, o⟩ := h
  refine ⟨ι, env, st, re, rs, Out.imp ?_ (Out.bind (rep := repD X.K) o)⟩
  rintro v H1 ⟨ι1, d, st1, e1, rx, rs1, o1⟩
  dsimp only at o1
  split at o1
  · rename_i q
    exact ⟨true, truD_ok rs1 rx q, by rw [if_pos rfl]; exact o1.val (b := v) rx rs1⟩
  · rename_i q
    exact ⟨false, truD_ok rs1 rx q, by rw [if_neg Bool.false_ne_true]; exact ⟨ι1, env, st1, re.ext e1, rs1, o1⟩⟩
  · exact o1.elim
theorem se_not (ha : SE X W a ma) : SE X W (.UnaryOp .Not a pos) (mNotV ma) := by
  refine ⟨fun pins s σ H Q I h => (pe_notT ha).run pins s σ H Q I ?_⟩
  obtain ⟨ι, env, st, re, rs, o⟩ := h
  refine ⟨ι, env, st, re, rs, Out.imp ?_ (Out.bind (rep := repD X.K) o)⟩
  rintro v H1 ⟨ι1, d, st1, e1, rx, rs1, o1⟩
  dsimp only at o1
  split at o1
  · rename_i k q
    exact ⟨k, truD_ok rs1 rx q, o1.ofBl rs1⟩
  · exact o1.elim
def mIfE (mt : MT) (ma mb : ME) : ME := fun env st => (mt env st).bind fun c st1 => if c = true then ma env st1 else mb env st1
theorem se_ife (hc : ST X W c mt) (ha : SE X W a ma) (hb : SE X W b mb) : SE X W (.IfExp c a b pos) (mIfE mt ma mb) := by
  refine ⟨fun pins s σ H Q I h => (pe_ifExp hc ha hb).run pins s σ H Q I ?_⟩
  obtain ⟨ι, env, st, re, rs, o⟩ := h
  refine ⟨ι, env, st, re, rs, Out.imp ?_ (Out.bind (rep := repB) o)⟩
  rintro k H1 ⟨ι1, k', st1, e1, rx, rs1, o1⟩
  obtain rfl : k' = k := rx
  cases k' with
  | true => rw [if_pos rfl]; dsimp only at o1; rw [if_pos rfl] at o1; exact ⟨ι1, env, st1, re.ext e1, rs1, o1⟩
  | false => rw [if_neg Bool.false_ne_true]; dsimp only at o1; rw [if_neg Bool.false_ne_true] at o1; exact ⟨ι1, env, st1, re.ext e1, rs1, o1⟩
/-! ### calls of builtins -/
abbrev FA := List D → Sto → R D
def mArg (F : FA) (mr : MA) : ME := fun env st => (mr env st).bind F
variable {F : FA} {x : Str} {p : Pos} {id T : String}
theorem arg_run {pins : List (Addr × Obj)} {s : Shared} {σ : St'} {H : Hp} {Q : VK} {v : Value} (ho : OpN X W v F) (ha : SA X W es mr) (I : Inv X pins σ H s) (h : tE X.K W (mArg F mr) σ H Q) :
    wpAny (model X.prog X.w) X.A (spliced (backTo pos (starEach es X.env))) (fun us s1 => wpAny (model X.prog X.w) X.A (call v us) (EP X pins σ Q) X.xe s1) X.xe s := by
  refine thn (ha.run pos pins s σ H _ I (tA_then h)) fun us s1 ⟨vs, H1, I1, r1, ι1, ds, st1, rx, rs1, o1⟩ => ?_
  exact ho pins s1 σ H1 vs us ds ι1 st1 Q I1 r1 rx rs1 o1
theorem se_callB (id : String) (ho : OpN X W (.builtin id) F) (hm : X.mg x = none) (ha : SA X W (e :: es) mr) (hg : Gl X x := by rfl) (hv : bootBuiltins x = some (.builtin id) := by rfl) (hn : x ≠ "__name__" := by decide) (hdb : (x == ("__debug__" : Str)) = false := by decide)
    (he : starEach (e :: es) X.env = (false, eval e X.env) :: starEach es X.env := by rfl) (hpl : (backTo pos (starEach es X.env)).any (·.1) = false := by rfl) : SE X W (.Call (.Name x p) (e :: es) [] pos) (mArg F mr) := by
  refine ⟨fun pins s σ H Q I h => ?_⟩
  refine wpAny_Call_Name_kw (ld_blt I hg hm hv ?_ hn hdb)
  exact PyProof.Rows.callWith_builtin1 (arg_run ho ha I h) he hpl
theorem se_callTy (T : String) (ho : OpN X W (.type T) F) (hm : X.mg x = none) (ha : SA X W (e :: es) mr) (hg : Gl X x := by rfl) (hv : bootBuiltins x = some (.type T) := by rfl) (hn : x ≠ "__name__" := by decide) (hdb : (x == ("__debug__" : Str)) = false := by decide)
    (he : starEach (e :: es) X.env = (false, eval e X.env) :: starEach es X.env := by rfl) (hpl : (backTo pos (starEach es X.env)).any (·.1) = false := by rfl) : SE X W (.Call (.Name x p) (e :: es) [] pos) (mArg F mr) := by
  refine ⟨fun pins s σ H Q I h => ?_⟩
  refine wpAny_Call_Name_kw (ld_blt I hg hm hv ?_ hn hdb)
  exact PyProof.Rows.callWith_type1 (arg_run ho ha I h) he hpl
/-- len -/
def lenF : FA := fun ds st => match ds with
  | [.str x] => if fits x.length = true then .ok (.int x.length) st else .bad
  | [d] => (match seqD st d with
    | some xs => .ok (.int xs.length) st
    | none => .bad)
  | _ => .bad
theorem on_len : OpN X W (.builtin "len") lenF := OpN.of (CallR.or call_len_str call_len_seq) fun σ H xs ds ι st Q rx rs o => by
  unfold lenF at o
  split at o
  · split at o
    · rename_i hf
      obtain ⟨v, rfl, h1⟩ := Reps.one_iff.mp rx
      obtain ⟨rfl, _⟩ := Rep.str_iff.mp h1
      exact .inl ⟨_, rfl, fits_le hf, o.ofInt rs⟩
    · exact o.elim
  · split at o
    · rename_i ys hy
      obtain ⟨v, rfl, h1⟩ := Reps.one_iff.mp rx
      obtain ⟨a, vs, rfl, h2, h3⟩ := seqD_at hy h1 rs
      refine .inr ⟨a, vs, rfl, h2, ?_⟩
      rw [← h3.length]
      exact o.ofInt rs
    · exact o.elim
  · exact o.elim
def absF : FA := fun ds st => match ds with
  | [.int i] => .ok (.int (if i < 0 then -i else i)) st
  | _ => .bad
theorem on_abs : OpN X W (.builtin "abs") absF := OpN.of call_abs fun σ H xs ds ι st Q rx rs o => by
  unfold absF at o
  split at o
  · obtain ⟨v, rfl, h1⟩ := Reps.one_iff.mp rx
    rw [Rep.int_iff] at h1; subst h1
    exact ⟨_, rfl, o.ofInt rs⟩
  · exact o.elim
def intF : FA := fun ds st => match ds with
  | [.int i] => .ok (.int i) st
  | [.bl k] => .ok (.int (if k then 1 else 0)) st
  | _ => .bad
theorem on_int : OpN X W (.type "int") intF := OpN.of call_int1 fun σ H xs ds ι st Q rx rs o => by
  unfold intF at o
  split at o
  · obtain ⟨v, rfl, h1⟩ := Reps.one_iff.mp rx
    rw [Rep.int_iff] at h1; subst h1
    exact .inl ⟨_, rfl, o.ofInt rs⟩
  · obtain ⟨v, rfl, h1⟩ := Reps.one_iff.mp rx
    rw [Rep.bl_iff] at h1; subst h1
    exact .inr ⟨_, rfl, o.ofInt rs⟩
  · exact o.elim
/-- the bools of a list -/
def blsD : List D → Option (List Bool)
  | [] => some []
  | .bl b :: r => (blsD r).map (b :: ·)
  | _ :: _ => none
theorem blsD_ok {K : PySem.W.Frag} {ι : Ix} {H : Hp} : ∀ {ds : List D} {bs : List Bool} {vs : List V}, blsD ds = some bs → Reps K ι H ds vs → vs = bs.map V.bl
  | [], bs, vs, h, r => by rw [Reps.nil_iff] at r; subst r; cases h; rfl
  | .bl b :: ds, bs, vs, h, r => by
    rw [Reps.cons_iff] at r
    obtain ⟨v, us, rfl, h1, h2⟩ := r
    rw [Rep.bl_iff] at h1; subst h1
    unfold blsD at h
    cases q : blsD ds with
    | none => simp [q] at h
    | some cs =>
      simp [q] at h; subst h
      rw [blsD_ok q h2]; rfl
  | .non :: _, bs, vs, h, r => by simp [blsD] at h
  | .int _ :: _, bs, vs, h, r => by simp [blsD] at h
  | .str _ :: _, bs, vs, h, r => by simp [blsD] at h
  | .tup _ :: _, bs, vs, h, r => by simp [blsD] at h
  | .lst _ :: _, bs, vs, h, r => by simp [blsD] at h
  | .dic _ _ :: _, bs, vs, h, r => by simp [blsD] at h
  | .obj _ _ _ :: _, bs, vs, h, r => by simp [blsD] at h
  | .exn _ _ _ :: _, bs, vs, h, r => by simp [blsD] at h
  | .ref _ :: _, bs, vs, h, r => by simp [blsD] at h
  | .scr _ :: _, bs, vs, h, r => by simp [blsD] at h
def bls1 (f : List Bool → Bool) : FA := fun ds st => match ds with
  | [d] => (match lstD st d with
    | some xs => (match blsD xs with
      | some bs => .ok (.bl (f bs)) st
      | none => .bad)
    | none => .bad)
  | _ => .bad
theorem bls1_ok {f : List Bool → Bool} {ι : Ix} {H : Hp} {st : Sto} {σ : St'} {xs : List V} {ds : List D} {Q : VK} (rx : Reps X.K ι H ds xs) (rs : RepSto X.K ι H st) (o : Out X.K (repD X.K) W ι σ H Q (bls1 f ds st)) :
    ∃ (a : Addr) (bs : List Bool), xs = [V.ref a] ∧ SqL X.K H a (bs.map V.bl) ∧ Q (.bl (f bs)) H := by
  unfold bls1 at o
  split at o
  · split at o
    · rename_i ys hy
      split at o
      · rename_i bs hb
        obtain ⟨v, rfl, h1⟩ := Reps.one_iff.mp rx
        obtain ⟨a, vs, rfl, h2, h3⟩ := lstD_at hy h1 rs
        rw [blsD_ok hb h3] at h2
        exact ⟨a, bs, rfl, h2, o.ofBl rs⟩
      · exact o.elim
    · exact o.elim
  · exact o.elim
abbrev allF : FA := bls1 fun bs => bs.all _root_.id
abbrev anyF : FA := bls1 fun bs => bs.any _root_.id
theorem on_all (hc : X.calm = true) : OpN X W (.builtin "all") allF := OpN.of (cr_all hc) fun σ H xs ds ι st Q rx rs o => bls1_ok rx rs o
theorem on_any (hc : X.calm = true) : OpN X W (.builtin "any") anyF := OpN.of (cr_any hc) fun σ H xs ds ι st Q rx rs o => bls1_ok rx rs o
/-- list(x), tuple(x) of a list or tuple -/
def listF (md : Bool) : FA := fun ds st => match ds with
  | [d] => (match seqD st d with
    | some xs => finL md xs st
    | none => .bad)
  | _ => .bad
theorem on_list (md : Bool) : OpN X W (.type "list") (listF md) := OpN.of call_list_of fun σ H xs ds ι st Q rx rs o => by
  unfold listF at o
  split at o
  · split at o
    · rename_i ys hy
      obtain ⟨v, rfl, h1⟩ := Reps.one_iff.mp rx
      obtain ⟨a, vs, rfl, h2, h3⟩ := seqD_at hy h1 rs
      exact ⟨a, vs, rfl, h2, Out.newL o h3 rs⟩
    · exact o.elim
  · exact o.elim
def tupleF : FA := fun ds st => match ds with
  | [.tup xs] => .ok (.tup xs) st
  | [d] => (match lstD st d with
    | some xs => .ok (.tup xs) st
    | none => .bad)
  | _ => .bad
theorem on_tuple : OpN X W (.type "tuple") tupleF := OpN.of call_tuple_of fun σ H xs ds ι st Q rx rs o => by
  unfold tupleF at o
  split at o
  · obtain ⟨v, rfl, h1⟩ := Reps.one_iff.mp rx
    obtain ⟨a, vs, rfl, h2, h3⟩ := Rep.tup_iff.mp h1
    exact ⟨a, vs, rfl, .inr ⟨h2.sq, o.val (b := V.ref a) h1 rs⟩⟩
  · split at o
    · rename_i ys hy
      obtain ⟨v, rfl, h1⟩ := Reps.one_iff.mp rx
      obtain ⟨a, vs, rfl, h2, h3⟩ := lstD_at hy h1 rs
      exact ⟨a, vs, rfl, .inl ⟨h2, Out.newT o h3 rs⟩⟩
    · exact o.elim
  · exact o.elim
/-- str of an int, of a text -/
def strF : FA := fun ds st => match ds with
  | [.int i] => if Nat.blt i.natAbs.log2 1920 = true then .ok (.str (toString i)) st else .bad
  | [.str x] => .ok (.str x) st
  | _ => .bad
end
end ML

set_option Elab.async false
set_option linter.all false
set_option maxRecDepth 100000
set_option maxHeartbeats 1000000
/-! ML7: methods of lists and texts; stores into lists; several targets -/
namespace ML
open PySem PySem.Spec PyProof.Rows L2
section
variable {K : PySem.W.Frag} {W : WX} {ι : Ix} {σ : St'} {H : Hp}
/-- a cell is written -/
theorem Out.wr {α β : Type} {rep : RepT α β} {Q : β → Hp → Prop} {d : α} {v : β} {st : Sto} {n : Nat} {p : Addr} {o : HO} {c : Cell} (h : Out K rep W ι σ H Q (.ok d (st.set n c))) (rs : RepSto K ι H st) (hp : ι.c[n]? = some p)
    (hc : CellAt K ι (upd H p o) p c) (r : rep ι (upd H p o) d v) : Q v (upd H p o) :=
  h v ι _ (Ext.write (List.mem_of_getElem? hp)) r (rs.write hp hc)
theorem Reps.wr {n : Nat} {p : Addr} {o : HO} {ds : List D} {vs : List V} (hp : ι.c[n]? = some p) (r : Reps K ι H ds vs) : Reps K ι (upd H p o) ds vs := r.ext (Ext.write (List.mem_of_getElem? hp))
theorem Rep.wr {n : Nat} {p : Addr} {o : HO} {d : D} {v : V} (hp : ι.c[n]? = some p) (r : Rep K ι H d v) : Rep K ι (upd H p o) d v := r.ext (Ext.write (List.mem_of_getElem? hp))
/-- the list in a cell -/
def cellL (st : Sto) (d : D) : Option (Nat × List D) := match d with
  | .ref n => (match st[n]? with
    | some (.lst xs) => some (n, xs)
    | _ => none)
  | _ => none
theorem cellL_at {st : Sto} {d : D} {v : V} {n : Nat} {xs : List D} (h : cellL st d = some (n, xs)) (r : Rep K ι H d v) (rs : RepSto K ι H st) : ∃ a vs, ι.c[n]? = some a ∧ v = .ref a ∧ H a = some (.lst vs) ∧ Reps K ι H xs vs ∧ d = .ref n ∧ st[n]? = some (.lst xs) := by
  unfold cellL at h
  split at h
  · split at h
    · rename_i q
      cases h
      obtain ⟨a, ha, rfl⟩ := Rep.ref_iff.mp r
      obtain ⟨vs, h1, h2⟩ := rs.at_ _ _ a q ha
      exact ⟨a, vs, ha, rfl, h1, h2, rfl, q⟩
    · cases h
  · cases h
end
section
variable {X : Cx} {W : WX} {e a b c : Expr} {es : List Expr} {me ma mb mc mo : ME} {mr : MA} {mt : MT} {pos : Pos}
/-! ### methods -/
abbrev FM := D → List D → Sto → R D
def OpM (X : Cx) (W : WX) (id : String) (F : FM) : Prop :=
  ∀ (pins : List (Addr × Obj)) (s : Shared) (σ : St') (H : Hp) (x : V) (xs : List V) (v : Value) (us : List Value) (dx : D) (ds : List D) (ι : Ix) (st : Sto) (Q : VK), Inv X pins σ H s → RelV x v → Vals xs us → Rep X.K ι H dx x → Reps X.K ι H ds xs → RepSto X.K ι H st →
    Out X.K (repD X.K) W ι σ H Q (F dx ds st) → wpAny (model X.prog X.w) X.A (call (.builtin id) (v :: us)) (EP X pins σ Q) X.xe s
theorem OpM.of {id : String} {F : FM} {r : V → List V → Hp → VK → Prop} (h : MtR X id r)
    (l : ∀ (σ : St') (H : Hp) (x : V) (xs : List V) (dx : D) (ds : List D) (ι : Ix) (st : Sto) (Q : VK), Rep X.K ι H dx x → Reps X.K ι H ds xs → RepSto X.K ι H st → Out X.K (repD X.K) W ι σ H Q (F dx ds st) → r x xs H Q) : OpM X W id F :=
  fun pins s σ H x xs v us dx ds ι st Q I r1 r2 rx ry rs o => h pins s σ H x xs v us Q I r1 r2 (l σ H x xs dx ds ι st Q rx ry rs o)
/-- the receiver is of the type -/
structure Recv (T : String) (g : D → Sto → Bool) : Prop where
  ty : ∀ {K : PySem.W.Frag} {ι : Ix} {H : Hp} {d : D} {v : V} {st : Sto}, g d st = true → Rep K ι H d v → RepSto K ι H st → tyV K T v H
def isStr (d : D) (_ : Sto) : Bool := match d with
  | .str _ => true
  | _ => false
def isLst (d : D) (st : Sto) : Bool := (lstD st d).isSome
theorem recv_str : Recv "str" isStr := ⟨fun {K ι H d v st} h r _ => by
  unfold isStr at h
  split at h
  · obtain ⟨rfl, _⟩ := Rep.str_iff.mp r; exact rfl
  · cases h⟩
theorem recv_lst : Recv "list" isLst := ⟨fun {K ι H d v st} h r rs => by
  unfold isLst at h
  cases q : lstD st d with
  | none => simp [q] at h
  | some xs =>
    obtain ⟨a, vs, rfl, h1, _⟩ := lstD_at q r rs
    exact .inl ⟨rfl, vs, h1⟩⟩
def mMet (g : D → Sto → Bool) (F : FM) (mo : ME) (mr : MA) : ME := fun env st => (mo env st).bind fun x st1 => if g x st1 = true then (mr env st1).bind fun ds st2 => F x ds st2 else .bad
variable {o : Expr} {name : Str} {T id : String} {g : D → Sto → Bool} {F : FM} {apos cpos : Pos}
theorem se_met0 (pa : PlainAttrs T) (slot : Slot T name id) (hty : typeOf (.builtin id) = pure (.type "method_descriptor")) (rc : Recv T g) (hm : OpM X W id F) (ho : SE X W o mo)
    (hbase : attributeBase o name X.env (eval o X.env) = eval o X.env := by rfl) (hline : (apos.endLine == cpos.line) = true := by rfl) : SE X W (.Call (.Attribute o name apos) [] [] cpos) (mMet g F mo mNil) := by
  refine ⟨fun pins s σ H Q I h => ?_⟩
  obtain ⟨ι, env, st, re, rs, out⟩ := h
  refine wpAny_Call_method0_late hbase hline (thn (ho.run pins s σ H _ I ⟨ι, env, st, re, rs, Out.bind (rep := repD X.K) out⟩) fun v s1 ⟨x, H1, I1, r1, ι1, dx, st1, e1, rx, rs1, o1⟩ => ?_)
  dsimp only at o1
  split at o1
  · rename_i hg
    obtain ⟨h1, h2⟩ := tyV_is I1 r1 (rc.ty hg rx rs1)
    exact ⟨T, id, pa, slot, hty, h1, h2, Calls.callWith_builtin rfl (PySem.evalArgs_none (hm pins s1 σ H1 x [] v [] dx [] ι1 st1 Q I1 r1 .nil rx .nil rs1 o1))⟩
  · exact o1.elim
theorem se_met (pa : PlainAttrs T) (slot : Slot T name id) (hty : typeOf (.builtin id) = pure (.type "method_descriptor")) (rc : Recv T g) (hm : OpM X W id F) (ho : SE X W o mo) (ha : SA X W (e :: es) mr)
    (hbase : attributeBase o name X.env (eval o X.env) = eval o X.env := by rfl)
    (hfew : ((backTo cpos (starEach (e :: es) X.env)).all (fun x => !x.1) && (backToKw cpos (keywordEach [] X.env)).all (fun x => x.1.isSome)
      && decide ((e :: es).length + ([] : List Keyword).length + (if ([] : List Keyword).isEmpty then 0 else 1) < 30)) = true := by rfl)
    (hline : (apos.endLine == cpos.line) = true := by rfl) (hs : starEach (e :: es) X.env = (false, eval e X.env) :: starEach es X.env := by rfl) (hplain : (backTo cpos (starEach es X.env)).any (·.1) = false := by rfl) :
    SE X W (.Call (.Attribute o name apos) (e :: es) [] cpos) (mMet g F mo mr) := by
  refine ⟨fun pins s σ H Q I h => ?_⟩
  have key : ∀ (x : V) (v : Value) (s1 : Shared) (H1 : Hp) (dx : D) (ι1 : Ix) (st1 : Sto) (env : Env'), Inv X pins σ H1 s1 → RelV x v → Rep X.K ι1 H1 dx x → RepEnv X.K ι1 H1 env σ → RepSto X.K ι1 H1 st1 →
      Out X.K (repD X.K) W ι1 σ H1 Q ((mr env st1).bind fun ds st2 => F dx ds st2) →
      tA X.K W mr σ H1 (fun vs H2 => ∃ ι2 ds st2, Reps X.K ι2 H2 ds vs ∧ RepSto X.K ι2 H2 st2 ∧ Rep X.K ι2 H2 dx x ∧ Out X.K (repD X.K) W ι2 σ H2 Q (F dx ds st2)) := by
    intro x v s1 H1 dx ι1 st1 env I1 r1 rx re1 rs1 o1
    refine ⟨ι1, env, st1, re1, rs1, Out.imp ?_ (Out.bind (rep := repL X.K) o1)⟩
    rintro vs H2 ⟨ι2, ds, st2, e2, ry, rs2, o2⟩
    exact ⟨ι2, ds, st2, ry, rs2, Rep.ext e2 rx, o2⟩
  obtain ⟨ι, env, st, re, rs, out⟩ := h
  refine wpAny_Call_method_late hbase hfew hline rfl (thn (ho.run pins s σ H _ I ⟨ι, env, st, re, rs, Out.bind (rep := repD X.K) out⟩) fun v s1 ⟨x, H1, I1, r1, ι1, dx, st1, e1, rx, rs1, o1⟩ => ?_)
  dsimp only at o1
  split at o1
  · rename_i hg
    obtain ⟨h1, h2⟩ := tyV_is I1 r1 (rc.ty hg rx rs1)
    refine ⟨T, id, pa, slot, hty, h1, h2, ?_⟩
    have hA := ha.run cpos pins s1 σ H1 _ I1 (key x v s1 H1 dx ι1 st1 env I1 r1 rx (re.ext e1) rs1 o1)
    rw [hs] at hA ⊢
    refine Calls.callWith_builtin (by show (false || (backTo cpos (starEach es X.env)).any (·.1)) = false; rw [hplain] <;> rfl) (Calls.evalArgs_plain ?_)
    exact thn hA fun us s2 ⟨vs, H2, I2, r2, ι2, ds, st2, ry, rs2, rx2, o2⟩ => hm pins s2 σ H2 x vs v us dx ds ι2 st2 Q I2 r1 r2 rx2 ry rs2 o2
  · exact o1.elim
/-! lists -/
def fAppend : FM := fun x ds st => match ds with
  | [y] => (match cellL st x with
    | some (n, xs) => if fits (xs.length + 1) = true then .ok .non (st.set n (.lst (xs ++ [y]))) else .bad
    | none => .bad)
  | _ => .bad
theorem om_append : OpM X W "list.append" fAppend := OpM.of mt_append fun σ H x xs dx ds ι st Q rx ry rs o => by
  unfold fAppend at o
  split at o
  · split at o
    · rename_i y _ n zs hz
      split at o
      · rename_i hf
        obtain ⟨v, rfl, h1⟩ := Reps.one_iff.mp ry
        obtain ⟨a, vs, ha, rfl, hH, hr, rfl, hq⟩ := cellL_at hz rx rs
        have hl := fits_le hf
        exact ⟨a, vs, v, rfl, rfl, hH, by rw [← hr.length]; omega, o.wr (v := V.non) rs ha ⟨_, upd_same, (hr.append (.one h1)).wr ha⟩ (Rep.non_iff.mpr rfl)⟩
      · exact o.elim
    · exact o.elim
  · exact o.elim
def fPop : FM := fun x ds st => match ds with
  | [] => (match cellL st x with
    | some (n, xs) => (match xs[xs.length - 1]? with
      | some d => .ok d (st.set n (.lst xs.dropLast))
      | none => .bad)
    | none => .bad)
  | [.int i] => (match cellL st x with
    | some (n, xs) => if r62 i = true then (match ixN xs.length i with
      | some k => (match xs[k]? with
        | some d => .ok d (st.set n (.lst (xs.eraseIdx k)))
        | none => .bad)
      | none => .bad) else .bad
    | none => .bad)
  | _ => .bad
theorem Reps.dropLast' {K : PySem.W.Frag} {ι : Ix} {H : Hp} {ds : List D} {vs : List V} (r : Reps K ι H ds vs) : Reps K ι H ds.dropLast vs.dropLast := by
  rw [List.dropLast_eq_take, List.dropLast_eq_take, r.length]
  exact r.take _
theorem om_pop0 : OpM X W "list.pop" fPop := by
  refine OpM.of (MtR.or mt_pop mt_popAt) fun σ H x xs dx ds ι st Q rx ry rs o => ?_
  unfold fPop at o
  split at o
  · split at o
    · rename_i n zs hz
      split at o
      · rename_i d hd
        rw [Reps.nil_iff] at ry; subst ry
        obtain ⟨a, vs, ha, rfl, hH, hr, rfl, hq⟩ := cellL_at hz rx rs
        obtain ⟨v, hv, hrv⟩ := hr.get hd
        rw [hr.length] at hv
        exact .inl ⟨a, vs, v, rfl, rfl, hH, hv, o.wr rs ha ⟨_, upd_same, hr.dropLast'.wr ha⟩ (hrv.wr ha)⟩
      · exact o.elim
    · exact o.elim
  · split at o
    · rename_i i _ n zs hz
      split at o
      · rename_i hr62
        split at o
        · rename_i k hk
          split at o
          · rename_i d hd
            obtain ⟨v, rfl, h1⟩ := Reps.one_iff.mp ry
            rw [Rep.int_iff] at h1; subst h1
            obtain ⟨a, vs, ha, rfl, hH, hr, rfl, hq⟩ := cellL_at hz rx rs
            obtain ⟨v, hv, hrv⟩ := hr.get hd
            obtain ⟨z1, z2, z3, z4⟩ := ixN_seq hk
            obtain ⟨r1, r2⟩ := r62_ok hr62
            refine .inr ⟨a, vs, i, k, v, rfl, rfl, hH, by omega, by omega, ?_, hv, o.wr rs ha ⟨_, upd_same, (hr.eraseIdx k).wr ha⟩ (hrv.wr ha)⟩
            rw [← hr.length]
            exact z1
          · exact o.elim
        · exact o.elim
      · exact o.elim
    · exact o.elim
  · exact o.elim
def fInsert : FM := fun x ds st => match ds with
  | [.int i, y] => (match cellL st x with
    | some (n, xs) => if (decide (0 ≤ i) && r62 i && fits (xs.length + 1)) = true then .ok .non (st.set n (.lst (xs.take i.toNat ++ [y] ++ xs.drop i.toNat))) else .bad
    | none => .bad)
  | _ => .bad
theorem om_insert : OpM X W "list.insert" fInsert := OpM.of mt_insert fun σ H x xs dx ds ι st Q rx ry rs o => by
  unfold fInsert at o
  split at o
  · split at o
    · rename_i i y _ n zs hz
      split at o
      · rename_i hf
        obtain ⟨hf, h3⟩ := Bool.and_eq_true_iff.mp hf
        obtain ⟨h1, h2⟩ := Bool.and_eq_true_iff.mp hf
        have h1 := of_decide_eq_true h1
        obtain ⟨h4, h5⟩ := r62_ok h2
        have hl := fits_le h3
        obtain ⟨v, v', rfl, r1, r2⟩ := Reps.two_iff.mp ry
        rw [Rep.int_iff] at r1; subst r1
        obtain ⟨a, vs, ha, rfl, hH, hr, rfl, hq⟩ := cellL_at hz rx rs
        exact ⟨a, vs, i, v', rfl, rfl, hH, by rw [← hr.length]; omega, h1, by omega, o.wr (v := V.non) rs ha ⟨_, upd_same, (((hr.take _).append (.one r2)).append (hr.drop _)).wr ha⟩ (Rep.non_iff.mpr rfl)⟩
      · exact o.elim
    · exact o.elim
  · exact o.elim
/-- the first place -/
def firstAt (p : PyData) : List PyData → Option Nat
  | [] => none
  | z :: r => if PyData.eqv z p = true then some 0 else (firstAt p r).map (· + 1)
theorem firstAt_ok {p : PyData} : ∀ {qs : List PyData} {j : Nat}, firstAt p qs = some j → ∃ z, qs[j]? = some z ∧ PyData.eqv z p = true ∧ ∀ (m : Nat) (z' : PyData), m < j → qs[m]? = some z' → PyData.eqv z' p = false
  | [], j, h => by simp [firstAt] at h
  | z :: r, j, h => by
    unfold firstAt at h
    split at h
    · rename_i hz
      cases h
      exact ⟨z, rfl, hz, fun m z' hm => absurd hm (Nat.not_lt_zero _)⟩
    · rename_i hz
      cases q : firstAt p r with
      | none => simp [q] at h
      | some k =>
        simp [q] at h
        subst h
        obtain ⟨w, h1, h2, h3⟩ := firstAt_ok q
        refine ⟨w, by simpa using h1, h2, fun m z' hm hq => ?_⟩
        cases m with
        | zero => simp at hq; subst hq; simpa using hz
        | succ m => exact h3 m z' (by omega) (by simpa using hq)
def fIndex : FM := fun x ds st => match ds with
  | [y] => (match dat st dfuel x, dat st dfuel y with
    | some (.list qs), some p => (match firstAt p qs with
      | some j => .ok (.int j) st
      | none => .bad)
    | _, _ => .bad)
  | _ => .bad
theorem om_index (hu : X.A.units + 65 < cLine) : OpM X W "list.index" fIndex := OpM.of (mt_indexD hu) fun σ H x xs dx ds ι st Q rx ry rs o => by
  unfold fIndex at o
  split at o
  · split at o
    · rename_i y _ _ qs p q1 q2
      split at o
      · rename_i j hj
        obtain ⟨v, rfl, h1⟩ := Reps.one_iff.mp ry
        obtain ⟨a1, a2⟩ := dat_shaped rs q1 rx
        obtain ⟨b1, b2⟩ := dat_shaped rs q2 h1
        obtain ⟨z, c1, c2, c3⟩ := firstAt_ok hj
        cases a1 with
        | lst hs hd => exact ⟨_, v, p, qs, j, z, rfl, rfl, .lst hs hd, b1, a2, b2, c1, c2, c3, o.ofInt rs⟩
      · exact o.elim
    · exact o.elim
  · exact o.elim
/-! texts -/
/-- the texts of a list -/
def strsD : List D → Option (List Str)
  | [] => some []
  | .str b :: r => (strsD r).map (b :: ·)
  | _ :: _ => none
theorem strsD_eq : ∀ {ds : List D} {bs : List Str}, strsD ds = some bs → ds = bs.map D.str
  | [], bs, h => by cases h; rfl
  | .str b :: ds, bs, h => by
    unfold strsD at h
    cases q : strsD ds with
    | none => simp [q] at h
    | some cs =>
      simp [q] at h; subst h
      rw [strsD_eq q]; rfl
  | .bl _ :: _, bs, h => by simp [strsD] at h
  | .non :: _, bs, h => by simp [strsD] at h
  | .int _ :: _, bs, h => by simp [strsD] at h
  | .tup _ :: _, bs, h => by simp [strsD] at h
  | .lst _ :: _, bs, h => by simp [strsD] at h
  | .dic _ _ :: _, bs, h => by simp [strsD] at h
  | .obj _ _ _ :: _, bs, h => by simp [strsD] at h
  | .exn _ _ _ :: _, bs, h => by simp [strsD] at h
  | .ref _ :: _, bs, h => by simp [strsD] at h
  | .scr _ :: _, bs, h => by simp [strsD] at h
@[simp] theorem strsD_map : ∀ bs : List Str, strsD (bs.map D.str) = some bs
  | [] => rfl
  | b :: bs => by simp [strsD, strsD_map bs]
theorem Reps.strs {K : PySem.W.Frag} {ι : Ix} {H : Hp} : ∀ {bs : List Str} {vs : List V}, Reps K ι H (bs.map D.str) vs → vs = bs.map V.str ∧ ∀ b ∈ bs, PyData.strOk b = true
  | [], vs, r => by rw [List.map_nil, Reps.nil_iff] at r; subst r; exact ⟨rfl, by simp⟩
  | b :: bs, vs, r => by
    rw [List.map_cons, Reps.cons_iff] at r
    obtain ⟨v, us, rfl, h1, h2⟩ := r
    obtain ⟨rfl, hk⟩ := Rep.str_iff.mp h1
    obtain ⟨rfl, h3⟩ := Reps.strs h2
    exact ⟨rfl, fun c hc => (List.mem_cons.mp hc).elim (fun q => by rw [q]; exact hk) (fun q => h3 c q)⟩
theorem Reps.ofStrs {K : PySem.W.Frag} {ι : Ix} {H : Hp} : ∀ {bs : List Str}, (∀ b ∈ bs, PyData.strOk b = true) → Reps K ι H (bs.map D.str) (bs.map V.str)
  | [], _ => .nil
  | b :: bs, h => .cons (Rep.str_iff.mpr ⟨rfl, h b (by simp)⟩) (Reps.ofStrs fun c hc => h c (List.mem_cons_of_mem _ hc))
/-- a text that is one -/
def okS (x : Str) (st : Sto) : R D := if PyData.strOk x = true then .ok (.str x) st else .bad
theorem okS_ok {K : PySem.W.Frag} {ι : Ix} {H : Hp} {σ : St'} {Q : VK} {x : Str} {st : Sto} (o : Out K (repD K) W ι σ H Q (okS x st)) (rs : RepSto K ι H st) : Q (.str x) H := by
  unfold okS at o
  split at o
  · rename_i h; exact o.ofStr rs h
  · exact o.elim
def fJoin : FM := fun x ds st => match x, ds with
  | .str a, [d] => (match seqD st d with
    | some xs => (match strsD xs with
      | some ys => if Nat.ble ((ys.map (·.length)).sum + ys.length * a.length) 16777216 = true then okS (Txt.join a ys) st else .bad
      | none => .bad)
    | none => .bad)
  | _, _ => .bad
theorem om_join : OpM X W "str.join" fJoin := OpM.of mt_join fun σ H x xs dx ds ι st Q rx ry rs o => by
  unfold fJoin at o
  split at o
  · split at o
    · rename_i a d _ zs hz
      split at o
      · rename_i ys hy
        split at o
        · rename_i hb
          obtain ⟨v, rfl, h1⟩ := Reps.one_iff.mp ry
          obtain ⟨rfl, _⟩ := Rep.str_iff.mp rx
          obtain ⟨p, vs, rfl, h2, h3⟩ := seqD_at hz h1 rs
          rw [strsD_eq hy] at h3
          obtain ⟨rfl, _⟩ := h3.strs
          exact ⟨a, p, ys, rfl, rfl, h2, Nat.le_of_ble_eq_true hb, okS_ok o rs⟩
        · exact o.elim
      · exact o.elim
    · exact o.elim
  · exact o.elim
def okL (md : Bool) (xs : List Str) (st : Sto) : R D := if xs.all PyData.strOk = true then finL md (xs.map D.str) st else .bad
theorem okL_ok {md : Bool} {K : PySem.W.Frag} {ι : Ix} {H : Hp} {σ : St'} {Q : VK} {xs : List Str} {st : Sto} (o : Out K (repD K) W ι σ H Q (okL md xs st)) (rs : RepSto K ι H st) : rNewStrs xs H Q := by
  unfold okL at o
  split at o
  · rename_i h
    rw [List.all_eq_true] at h
    exact Out.newL o (Reps.ofStrs h) rs
  · exact o.elim
def fSplit (md : Bool) : FM := fun x ds st => match x, ds with
  | .str a, [.str b] => if (!(b.length == 0) && fits (a.length + 2)) = true then okL md (Txt.split a b) st else .bad
  | .str a, [] => if fits (a.length + 2) = true then okL md (Txt.words a) st else .bad
  | _, _ => .bad
theorem om_split (md : Bool) : OpM X W "str.split" (fSplit md) := OpM.of (MtR.or mt_split mt_words) fun σ H x xs dx ds ι st Q rx ry rs o => by
  unfold fSplit at o
  split at o
  · split at o
    · rename_i a b hc
      obtain ⟨h1, h2⟩ := Bool.and_eq_true_iff.mp hc
      obtain ⟨v, rfl, h3⟩ := Reps.one_iff.mp ry
      obtain ⟨rfl, _⟩ := Rep.str_iff.mp rx
      obtain ⟨rfl, _⟩ := Rep.str_iff.mp h3
      exact .inl ⟨a, b, rfl, rfl, by simpa using h1, fits_le h2, okL_ok o rs⟩
    · exact o.elim
  · split at o
    · rename_i a hc
      rw [Reps.nil_iff] at ry; subst ry
      obtain ⟨rfl, _⟩ := Rep.str_iff.mp rx
      exact .inr ⟨a, rfl, rfl, fits_le hc, okL_ok o rs⟩
    · exact o.elim
  · exact o.elim
/-- a method of a text without arguments, that gives a text -/
def fStr0 (B : Nat) (f : Str → Str) : FM := fun x ds st => match x, ds with
  | .str a, [] => if Nat.ble a.length B = true then okS (f a) st else .bad
  | _, _ => .bad
theorem fStr0_ok {B : Nat} {f : Str → Str} {ι : Ix} {H : Hp} {σ : St'} {Q : VK} {st : Sto} {x : V} {xs : List V} {dx : D} {ds : List D} (rx : Rep X.K ι H dx x) (ry : Reps X.K ι H ds xs) (rs : RepSto X.K ι H st) (o : Out X.K (repD X.K) W ι σ H Q (fStr0 B f dx ds st)) :
    ∃ a, x = .str a ∧ xs = [] ∧ a.length ≤ B ∧ Q (.str (f a)) H := by
  unfold fStr0 at o
  split at o
  · split at o
    · rename_i a hc
      rw [Reps.nil_iff] at ry; subst ry
      obtain ⟨rfl, _⟩ := Rep.str_iff.mp rx
      exact ⟨a, rfl, rfl, Nat.le_of_ble_eq_true hc, okS_ok o rs⟩
    · exact o.elim
  · exact o.elim
theorem om_upper : OpM X W "str.upper" (fStr0 5592405 Txt.upper) := OpM.of mt_upper fun σ H x xs dx ds ι st Q rx ry rs o => fStr0_ok rx ry rs o
theorem om_lower : OpM X W "str.lower" (fStr0 5592405 Txt.lower) := OpM.of mt_lower fun σ H x xs dx ds ι st Q rx ry rs o => fStr0_ok rx ry rs o
theorem om_strip : OpM X W "str.strip" (fStr0 16777216 Txt.strip) := OpM.of mt_strip fun σ H x xs dx ds ι st Q rx ry rs o => by
  obtain ⟨a, e1, e2, e3, q⟩ := fStr0_ok rx ry rs o
  exact ⟨a, e1, e2, by rw [sizeLine_eq]; exact e3, q⟩
/-- a test of a text -/
def fStrB0 (f : Str → Bool) : FM := fun x ds st => match x, ds with
  | .str a, [] => .ok (.bl (f a)) st
  | _, _ => .bad
theorem fStrB0_ok {f : Str → Bool} {ι : Ix} {H : Hp} {σ : St'} {Q : VK} {st : Sto} {x : V} {xs : List V} {dx : D} {ds : List D} (rx : Rep X.K ι H dx x) (ry : Reps X.K ι H ds xs) (rs : RepSto X.K ι H st) (o : Out X.K (repD X.K) W ι σ H Q (fStrB0 f dx ds st)) :
    ∃ a, x = .str a ∧ xs = [] ∧ True ∧ Q (.bl (f a)) H := by
  unfold fStrB0 at o
  split at o
  · rename_i a
    rw [Reps.nil_iff] at ry; subst ry
    obtain ⟨rfl, _⟩ := Rep.str_iff.mp rx
    exact ⟨a, rfl, rfl, trivial, o.ofBl rs⟩
  · exact o.elim
theorem om_isdigit : OpM X W "str.isdigit" (fStrB0 Txt.isdigit) := OpM.of mt_isdigit fun σ H x xs dx ds ι st Q rx ry rs o => fStrB0_ok rx ry rs o
def fStrB1 (f : Str → Str → D) : FM := fun x ds st => match x, ds with
  | .str a, [.str b] => .ok (f a b) st
  | _, _ => .bad
theorem fStrB1_ok {f : Str → Str → D} {g : Str → Str → V} (hfg : ∀ a b ι H, Rep X.K ι H (f a b) (g a b)) {ι : Ix} {H : Hp} {σ : St'} {Q : VK} {st : Sto} {x : V} {xs : List V} {dx : D} {ds : List D} (rx : Rep X.K ι H dx x) (ry : Reps X.K ι H ds xs) (rs : RepSto X.K ι H st)
    (o : Out X.K (repD X.K) W ι σ H Q (fStrB1 f dx ds st)) : ∃ a b, x = .str a ∧ xs = [.str b] ∧ Q (g a b) H := by
  unfold fStrB1 at o
  split at o
  · rename_i a b
    obtain ⟨v, rfl, h3⟩ := Reps.one_iff.mp ry
    obtain ⟨rfl, _⟩ := Rep.str_iff.mp rx
    obtain ⟨rfl, _⟩ := Rep.str_iff.mp h3
    exact ⟨a, b, rfl, rfl, o.val (b := g a b) (hfg a b ι H) rs⟩
  · exact o.elim
theorem om_startswith : OpM X W "str.startswith" (fStrB1 fun a b => .bl (Txt.startswith a b)) := OpM.of mt_startswith fun σ H x xs dx ds ι st Q rx ry rs o => fStrB1_ok (g := fun a b => .bl (Txt.startswith a b)) (fun _ _ _ _ => Rep.bl_iff.mpr rfl) rx ry rs o
theorem om_endswith : OpM X W "str.endswith" (fStrB1 fun a b => .bl (Txt.endswith a b)) := OpM.of mt_endswith fun σ H x xs dx ds ι st Q rx ry rs o => fStrB1_ok (g := fun a b => .bl (Txt.endswith a b)) (fun _ _ _ _ => Rep.bl_iff.mpr rfl) rx ry rs o
theorem om_find : OpM X W "str.find" (fStrB1 fun a b => .int (Txt.find a b)) := OpM.of mt_find fun σ H x xs dx ds ι st Q rx ry rs o => fStrB1_ok (g := fun a b => .int (Txt.find a b)) (fun _ _ _ _ => Rep.int_iff.mpr rfl) rx ry rs o
theorem om_count : OpM X W "str.count" (fStrB1 fun a b => .int (Txt.count a b)) := OpM.of mt_count fun σ H x xs dx ds ι st Q rx ry rs o => fStrB1_ok (g := fun a b => .int (Txt.count a b)) (fun _ _ _ _ => Rep.int_iff.mpr rfl) rx ry rs o
/-! ### o[i] = e, o a list in a cell -/
def mPutL (me mo mi : ME) : MS := fun env st => (me env st).toS env fun d st1 => (mo env st1).toS env fun x st2 => (mi env st2).toS env fun y st3 => match cellL st3 x, y with
  | some (n, xs), .int i => (match ixN xs.length i with
    | some j => .nx env (st3.set n (.lst (xs.set j d)))
    | none => .bad)
  | _, _ => .bad
theorem ss_putL {o i : Expr} {mi : ME} {pos' : Pos} (ho : SE X W o mo) (hi : SE X W i mi) (he : SE X W e me) (hs : swapsWithSole [.Subscript o i pos'] e pos.line X.env = pure false := by rfl) (hw : swappedStores [.Subscript o i pos'] e X.env = pure none := by rfl)
    (h1 : (assignEach [.Subscript o i pos'] X.env).map (·.2) = [assign (.Subscript o i pos') X.env] := by rfl)
    (ha : ∀ v, assign (.Subscript o i pos') X.env v = (do
      let ov ← holding [v] (eval o X.env)
      let iv ← holding [v, ov] (eval i X.env)
      standAt pos'
      holding [v, ov, iv] (setItem ov iv v)
      release [v, ov, iv] []) := by intro _; rfl) : SS X W (.Assign [.Subscript o i pos'] e pos) (mPutL me mo mi) := by
  refine ⟨fun pins s σ H D I h => (ps_asg he (pg_sub ho hi set_list ha) hs hw h1).run pins s σ H D I ?_⟩
  obtain ⟨ι, env, st, re, rs, o⟩ := h
  refine ⟨ι, env, st, re, rs, Out.imp ?_ (Out.toS (rep := repD X.K) re o)⟩
  rintro v H1 ⟨ι1, d, st1, e1, rx, rs1, o1⟩
  refine ⟨ι1, env, st1, re.ext e1, rs1, Out.imp ?_ (Out.toS (rep := repD X.K) (re.ext e1) o1)⟩
  rintro x H2 ⟨ι2, dx, st2, e2, ry, rs2, o2⟩
  refine ⟨ι2, env, st2, (re.ext e1).ext e2, rs2, Out.imp ?_ (Out.toS (rep := repD X.K) ((re.ext e1).ext e2) o2)⟩
  rintro y H3 ⟨ι3, dy, st3, e3, rz, rs3, o3⟩
  try dsimp only at o3
  split at o3
  · rename_i n xs i hc
    split at o3
    · rename_i j hj
      obtain ⟨a, vs, ha, rfl, hH, hr, rfl, hq⟩ := cellL_at hc (Rep.ext e3 ry) rs3
      have rd : Rep X.K ι3 H3 d v := Rep.ext e3 (Rep.ext e2 rx)
      rw [show repD X.K ι3 H3 (.int i) y = Rep X.K ι3 H3 (.int i) y from rfl, Rep.int_iff] at rz
      subst rz
      refine ⟨a, vs, i, j, rfl, rfl, hH, by rw [← hr.length]; exact hj, ?_⟩
      have ex := Ext.write (H := H3) (o := .lst (vs.set j v)) (List.mem_of_getElem? ha)
      exact OutS.go (OutS.shift ex o3) ((((re.ext e1).ext e2).ext e3).ext ex) (rs3.write ha ⟨_, upd_same, (hr.set rd j).wr ha⟩)
    · exact o3.elim
  · exact o3.elim
/-! ### (x, y) = (a, b) -/
def mPar (is : List Nat) (mr : MA) : MS := fun env st => (mr env st).toS env fun ds st1 => match is, ds with
  | [i, j], [d, d'] => .nx ((env.set i (some d)).set j (some d')) st1
  | [i, j, l], [d, d', d''] => .nx (((env.set i (some d)).set j (some d')).set l (some d'')) st1
  | _, _ => .bad
theorem Reps.three_iff {K : PySem.W.Frag} {ι : Ix} {H : Hp} {d d' d'' : D} {vs : List V} : Reps K ι H [d, d', d''] vs ↔ ∃ v v' v'', vs = [v, v', v''] ∧ Rep K ι H d v ∧ Rep K ι H d' v' ∧ Rep K ι H d'' v'' := by
  rw [Reps.cons_iff]
  constructor
  · rintro ⟨v, r, rfl, h1, h2⟩
    obtain ⟨v', v'', rfl, h3, h4⟩ := Reps.two_iff.mp h2
    exact ⟨v, v', v'', rfl, h1, h3, h4⟩
  · rintro ⟨v, v', v'', rfl, h, h', h''⟩
    exact ⟨v, [v', v''], rfl, h, Reps.two_iff.mpr ⟨_, _, rfl, h', h''⟩⟩
theorem ss_par {i j : Nat} {x y : Str} {px py pt : Pos} {kt k2 pt2} (hc : X.calm = true) (hN : X.N.Nodup) (ha : SA X W [a, b] mr) (hi : X.N[i]? = some x := by rfl) (hj : X.N[j]? = some y := by rfl) (hij : i ≠ j := by decide)
    (hx : X.env.scope.names.lookup x = some .local := by rfl) (hy : X.env.scope.names.lookup y = some .local := by rfl)
    (hw : swappedStores [.Tuple [.Name x px, .Name y py] kt pt] (.Tuple [a, b] k2 pt2) X.env = pure (some [x, y]) := by rfl)
    (hs : swapsWithSole [.Tuple [.Name x px, .Name y py] kt pt] (.Tuple [a, b] k2 pt2) pos.line X.env = pure false := by rfl) :
    SS X W (.Assign [.Tuple [.Name x px, .Name y py] kt pt] (.Tuple [a, b] k2 pt2) pos) (mPar [i, j] mr) := by
  refine ⟨fun pins s σ H D I h => (ps_par hc hN hi hj hij hx hy ha hw hs).run pins s σ H D I ?_⟩
  obtain ⟨ι, env, st, re, rs, o⟩ := h
  refine ⟨ι, env, st, re, rs, Out.imp ?_ (Out.toS (rep := repL X.K) re o)⟩
  rintro vs H1 ⟨ι1, ds, st1, e1, rx, rs1, o1⟩
  try dsimp only at o1
  split at o1
  · rename_i i' j' d d' hij
    cases hij
    obtain ⟨v, v', rfl, r1, r2⟩ := Reps.two_iff.mp (show Reps _ _ _ _ _ from rx)
    exact ⟨v, v', rfl, OutS.go o1 (((re.ext e1).set r1).set r2) rs1⟩
  · rename_i hh; cases hh
  · exact o1.elim
theorem ss_par3 {i j l : Nat} {x y z : Str} {px py pz pt : Pos} {kt k2 pt2} (hc : X.calm = true) (hN : X.N.Nodup) (ha : SA X W [a, b, c] mr) (hi : X.N[i]? = some x := by rfl) (hj : X.N[j]? = some y := by rfl) (hl : X.N[l]? = some z := by rfl) (hij : i ≠ j := by decide) (hil : i ≠ l := by decide) (hjl : j ≠ l := by decide)
    (hx : X.env.scope.names.lookup x = some .local := by rfl) (hy : X.env.scope.names.lookup y = some .local := by rfl) (hz : X.env.scope.names.lookup z = some .local := by rfl)
    (hw : swappedStores [.Tuple [.Name x px, .Name y py, .Name z pz] kt pt] (.Tuple [a, b, c] k2 pt2) X.env = pure (some [x, y, z]) := by rfl)
    (hs : swapsWithSole [.Tuple [.Name x px, .Name y py, .Name z pz] kt pt] (.Tuple [a, b, c] k2 pt2) pos.line X.env = pure false := by rfl) :
    SS X W (.Assign [.Tuple [.Name x px, .Name y py, .Name z pz] kt pt] (.Tuple [a, b, c] k2 pt2) pos) (mPar [i, j, l] mr) := by
  refine ⟨fun pins s σ H D I h => (ps_par3 hc hN hi hj hl hij hil hjl hx hy hz ha hw hs).run pins s σ H D I ?_⟩
  obtain ⟨ι, env, st, re, rs, o⟩ := h
  refine ⟨ι, env, st, re, rs, Out.imp ?_ (Out.toS (rep := repL X.K) re o)⟩
  rintro vs H1 ⟨ι1, ds, st1, e1, rx, rs1, o1⟩
  try dsimp only at o1
  split at o1
  · rename_i hh; cases hh
  · rename_i i' j' l' d d' d'' hij
    cases hij
    obtain ⟨v, v', v'', rfl, r1, r2, r3⟩ := Reps.three_iff.mp (show Reps _ _ _ _ _ from rx)
    exact ⟨v, v', v'', rfl, OutS.go o1 ((((re.ext e1).set r1).set r2).set r3) rs1⟩
  · exact o1.elim
theorem ss_retN : SS X W (.Return none pos) (fun _ st => .rt .non st) := by
  refine ⟨fun pins s σ H D I h => ps_retN.run pins s σ H D I ?_⟩
  obtain ⟨ι, env, st, re, rs, o⟩ := h
  exact OutS.ret o (Rep.non_iff.mpr rfl) rs
end
end ML

set_option Elab.async false
set_option linter.all false
set_option maxRecDepth 100000
set_option maxHeartbeats 1000000
/-! ML8: own exceptions, over any built-in base: made, as values, raised; their fields; isinstance -/
namespace ML
open PySem PySem.Spec PyProof.Rows L2
open Builtin Builtin.ObjectAttr
/-- an own class of exceptions over the built-in B -/
structure XC (K : PySem.W.Frag) (C : Addr) (B newId initId : String) (bmB : List Value) : Prop where
  F : ExcBaseFacts B newId initId bmB
  SF : StoreFacts B bmB "object.__setattr__" "object"
  q : PySem.W.excInitIn K C bmB newId = true
  ov : PySem.W.excOver K C bmB = true
  hd : PySem.W.hasDictIn K C = true
  sa : PySem.W.findIn K (.ref C) "__setattr__" = some (some (.builtin "object.__setattr__"))
  ga : PySem.W.findIn K (.ref C) "__getattribute__" = some (some (.builtin "BaseException.__getattribute__"))
  gg : PySem.W.findIn K (.ref C) "__getattr__" = some none
  exC : PySem.W.subIn K (.ref C) (.type "BaseException") = some true
  tyC : PySem.W.typeIn K (.ref C) = some (.type "type")
  kC : PySem.W.keepIn K (.ref C) = true
section
variable {prog : Program} {w : World} {A : Around} {R : Result → Shared → Prop} {hp : Heap} {g : Array GenState} {d : Drawn} {t : Nat} {os : OsState} {K : PySem.W.Frag} {C : Addr} {B newId initId : String} {bmB : List Value}
theorem xstore_new (T : XC K C B newId initId bmB) {name : Str} {tk : Tok} {v : Value} {x : Addr} {fv : Array Value} (X : K.In hp) (hx : hp.get? x = some { cls := .ref C, data := .fields fv }) (ht : PySem.W.takerIn K C name = some none)
    (hq : ∀ h' tk' dx, (∀ b o, b ≠ x → hp.get? b = some o → h'.get? b = some o) → hp.objs.size ≤ dx → dx ≠ x → h'.get? x = some { cls := .ref C, dict := some dx, data := .fields fv } →
      h'.Ns1 dx (fun y => if y = name then some v else none) → R (.ok (.ret .none)) ⟨h', g, d, tk', os⟩) :
    codeAny (model prog w) A (.call (.builtin "object.__setattr__") ⟨[.ref x, .str name tk, v], []⟩) R ⟨hp, g, d, t, os⟩ := by
  refine PySem.W.osa_openX (od := none) T.SF X ⟨hx, rfl, rfl, trivial⟩ T.ov ht fun b => ?_
  obtain ⟨cd, hc, hd'⟩ := PySem.W.any_some T.hd
  have hcls : PySem.W.Looks (model prog w) hp (classData C) cd := PySem.W.looks_clsIn X hc
  have hxs : x ≠ hp.objs.size := Nat.ne_of_lt (Heap.lt_size hx)
  show wpAny _ _ (storeInOwnDict (.ref x) (.ref C) (.str name tk) name v b) _ _ _
  have hd2 : cd.hasDict = true := hd'
  obtain ⟨nm, bs, mro, ns, qn, hdd, sn, sb, ab, col, del⟩ := cd
  obtain rfl : hdd = true := hd2
  unfold storeInOwnDict ownDictForStores
  repeat (first | with_reducible refine HandSPX.store_in_new ?_ ?_ | with_reducible refine wpAny_loadPart_at hx ?_ | with_reducible refine hcls.at ?_ | wp_step)
  · exact ⟨_, #[], _, (Heap.get?_update_ne _ _ _ _ hxs.symm).trans (Heap.get?_push_at rfl rfl), rfl, fun e he => absurd he (by simp), fun _ => rfl⟩
  · intro h' tk' hn' hs
    have hx₁ : (hp.push { cls := .type "dict", data := .dict #[] }).get? x = some { cls := .ref C, data := .fields fv } := Heap.get?_push_of_some _ hx
    have k1 : ∀ b o, b ≠ x → hp.get? b = some o → h'.get? b = some o := by
      intro b o hb ho
      rw [hs.2 b (Nat.ne_of_lt (Heap.lt_size ho)), Heap.get?_update_ne _ _ _ _ hb]
      exact Heap.get?_push_of_some _ ho
    refine hq h' tk' hp.objs.size k1 (Nat.le_refl _) hxs.symm ?_ hn'
    rw [hs.2 x hxs]
    exact Heap.get?_update_self _ hx₁ rfl
theorem xstore_old (T : XC K C B newId initId bmB) {name : Str} {tk : Tok} {v : Value} {x dx : Addr} {fv : Array Value} {m0 : Str → Option Value} {nl : List Str} (X : K.In hp) (hx : hp.get? x = some { cls := .ref C, dict := some dx, data := .fields fv })
    (hns : hp.Ns1 dx m0) (hw : Within m0 nl) (hz : nl.length ≤ 1000) (ht : PySem.W.takerIn K C name = some none)
    (hq : ∀ h' tk', (∀ b o, b ≠ dx → hp.get? b = some o → h'.get? b = some o) → h'.Ns1 dx (fun y => if y = name then some v else m0 y) → R (.ok (.ret .none)) ⟨h', g, d, tk', os⟩) :
    codeAny (model prog w) A (.call (.builtin "object.__setattr__") ⟨[.ref x, .str name tk, v], []⟩) R ⟨hp, g, d, t, os⟩ := by
  obtain ⟨oD, esD, epD, hoD, hdD, _⟩ := hns.count hw
  refine PySem.W.osa_openX (od := some oD) T.SF X ⟨hx, rfl, rfl, hoD⟩ T.ov ht fun b => ?_
  obtain ⟨cd, hc, hd'⟩ := PySem.W.any_some T.hd
  have hcls : PySem.W.Looks (model prog w) hp (classData C) cd := PySem.W.looks_clsIn X hc
  show wpAny _ _ (storeInOwnDict (.ref x) (.ref C) (.str name tk) name v b) _ _ _
  have hd2 : cd.hasDict = true := hd'
  obtain ⟨nm, bs, mro, ns, qn, hdd, sn, sb, ab, col, del⟩ := cd
  obtain rfl : hdd = true := hd2
  unfold storeInOwnDict ownDictForStores
  repeat (first | with_reducible refine PySem.OEX.store_in_old hns hw hz ?_ | with_reducible refine wpAny_loadPart_at hx ?_ | with_reducible refine hcls.at ?_ | wp_step)
  intro h' tk' hn' hs
  exact hq h' tk' (fun b o hb ho => by rw [hs.2 b hb]; exact ho) hn'
end
section
variable {X : Cx} {pins : List (Addr × Obj)} {σ : St'} {H : Hp} {s : Shared} {A : Around} {E : Value → Shared → Prop} {C a dx : Addr} {f : Str} {y : V} {u : Value} {fs : List (Str × V)} {Q : Unit → Shared → Prop} {B newId initId : String} {bmB : List Value}
/-- self.f = y, the first one -/
theorem xset_new (T : XC X.K C B newId initId bmB) (I : Inv X pins σ H s) (e : H a = some (exo a C none)) (hno : PySem.W.takerIn X.K C f = some none) (ry : RelV y u)
    (h : ∀ dx s', H dx = none → dx ≠ a → Inv X pins σ (upd (upd H dx (exd dx [(f, y)])) a (exo a C (some dx))) s' → Q () s') : wpAny (model X.prog X.w) A (setAttr (.ref a) f u) Q E s := by
  obtain ⟨t1, ho⟩ := exo_at I.hok e
  obtain ⟨hp, g, d, t, os⟩ := s
  refine PySem.W.set_plain I.kIn (ox := { cls := .ref C, dict := none, data := .fields #[.ref t1, .none, .none, .none, .bool false, .none] }) (od := none) ⟨ho, rfl, rfl, trivial⟩ T.sa (xstore_new T I.kIn ho hno fun h' tk' dx k dn dne hx hn => ?_)
  have hnd : H dx = none := I.hok.fresh dn
  have olds : ∀ {b : Addr} {o : Obj}, hp.get? b = some o → b ≠ dx := fun {b o} q => Nat.ne_of_lt (Nat.lt_of_lt_of_le (Heap.lt_size q) dn)
  have na : ∀ {b : Addr}, H b = none → b ≠ a := fun {b} n z => by rw [z, e] at n; cases n
  have un : Un X.fs [] H (upd (upd H dx (exd dx [(f, y)])) a (exo a C (some dx))) hp h' := by
    constructor
    · exact fun b o q n _ _ => k b o (na n) q
    · exact fun b o q n _ _ => ⟨o.slots, k b o (na n) q⟩
    · intro b o q n _
      rw [upd_ne (na n), upd_ne (olds q)]; exact n
    · intro b o q _
      by_cases hb : b = a
      · exact ⟨_, by rw [hb]; exact hx⟩
      · exact ⟨o, k b o hb q⟩
    · intro b xs q
      rw [upd_ne (at_ne e q exo_tup), upd_ne (ne_of_none q hnd)]; exact q
    · intro b o v q
      rw [upd_ne (at_ne e q exo_frz), upd_ne (ne_of_none q hnd)]; exact q
    · intro b ps q
      exact ⟨#[], by rw [upd_ne (at_ne e q exo_tbl), upd_ne (ne_of_none q hnd), q]; simp⟩
  refine h dx _ hnd dne (I.un (t' := tk') un fun b o q => ?_)
  by_cases hb : b = a
  · subst hb
    rw [upd_same] at q
    cases q
    exact exo_ok hx
  rw [upd_ne hb] at q
  by_cases hd : b = dx
  · subst hd
    rw [upd_same] at q
    cases q
    exact exd_ok hn (relO_put (fs := []) ry fun g => True.intro)
  rw [upd_ne hd] at q
  have own : ∀ {c z : Addr}, H c = some (.own z) → c ≠ a := fun {c z} hc => at_ne e hc exo_own
  refine (I.hok b o q).stay (fun c v hc z => k c v ?_ z) (fun c hc => ?_) fun c xs hc => ?_
  · rcases hc with hc | hc
    · rw [hc]; exact hb
    · exact own hc
  · rw [upd_ne (own hc), upd_ne (ne_of_none hc hnd)]; exact hc
  · rw [upd_ne (at_ne e hc exo_tup), upd_ne (ne_of_none hc hnd)]; exact hc
/-- .. a further one -/
theorem xset_old (T : XC X.K C B newId initId bmB) (I : Inv X pins σ H s) (e : H a = some (exo a C (some dx))) (ed : H dx = some (exd dx fs)) (hl : fs.length ≤ 900) (hno : PySem.W.takerIn X.K C f = some none) (ry : RelV y u)
    (h : ∀ s', Inv X pins σ (upd H dx (exd dx ((f, y) :: fs))) s' → Q () s') : wpAny (model X.prog X.w) A (setAttr (.ref a) f u) Q E s := by
  obtain ⟨t1, ho⟩ := exo_at I.hok e
  obtain ⟨mA, hns, rel⟩ := exd_at I.hok ed
  obtain ⟨hp, g, d, t, os⟩ := s
  obtain ⟨oD, _, _, hoD, _, _⟩ := hns.count (within_of rel)
  refine PySem.W.set_plain I.kIn (ox := { cls := .ref C, dict := some dx, data := .fields #[.ref t1, .none, .none, .none, .bool false, .none] }) (od := some oD) ⟨ho, rfl, rfl, hoD⟩ T.sa ?_
  refine xstore_old T I.kIn ho hns (within_of rel) (by rw [List.length_map]; omega) hno fun h' tk' k hn => ?_
  obtain ⟨oN, _, _, eN, _⟩ := id hn
  exact h _ (I.write (t' := tk') (x := dx) (e := dx) (by rw [ed]; exact True.intro) (.inl rfl) k ⟨oN, eN⟩ (exd_ok hn (relO_put ry rel)))
end
/-! ### self.f = e in such an __init__ -/
def tXst (K : PySem.W.Frag) (f : Str) (to te : TE) : TS := fun D σ H => te σ H fun y H1 => to σ H1 fun x H2 => ∃ (a C : Addr) (B newId initId : String) (bmB : List Value), x = .ref a ∧ XC K C B newId initId bmB ∧ PySem.W.takerIn K C f = some none ∧
  ((H2 a = some (exo a C none) ∧ ∀ dx, H2 dx = none → dx ≠ a → D.nx σ (upd (upd H2 dx (exd dx [(f, y)])) a (exo a C (some dx)))) ∨
    ∃ (dx : Addr) (fs : List (Str × V)), H2 a = some (exo a C (some dx)) ∧ H2 dx = some (exd dx fs) ∧ fs.length ≤ 900 ∧ D.nx σ (upd H2 dx (exd dx ((f, y) :: fs))))
theorem ps_xst {X : Cx} {o e : Expr} {to te : TE} {f : Str} {p' pos : Pos} (ho : PE X o to) (he : PE X e te) (hs : swapsWith e (some (.Attribute o f p')) pos.line X.env = pure false := by rfl) : PS X (.Assign [.Attribute o f p'] e pos) (tXst X.K f to te) := by
  refine ⟨fun pins s σ H D I h => ?_⟩
  refine plainObj_wpAny_Assign_Attribute (thn (he.run pins s σ H _ I h) fun u s1 ⟨y, H1, I1, ry, q1⟩ => ?_) hs
  refine thn (ho.run pins s1 σ H1 _ I1 q1) fun v s2 ⟨x, H2, I2, rx, a, C, B, newId, initId, bmB, ex, T, hno, q2⟩ => ?_
  subst ex
  obtain rfl : v = Value.ref a := rx
  rcases q2 with ⟨ea, q⟩ | ⟨dx, fs, ea, ed, hl, q⟩
  · exact xset_new T I2 ea hno ry fun dx s3 n1 n2 I3 => ⟨σ, _, I3, q dx n1 n2⟩
  · exact xset_old T I2 ea ed hl hno ry fun s3 I3 => ⟨σ, _, I3, q⟩
end ML

set_option Elab.async false
set_option linter.all false
set_option maxRecDepth 100000
set_option maxHeartbeats 1000000
/-! ML9: own exceptions made: as values, to be raised; their fields -/
namespace ML
open PySem PySem.Spec PyProof.Rows L2
/-- what the __init__ of an own exception does: self.f = f, for each of the names -/
def spX (C : Addr) (ns : List Str) : Sp := fun xs H Q _ => ∃ (a : Addr) (vs : List V), xs = .ref a :: vs ∧ vs.length = ns.length ∧ H a = some (exo a C none) ∧
  ∀ (d : Addr) (H2 : Hp), H d = none → d ≠ a → H2 a = some (exo a C (some d)) → H2 d = some (exd d (ns.zip vs).reverse) → (∀ b, b ≠ a → b ≠ d → H2 b = H b) → Q .non H2
section
variable {P : Program} {w : World} {K : PySem.W.Frag} {mg : Str → Option Value} {base : Heap} {C f : Addr} {qual x y : Str} {params : Arguments} {body : List Stmt} {scope : Scope} {fd : FuncData} {B newId initId : String} {bmB : List Value} {p1 p2 p3 p4 p5 p6 p7 p8 : Pos}
theorem init1 (T : XC K C B newId initId bmB) (F : FunD K "__init__" qual params [.Assign [.Attribute (.Name "self" p1) x p2] (.Name x p3) p4] scope [] [] f fd) (S : FnScope ["self", x] ["self", x] scope) (hno : PySem.W.takerIn K C x = some none)
    (hs : Vis scope "self") (hx : Vis scope x) (hd : (x == ("__debug__" : Str)) = false) (hc : (x == ("__classdict__" : Str)) = false) : FnOk P w K mg base (L2.CX P w) 1 f fd ["self", x] (spX C [x]) := by
  refine F.ok S (fun vs H Q E h => ?_) (fun cdv A outer s H vs Q E hr h => ⟨_, pss_one (ps_xst (pe_var (i := 0) rfl hs (by decide) (by decide)) (pe_var (i := 1) rfl hx hd hc)), ?_⟩)
  · obtain ⟨a, us, rfl, hl, _⟩ := h
    simp [hl]
  obtain ⟨a, us, rfl, hl, ha, q⟩ := h
  match us, hl with
  | [v], _ =>
    refine ⟨v, rfl, .ref a, rfl, a, C, B, newId, initId, bmB, rfl, T, hno, .inl ⟨ha, fun dx hdx hne => ?_⟩⟩
    refine q dx _ hdx hne upd_same ?_ fun b hb hb2 => ?_
    · rw [upd_ne hne, upd_same]; rfl
    · rw [upd_ne hb, upd_ne hb2]
theorem init2 (T : XC K C B newId initId bmB) (F : FunD K "__init__" qual params [.Assign [.Attribute (.Name "self" p1) x p2] (.Name x p3) p4, .Assign [.Attribute (.Name "self" p5) y p6] (.Name y p7) p8] scope [] [] f fd) (S : FnScope ["self", x, y] ["self", x, y] scope)
    (hno : PySem.W.takerIn K C x = some none) (hno2 : PySem.W.takerIn K C y = some none) (hs : Vis scope "self") (hx : Vis scope x) (hy : Vis scope y) (hd : (x == ("__debug__" : Str)) = false) (hc : (x == ("__classdict__" : Str)) = false)
    (hd2 : (y == ("__debug__" : Str)) = false) (hc2 : (y == ("__classdict__" : Str)) = false) : FnOk P w K mg base (L2.CX P w) 1 f fd ["self", x, y] (spX C [x, y]) := by
  refine F.ok S (fun vs H Q E h => ?_) (fun cdv A outer s H vs Q E hr h => ⟨_, pss_cons (ps_xst (pe_var (i := 0) rfl hs (by decide) (by decide)) (pe_var (i := 1) rfl hx hd hc)) (pss_one (ps_xst (pe_var (i := 0) rfl hs (by decide) (by decide)) (pe_var (i := 2) rfl hy hd2 hc2))), ?_⟩)
  · obtain ⟨a, us, rfl, hl, _⟩ := h
    simp [hl]
  obtain ⟨a, us, rfl, hl, ha, q⟩ := h
  match us, hl with
  | [v, u], _ =>
    refine ⟨v, rfl, .ref a, rfl, a, C, B, newId, initId, bmB, rfl, T, hno, .inl ⟨ha, fun dx hdx hne => ?_⟩⟩
    refine ⟨u, rfl, .ref a, rfl, a, C, B, newId, initId, bmB, rfl, T, hno2, .inr ⟨dx, [(x, v)], upd_same, ?_, (show 1 ≤ 900 by decide), ?_⟩⟩
    · rw [upd_ne hne, upd_same]
    · refine q dx _ hdx hne ?_ ?_ fun b hb hb2 => ?_
      · rw [upd_ne (Ne.symm hne), upd_same]
      · rw [upd_same]; rfl
      · rw [upd_ne hb2, upd_ne hb, upd_ne hb2]
end
section
variable {X : Cx} {C fI : Addr} {fd : FuncData} {ps ns : List Str} {k : Nat} {B newId initId : String} {bmB : List Value} {x : Str} {e : Expr} {es : List Expr} {ta : TA} {p pos : Pos}
/-- what stands behind the call of such a class -/
def XMade (X : Cx) (pins : List (Addr × Obj)) (σ : St') (C : Addr) (ns : List Str) (vs : List V) (H1 : Hp) (s1 : Shared) (a : Addr) (s' : Shared) : Prop := ∃ (d : Addr) (H2 : Hp), s1.heap.objs.size ≤ a ∧ H1 a = none ∧ H1 d = none ∧ d ≠ a ∧
  H2 a = some (exo a C (some d)) ∧ H2 d = some (exd d (ns.zip vs).reverse) ∧ (∀ b, b ≠ a → b ≠ d → H2 b = H1 b) ∧ Inv X pins σ H2 s' ∧ ∃ hp2 : Heap, (∀ b o, s1.heap.get? b = some o → hp2.get? b = some o) ∧ Un (frs X.stack) [] (upd H1 a (exo a C none)) H2 hp2 s'.heap
theorem x_call (T : XC X.K C B newId initId bmB) (iC : PySem.W.findIn X.K (.ref C) "__init__" = some (some (.ref fI))) (tI : PySem.W.typeIn X.K (.ref fI) = some (.type "function")) (F1 : FnOk X.prog X.w X.K X.mg X.base (L2.CX X.prog X.w) k fI fd ps (spX C ns)) (hr : Room (k + 1) X.A)
    (hb : Binds X.K fd ps []) (hx : Passes (L2.CX X.prog X.w) X (fun _ _ _ => False)) {pins : List (Addr × Obj)} {σ : St'} {H1 : Hp} {s1 : Shared} {vs : List V} {us : List Value} (I1 : Inv X pins σ H1 s1) (r1 : Vals vs us) (hl : vs.length = ns.length) (hz : vs.length ≤ 1000) {Q : Value → Shared → Prop}
    (h : ∀ a s', XMade X pins σ C ns vs H1 s1 a s' → Q (.ref a) s') : wpAny (model X.prog X.w) X.A (call (.ref C) us) Q X.xe s1 := by
  obtain ⟨nm, N', qn, bs, bm, hdct, sn, sub, ab, col, dd, k0, k1, k2, k3, k5, hC, hT⟩ := PySem.W.excInit_of I1.kIn T.q
  obtain ⟨hp, g, dr, tk, os⟩ := s1
  have hsz : hp.objs.size ≤ hp.objs.size + 1 := Nat.le_succ _
  have hn : H1 (hp.objs.size + 1) = none := I1.hok.fresh hsz
  generalize hh2 : (hp.push (PySem.W.kdv_tup us)).push (PySem.HandSPX.excO C hp.objs.size) = hp2
  have kk : ∀ b o, hp.get? b = some o → hp2.get? b = some o := fun b o e => by rw [← hh2]; exact Heap.get?_push_of_some _ (Heap.get?_push_of_some _ e)
  have hget : hp2.get? (hp.objs.size + 1) = some (PySem.HandSPX.excO C hp.objs.size) := by rw [← hh2]; heap_get
  have I2 : Inv X pins σ (upd H1 (hp.objs.size + 1) (exo (hp.objs.size + 1) C none)) ⟨hp2, g, dr, tk, os⟩ := I1.laid (t' := tk) kk hsz (exo_ok hget)
  have r2 : Vals (V.ref (hp.objs.size + 1) :: vs) (Value.ref (hp.objs.size + 1) :: us) := .cons rfl r1
  have hus : us.length ≤ sizeLine := by
    rw [← Paired.length r1, sizeLine_eq]; omega
  let QI : VK := fun v H2 => v = .non ∧ ∃ d, H1 d = none ∧ d ≠ hp.objs.size + 1 ∧ H2 (hp.objs.size + 1) = some (exo (hp.objs.size + 1) C (some d)) ∧ H2 d = some (exd d (ns.zip vs).reverse) ∧ ∀ b, b ≠ hp.objs.size + 1 → b ≠ d → H2 b = H1 b
  have hsp : spX C ns (V.ref (hp.objs.size + 1) :: vs) (upd H1 (hp.objs.size + 1) (exo (hp.objs.size + 1) C none)) QI (fun _ _ _ => False) := by
    refine ⟨_, vs, rfl, hl, upd_same, fun d H2 h1 h2 h3 h4 h5 => ⟨rfl, d, ?_, h2, h3, h4, fun b hb hb2 => ?_⟩⟩
    · rw [upd_ne h2] at h1; exact h1
    · rw [h5 b hb hb2, upd_ne hb]
  have hlen : (Value.ref (hp.objs.size + 1) :: us).length = ps.length := by rw [← r2.length]; exact F1.len _ _ _ _ hsp
  have hbb := hb ⟨hp2, g, dr, tk, os⟩ (Value.ref (hp.objs.size + 1) :: us) I2.kIn (by rw [List.append_nil]; exact hlen)
  rw [List.append_nil] at hbb
  have run := F1.run _ X.stack _ _ ⟨Value.ref (hp.objs.size + 1) :: us, []⟩ _ _ _ _ (hr.make C us []) (I2.env0.make C us []) hbb r2 hsp
  refine wpAny_call (PySem.HandSPX.call_own T.F hT hC (PySem.W.looks_findIn I1.kIn iC) (fun self => PySem.W.bind_fn I1.kIn self tI) hus ?_)
  show codeAny _ _ _ _ ⟨(hp.push (PySem.W.kdv_tup us)).push (PySem.HandSPX.excO C hp.objs.size), g, dr, tk, os⟩
  rw [hh2]
  refine codeAny_mono run fun r s' hq' => ?_
  cases r with
  | error er => exact hx pins σ _ _ er s' I2 hq'
  | ok fl =>
    cases fl with
    | ret u =>
      obtain ⟨v, H2, os2, bare2, un2, hok2, rv, ⟨ev, d, n1, n2, n3, n4, n5⟩⟩ := id hq'
      obtain ⟨v', H2', I3, rv', ev', rfl⟩ := I2.after (Q := fun v Hx => v = .non ∧ Hx = H2) ⟨v, H2, os2, bare2, un2, hok2, rv, ev, rfl⟩
      subst ev
      exact ⟨rv, h _ s' ⟨d, _, hsz, hn, n1, n2, n3, n4, n5, I3, hp2, kk, un2⟩⟩
    | next => exact False.elim hq'
    | brk => exact False.elim hq'
    | cont => exact False.elim hq'
theorem zip_names {ns : List Str} {vs : List V} (h : vs.length = ns.length) : (ns.zip vs).reverse.map (·.1) = ns.reverse := by
  rw [List.map_reverse, List.map_fst_zip (by omega)]
theorem zip_vals {ns : List Str} {vs : List V} (h : vs.length = ns.length) : (ns.zip vs).reverse.map (·.2) = vs.reverse := by
  rw [List.map_reverse, List.map_snd_zip (by omega)]
theorem exnO_ok {P : Program} {w : World} {H : Hp} {h : Heap} {a C : Addr} {dd : Option Addr} {oe : Obj} {vs : Array Value} (e : h.get? a = some oe) (h1 : oe.cls = .ref C) (h2 : oe.dict = dd) (h3 : oe.data = .fields vs) : ObjOk P w H h a (ExnO C a dd) :=
  ⟨⟨oe, vs, e, h1, h2, h3⟩, ⟨oe, e⟩, fun _ _ ⟨o, v, q, r⟩ k => ⟨o, v, k o q, r⟩⟩
/-- C(e, ..) as a value -/
theorem pe_xnew (T : XC X.K C B newId initId bmB) (iC : PySem.W.findIn X.K (.ref C) "__init__" = some (some (.ref fI))) (tI : PySem.W.typeIn X.K (.ref fI) = some (.type "function")) (F1 : FnOk X.prog X.w X.K X.mg X.base (L2.CX X.prog X.w) k fI fd ps (spX C ns)) (hr : Room (k + 1) X.A)
    (hb : Binds X.K fd ps []) (hx : Passes (L2.CX X.prog X.w) X (fun _ _ _ => False)) (hg : Gl X x) (hm : X.mg x = some (.ref C)) (ha : PA X (e :: es) ta) (hdb : (x == ("__debug__" : Str)) = false) (he : starEach (e :: es) X.env = (false, eval e X.env) :: starEach es X.env)
    (hpl : (backTo pos (starEach es X.env)).any (·.1) = false) :
    PE X (.Call (.Name x p) (e :: es) [] pos) (fun σ H Q => ta σ H fun vs H1 => vs.length = ns.length ∧ vs.length ≤ 1000 ∧ ∀ a d, H1 a = none → H1 d = none → d ≠ a → Q (.ref a) (upd (upd H1 d (.xd (ns.zip vs).reverse)) a (ExnO C a (some d)))) := by
  refine ⟨fun pins s σ H Q I h => ?_⟩
  refine wpAny_Call_Name_kw (ld_glob I hg hm (PySem.W.callWith_K (h₀ := X.base) I.ok.mod.kin T.kC (thn (ha.run pos pins s σ H _ I h) fun us s1 ⟨vs, H1, I1, r1, hl, hz, q1⟩ => ⟨I1.kIn, ?_⟩) he hpl) hdb)
  show wpAny _ _ (call (.ref C) us) _ _ _
  refine x_call T iC tI F1 hr hb hx I1 r1 hl hz fun a s' ⟨d, H2, hsz, n0, n1, n2, n3, n4, n5, I3, _⟩ => ?_
  obtain ⟨t1, ho⟩ := exo_at I3.hok n3
  obtain ⟨mA, hns, rel⟩ := exd_at I3.hok n4
  obtain ⟨od, _, _, eod, _⟩ := id hns
  have J1 : Inv X pins σ (upd H2 a (ExnO C a (some d))) { s' with heap := s'.heap, toks := s'.toks } := I3.write (x := a) (e := a) (by rw [n3]; exact True.intro) (.inl rfl) (fun _ _ _ q => q) ⟨_, ho⟩ (exnO_ok ho rfl rfl rfl)
  have hda : upd H2 a (ExnO C a (some d)) d = some (exd d (ns.zip vs).reverse) := by rw [upd_ne n2]; exact n4
  have J2 : Inv X pins σ (upd (upd H2 a (ExnO C a (some d))) d (.xd (ns.zip vs).reverse)) { s' with heap := s'.heap, toks := s'.toks } := J1.write (x := d) (e := d) (by rw [hda]; exact True.intro) (.inl rfl) (fun _ _ _ q => q) ⟨od, eod⟩ ⟨mA, hns, rel⟩
  have eH : upd (upd H2 a (ExnO C a (some d))) d (.xd (ns.zip vs).reverse) = upd (upd H1 d (.xd (ns.zip vs).reverse)) a (ExnO C a (some d)) := by
    funext b
    by_cases hba : b = a
    · rw [hba, upd_ne (Ne.symm n2), upd_same, upd_same]
    by_cases hbd : b = d
    · rw [hbd, upd_same, upd_ne n2, upd_same]
    rw [upd_ne hbd, upd_ne hba, upd_ne hba, upd_ne hbd, n5 b hba hbd]
  rw [eH] at J2
  exact ⟨.ref a, _, J2, rfl, q1 a d n0 n1 n2⟩
/-- C(e, ..) to be raised -/
theorem pmk_xnew (T : XC X.K C B newId initId bmB) (iC : PySem.W.findIn X.K (.ref C) "__init__" = some (some (.ref fI))) (tI : PySem.W.typeIn X.K (.ref fI) = some (.type "function")) (F1 : FnOk X.prog X.w X.K X.mg X.base (L2.CX X.prog X.w) k fI fd ps (spX C ns)) (hr : Room (k + 1) X.A)
    (hb : Binds X.K fd ps []) (hx : Passes (L2.CX X.prog X.w) X (fun _ _ _ => False)) (hg : Gl X x) (hm : X.mg x = some (.ref C)) (ha : PA X (e :: es) ta) (hdb : (x == ("__debug__" : Str)) = false) (he : starEach (e :: es) X.env = (false, eval e X.env) :: starEach es X.env)
    (hpl : (backTo pos (starEach es X.env)).any (·.1) = false) :
    PMk X (.Call (.Name x p) (e :: es) [] pos) (fun σ H Q => ta σ H fun vs H1 => vs.length = ns.length ∧ vs.length ≤ 1000 ∧ ∀ d, H1 d = none → Q (.ref C) (some d) (upd H1 d (.xd (ns.zip vs).reverse))) := by
  intro pins s σ H Q I h
  refine wpAny_Call_Name_kw (ld_glob I hg hm (PySem.W.callWith_K (h₀ := X.base) I.ok.mod.kin T.kC (thn (ha.run pos pins s σ H _ I h) fun us s1 ⟨vs, H1, I1, r1, hl, hz, q1⟩ => ⟨I1.kIn, ?_⟩) he hpl) hdb)
  show wpAny _ _ (call (.ref C) us) _ _ _
  refine x_call T iC tI F1 hr hb hx I1 r1 hl hz fun a s' ⟨d, H2, hsz, n0, n1, n2, n3, n4, n5, I3, hp2, kk, un⟩ => ?_
  obtain ⟨hp, g, dr, tk, os⟩ := s1
  obtain ⟨h2, g2, d2, t2, os2⟩ := s'
  have eH : upd (del H2 a) d (.xd (ns.zip vs).reverse) = upd H1 d (.xd (ns.zip vs).reverse) := by
    funext b
    by_cases hbd : b = d
    · rw [hbd, upd_same, upd_same]
    rw [upd_ne hbd, upd_ne hbd]
    by_cases hba : b = a
    · rw [hba, del_same, n0]
    rw [del_ne hba, n5 b hba hbd]
  refine mk_end (raises_own T.exC T.tyC) I1 hsz kk un I3.hok (I3.os.trans I1.os.symm) I3.bare n3 n4 n1 ?_
  rw [eH]
  exact q1 d n1
/-- C(), C without own __init__ -/
theorem x_call0 (F : ExcBaseFacts B newId initId bmB) (q : PySem.W.excIn X.K C bmB newId = true) {pins : List (Addr × Obj)} {σ : St'} {H1 : Hp} {s1 : Shared} (I1 : Inv X pins σ H1 s1) {Q : Value → Shared → Prop}
    (h : ∀ h' a, Heap.MadeExcOf s1.heap h' a (.ref C) [] → Q (.ref a) { s1 with heap := h' }) : wpAny (model X.prog X.w) X.A (call (.ref C) []) Q X.xe s1 := by
  obtain ⟨bm, N, nm, qn, bs, hdct, sn, sub, ab, col, dd, k0, k1, k2, k3, k5, mN, hC, hN, hni, T⟩ := exc_obj I1.kIn q
  obtain ⟨hp, g, dr, tk, os⟩ := s1
  exact wpAny_call_exc_subT F T hC hN hni (fun h' a hm => h h' a hm) (by show 0 ≤ sizeLine; exact Nat.zero_le _)
theorem pe_xnew0 (F : ExcBaseFacts B newId initId bmB) (q : PySem.W.excIn X.K C bmB newId = true) (kC : PySem.W.keepIn X.K (.ref C) = true) (hg : Gl X x) (hm : X.mg x = some (.ref C)) (hdb : (x == ("__debug__" : Str)) = false) :
    PE X (.Call (.Name x p) [] [] pos) (fun _ H Q => ∀ a, H a = none → Q (.ref a) (upd H a (ExnO C a none))) := by
  refine ⟨fun pins s σ H Q I h => ?_⟩
  refine wpAny_Call_Name_kw (ld_glob I hg hm (PySem.W.callWith_K0 I.kIn kC ?_) hdb)
  show wpAny _ _ (call (.ref C) []) _ _ _
  refine x_call0 F q I fun h' a hm' => ?_
  have hn : H a = none := I.hok.gone hm'.new
  obtain ⟨t, ht, _, _⟩ := hm'.there
  exact ⟨.ref a, _, I.laidN hm'.keeps hm'.new hn (exnO_ok ht rfl rfl rfl), rfl, h a hn⟩
theorem pmk_xnew0 (F : ExcBaseFacts B newId initId bmB) (q : PySem.W.excIn X.K C bmB newId = true) (kC : PySem.W.keepIn X.K (.ref C) = true) (r : Raises X (.ref C)) (hg : Gl X x) (hm : X.mg x = some (.ref C)) (hdb : (x == ("__debug__" : Str)) = false) :
    PMk X (.Call (.Name x p) [] [] pos) (fun _ H Q => Q (.ref C) none H) := by
  intro pins s σ H Q I h
  refine wpAny_Call_Name_kw (ld_glob I hg hm (PySem.W.callWith_K0 I.kIn kC ?_) hdb)
  show wpAny _ _ (call (.ref C) []) _ _ _
  exact x_call0 F q I fun h' a hm' => mk_of I hm' r h (I.hok.gone hm'.new)
end
/-! ### the same over trees -/
section
variable {K : PySem.W.Frag} {ι : Ix} {H : Hp}
theorem Reps.reverse : ∀ {ds : List D} {vs : List V}, Reps K ι H ds vs → Reps K ι H ds.reverse vs.reverse
  | [], vs, h => by rw [Reps.nil_iff] at h; subst h; exact .nil
  | d :: ds, vs, h => by
    rw [Reps.cons_iff] at h
    obtain ⟨v, r, rfl, h1, h2⟩ := h
    rw [List.reverse_cons, List.reverse_cons]
    exact (Reps.reverse h2).append (.one h1)
theorem Rep.exn_iff {v : V} {c : Str} {ns : List Str} {xs : List D} : Rep K ι H (.exn c ns xs) v ↔ ∃ a dd, v = .ref a ∧ ι.no a ∧ H a = some (ExnO (He.ga K c) a dd) ∧
      ((ns = [] ∧ xs = [] ∧ dd = none) ∨ ∃ d fs, dd = some d ∧ ι.no d ∧ H d = some (.xd fs) ∧ fs.map (·.1) = ns ∧ Reps K ι H xs (fs.map (·.2))) := by simp only [Rep]
end
/-- what is known of an own class of exceptions with an __init__ of the usual kind: its name, its fields -/
structure XK0 (P : Program) (w : World) (K : PySem.W.Frag) (mg : Str → Option Value) (base : Heap) (c : Str) (ns : List Str) : Prop where
  ex : ∃ (fI : Addr) (fd : FuncData) (ps : List Str) (B newId initId : String) (bmB : List Value), XC K (He.ga K c) B newId initId bmB ∧ PySem.W.findIn K (.ref (He.ga K c)) "__init__" = some (some (.ref fI)) ∧ PySem.W.typeIn K (.ref fI) = some (.type "function") ∧
    FnOk P w K mg base (L2.CX P w) 1 fI fd ps (spX (He.ga K c) ns) ∧ Binds K fd ps []
  gC : mg c = some (.ref (He.ga K c))
/-- .. without one -/
structure XN0 (K : PySem.W.Frag) (mg : Str → Option Value) (c : Str) : Prop where
  ex : ∃ (B newId initId : String) (bmB : List Value), ExcBaseFacts B newId initId bmB ∧ PySem.W.excIn K (He.ga K c) bmB newId = true
  kC : PySem.W.keepIn K (.ref (He.ga K c)) = true
  exC : PySem.W.subIn K (.ref (He.ga K c)) (.type "BaseException") = some true
  tyC : PySem.W.typeIn K (.ref (He.ga K c)) = some (.type "type")
  gC : mg c = some (.ref (He.ga K c))
section
variable {X : Cx} {W : WX} {e : Expr} {es : List Expr} {mr : MA} {c : Str} {ns : List Str} {p pos pos' : Pos}
def mExn (c : Str) (ns : List Str) (mr : MA) : ME := fun env st => (mr env st).bind fun ds st1 => if ds.length = ns.length then .ok (.exn c ns.reverse ds.reverse) st1 else .bad
theorem se_exn (c : Str) (ns : List Str) (T : XK0 X.prog X.w X.K X.mg X.base c ns) (hr : Room 2 X.A) (hx : Passes (L2.CX X.prog X.w) X (fun _ _ _ => False)) (ha : SA X W (e :: es) mr) (hz : ns.length ≤ 1000 := by decide) (hg : Gl X c := by rfl) (hdb : (c == ("__debug__" : Str)) = false := by decide)
    (he : starEach (e :: es) X.env = (false, eval e X.env) :: starEach es X.env := by rfl) (hpl : (backTo pos (starEach es X.env)).any (·.1) = false := by rfl) : SE X W (.Call (.Name c p) (e :: es) [] pos) (mExn c ns mr) := by
  obtain ⟨fI, fd, ps, B, newId, initId, bmB, T1, T2, T3, T4, T5⟩ := T.ex
  refine ⟨fun pins s σ H Q I h => (pe_xnew T1 T2 T3 T4 hr T5 hx hg T.gC ha hdb he hpl).run pins s σ H Q I ?_⟩
  obtain ⟨ι, env, st, re, rs, o⟩ := tA_then h
  refine ⟨ι, env, st, re, rs, Out.imp ?_ o⟩
  rintro vs H1 ⟨ι1, ds, st1, rx, rs1, o1⟩
  split at o1
  · rename_i hl
    have hl' : vs.length = ns.length := by rw [← rx.length]; exact hl
    refine ⟨hl', by omega, fun a d na nd hne => ?_⟩
    have e1 : Ext ι1 H1 ι1 (upd H1 d (.xd (ns.zip vs).reverse)) := Ext.new nd
    have na' : upd H1 d (.xd (ns.zip vs).reverse) a = none := by rw [upd_ne (Ne.symm hne)]; exact na
    have e2 : Ext ι1 (upd H1 d (.xd (ns.zip vs).reverse)) ι1 (upd (upd H1 d (.xd (ns.zip vs).reverse)) a (ExnO (He.ga X.K c) a (some d))) := Ext.new na'
    refine o1 _ ι1 _ (e1.trans e2) ?_ ((rs1.new nd).new na')
    refine Rep.exn_iff.mpr ⟨a, some d, rfl, rs1.fresh na, upd_same, .inr ⟨d, _, rfl, rs1.fresh nd, ?_, zip_names hl', ?_⟩⟩
    · rw [upd_ne hne, upd_same]
    · rw [zip_vals hl']
      exact (Reps.reverse rx).ext (e1.trans e2)
  · exact o1.elim
theorem se_exn0 (c : Str) (T : XN0 X.K X.mg c) (hg : Gl X c := by rfl) (hdb : (c == ("__debug__" : Str)) = false := by decide) : SE X W (.Call (.Name c p) [] [] pos) (mC (.exn c [] [])) := by
  obtain ⟨B, newId, initId, bmB, T1, T2⟩ := T.ex
  refine ⟨fun pins s σ H Q I h => (pe_xnew0 T1 T2 T.kC hg T.gC hdb).run pins s σ H Q I ?_⟩
  obtain ⟨ι, env, st, re, rs, o⟩ := h
  exact fun a na => o _ ι _ (Ext.new na) (Rep.exn_iff.mpr ⟨a, none, rfl, rs.fresh na, upd_same, .inl ⟨rfl, rfl, rfl⟩⟩) (rs.new na)
/-- raise C(e, ..) -/
def mRaise (c : Str) (ns : List Str) (mr : MA) : MS := fun env st => (mr env st).toS env fun ds st1 => if ds.length = ns.length then .ex c ns.reverse ds.reverse env st1 else .bad
theorem ss_raise (c : Str) (ns : List Str) (T : XK0 X.prog X.w X.K X.mg X.base c ns) (hr : Room 2 X.A) (hc : X.calm = true) (tk : Takes X W) (hx : Passes (L2.CX X.prog X.w) X (fun _ _ _ => False)) (ha : SA X W (e :: es) mr) (hz : ns.length ≤ 1000 := by decide) (hg : Gl X c := by rfl) (hdb : (c == ("__debug__" : Str)) = false := by decide)
    (he : starEach (e :: es) X.env = (false, eval e X.env) :: starEach es X.env := by rfl) (hpl : (backTo pos (starEach es X.env)).any (·.1) = false := by rfl) : SS X W (.Raise (some (.Call (.Name c p) (e :: es) [] pos)) none pos') (mRaise c ns mr) := by
  obtain ⟨fI, fd, ps, B, newId, initId, bmB, T1, T2, T3, T4, T5⟩ := T.ex
  refine ⟨fun pins s σ H D I h => (ps_raise hc tk (pmk_xnew T1 T2 T3 T4 hr T5 hx hg T.gC ha hdb he hpl)).run pins s σ H D I ?_⟩
  obtain ⟨ι, env, st, re, rs, o⟩ := h
  refine ⟨ι, env, st, re, rs, Out.imp ?_ (Out.toS (rep := repL X.K) re o)⟩
  rintro vs H1 ⟨ι1, ds, st1, e1, rx, rs1, o1⟩
  split at o1
  · rename_i hl
    have rx' : Reps X.K ι1 H1 ds vs := rx
    have hl' : vs.length = ns.length := by rw [← rx'.length]; exact hl
    refine ⟨hl', by omega, fun d nd => ?_⟩
    have e2 : Ext ι1 H1 ι1 (upd H1 d (.xd (ns.zip vs).reverse)) := Ext.new nd
    refine o1 _ _ σ ι1 _ e2 ((re.ext e1).ext e2) ⟨rfl, .inr ⟨d, _, rfl, rs1.fresh nd, upd_same, zip_names hl', ?_⟩⟩ (rs1.new nd)
    rw [zip_vals hl']
    exact (Reps.reverse rx').ext e2
  · exact o1.elim
theorem ss_raise0 (c : Str) (T : XN0 X.K X.mg c) (hc : X.calm = true) (tk : Takes X W) (hg : Gl X c := by rfl) (hdb : (c == ("__debug__" : Str)) = false := by decide) : SS X W (.Raise (some (.Call (.Name c p) [] [] pos)) none pos') (fun env st => .ex c [] [] env st) := by
  obtain ⟨B, newId, initId, bmB, T1, T2⟩ := T.ex
  refine ⟨fun pins s σ H D I h => (ps_raise hc tk (pmk_xnew0 T1 T2 T.kC (raises_own T.exC T.tyC) hg T.gC hdb)).run pins s σ H D I ?_⟩
  obtain ⟨ι, env, st, re, rs, o⟩ := h
  exact o _ _ σ ι H (Ext.refl _ _) re ⟨rfl, .inl ⟨rfl, rfl, rfl⟩⟩ rs
end
end ML

set_option Elab.async false
set_option linter.all false
set_option maxRecDepth 100000
set_option maxHeartbeats 1000000
/-! MLb: isinstance; attributes of instances and of exceptions -/
namespace ML
open PySem PySem.Spec PyProof.Rows L2
/-- the type of a value: a built-in one, an own one -/
inductive Ty where
  | b (n : String) | o (c : Str)
  deriving DecidableEq
def Ty.val (K : PySem.W.Frag) : Ty → Value
  | .b n => .type n
  | .o c => .ref (He.ga K c)
def Ty.vv (K : PySem.W.Frag) : Ty → V
  | .b n => .ty n
  | .o c => .ref (He.ga K c)
def tyD (d : D) (st : Sto) : Option Ty := match d with
  | .non => some (.b "NoneType")
  | .bl _ => some (.b "bool")
  | .int _ => some (.b "int")
  | .str _ => some (.b "str")
  | .tup _ => some (.b "tuple")
  | .lst _ => some (.b "list")
  | .scr _ => some (.b "list")
  | .dic _ _ => some (.b "dict")
  | .obj c _ _ => some (.o c)
  | .exn c _ _ => some (.o c)
  | .ref n => match st[n]? with
    | some (.lst _) => some (.b "list")
    | some (.dic _ _) => some (.b "dict")
    | some (.ins c _ _) => some (.o c)
    | none => none
def builtins8 : List Ty := [.b "NoneType", .b "bool", .b "int", .b "str", .b "tuple", .b "list", .b "dict"]
/-- the own classes: their names, what they are under, whether they are exceptions -/
abbrev ClsTab := List (Str × Bool × List Ty)
def subT (tb : ClsTab) (t C : Ty) : Bool := match t with
  | .b n => (match C with
    | .b m => decide (n = m) || (decide (n = "bool") && decide (m = "int"))
    | .o _ => false)
  | .o c => (match tb.lookup c with
    | some p => p.2.contains C
    | none => false)
def okT (tb : ClsTab) (t : Ty) : Bool := match t with
  | .b _ => builtins8.contains t
  | .o c => (tb.lookup c).isSome
/-- isinstance(x, c) for each of the classes and types -/
def KT (K : PySem.W.Frag) (tb : ClsTab) (Cs : List Ty) : Prop := ∀ t, okT tb t = true → ∀ C ∈ Cs, PySem.W.kitOne K (t.val K) (C.val K) = some (subT tb t C)
def ktB (K : PySem.W.Frag) (tb : ClsTab) (Cs : List Ty) : Bool := (builtins8 ++ tb.map fun p => Ty.o p.1).all fun t => Cs.all fun C => decide (PySem.W.kitOne K (t.val K) (C.val K) = some (subT tb t C))
theorem lookup_mem_fst {α β : Type} [BEq α] [LawfulBEq α] {a : α} : ∀ {l : List (α × β)}, (l.lookup a).isSome = true → a ∈ l.map (·.1)
  | [], h => by simp at h
  | (x, y) :: r, h => by
    rw [List.lookup_cons] at h
    by_cases q : a = x
    · simp [q]
    · have : (a == x) = false := by simpa using q
      rw [this] at h
      exact List.mem_cons_of_mem _ (lookup_mem_fst h)
theorem ktB_ok {K : PySem.W.Frag} {tb : ClsTab} {Cs : List Ty} (h : ktB K tb Cs = true) : KT K tb Cs := by
  intro t ht C hC
  unfold ktB at h
  rw [List.all_eq_true] at h
  have hm : t ∈ builtins8 ++ tb.map fun p => Ty.o p.1 := by
    unfold okT at ht
    cases t with
    | b n => exact List.mem_append_left _ (by simpa using ht)
    | o c =>
      have := lookup_mem_fst ht
      obtain ⟨p, hp, rfl⟩ := List.mem_map.mp this
      exact List.mem_append_right _ (List.mem_map.mpr ⟨p, hp, rfl⟩)
  have := List.all_eq_true.mp (h t hm) C hC
  exact of_decide_eq_true this
/-- what isinstance asks of an own class -/
def TyC (K : PySem.W.Frag) (ex : Bool) (C : Addr) : Prop := PySem.W.findIn K (.ref C) "__class__" = some (some (.builtin "object.__class__")) ∧ PySem.W.mroIn K C (.type "object") = some true ∧
  (if ex = true then PySem.W.findIn K (.ref C) "__getattribute__" = some (some (.builtin "BaseException.__getattribute__")) ∧ PySem.W.findIn K (.ref C) "__getattr__" = some none ∧ PySem.W.subIn K (.ref C) (.type "BaseException") = some true ∧ PySem.W.hasDictIn K C = true else Cls K C)
structure TT (K : PySem.W.Frag) (tb : ClsTab) : Prop where
  hn : PySem.W.specialIn K (.builtin "object.__class__") "__get__" = some (some (.builtin "getset_descriptor.__get__"))
  ht : PySem.W.takesIn K (.builtin "object.__class__") = some true
  cl : ∀ p ∈ tb, TyC K p.2.1 (He.ga K p.1)
def ttB (K : PySem.W.Frag) (tb : ClsTab) : Bool := decide (PySem.W.specialIn K (.builtin "object.__class__") "__get__" = some (some (.builtin "getset_descriptor.__get__"))) && (decide (PySem.W.takesIn K (.builtin "object.__class__") = some true) && tb.all fun p =>
  decide (PySem.W.findIn K (.ref (He.ga K p.1)) "__class__" = some (some (.builtin "object.__class__"))) && (decide (PySem.W.mroIn K (He.ga K p.1) (.type "object") = some true) && (if p.2.1 = true then
    decide (PySem.W.findIn K (.ref (He.ga K p.1)) "__getattribute__" = some (some (.builtin "BaseException.__getattribute__"))) && (decide (PySem.W.findIn K (.ref (He.ga K p.1)) "__getattr__" = some none) && (decide (PySem.W.subIn K (.ref (He.ga K p.1)) (.type "BaseException") = some true) && PySem.W.hasDictIn K (He.ga K p.1)))
    else (He.Fa.cls p.1).ok K)))
theorem ttB_ok {K : PySem.W.Frag} {tb : ClsTab} (h : ttB K tb = true) : TT K tb := by
  unfold ttB at h
  obtain ⟨h1, h⟩ := Bool.and_eq_true_iff.mp h
  obtain ⟨h2, h⟩ := Bool.and_eq_true_iff.mp h
  refine ⟨of_decide_eq_true h1, of_decide_eq_true h2, fun p hp => ?_⟩
  have h := List.all_eq_true.mp h p hp
  obtain ⟨h3, h⟩ := Bool.and_eq_true_iff.mp h
  obtain ⟨h4, h⟩ := Bool.and_eq_true_iff.mp h
  refine ⟨of_decide_eq_true h3, of_decide_eq_true h4, ?_⟩
  cases q : p.2.1 with
  | true =>
    rw [q, if_pos rfl] at h
    rw [if_pos rfl]
    obtain ⟨h5, h⟩ := Bool.and_eq_true_iff.mp h
    obtain ⟨h6, h⟩ := Bool.and_eq_true_iff.mp h
    obtain ⟨h7, h8⟩ := Bool.and_eq_true_iff.mp h
    exact ⟨of_decide_eq_true h5, of_decide_eq_true h6, of_decide_eq_true h7, h8⟩
  | false =>
    rw [q, if_neg Bool.false_ne_true] at h
    rw [if_neg Bool.false_ne_true]
    exact He.cls_ok h
theorem lookup_mem_pair {α β : Type} [BEq α] [LawfulBEq α] {a : α} {y : β} : ∀ {l : List (α × β)}, l.lookup a = some y → (a, y) ∈ l
  | [], h => by simp at h
  | (x, z) :: r, h => by
    rw [List.lookup_cons] at h
    by_cases q : a = x
    · subst q
      simp at h
      simp [h]
    · have : (a == x) = false := by simpa using q
      rw [this] at h
      exact List.mem_cons_of_mem _ (lookup_mem_pair h)
/-- the kind of the class fits the value's -/
def kindT (tb : ClsTab) (d : D) (st : Sto) : Bool := match d with
  | .obj c _ _ => (match tb.lookup c with
    | some p => !p.1
    | none => false)
  | .exn c _ _ => (match tb.lookup c with
    | some p => p.1
    | none => false)
  | .ref n => (match st[n]? with
    | some (.ins c _ _) => (match tb.lookup c with
      | some p => !p.1
      | none => false)
    | _ => true)
  | _ => true
section
variable {X : Cx} {pins : List (Addr × Obj)} {σ : St'} {H : Hp} {s : Shared} {ι : Ix} {st : Sto} {tb : ClsTab}
theorem kit_ins {a dx : Addr} {c : Str} {fs : List (Str × V)} {l : List Ty} (T : TT X.K tb) (I : Inv X pins σ H s) (hl : tb.lookup c = some (false, l)) (ea : H a = some (.ins (He.ga X.K c) dx fs)) :
    ∃ P : Heap → Prop, PySem.W.KitX X.K (.ref a) (.ref (He.ga X.K c)) P ∧ P s.heap ∧ (Value.ref a) ≠ .builtin "__main__.__loader__#opaque" := by
  obtain ⟨h1, h2, h3⟩ := T.cl _ (lookup_mem_pair hl)
  rw [if_neg Bool.false_ne_true] at h3
  exact kit_of (x := .ref a) I rfl (.base (.ins ea h3 h1 T.hn T.ht h2))
theorem kit_D {d : D} {v : V} {u : Value} {t : Ty} (T : TT X.K tb) (I : Inv X pins σ H s) (rv : RelV v u) (r : Rep X.K ι H d v) (rs : RepSto X.K ι H st) (h : tyD d st = some t) (hk : kindT tb d st = true) :
    ∃ P : Heap → Prop, PySem.W.KitX X.K u (t.val X.K) P ∧ P s.heap ∧ u ≠ .builtin "__main__.__loader__#opaque" := by
  have lst : ∀ {a : Addr} {vs : List V}, H a = some (.lst vs) → ∃ P : Heap → Prop, PySem.W.KitX X.K (.ref a) (.type "list") P ∧ P s.heap ∧ (Value.ref a) ≠ .builtin "__main__.__loader__#opaque" := fun {a vs} e => kit_of (x := .ref a) I rfl (.base (.lst e))
  have dic : ∀ {a : Addr} {ks : List DK} {vs : List V} {o : HO}, H a = some o → DicHO ks vs o → ∃ P : Heap → Prop, PySem.W.KitX X.K (.ref a) (.type "dict") P ∧ P s.heap ∧ (Value.ref a) ≠ .builtin "__main__.__loader__#opaque" := by
    intro a ks vs o e hd
    rcases hd with ⟨_, ⟨ss, _, rfl⟩ | ⟨ss, _, rfl⟩⟩
    · exact kit_of (x := .ref a) I rfl (.base (.dK e))
    · exact kit_of (x := .ref a) I rfl (.base (.dT e))
  cases d with
  | non => cases h; rw [Rep.non_iff] at r; subst r; exact kit_of I rv (.base .non)
  | bl b => cases h; rw [Rep.bl_iff] at r; subst r; exact kit_of I rv (.base (.bl b))
  | int i => cases h; rw [Rep.int_iff] at r; subst r; exact kit_of I rv (.base (.int i))
  | str x => cases h; obtain ⟨rfl, _⟩ := Rep.str_iff.mp r; exact kit_of I rv (.base (.str x))
  | tup xs =>
    cases h
    obtain ⟨a, vs, rfl, ht, _⟩ := Rep.tup_iff.mp r
    rcases ht with ⟨_, e⟩ | ⟨o, its, n, e, h2, _⟩
    · exact kit_of I rv (.base (.tup e))
    · exact kit_of I rv (.kTuple e h2)
  | lst xs =>
    cases h
    obtain ⟨a, vs, rfl, ht, _⟩ := Rep.lst_iff.mp r
    obtain rfl : u = Value.ref a := rv
    exact lst ht.2
  | scr ns =>
    cases h
    obtain ⟨a, rfl, ⟨_, o, e⟩ | ⟨o, its, n, e, h2, _⟩⟩ := Rep.scr_iff.mp r
    · exact kit_of I rv (.base (.frz e))
    · exact kit_of I rv (.kList e h2)
  | dic ks xs =>
    cases h
    obtain ⟨a, vs, o, rfl, _, e, hd, _⟩ := Rep.dic_iff.mp r
    obtain rfl : u = Value.ref a := rv
    exact dic e hd
  | obj c ns xs =>
    cases h
    obtain ⟨a, dx, fs, rfl, _, e, _, _⟩ := Rep.obj_iff.mp r
    obtain rfl : u = Value.ref a := rv
    unfold kindT at hk
    cases q : tb.lookup c with
    | none => simp [q] at hk
    | some p =>
      obtain ⟨ex, l⟩ := p
      simp [q] at hk
      subst hk
      exact kit_ins T I q e
  | exn c ns xs =>
    cases h
    obtain ⟨a, dd, rfl, _, e, hd⟩ := Rep.exn_iff.mp r
    obtain rfl : u = Value.ref a := rv
    unfold kindT at hk
    cases q : tb.lookup c with
    | none => simp [q] at hk
    | some p =>
      obtain ⟨ex, l⟩ := p
      simp [q] at hk
      subst hk
      obtain ⟨h1, h2, h3⟩ := T.cl _ (lookup_mem_pair q)
      rw [if_pos rfl] at h3
      obtain ⟨h4, h5, h6, h7⟩ := h3
      obtain ⟨⟨oe, vs, eo, e1, e2, e3⟩, _⟩ := I.hok a _ e
      have hcl : (PySem.W.clsIn X.K (He.ga X.K c)).isSome = true := by obtain ⟨cd, hc, _⟩ := PySem.W.any_some h7; rw [hc]; rfl
      have key : ∀ od : Option Obj, (match oe.dict, od with | some dx, some o => s.heap.get? dx = some o | none, none => True | _, _ => False) → PySem.W.InstAt s.heap a oe (He.ga X.K c) od := fun od hh => ⟨eo, e1, by unfold PySem.W.notCls; rw [e3], hh⟩
      rcases hd with ⟨_, _, rfl⟩ | ⟨d, fs, rfl, _, ed, _, _⟩
      · exact ⟨_, PySem.W.kitx_exc (ox := oe) (od := none) hcl h4 h5 h6 h1 T.hn T.ht h2, key none (by rw [e2]; trivial), fun z => nomatch z⟩
      · obtain ⟨mA, ⟨od, _, _, eod, _⟩, _⟩ := I.hok d _ ed
        exact ⟨_, PySem.W.kitx_exc (ox := oe) (od := some od) hcl h4 h5 h6 h1 T.hn T.ht h2, key (some od) (by rw [e2]; exact eod), fun z => nomatch z⟩
  | ref n =>
    obtain ⟨a, ha, rfl⟩ := Rep.ref_iff.mp r
    obtain rfl : u = Value.ref a := rv
    unfold tyD at h
    unfold kindT at hk
    cases q : st[n]? with
    | none => simp [q] at h
    | some cl =>
      have hc := rs.at_ n cl a q ha
      cases cl with
      | lst xs =>
        simp [q] at h; subst h
        obtain ⟨vs, e, _⟩ := hc
        exact lst e
      | dic ks xs =>
        simp [q] at h; subst h
        obtain ⟨vs, o, e, hd, _⟩ := hc
        exact dic e hd
      | ins c ns xs =>
        simp [q] at h; subst h
        obtain ⟨dx, fs, e, _, _⟩ := hc
        simp [q] at hk
        cases q2 : tb.lookup c with
        | none => simp [q2] at hk
        | some p =>
          obtain ⟨ex, l⟩ := p
          simp [q2] at hk
          subst hk
          exact kit_ins T I q2 e
end
/-- isinstance(d, one of the classes) -/
def isiD (tb : ClsTab) (Cs : List Ty) (d : D) (st : Sto) : R D := match tyD d st with
  | some t => if (okT tb t && kindT tb d st) = true then .ok (.bl (Cs.any fun C => subT tb t C)) st else .bad
  | none => .bad
section
variable {X : Cx} {W : WX} {e : Expr} {es : List Expr} {me : ME} {mr : MA} {tb : ClsTab} {p pos p2 tpos : Pos} {kk : Nat}
/-- a name that is a class -/
structure NmC (X : Cx) (x : Str) (C : Ty) : Prop where
  g : Gl X x
  d : (x == ("__debug__" : Str)) = false
  v : (∃ n, C = .b n ∧ X.mg x = none ∧ bootBuiltins x = some (.type n) ∧ x ≠ "__name__") ∨ (∃ c, C = .o c ∧ X.mg x = some (.ref (He.ga X.K c)))
theorem nmc_own {x : Str} (h : X.mg x = some (.ref (He.ga X.K x))) (g : Gl X x := by rfl) (d : (x == ("__debug__" : Str)) = false := by decide) : NmC X x (.o x) := ⟨g, d, .inr ⟨x, rfl, h⟩⟩
theorem nmc_ty (n : String) {x : Str} (h : X.mg x = none) (hv : bootBuiltins x = some (.type n) := by rfl) (g : Gl X x := by rfl) (d : (x == ("__debug__" : Str)) = false := by decide) (hn : x ≠ "__name__" := by decide) : NmC X x (.b n) := ⟨g, d, .inl ⟨n, rfl, h, hv, hn⟩⟩
theorem pe_cls {x : Str} {C : Ty} (h : NmC X x C) : PE X (.Name x p) (tC (C.vv X.K)) := by
  refine ⟨fun pins s σ H Q I q => ?_⟩
  rcases h.v with ⟨n, rfl, hm, hv, hn⟩ | ⟨c, rfl, hm⟩
  · exact ld_blt I h.g hm hv ⟨.ty n, H, I, rfl, q⟩ hn h.d
  · exact ld_glob I h.g hm ⟨.ref _, H, I, rfl, q⟩ h.d
theorem vv_val {K : PySem.W.Frag} {C : Ty} {u : Value} (h : RelV (C.vv K) u) : u = C.val K := by
  cases C with
  | b n => exact h
  | o c => exact h
def mIsi (tb : ClsTab) (Cs : List Ty) (me : ME) : ME := fun env st => (me env st).bind fun d st1 => isiD tb Cs d st1
theorem isi_then {Cs : List Ty} {σ : St'} {H : Hp} {Q : VK} (h : tE X.K W (mIsi tb Cs me) σ H Q) : tE X.K W me σ H (fun v H1 => ∃ ι d st, Rep X.K ι H1 d v ∧ RepSto X.K ι H1 st ∧ ∃ t, tyD d st = some t ∧ okT tb t = true ∧ kindT tb d st = true ∧ Out X.K (repD X.K) W ι σ H1 Q (.ok (.bl (Cs.any fun C => subT tb t C)) st)) := by
  obtain ⟨ι, env, st, re, rs, o⟩ := tE_then h
  refine ⟨ι, env, st, re, rs, Out.imp ?_ o⟩
  rintro v H1 ⟨ι1, d, st1, rx, rs1, o1⟩
  refine ⟨ι1, d, st1, rx, rs1, ?_⟩
  unfold isiD at o1
  cases q : tyD d st1 with
  | none => simp only [q] at o1; exact o1.elim
  | some t =>
    simp only [q] at o1
    split at o1
    · rename_i hb
      obtain ⟨h1, h2⟩ := Bool.and_eq_true_iff.mp hb
      exact ⟨t, rfl, h1, h2, o1⟩
    · exact o1.elim
/-- isinstance(e, C) -/
theorem se_isi {x : Str} {C : Ty} (tb : ClsTab) (hm : X.mg "isinstance" = none) (T : TT X.K tb) (hk : KT X.K tb [C]) (he : SE X W e me) (hc : NmC X x C) (hg : Gl X "isinstance" := by rfl)
    (hs : starEach [e, .Name x p2] X.env = (false, eval e X.env) :: starEach [.Name x p2] X.env := by rfl) (hs2 : starEach [.Name x p2] X.env = (false, eval (.Name x p2) X.env) :: starEach [] X.env := by rfl)
    (hpl : (backTo pos (starEach [.Name x p2] X.env)).any (·.1) = false := by rfl) : SE X W (.Call (.Name "isinstance" p) [e, .Name x p2] [] pos) (mIsi tb [C] me) := by
  refine ⟨fun pins s σ H Q I h => ?_⟩
  refine wpAny_Call_Name_kw (ld_blt (x := "isinstance") (u := .builtin "isinstance") I hg hm (by rfl) ?_ (by decide) (by decide))
  have ha : PA X [e, .Name x p2] (tCons (tE X.K W me) (tCons (tC (C.vv X.K)) tNil)) := pa_cons he (pa_cons (pe_cls hc) pa_nil hs2) hs
  refine PyProof.Rows.callWith_builtin1 (thn (ha.run pos pins s σ H (fun vs H1 => ∃ v, vs = [v, C.vv X.K] ∧ ∃ ι d st, Rep X.K ι H1 d v ∧ RepSto X.K ι H1 st ∧ ∃ t, tyD d st = some t ∧ okT tb t = true ∧ kindT tb d st = true ∧ Out X.K (repD X.K) W ι σ H1 Q (.ok (.bl ([C].any fun C => subT tb t C)) st)) I ?_) fun us s1 ⟨vs, H1, I1, r1, v, ev, ι, d, st, rx, rs, t, h1, h2, h3, o⟩ => ?_) hs hpl
  · have q := isi_then h
    obtain ⟨ι, env, st, re, rs, o⟩ := q
    exact ⟨ι, env, st, re, rs, Out.imp (fun v H1 hh => ⟨v, rfl, hh⟩) o⟩
  · subst ev
    obtain ⟨u1, u2, rfl, ra, rb⟩ := vals2 r1
    obtain rfl := vv_val rb
    obtain ⟨P, Z, hp, hx⟩ := kit_D T I1 ra rx rs h1 h3
    refine PySem.W.kia_one Z I1.kIn hp (hk t h2 C (by simp)) hx fun tk => ⟨.bl _, H1, I1.tok tk, rfl, ?_⟩
    have := o.ofBl rs
    simpa using this
end
end ML

set_option Elab.async false
set_option linter.all false
set_option maxRecDepth 100000
set_option maxHeartbeats 1000000
/-! MLc: isinstance with several classes; attributes -/
namespace ML
open PySem PySem.Spec PyProof.Rows L2
section
variable {X : Cx} {W : WX} {e : Expr} {es : List Expr} {me : ME} {mr : MA} {tb : ClsTab} {p pos p2 tpos : Pos} {kk : Nat}
/-- names that are classes -/
inductive NmCs (X : Cx) : List Expr → List Ty → Prop
  | nil : NmCs X [] []
  | cons {x : Str} {C : Ty} {p : Pos} {es : List Expr} {Cs : List Ty} (h : NmC X x C) (hs : starEach (.Name x p :: es) X.env = (false, eval (.Name x p) X.env) :: starEach es X.env) (r : NmCs X es Cs) : NmCs X (.Name x p :: es) (C :: Cs)
theorem pa_clss : ∀ {es : List Expr} {Cs : List Ty}, NmCs X es Cs → PA X es (fun _ H Q => Q (Cs.map (Ty.vv X.K)) H)
  | _, _, .nil => pa_nil
  | _, _, .cons h hs r => pa_cons (pe_cls h) (pa_clss r) hs
theorem vvs_val {K : PySem.W.Frag} : ∀ {Cs : List Ty} {us : List Value}, Vals (Cs.map (Ty.vv K)) us → us = Cs.map (Ty.val K)
  | [], _, .nil => rfl
  | C :: Cs, _, .cons h r => by rw [vv_val h, vvs_val r]; rfl
theorem kitAny_of {K : PySem.W.Frag} {t : Ty} {Cs : List Ty} (h : ∀ C ∈ Cs, PySem.W.kitOne K (t.val K) (C.val K) = some (subT tb t C)) : PySem.W.kitAny K (t.val K) (Cs.map (Ty.val K)) = some (Cs.any fun C => subT tb t C) := by
  induction Cs with
  | nil => rfl
  | cons C Cs ih =>
    have h1 := h C (by simp)
    have h2 := ih fun D hD => h D (List.mem_cons_of_mem _ hD)
    refine kitAny_cons h1 (fun e => ?_) (fun e => ?_)
    · rw [h2, List.any_cons, e, Bool.false_or]
    · rw [List.any_cons, e, Bool.true_or]
/-- isinstance(e, (C1, C2, ..)) -/
theorem se_isiT {cs : List Expr} {Cs : List Ty} (tb : ClsTab) (Cs' : List Ty) (hm : X.mg "isinstance" = none) (T : TT X.K tb) (hk : KT X.K tb Cs) (he : SE X W e me) (hc : NmCs X cs Cs) (hf : fits Cs.length = true := by decide) (hg : Gl X "isinstance" := by rfl)
    (hs : starEach [e, .Tuple cs kk tpos] X.env = (false, eval e X.env) :: starEach [.Tuple cs kk tpos] X.env := by rfl) (hs2 : starEach [.Tuple cs kk tpos] X.env = (false, eval (.Tuple cs kk tpos) X.env) :: starEach [] X.env := by rfl)
    (hpl : (backTo pos (starEach [.Tuple cs kk tpos] X.env)).any (·.1) = false := by rfl) (hcs : Cs' = Cs := by rfl) : SE X W (.Call (.Name "isinstance" p) [e, .Tuple cs kk tpos] [] pos) (mIsi tb Cs' me) := by
  subst hcs
  refine ⟨fun pins s σ H Q I h => ?_⟩
  refine wpAny_Call_Name_kw (ld_blt (x := "isinstance") (u := .builtin "isinstance") I hg hm (by rfl) ?_ (by decide) (by decide))
  have ht : PE X (.Tuple cs kk tpos) (tTup fun _ H Q => Q (Cs'.map (Ty.vv X.K)) H) := pe_tup (pa_clss hc)
  have ha : PA X [e, .Tuple cs kk tpos] (tCons (tE X.K W me) (tCons (tTup fun _ H Q => Q (Cs'.map (Ty.vv X.K)) H) tNil)) := pa_cons he (pa_cons ht pa_nil hs2) hs
  refine PyProof.Rows.callWith_builtin1 (thn (ha.run pos pins s σ H (fun vs H1 => ∃ v tp, vs = [v, .ref tp] ∧ H1 tp = some (.tup (Cs'.map (Ty.vv X.K))) ∧ ∃ ι d st, Rep X.K ι H1 d v ∧ RepSto X.K ι H1 st ∧ ∃ t, tyD d st = some t ∧ okT tb t = true ∧ kindT tb d st = true ∧
    Out X.K (repD X.K) W ι σ H1 Q (.ok (.bl (Cs'.any fun C => subT tb t C)) st)) I ?_) fun us s1 ⟨vs, H1, I1, r1, v, tp, ev, eT, ι, d, st, rx, rs, t, h1, h2, h3, o⟩ => ?_) hs hpl
  · obtain ⟨ι, env, st, re, rs, o⟩ := isi_then h
    refine ⟨ι, env, st, re, rs, Out.imp ?_ o⟩
    rintro v H1 ⟨ι1, d, st1, rx, rs1, t, h1, h2, h3, o1⟩
    refine ⟨by rw [List.length_map]; exact fits_le hf, fun tp hn => ⟨v, tp, rfl, upd_same, ι1, d, st1, rx.ext (Ext.new hn), rs1.new hn, t, h1, h2, h3, Out.shift (Ext.new hn) o1⟩⟩
  · subst ev
    obtain ⟨u1, u2, rfl, ra, rb⟩ := vals2 r1
    obtain rfl : u2 = Value.ref tp := rb
    obtain ⟨P, Z, hp, hx⟩ := kit_D T I1 ra rx rs h1 h3
    obtain ⟨_, its, rv, ob, e1, e2, n, e3⟩ := I1.hok tp _ eT
    obtain rfl := vvs_val rv
    obtain ⟨oc, od, dt, sl⟩ := ob
    obtain rfl : oc = .type "tuple" := e2
    obtain rfl : dt = .seq (Cs'.map (Ty.val X.K)).toArray n := e3
    exact PySem.W.kia_tup Z I1.kIn hp e1 (kitAny_of fun C hC => hk t h2 C hC) hx fun tk => ⟨.bl _, H1, I1.tok tk, rfl, o.ofBl rs⟩
/-! ### attributes -/
/-- a field -/
def fldOf (f : Str) (ns : List Str) (vs : List D) : Option D := (ns.zip vs).lookup f
theorem fld_rep {K : PySem.W.Frag} {ι : Ix} {H : Hp} {f : Str} {d : D} : ∀ {fs : List (Str × V)} {ds : List D}, Reps K ι H ds (fs.map (·.2)) → fldOf f (fs.map (·.1)) ds = some d → ∃ v, fs.lookup f = some v ∧ Rep K ι H d v
  | [], ds, r, h => by simp [fldOf] at h
  | (g, v) :: fs, ds, r, h => by
    cases ds with
    | nil => simp [fldOf] at h
    | cons e ds =>
      rw [List.map_cons, Reps.cons_iff] at r
      obtain ⟨v', us, e1, r1, r2⟩ := r
      cases e1
      unfold fldOf at h
      rw [List.map_cons, List.zip_cons_cons, List.lookup_cons] at h
      rw [List.lookup_cons]
      split at h
      · rename_i hq
        cases h
        rw [hq]
        exact ⟨v, rfl, r1⟩
      · rename_i hq
        rw [hq]
        exact fld_rep (f := f) r2 h
/-- the class's instances have the field f in their own dicts -/
def FC (K : PySem.W.Frag) (f : Str) (cs xs : List Str) : Prop := (∀ c ∈ cs, Cls K (He.ga K c) ∧ NoAttr K (He.ga K c) f) ∧ ∀ c ∈ xs, XfC K (He.ga K c) ∧ NoAttr K (He.ga K c) f
def fcB (K : PySem.W.Frag) (f : Str) (cs xs : List Str) : Bool := (cs.all fun c => (He.Fa.cls c).ok K && (He.Fa.noat c f).ok K) && xs.all fun c => xfB K (He.ga K c) && (He.Fa.noat c f).ok K
theorem fcB_ok {K : PySem.W.Frag} {f : Str} {cs xs : List Str} (h : fcB K f cs xs = true) : FC K f cs xs := by
  obtain ⟨h1, h2⟩ := Bool.and_eq_true_iff.mp h
  refine ⟨fun c hc => ?_, fun c hc => ?_⟩
  · obtain ⟨a, b⟩ := Bool.and_eq_true_iff.mp (List.all_eq_true.mp h1 c hc)
    exact ⟨He.cls_ok a, He.noat_ok b⟩
  · obtain ⟨a, b⟩ := Bool.and_eq_true_iff.mp (List.all_eq_true.mp h2 c hc)
    exact ⟨xfB_ok a, He.noat_ok b⟩
def fldR (f : Str) (ns : List Str) (vs : List D) (b : Bool) (st : Sto) : R D := if b = true then (match fldOf f ns vs with
  | some d => .ok d st
  | none => .bad) else .bad
def fldD (f : Str) (cs xs : List Str) (x : D) (st : Sto) : R D := match x with
  | .obj c ns vs => fldR f ns vs (cs.contains c) st
  | .exn c ns vs => fldR f ns vs (xs.contains c) st
  | .ref n => (match st[n]? with
    | some (.ins c ns vs) => fldR f ns vs (cs.contains c) st
    | _ => .bad)
  | _ => .bad
def mFld (f : Str) (cs xs : List Str) (me : ME) : ME := fun env st => (me env st).bind (fldD f cs xs)
theorem se_fld {f : Str} (cs xs : List Str) (hc : FC X.K f cs xs) (he : SE X W e me) (hb : attributeBase e f X.env (eval e X.env) = eval e X.env := by rfl) : SE X W (.Attribute e f pos) (mFld f cs xs me) := by
  refine ⟨fun pins s σ H Q I h => ?_⟩
  refine attr_of hb (thn (he.run pins s σ H _ I (tE_then h)) fun u s1 ⟨x, H1, I1, rx, ι, d, st, r, rs, o⟩ => ?_)
  have ins : ∀ {a dx : Addr} {c : Str} {fs : List (Str × V)} {ds : List D}, x = .ref a → H1 a = some (.ins (He.ga X.K c) dx fs) → Reps X.K ι H1 ds (fs.map (·.2)) → Out X.K (repD X.K) W ι σ H1 Q (fldR f (fs.map (·.1)) ds (cs.contains c) st) →
      wpAny (model X.prog X.w) X.A (getAttr u f true) (EP X pins σ Q) X.xe s1 := by
    intro a dx c fs ds ex ea hr o
    subst ex
    obtain rfl : u = Value.ref a := rx
    unfold fldR at o
    split at o
    · rename_i hcc
      split at o
      · rename_i d' hd
        obtain ⟨v, hv, rv⟩ := fld_rep hr hd
        obtain ⟨c1, c2⟩ := hc.1 c (by simpa using hcc)
        exact getattr_ok I1 ea c1 c2 hv fun u' s2 I2 ru => ⟨v, H1, I2, ru, o.val (b := v) rv rs⟩
      · exact o.elim
    · exact o.elim
  unfold fldD at o
  split at o
  · rename_i c ns vs
    obtain ⟨a, dx, fs, e1, _, e2, e3, e4⟩ := Rep.obj_iff.mp r
    subst e3
    exact ins e1 e2 e4 o
  · rename_i c ns vs
    obtain ⟨a, dd, rfl, _, e2, hd⟩ := Rep.exn_iff.mp r
    obtain rfl : u = Value.ref a := rx
    unfold fldR at o
    split at o
    · rename_i hcc
      split at o
      · rename_i d' hfd
        rcases hd with ⟨rfl, rfl, _⟩ | ⟨dx, fs, rfl, _, e5, rfl, e7⟩
        · simp [fldOf] at hfd
        obtain ⟨v, hv, rv⟩ := fld_rep e7 hfd
        obtain ⟨T, hno⟩ := hc.2 c (by simpa using hcc)
        obtain ⟨⟨oe, vs', eo, z1, z2, z3⟩, _⟩ := I1.hok a _ e2
        obtain ⟨mA, hns, hr⟩ := I1.hok dx _ e5
        obtain ⟨od, ho, hl⟩ := lookIn_ns hns
        obtain ⟨w', hw', rw'⟩ := RelO.some_of (v := v) (o := mA f) (by rw [← hv]; exact hr f)
        have J : PySem.W.InstAt s1.heap a oe (He.ga X.K c) (some od) := ⟨eo, z1, by unfold PySem.W.notCls; rw [z3], by rw [z2]; exact ho⟩
        exact HandSPX.exc_get I1.kIn J T.ga T.gg T.exC (PySem.W.findObj_own T.hdC hno rfl (by rw [hl, hw'])) (handed_of rw') ⟨v, H1, I1.tok _, rw', o.val (b := v) rv rs⟩
      · exact o.elim
    · exact o.elim
  · rename_i n
    split at o
    · rename_i c ns vs hq
      obtain ⟨a, ha, e1⟩ := Rep.ref_iff.mp r
      obtain ⟨dx, fs, e2, e3, e4⟩ := rs.at_ n _ a hq ha
      subst e3
      exact ins e1 e2 e4 o
    · exact o.elim
  · exact o.elim
end
end ML

set_option Elab.async false
set_option linter.all false
set_option maxRecDepth 100000
set_option maxHeartbeats 1000000
/-! MLd: numbers and texts of the module; dict displays -/
namespace ML
open PySem PySem.Spec PyProof.Rows L2
section
variable {X : Cx} {W : WX} {e : Expr} {es : List Expr} {me mk mv : ME} {p pos : Pos} {x : Str}
theorem se_gint {i : Int} (hm : ∃ t, X.mg x = some (.int i t)) (hg : Gl X x := by rfl) (hd : (x == ("__debug__" : Str)) = false := by decide) : SE X W (.Name x p) (mC (.int i)) := by
  obtain ⟨t, hm⟩ := hm
  exact se_const (v := .int i) (pe_glob hg hm ⟨t, rfl⟩ hd) fun _ _ => Rep.int_iff.mpr rfl
theorem se_gstr {z : Str} (hm : ∃ t, X.mg x = some (.str z t)) (hg : Gl X x := by rfl) (hd : (x == ("__debug__" : Str)) = false := by decide) (hk : PyData.strOk z = true := by decide +kernel) : SE X W (.Name x p) (mC (.str z)) := by
  obtain ⟨t, hm⟩ := hm
  exact se_const (v := .str z) (pe_glob hg hm ⟨t, rfl⟩ hd) fun _ _ => Rep.str_iff.mpr ⟨rfl, hk⟩
/-- a new dict: a cell or not -/
def finD (md : Bool) (ks : List DK) (vs : List D) (st : Sto) : R D := match md with
  | true => .ok (.ref st.length) (st ++ [.dic ks vs])
  | false => .ok (.dic ks vs) st
theorem Out.newD {K : PySem.W.Frag} {ι : Ix} {H : Hp} {σ : St'} {Q : VK} {md : Bool} {ks : List DK} {ds : List D} {vs : List V} {o : HO} {st : Sto} (h : Out K (repD K) W ι σ H Q (finD md ks ds st)) (hd : DicHO ks vs o) (r : Reps K ι H ds vs) (s : RepSto K ι H st) {p : Addr} (hp : H p = none) : Q (.ref p) (upd H p o) := by
  cases md with
  | false =>
    exact h _ ι _ (Ext.new hp) (Rep.dic_iff.mpr ⟨p, vs, o, rfl, s.fresh hp, upd_same, hd, r.ext (Ext.new hp)⟩) (s.new hp)
  | true =>
    refine h _ (ι.push p) _ (Ext.newC hp) (Rep.ref_iff.mpr ⟨p, ?_, rfl⟩) (s.alloc hp ⟨vs, o, upd_same, hd, r.ext (Ext.newC hp)⟩)
    rw [← s.len]
    show (ι.c ++ [p])[ι.c.length]? = some p
    rw [List.getElem?_append_right (Nat.le_refl _)]
    simp
theorem se_dic0 (md : Bool) : SE X W (.Dict [] [] pos) (fun _ st => finD md [] [] st) := by
  refine ⟨fun pins s σ H Q I h => pe_dnewK.run pins s σ H Q I ?_⟩
  obtain ⟨ι, env, st, re, rs, o⟩ := h
  exact fun q hq => Out.newD o ⟨rfl, .inl ⟨[], rfl, rfl⟩⟩ .nil rs hq
def RepP (K : PySem.W.Frag) : RepT (List (D × D)) (List (V × V)) := fun ι H ds ps => Reps K ι H (ds.map (·.1)) (ps.map (·.1)) ∧ Reps K ι H (ds.map (·.2)) (ps.map (·.2))
abbrev MP := Env' → Sto → R (List (D × D))
def mPairs (mk mv : ME) (mp : MP) : MP := fun env st => (mk env st).bind fun a st1 => (mv env st1).bind fun b st2 => (mp env st2).bind fun r st3 => .ok ((a, b) :: r) st3
def SPs (X : Cx) (W : WX) (pos : Pos) (keys : List (Option Expr)) (values : List Expr) (mp : MP) : Prop := ∃ trs, PPs X pos keys values trs ∧ ∀ σ H Q, tX X.K (RepP X.K) W mp σ H Q → tPairs trs σ H Q
theorem sp_nil : SPs X W pos [] [] (fun _ st => .ok [] st) := ⟨[], pps_nil, fun σ H Q ⟨ι, env, st, re, rs, o⟩ => Out.val (b := ([] : List (V × V))) o ⟨.nil, .nil⟩ rs⟩
theorem sp_cons {k v : Expr} {ks : List (Option Expr)} {vs : List Expr} {mp : MP} (hk : SE X W k mk) (hv : SE X W v mv) (hr : SPs X W pos ks vs mp) : SPs X W pos (some k :: ks) (v :: vs) (mPairs mk mv mp) := by
  obtain ⟨trs, h1, h2⟩ := hr
  refine ⟨_, pps_cons hk hv h1, fun σ H Q ⟨ι, env, st, re, rs, o⟩ => ?_⟩
  refine ⟨ι, env, st, re, rs, Out.imp ?_ (Out.bind (rep := repD X.K) o)⟩
  rintro a H1 ⟨ι1, da, st1, e1, ra, rs1, o1⟩
  refine ⟨ι1, env, st1, re.ext e1, rs1, Out.imp ?_ (Out.bind (rep := repD X.K) o1)⟩
  rintro b H2 ⟨ι2, db, st2, e2, rb, rs2, o2⟩
  refine h2 σ H2 _ ⟨ι2, env, st2, (re.ext e1).ext e2, rs2, Out.imp ?_ (Out.bind (rep := RepP X.K) o2)⟩
  rintro ps H3 ⟨ι3, ds, st3, e3, ⟨r1, r2⟩, rs3, o3⟩
  exact o3.val (b := (a, b) :: ps) ⟨.cons (Rep.ext e3 (Rep.ext e2 ra)) r1, .cons (Rep.ext e3 rb) r2⟩ rs3
theorem putK_end {κ : Type} [DecidableEq κ] {kvs : List (κ × V)} {k : κ} {v : V} (h : k ∉ kvs.map (·.1)) : putK kvs k v = kvs ++ [(k, v)] := by
  unfold putK
  rw [if_neg]
  simp only [List.any_eq_true, decide_eq_true_eq, not_exists, not_and]
  intro q hq e
  exact h (List.mem_map.mpr ⟨q, hq, e⟩)
theorem foldPut {κ : Type} [DecidableEq κ] : ∀ (more kvs : List (κ × V)), ((kvs ++ more).map (·.1)).Nodup → more.foldl (fun acc kv => putK acc kv.1 kv.2) kvs = kvs ++ more
  | [], kvs, _ => by simp
  | (k, v) :: more, kvs, h => by
    rw [List.foldl_cons, putK_end, foldPut more _ (by simpa using h)]
    · simp
    · rw [List.map_append, List.map_cons, List.nodup_append] at h
      exact fun hm => h.2.2 k hm k (by simp) rfl
def dicOf (md : Bool) (ps : List (D × D)) (st : Sto) : R D := match strsD (ps.map (·.1)) with
  | some ks => if decide ks.Nodup && decide (ks.length ≤ 15) then finD md (ks.map DK.s) (ps.map (·.2)) st else .bad
  | none => .bad
def mDic (md : Bool) (mp : MP) : ME := fun env st => (mp env st).bind (dicOf md)
theorem keyS_map : ∀ ks : List Str, keyS (ks.map DK.s) = some ks
  | [] => rfl
  | k :: ks => by simp [keyS, keyS_map ks]
theorem se_dic (md : Bool) {keys : List (Option Expr)} {values : List Expr} {mp : MP} (h : SPs X W pos keys values mp) (hall : keys.all (·.isSome) = true := by rfl) (hl : keys.length = values.length := by rfl) (h0 : keys ≠ [] := by simp) (h15 : keys.length ≤ 15 := by decide) :
    SE X W (.Dict keys values pos) (mDic md mp) := by
  obtain ⟨trs, h1, h2⟩ := h
  refine ⟨fun pins s σ H Q I hw => (pe_disp h1 hall hl h0 h15).run pins s σ H Q I ?_⟩
  intro q hq
  obtain ⟨ι, env, st, re, rs, o⟩ := hw
  have g1 : Ext ι H (ι.guard q) (upd H q (.dK [])) := Ext.guard hq
  refine h2 _ _ _ ⟨ι.guard q, env, st, re.ext g1, rs.guard hq, ?_⟩
  have o' : Out X.K (repD X.K) W ι σ H Q ((mp env st).bind (dicOf md)) := o
  have key : ∀ (r : R (List (D × D))), Out X.K (repD X.K) W ι σ H Q (r.bind (dicOf md)) → Out X.K (RepP X.K) W (ι.guard q) σ (upd H q (.dK [])) (fun ps H2 => H2 q = some (.dK []) ∧ ∃ kvs : List (Key × V), ps = kvs.map (fun kv => (kV kv.1, kv.2)) ∧ kvs.length ≤ 15 ∧ Q (.ref q) (upd H2 q (.dK (mergeK [] kvs)))) r := by
    intro r hr
    cases r with
    | bad => exact hr
    | ex c ns vs st1 =>
      intro cls dd ι' H' e1 e2 e3
      have hr' : Out X.K (repD X.K) W ι σ H Q (.ex c ns vs st1) := hr
      have ee := g1.trans e1
      obtain ⟨a1, a2⟩ := e2
      have hp : ∀ a ∈ ι.p, a ∈ ι'.p := fun a ha => e1.prt a (List.mem_cons_of_mem _ ha)
      refine hr' cls dd ⟨ι'.c, ι.p⟩ H' ⟨ee.pre, fun _ h => h, fun _ h => .inl h, ee.keep, ee.there⟩ ⟨a1, ?_⟩ (e3.weak hp)
      rcases a2 with a2 | ⟨d, fs, b1, b2, b3, b4, b5⟩
      · exact .inl a2
      · exact .inr ⟨d, fs, b1, ⟨b2.1, fun z => b2.2 (hp d z)⟩, b3, b4, Reps.re (Keeps.weak hp) b5⟩
    | ok ds st1 =>
      intro ps ι' H' e1 ⟨r1, r2⟩ e3
      have hr' : Out X.K (repD X.K) W ι σ H Q (dicOf md ds st1) := hr
      unfold dicOf at hr'
      cases hs : strsD (ds.map (·.1)) with
      | none => simp only [hs] at hr'; exact hr'.elim
      | some ks =>
        simp only [hs] at hr'
        split at hr'
        · rename_i hb
          obtain ⟨hb1, hb2⟩ := Bool.and_eq_true_iff.mp hb
          have hb1 := of_decide_eq_true hb1
          have hb2 := of_decide_eq_true hb2
          rw [strsD_eq hs] at r1
          obtain ⟨ek, hkk⟩ := r1.strs
          have nc : q ∉ ι'.c := e1.notc (o := .dK []) upd_same (rs.fresh hq).1
          have hp1 : q ∈ ι'.p := e1.prt q List.mem_cons_self
          have hq1 : H' q = some (.dK []) := e1.keep q _ upd_same (rs.fresh hq).1
          have ee := g1.trans e1
          have hp : ∀ a ∈ ι.p, a ∈ ι'.p := fun a ha => e1.prt a (List.mem_cons_of_mem _ ha)
          have hl : ks.length = (ps.map (·.2)).length := by
            have := congrArg List.length ek
            simp at this ⊢; omega
          generalize hkv : (ks.map (Sum.inr : Str → Key)).zip (ps.map (·.2)) = kvs
          have k1 : kvs.map (·.1) = ks.map (Sum.inr : Str → Key) := by rw [← hkv]; exact List.map_fst_zip (by simp at hl ⊢; omega)
          have k2 : kvs.map (·.2) = ps.map (·.2) := by rw [← hkv]; exact List.map_snd_zip (by simp at hl ⊢; omega)
          have eps : ps = kvs.map (fun kv => (kV kv.1, kv.2)) := by
            apply List.ext_getElem?
            intro i
            have a1 := congrArg (fun l => l[i]?) ek
            have a2 := congrArg (fun l => l[i]?) k1
            have a3 := congrArg (fun l => l[i]?) k2
            simp only [List.getElem?_map] at a1 a2 a3 ⊢
            cases c1 : ps[i]? with
            | none =>
              rw [c1] at a3
              cases c2 : kvs[i]? with
              | none => rfl
              | some z => rw [c2] at a3; cases a3
            | some z =>
              rw [c1] at a1 a3
              cases c2 : kvs[i]? with
              | none => rw [c2] at a3; cases a3
              | some y =>
                rw [c2] at a2 a3
                cases c3 : ks[i]? with
                | none => rw [c3] at a1; cases a1
                | some k =>
                  rw [c3] at a1 a2
                  simp at a1 a2 a3 ⊢
                  obtain ⟨z1, z2⟩ := z
                  obtain ⟨y1, y2⟩ := y
                  simp at a1 a2 a3 ⊢
                  subst a1 a2 a3
                  exact ⟨rfl, rfl⟩
          have em : mergeK [] kvs = kvs := by
            show kvs.foldl (fun acc kv => putK acc kv.1 kv.2) [] = kvs
            rw [foldPut kvs [] (by
              rw [List.nil_append, k1]
              exact List.Pairwise.map _ (fun a b hab e => hab (Sum.inr.inj e)) hb1)]
            rfl
          have hkl : kvs.length ≤ 15 := by
            have := congrArg List.length k1
            simp at this; omega
          refine ⟨hq1, kvs, eps, hkl, ?_⟩
          rw [em]
          have hd : DicHO (ks.map DK.s) (ps.map (·.2)) (.dK kvs) := ⟨by simp at hl ⊢; omega, .inl ⟨ks, keyS_map ks, by rw [hkv]⟩⟩
          have base : Ext ι H ⟨ι'.c, ι.p⟩ (upd H' q (.dK kvs)) := ⟨ee.pre, fun _ h => h, fun _ h => .inl h, fun a u ha hna => by
            rw [upd_ne (ne_of_none ha hq)]; exact ee.keep a u ha hna, fun a ha => by
            by_cases hqa : a = q
            · rw [hqa]; exact hq
            · rw [upd_ne hqa] at ha; exact ee.there a ha⟩
          have rr : Reps X.K ⟨ι'.c, ι.p⟩ (upd H' q (.dK kvs)) (ds.map (·.2)) (ps.map (·.2)) := Reps.re (Keeps.weak hp) (Reps.re (Keeps.turn hp1) r2)
          have rst : RepSto X.K ⟨ι'.c, ι.p⟩ (upd H' q (.dK kvs)) st1 := (e3.turn hp1 nc).weak hp
          have hDp : q ∉ ι.p := (rs.fresh hq).2
          cases md with
          | false =>
            exact hr' _ ⟨ι'.c, ι.p⟩ _ base (Rep.dic_iff.mpr ⟨q, _, _, rfl, ⟨nc, hDp⟩, upd_same, hd, rr⟩) rst
          | true =>
            obtain ⟨κ, z1, z2⟩ := base.pre
            have cc : CellAt X.K ⟨ι'.c ++ [q], ι.p⟩ (upd H' q (.dK kvs)) q (.dic (ks.map DK.s) (ds.map (·.2))) := ⟨_, _, upd_same, hd, Reps.re (Keeps.cell hp hp1) (Reps.re (Keeps.turn hp1) r2)⟩
            refine hr' _ ⟨ι'.c ++ [q], ι.p⟩ _ ⟨⟨κ ++ [q], by show ι'.c ++ [q] = _; rw [show ι'.c = ι.c ++ κ from z1, List.append_assoc], fun a ha => ?_⟩, base.prt, base.prn, base.keep, base.there⟩ ?_ ((e3.turn hp1 nc).cell' hp hp1 nc cc)
            · rcases List.mem_append.mp ha with z | z
              · exact z2 a z
              · simp at z; rw [z]; exact hq
            · exact Rep.ref_iff.mpr ⟨q, by
                rw [show st1.length = ι'.c.length from e3.len.symm]
                show (ι'.c ++ [q])[ι'.c.length]? = some q
                rw [List.getElem?_append_right (Nat.le_refl _)]; simp, rfl⟩
        · exact hr'.elim
  exact key _ o'
end
end ML

set_option Elab.async false
set_option linter.all false
set_option maxRecDepth 100000
set_option maxHeartbeats 1000000
/-! MLe: defs that are called where no repr is under way; repr of a dict of texts; a law's end by such a def -/
namespace ML
open PySem PySem.Spec PyProof.Rows L2
/-- a def's promise at a place where no repr runs -/
structure FnOkG (P : Program) (w : World) (K : PySem.W.Frag) (mg : Str → Option Value) (base : Heap) (k : Nat) (f : Addr) (fd : FuncData) (ps : List Str) (sp : Sp) : Prop where
  len : ∀ vs H Q E, sp vs H Q E → vs.length = ps.length
  run : ∀ (A : Around) (outer : List Env) (s : Shared) (H : Hp) (args : Args) (us : List Value) (vs : List V) (Q : VK) (E : XK), A.guards = some [] → Room k A → Env0 P w K mg base A outer s H → BindsTo s fd args (ps.zip us) → Vals vs us → sp vs H Q E →
    codeAny (model P w) A (.call (.ref f) args) (CR (L2.CX P w) outer P w H s Q E) s
section
variable {P : Program} {w : World} {K : PySem.W.Frag} {mg : Str → Option Value} {base : Heap} {k : Nat} {f : Addr} {fd : FuncData} {ps : List Str} {sp : Sp}
theorem FnOkG.of (F : FnOk P w K mg base (L2.CX P w) k f fd ps sp) : FnOkG P w K mg base k f fd ps sp := ⟨F.len, fun A outer s H args us vs Q E _ hr => F.run A outer s H args us vs Q E hr⟩
theorem FnOkG.mono {j : Nat} (F : FnOkG P w K mg base j f fd ps sp) (h : j ≤ k) : FnOkG P w K mg base k f fd ps sp := ⟨F.len, fun A outer s H args us vs Q E hg hr => F.run A outer s H args us vs Q E hg (hr.mono h)⟩
theorem fn_runG {name qual : Str} {params : Arguments} {body : List Stmt} {scope : Scope} {dvs : List V} {kws : List (Str × V)} {N : List Str} (F : FunD K name qual params body scope dvs kws f fd) (S : FnScope N ps scope) (len : ∀ vs H Q E, sp vs H Q E → vs.length = ps.length)
    (hbody : ∀ (cdv : Value) (A : Around) (outer : List Env) (s : Shared) (H : Hp) (vs : List V) (Q : VK) (E : XK), A.guards = some [] → Room k (A.deeper (envOfC qual scope s.heap.objs.size f cdv)) → sp vs H Q E →
      ∃ t, PSs (cxOf (L2.CX P w) P w K mg base N qual scope f cdv A outer s H E) body t ∧ t { nx := fun _ H' => Q .non H', rt := Q } (start N vs) H) : FnOkG P w K mg base (k + 1) f fd ps sp := by
  obtain ⟨oc, od, dV, kV, doc, pm, an, cdv, ct, osl, rfl, lk, hcd, _, _⟩ := F.ex
  refine ⟨len, fun A outer s H args us vs Q E hgd hr e0 hb r hsp => ?_⟩
  have kept : ∀ b o, base.get? b = some o → s.heap.get? b = some o := fun b o e => (e0.bs b o e).1
  have KX : K.In s.heap := e0.mod.kin.keeps kept
  have kinds : ∀ y ∈ ps.zip us, scope.names.lookup y.1 = some .local ∨ (scope.names.lookup y.1 = some .cell ∧ ((cellsFrom (s.heap.objs.size + 1) scope.names []).lookup y.1).isSome = true) := by
    rintro ⟨n, v⟩ hy
    have hp := S.par n (List.of_mem_zip hy).1
    exact hp.imp (fun q => q) fun q => ⟨q, PySem.W.cellsFrom_some _ _ _ (.inl q)⟩
  obtain ⟨t, ht, hq⟩ := hbody cdv A outer s H vs Q E hgd (hr.deeper _) hsp
  refine codeAny_call_function hr.depth (KX _ _ lk) rfl S.co S.gen rfl (PySem.W.codeRec_of KX hcd) (hb _ _ _ _ (wpAny_newFunctionEnv_cells S.kind kinds fun env he s1 x => ?_))
  subst he
  refine ⟨(e0.mod.nolimit.keeps kept).keeps x.toInCall.keep, codeAny_func ?_⟩
  have I : Inv (cxOf (L2.CX P w) P w K mg base N qual scope f cdv A outer s H E) [] (start N vs) H s1 := inv_start S hr.hd e0 (len _ _ _ _ hsp) r x
  refine wpAny_mono (ht.run [] s1 (start N vs) H _ I hq) (fun fl s' hs => ?_) fun _ _ hs => hs
  cases fl with
  | ret u => obtain ⟨v, σ', H', J, rv, q⟩ := hs; exact ⟨v, H', J.os, J.bare, J.base, J.hok, rv, q⟩
  | next => obtain ⟨σ', H', J, q⟩ := hs; exact ⟨V.non, H', J.os, J.bare, J.base, J.hok, rfl, q⟩
  | brk => obtain ⟨_, _, _, q⟩ := hs; exact q.elim
  | cont => obtain ⟨_, _, _, q⟩ := hs; exact q.elim
/-- THE RULE for a def, at such a place -/
theorem fn_okG {name qual : Str} {params : Arguments} {body : List Stmt} {scope : Scope} {dvs : List V} {kws : List (Str × V)} {N : List Str} {m : MS} (F : FunD K name qual params body scope dvs kws f fd) (S : FnScope N ps scope)
    (hb : ∀ (cdv : Value) (A : Around) (outer : List Env) (s : Shared) (H : Hp) (E : XK), (XF P w K mg base N qual scope f cdv A outer s H E).A.guards = some [] → Room k (XF P w K mg base N qual scope f cdv A outer s H E).A → SSs (XF P w K mg base N qual scope f cdv A outer s H E) (WF E) body m) :
    FnOkG P w K mg base (k + 1) f fd ps (spF K (runB ps.length N.length m)) := by
  refine fn_runG F S (fun vs H Q E h => ?_) (fun cdv A outer s H vs Q E hg hr h => ⟨_, hb cdv A outer s H E hg hr, ?_⟩)
  · obtain ⟨ι, ds, st, r, rs, o⟩ := h
    unfold runB at o
    split at o
    · rename_i hl
      rw [← r.length]; exact hl
    · exact o.elim
  obtain ⟨ι, ds, st, r, rs, o⟩ := h
  refine ⟨ι, _, st, repEnv_start r, rs, ?_⟩
  unfold runB at o
  split at o
  · revert o
    generalize m (ds.map some ++ List.replicate (N.length - ds.length) none) st = z
    intro o
    cases z with
    | nx env st' => exact fun σ' ι' H' e1 _ e3 => o V.non ι' H' e1 (Rep.non_iff.mpr rfl) e3
    | rt d st' => exact o
    | ex c ns vs env st' => exact fun cls dd σ' ι' H' e1 _ e3 e4 => o cls dd ι' H' e1 e3 e4
    | bad => exact o.elim
  · exact o.elim
end
section
variable {X : Cx} {W : WX} {x : Str} {k : Nat} {f : Addr} {fd : FuncData} {ps : List Str} {F : FN} {p pos : Pos} {e a b : Expr} {es : List Expr} {mr : MA} {ma mb : ME}
theorem spF_out {σ : St'} {H : Hp} {Q : VK} {ι : Ix} {ds : List D} {st : Sto} {vs : List V} (r : Reps X.K ι H ds vs) (rs : RepSto X.K ι H st) (o : Out X.K (repD X.K) W ι σ H Q (F ds st)) : spF X.K F vs H Q (WE W σ) := by
  refine ⟨ι, ds, st, r, rs, ?_⟩
  revert o
  generalize F ds st = z
  intro o
  cases z with
  | ok d st' => exact o
  | ex c ns vs st' => exact o
  | bad => exact o
/-- f(e, ..) at such a place -/
theorem se_callG (F1 : FnOkG X.prog X.w X.K X.mg X.base k f fd ps (spF X.K F)) (hgd : X.A.guards = some []) (hr : Room k X.A) (hm : X.mg x = some (.ref f)) (hk : PySem.W.keepIn X.K (.ref f) = true) (hb : Binds X.K fd ps []) (tk : Takes X W) (ha : SA X W (e :: es) mr)
    (hg : Gl X x := by rfl) (hdb : (x == ("__debug__" : Str)) = false := by decide) (he : starEach (e :: es) X.env = (false, eval e X.env) :: starEach es X.env := by rfl) (hpl : (backTo pos (starEach es X.env)).any (·.1) = false := by rfl) :
    SE X W (.Call (.Name x p) (e :: es) [] pos) (mArg F mr) := by
  refine ⟨fun pins s σ H Q I h => ?_⟩
  refine wpAny_Call_Name_kw (ld_glob I hg hm (PySem.W.callWith_K (h₀ := X.base) I.ok.mod.kin hk (thn (ha.run pos pins s σ H _ I (tA_then h)) fun us s1 ⟨vs, H1, I1, r, ι1, ds, st1, rx, rs1, o1⟩ => ⟨I1.kIn, ?_⟩) he hpl) hdb)
  have hsp := spF_out (W := W) rx rs1 o1
  have hl : (us ++ []).length = ps.length := by rw [List.append_nil, ← r.length]; exact F1.len _ _ _ _ hsp
  have hbb := hb s1 us I1.kIn hl
  rw [List.append_nil] at hbb
  refine wpAny_call (codeAny_mono (F1.run X.A X.stack s1 H1 ⟨us, []⟩ us vs Q (WE W σ) hgd hr I1.env0 hbb r hsp) fun res s' hq => ?_)
  cases res with
  | error er => exact passAt tk σ pins H1 s1 er s' I1 hq
  | ok fl =>
    cases fl with
    | ret u => exact I1.after hq
    | next => exact False.elim hq
    | brk => exact False.elim hq
    | cont => exact False.elim hq
/-! ### repr(a) == repr(b), of dicts of texts -/
def dictShown (ss ws : List Str) : Str := PyData.shown (.dict ((ss.zip ws).map fun p => (.str p.1, .str p.2)))
def rRepr : List V → Hp → VK → Prop := fun xs H Q => ∃ (a : Addr) (ss ws : List Str), xs = [.ref a] ∧ H a = some (.dK ((ss.map (Sum.inr : Str → Key)).zip (ws.map V.str))) ∧ (dictShown ss ws).length ≤ sizeLine ∧ Q (.str (dictShown ss ws)) H
theorem reads_pairs {P : Program} {w : World} {h : Heap} : ∀ {ss ws : List Str} {es : List DictEntry} {vs : List (Key × Value)}, Pairs (mixKind P w) es vs → KV ((ss.map (Sum.inr : Str → Key)).zip (ws.map V.str)) vs →
    (∃ as, ReadsAll h (es.map (·.key)) (((ss.zip ws).map fun p => ((PyData.str p.1, PyData.str p.2) : PyData × PyData)).map (·.1)) as ∧ sysModules ∉ as) ∧ ∃ as, ReadsAll h (es.map (·.val)) (((ss.zip ws).map fun p => ((PyData.str p.1, PyData.str p.2) : PyData × PyData)).map (·.2)) as ∧ sysModules ∉ as
  | [], ws, es, vs, hp, hk => by
    have hk' : KV [] vs := by simpa using hk
    cases hk'
    cases hp
    exact ⟨⟨[], .nil, by simp⟩, [], .nil, by simp⟩
  | s :: ss, [], es, vs, hp, hk => by
    have hk' : KV [] vs := by simpa using hk
    cases hk'
    cases hp
    exact ⟨⟨[], .nil, by simp⟩, [], .nil, by simp⟩
  | s :: ss, z :: ws, es, vs, hp, hk => by
    have hk' : KV (((Sum.inr s : Key), V.str z) :: (ss.map (Sum.inr : Str → Key)).zip (ws.map V.str)) vs := hk
    cases hp with
    | nil => cases hk'
    | @cons en kv es' kvs' g1 g2 g3 =>
      cases hk' with
      | cons h1 h2 =>
        obtain ⟨e1, t, e2⟩ := h1
        obtain ⟨⟨as, r1, n1⟩, bs, r2, n2⟩ := reads_pairs (P := P) (w := w) (h := h) (ss := ss) (ws := ws) g3 h2
        obtain ⟨qk, qv⟩ := kv
        dsimp only at e1 e2 g1 g2
        subst e1 e2
        rcases keyIs_shape (show keyIs (Sum.inr s) en.key = true from g1) with ⟨i, t', e3, e4⟩ | ⟨x, t', e3, e4⟩
        · cases e3
        · cases e3
          refine ⟨⟨[] ++ as, ?_, by simpa using n1⟩, [] ++ bs, ?_, by simpa using n2⟩
          · rw [List.map_cons, e4]
            exact .cons (.str _ _) r1
          · rw [List.map_cons, g2]
            exact .cons (.str _ _) r2
theorem show_pairs : ∀ (l : List (Str × Str)), PyData.showableKv (l.map fun p => (PyData.str p.1, PyData.str p.2)) = true ∧ PyData.depthKv (l.map fun p => (PyData.str p.1, PyData.str p.2)) = 0
  | [] => ⟨rfl, rfl⟩
  | p :: l => by
    obtain ⟨h1, h2⟩ := show_pairs l
    exact ⟨by simp [PyData.showableKv, PyData.showable, h1], by simp [PyData.depthKv, PyData.depth, h2]⟩
theorem call_reprD (hgd : X.A.guards = some []) (hu : X.A.units + 64 < cLine) : CallR X (.builtin "repr") rRepr := by
  intro pins s σ H xs us Q I r h
  obtain ⟨a, ss, ws, rfl, hH, hz, q⟩ := h
  obtain ⟨u, rfl, ru⟩ := vals1 r
  obtain rfl : u = Value.ref a := ru
  obtain ⟨_, hsys, vs, kv, o, es, ep, h1, h2, h3, _, h5, _⟩ := dk_of I.hok hH
  obtain ⟨⟨as, r1, n1⟩, bs, r2, n2⟩ := reads_pairs (P := X.prog) (w := X.w) (h := s.heap) h5 kv
  obtain ⟨s1, s2⟩ := show_pairs (ss.zip ws)
  have rd : Reads s.heap (.ref a) (.dict ((ss.zip ws).map fun p => (.str p.1, .str p.2))) (a :: as ++ bs) := .dict h1 h2.1 h3 r1 r2
  refine repr_of_reads' rd (by simpa [PyData.showable] using s1) (fun _ hm => ?_) hgd (by simp only [PyData.depth, s2]; omega) (fun _ _ e => e) (fun h' t tk hk => ⟨.str (dictShown ss ws), H, I.kept hk, ⟨_, rfl⟩, q⟩) hz
  rcases List.mem_append.mp hm with hm | hm
  · rcases List.mem_cons.mp hm with e | hm
    · rw [← e] at hsys; simp at hsys
    · exact n1 hm
  · exact n2 hm
def rReprT : List V → Hp → VK → Prop := fun xs H Q => ∃ a : Addr, xs = [.ref a] ∧ H a = some (.dT []) ∧ Q (.str (dictShown [] [])) H
theorem call_reprT (hgd : X.A.guards = some []) (hu : X.A.units + 64 < cLine) : CallR X (.builtin "repr") rReprT := by
  intro pins s σ H xs us Q I r h
  obtain ⟨a, rfl, hH, q⟩ := h
  obtain ⟨u, rfl, ru⟩ := vals1 r
  obtain rfl : u = Value.ref a := ru
  obtain ⟨_, hsys, l, hp, o, es, ep, h1, h2, h3, h4, _⟩ := I.hok a _ hH
  cases hp
  have h4 : es.toList = [] := h4
  have rd : Reads s.heap (.ref a) (.dict []) (a :: [] ++ []) := .dict h1 h2.1 h3 (by rw [h4]; exact .nil) (by rw [h4]; exact .nil)
  refine repr_of_reads' rd rfl (fun _ hm => ?_) hgd (by show X.A.units + (0 + 1 + 1) < cLine; omega) (fun _ _ e => e) (fun h' t tk hk => ⟨.str (dictShown [] []), H, I.kept hk, ⟨_, rfl⟩, q⟩) (by rw [sizeLine_eq]; decide +kernel)
  simp at hm
  rw [← hm] at hsys; simp at hsys
/-- the texts of a dict -/
def dicT (d : D) : Option (List Str × List Str) := match d with
  | .dic ks vs => (match keyS ks, strsD vs with
    | some ss, some ws => some (ss, ws)
    | _, _ => none)
  | _ => none
theorem dicT_at {K : PySem.W.Frag} {ι : Ix} {H : Hp} {d : D} {v : V} {ss ws : List Str} (h : dicT d = some (ss, ws)) (r : Rep K ι H d v) : ∃ a, v = .ref a ∧ (H a = some (.dK ((ss.map (Sum.inr : Str → Key)).zip (ws.map V.str))) ∨ (H a = some (.dT []) ∧ ss = [] ∧ ws = [])) := by
  unfold dicT at h
  split at h
  · rename_i ks vs
    split at h
    · rename_i s' w' e1 e2
      cases h
      obtain ⟨a, us, o, rfl, _, e3, ⟨hl, hd⟩, e5⟩ := Rep.dic_iff.mp r
      rw [strsD_eq e2] at e5
      obtain ⟨rfl, _⟩ := e5.strs
      rcases hd with ⟨s2, f1, rfl⟩ | ⟨s2, f1, rfl⟩
      · rw [e1] at f1; cases f1
        exact ⟨a, rfl, .inl e3⟩
      · cases ks with
        | nil =>
          simp [keyS] at e1
          simp [keyT] at f1
          subst e1 f1
          have : ws = [] := by simpa using hl.symm
          subst this
          exact ⟨a, rfl, .inr ⟨e3, rfl, rfl⟩⟩
        | cons k ks =>
          cases k with
          | s z => simp [keyT] at f1
          | t z => simp [keyS] at e1
    · cases h
  · cases h
def mReprEq (ma mb : ME) : ME := fun env st => (ma env st).bind fun x st1 => match dicT x with
  | some (ss, ws) => if fits (dictShown ss ws).length = true then (mb env st1).bind fun y st2 => (match dicT y with
    | some (ss', ws') => if fits (dictShown ss' ws').length = true then .ok (.bl (decide (dictShown ss ws = dictShown ss' ws'))) st2 else .bad
    | none => .bad) else .bad
  | none => .bad
theorem se_reprEq {p1 p2 q1 q2 : Pos} (hgd : X.A.guards = some []) (hu : X.A.units + 64 < cLine) (hm : X.mg "repr" = none) (ha : SE X W a ma) (hb : SE X W b mb) (hg : Gl X "repr" := by rfl)
    (hs1 : starEach [a] X.env = (false, eval a X.env) :: starEach [] X.env := by rfl) (hs2 : starEach [b] X.env = (false, eval b X.env) :: starEach [] X.env := by rfl) (hn : behindInMarks .Eq (.Call (.Name "repr" p2) [b] [] q2) = false := by first | exact nobehind _ (by decide) (by decide) | rfl) :
    SE X W (.Compare (.Call (.Name "repr" p1) [a] [] q1) [.Eq] [.Call (.Name "repr" p2) [b] [] q2] pos) (mReprEq ma mb) := by
  have cr := CallR.or (call_reprD hgd hu) (call_reprT hgd hu)
  have e1 := pe_callB (p := p1) (pos := q1) cr hg hm rfl (pa_cons ha pa_nil hs1) (by decide) (by decide) hs1 rfl
  have e2 := pe_callB (p := p2) (pos := q2) cr hg hm rfl (pa_cons hb pa_nil hs2) (by decide) (by decide) hs2 rfl
  refine ⟨fun pins s σ H Q I h => (pe_cmpR op_eq e1 e2 hn).run pins s σ H Q I ?_⟩
  have one : ∀ {ι : Ix} {H1 : Hp} {d : D} {v : V} {ss ws : List Str} {Q' : VK}, dicT d = some (ss, ws) → Rep X.K ι H1 d v → fits (dictShown ss ws).length = true → Q' (.str (dictShown ss ws)) H1 → rRepr [v] H1 Q' ∨ rReprT [v] H1 Q' := by
    intro ι H1 d v ss ws Q' hd r hf q
    obtain ⟨a', rfl, h1 | ⟨h1, rfl, rfl⟩⟩ := dicT_at hd r
    · exact .inl ⟨a', ss, ws, rfl, h1, fits_le hf, q⟩
    · exact .inr ⟨a', rfl, h1, q⟩
  obtain ⟨ι, env, st, re, rs, o⟩ := h
  refine ⟨ι, env, st, re, rs, Out.imp ?_ (Out.bind (rep := repD X.K) o)⟩
  rintro x H1 ⟨ι1, dx, st1, ex, rx, rs1, o1⟩
  dsimp only at o1
  split at o1
  · rename_i ss ws hd
    split at o1
    · rename_i hf
      refine one hd rx hf ?_
      refine ⟨ι1, env, st1, re.ext ex, rs1, Out.imp ?_ (Out.bind (rep := repD X.K) o1)⟩
      rintro y H2 ⟨ι2, dy, st2, ey, ry, rs2, o2⟩
      dsimp only at o2
      split at o2
      · rename_i ss' ws' hd'
        split at o2
        · rename_i hf'
          refine one hd' ry hf' ⟨rfl, ?_⟩
          have q := o2.ofBl rs2
          by_cases he : dictShown ss ws = dictShown ss' ws'
          · rw [he] at q ⊢
            simpa using q
          · rw [decide_eq_false he] at q
            rw [decide_eq_false (fun z => he (V.str.inj z))]
            exact q
        · exact o2.elim
      · exact o2.elim
    · exact o1.elim
  · exact o1.elim
end
end ML

set_option Elab.async false
set_option linter.all false
set_option maxRecDepth 100000
set_option maxHeartbeats 1000000
/-! MLf: a law's end -/
namespace ML
open PySem PySem.Spec PyProof.Rows L2
/-- the law's def, asked with the script -/
theorem law_start {K : PySem.W.Frag} {F : FN} {H : Hp} {a : Addr} {ns : List Int} (hO : Only H) (hS : SqL K H a (ns.map V.int)) (h : ∃ st, F [.scr ns] [] = .ok (.bl true) st) : spF K F [.ref a] H (fun v _ => v = .bl true) fun _ _ _ => False := by
  obtain ⟨st, e⟩ := h
  refine ⟨⟨[], []⟩, [.scr ns], [], .one (Rep.scr_iff.mpr ⟨a, rfl, ?_⟩), ⟨by simp, rfl, by simp, by simp⟩, ?_⟩
  · rcases hS with (h1 | ⟨o, h1⟩) | h1
    · rcases hO a with z | ⟨o, xs, z⟩
      · rw [z] at h1; cases h1
      · rw [z] at h1; cases h1
    · exact .inl ⟨⟨by simp, by simp⟩, o, h1⟩
    · exact .inr h1
  · rw [e]
    intro v ι' H' _ r _
    exact Rep.bl_iff.mp r
theorem law_callG {P : Program} {w : World} {K : PySem.W.Frag} {mg mb : Str → Option Value} {k : Nat} {fa a : Addr} {fd : FuncData} {x : Str} {sp : Sp} {s₁ : Shared} {vs : List Value} {ns : List Int}
    (KX : K.In s₁.heap) (hns : s₁.heap.Ns mainGlobals mg) (hb : s₁.heap.Ns builtinsNs mb) (hbb : ∀ x : Str, x ≠ "__name__" → mb x = bootBuiltins x) (hlim : s₁.heap.NoLimit) (hg : s₁.gens = #[])
    (ha : s₁.heap.get? a = some { cls := .type "list", data := .seq vs.toArray }) (hi : IntsAre vs ns) (hl : ns.length ≤ sizeLine) (hr : Room k callerA)
    (F : ∀ base : Heap, K.In base → base.Ns mainGlobals mg → FnOkG P w K mg base k fa fd [x] sp) (hbind : ∀ (s : Shared) (u : Value), BindsTo s fd ⟨[u], []⟩ [(x, u)])
    (hsp : ∀ H : Hp, Only H → SqL K H a (ns.map V.int) → sp [.ref a] H (fun v _ => v = .bl true) fun _ _ _ => False) :
    codeAny (model P w) callerA (.call (.ref fa) ⟨[.ref a], []⟩) (fun r s' => r = .ok (.ret (.bool true)) ∧ OldK s₁.heap s'.heap ∧ s'.os = s₁.os ∧ AllBare s'.gens) s₁ := by
  have go : ∀ H : Hp, Only H → SqL K H a (ns.map V.int) → HOk P w H s₁.heap → (∀ b, b ≠ a → H b = none) → (H a ≠ none → K.lookup a = none) →
      codeAny (model P w) callerA (.call (.ref fa) ⟨[.ref a], []⟩) (fun r s' => r = .ok (.ret (.bool true)) ∧ OldK s₁.heap s'.heap ∧ s'.os = s₁.os ∧ AllBare s'.gens) s₁ := by
    intro H hO hS hok hA hK
    have nsAt : ∀ {b : Addr} {m : Str → Option Value}, s₁.heap.Ns b m → (hidT s₁.heap H).Ns b m := by
      rintro b m ⟨o, es, ep, e, d, r⟩
      have hba : b ≠ a := by
        rintro rfl
        rw [ha] at e
        cases e
        cases d
      exact ⟨o, es, ep, hidT_get e (hA b hba), d, r⟩
    have inK : K.In (hidT s₁.heap H) := by
      intro b o e
      refine hidT_get (KX b o e) ?_
      by_cases hba : b = a
      · subst hba
        cases q : H b with
        | none => rfl
        | some u =>
          have := hK (by rw [q]; simp)
          rw [this] at e; cases e
      · exact hA b hba
    obtain ⟨mc, c1, c2⟩ := hlim
    have M : Mod K mg (hidT s₁.heap H) := ⟨inK, nsAt hns, ⟨mb, nsAt hb, hbb⟩, ⟨mc, nsAt c1, c2⟩⟩
    have start0 : Env0 P w K mg (hidT s₁.heap H) callerA [] s₁ H := ⟨rfl, M, fun b o e => of_hidT e, Nat.le_of_eq (hidT_size _ _), trivial, fun b hb => absurd (show b ∈ ([] : List Addr) from hb) (by simp), hok, .of_eq hg⟩
    have run := (F _ inK (nsAt hns)).run callerA [] s₁ H ⟨[.ref a], []⟩ [.ref a] [.ref a] _ _ rfl hr start0 (hbind s₁ (.ref a)) (.cons rfl .nil) (hsp H hO hS)
    refine codeAny_mono run fun r s' h => ?_
    cases r with
    | error e =>
      obtain ⟨_, _, _, _, _, _, _, _, _, _, _, _, z⟩ := h
      exact z.elim
    | ok fl =>
      cases fl with
      | next => exact False.elim h
      | brk => exact False.elim h
      | cont => exact False.elim h
      | ret u =>
        obtain ⟨v, H', os, bare, un, hok', rv, q⟩ := h
        obtain rfl : v = .bl true := q
        obtain rfl : u = Value.bool true := rv
        refine ⟨rfl, OldK.of_keep fun b o e => ?_, os, bare⟩
        rcases hO b with z | ⟨ob, xs, z⟩
        · exact un.keep b o e z (by intro y; exact absurd (show b ∈ ([] : List Addr) from y) (by simp)) (by simp)
        · obtain ⟨e1, _⟩ := hok b _ z
          obtain ⟨e2, _⟩ := hok' b _ (un.frzs b ob _ z)
          rw [e] at e1; cases e1
          exact e2
  have rv := vals_ints hi
  have lenV := hi.length
  cases hk : K.lookup a with
  | some o =>
    have e := KX a o hk
    rw [ha] at e
    cases e
    exact go (fun _ => none) (fun _ => .inl rfl) (.inr ⟨_, vs.toArray, _, hk, rfl, rfl, rfl, by rw [List.size_toArray, lenV]; exact hl, by simpa using rv⟩) (fun b u z => by cases (show (none : Option HO) = some u from z)) (fun _ _ => rfl) (fun z => absurd rfl z)
  | none =>
    let H : Hp := fun b => if b = a then some (.frz { cls := .type "list", data := .seq vs.toArray } (.lst (ns.map V.int))) else none
    have at_a : H a = some (.frz { cls := .type "list", data := .seq vs.toArray } (.lst (ns.map V.int))) := if_pos rfl
    have off : ∀ b, b ≠ a → H b = none := fun b hb => if_neg hb
    refine go H (fun b => ?_) (.inl (.inr ⟨_, at_a⟩)) (fun b u z => ?_) off fun _ => hk
    · by_cases hb : b = a
      · subst hb; exact .inr ⟨_, _, at_a⟩
      · exact .inl (off b hb)
    · by_cases hb : b = a
      · subst hb
        rw [at_a] at z
        cases z
        exact ⟨ha, by rw [List.length_map]; exact hl, vs, _, rv, ha⟩
      · rw [off b hb] at z; cases z
/-- the goal behind the head, for a law whose def does F -/
theorem walk_ofG {l : PySem.W.OpenLaw} {n k : Nat} {q : Program} {loose : List Str} {XP : (Str → Option Value) → Heap → Prop} {YP : World → Heap → Prop} {d : DefRec} {x : Str}
    (hn : l.most = some n) (hn2 : n ≤ sizeLine) (hdf : d.params.defaults = []) (hr : Room k callerA)
    (F : ∀ (w : World) (mg : Str → Option Value) (fa : Addr) (h : Heap), YP w h → h.Ns mainGlobals mg → mg d.name = some (.ref fa) →
      ∃ (K : PySem.W.Frag) (fd : FuncData) (f : FN), K.In h ∧ (∀ (s : Shared) (u : Value), BindsTo s fd ⟨[u], []⟩ [(x, u)]) ∧ (∀ ns : List Int, ns.length ≤ n → ∃ st, f [.scr ns] [] = .ok (.bl true) st) ∧
        ∀ base : Heap, K.In base → base.Ns mainGlobals mg → FnOkG l.prog w K mg base k fa fd [x] (spF K f)) :
    PySem.W.WalkO q loose XP YP l.row.toRowW d [] (fun f vs => PySem.call f vs) := by
  refine Att.attach_call hn hdf fun w s₀ s₁ mg mb fa o pm cd doc a vs ns G Y ho hd hcd hmg hobj hints hlen hg => ?_
  obtain ⟨K, fd, f, KX, hb, hsp, hF⟩ := F w mg fa _ Y G.T.g hmg
  exact law_callG KX G.T.g G.T.b G.T.builtins G.T.nolimit hg hobj hints (Nat.le_trans hlen hn2) hr hF hb fun H hO hS => law_start hO hS (hsp ns hlen)
end ML

set_option Elab.async false
set_option linter.all false
set_option maxRecDepth 100000
set_option maxHeartbeats 1000000
/-! MLg: what is known of the written part, by names -/
namespace ML
open PySem PySem.Spec PyProof.Rows L2
theorem Room.u65 {k : Nat} {A : Around} (r : Room k A) : A.units + 65 < cLine := by have := r.un; omega
/-! ### own exceptions -/
def vbase : List Value := [.type "ValueError", .type "Exception", .type "BaseException", .type "object"]
def lbase : List Value := [.type "LookupError", .type "Exception", .type "BaseException", .type "object"]
def xcB (K : PySem.W.Frag) (c : Str) (ve : Bool) : Bool := PySem.W.excInitIn K (He.ga K c) (if ve = true then vbase else lbase) (if ve = true then "ValueError.__new__" else "LookupError.__new__") && (PySem.W.excOver K (He.ga K c) (if ve = true then vbase else lbase) && (PySem.W.hasDictIn K (He.ga K c) &&
  (decide (PySem.W.findIn K (.ref (He.ga K c)) "__setattr__" = some (some (.builtin "object.__setattr__"))) && (decide (PySem.W.findIn K (.ref (He.ga K c)) "__getattribute__" = some (some (.builtin "BaseException.__getattribute__"))) &&
  (decide (PySem.W.findIn K (.ref (He.ga K c)) "__getattr__" = some none) && (decide (PySem.W.subIn K (.ref (He.ga K c)) (.type "BaseException") = some true) && (decide (PySem.W.typeIn K (.ref (He.ga K c)) = some (.type "type")) && PySem.W.keepIn K (.ref (He.ga K c)))))))))
theorem xcB_ok {K : PySem.W.Frag} {c : Str} {ve : Bool} (h : xcB K c ve = true) : ∃ B newId initId bmB, XC K (He.ga K c) B newId initId bmB := by
  unfold xcB at h
  simp only [Bool.and_eq_true, decide_eq_true_eq] at h
  obtain ⟨h1, h2, h3, h4, h5, h6, h7, h8, h9⟩ := h
  cases ve with
  | true => exact ⟨_, _, _, _, F.excBase_ValueError, F.store_ValueError, h1, h2, h3, h4, h5, h6, h7, h8, h9⟩
  | false => exact ⟨_, _, _, _, F.excBase_LookupError, F.store_LookupError, h1, h2, h3, h4, h5, h6, h7, h8, h9⟩
def xkB (K : PySem.W.Frag) (c : Str) (ns : List Str) (ve : Bool) : Bool := xcB K c ve && (decide (PySem.W.findIn K (.ref (He.ga K c)) "__init__" = some (some (.ref (He.ma K (He.ga K c) "__init__")))) && (decide (PySem.W.typeIn K (.ref (He.ma K (He.ga K c) "__init__")) = some (.type "function")) &&
  ns.all fun f => decide (PySem.W.takerIn K (He.ga K c) f = some none)))
def xnB (K : PySem.W.Frag) (c : Str) (ve : Bool) : Bool := PySem.W.excIn K (He.ga K c) (if ve = true then vbase else lbase) (if ve = true then "ValueError.__new__" else "LookupError.__new__") && (PySem.W.keepIn K (.ref (He.ga K c)) &&
  (decide (PySem.W.subIn K (.ref (He.ga K c)) (.type "BaseException") = some true) && decide (PySem.W.typeIn K (.ref (He.ga K c)) = some (.type "type"))))
section
variable {P : Program} {w : World} {K : PySem.W.Frag} {mg : Str → Option Value} {base : Heap} {c x y : Str} {fd : FuncData} {qual : Str} {params : Arguments} {scope : Scope} {ve : Bool} {p1 p2 p3 p4 p5 p6 p7 p8 : Pos}
theorem xn_ok (h : xnB K c ve = true) (g : mg c = some (.ref (He.ga K c))) : XN0 K mg c := by
  unfold xnB at h
  simp only [Bool.and_eq_true, decide_eq_true_eq] at h
  obtain ⟨h1, h2, h3, h4⟩ := h
  refine ⟨?_, h2, h3, h4, g⟩
  cases ve with
  | true => exact ⟨_, _, _, _, F.excBase_ValueError, h1⟩
  | false => exact ⟨_, _, _, _, F.excBase_LookupError, h1⟩
theorem xk1 (h : xkB K c [x] ve = true) (g : mg c = some (.ref (He.ga K c))) (F : FunD K "__init__" qual params [.Assign [.Attribute (.Name "self" p1) x p2] (.Name x p3) p4] scope [] [] (He.fAd K (c, some "__init__")) fd) (S : FnScope ["self", x] ["self", x] scope)
    (hs : Vis scope "self") (hx : Vis scope x) (hd : (x == ("__debug__" : Str)) = false) (hc : (x == ("__classdict__" : Str)) = false) (hb : Binds K fd ["self", x] []) : XK0 P w K mg base c [x] := by
  unfold xkB at h
  simp only [Bool.and_eq_true, decide_eq_true_eq, List.all_cons, List.all_nil] at h
  obtain ⟨h1, h2, h3, h4, _⟩ := h
  obtain ⟨B, newId, initId, bmB, T⟩ := xcB_ok h1
  exact ⟨⟨_, fd, ["self", x], B, newId, initId, bmB, T, h2, h3, init1 T F S h4 hs hx hd hc, hb⟩, g⟩
theorem xk2 (h : xkB K c [x, y] ve = true) (g : mg c = some (.ref (He.ga K c))) (F : FunD K "__init__" qual params [.Assign [.Attribute (.Name "self" p1) x p2] (.Name x p3) p4, .Assign [.Attribute (.Name "self" p5) y p6] (.Name y p7) p8] scope [] [] (He.fAd K (c, some "__init__")) fd)
    (S : FnScope ["self", x, y] ["self", x, y] scope) (hs : Vis scope "self") (hx : Vis scope x) (hy : Vis scope y) (hd : (x == ("__debug__" : Str)) = false) (hc : (x == ("__classdict__" : Str)) = false) (hd2 : (y == ("__debug__" : Str)) = false) (hc2 : (y == ("__classdict__" : Str)) = false)
    (hb : Binds K fd ["self", x, y] []) : XK0 P w K mg base c [x, y] := by
  unfold xkB at h
  simp only [Bool.and_eq_true, decide_eq_true_eq, List.all_cons, List.all_nil] at h
  obtain ⟨h1, h2, h3, h4, h5, _⟩ := h
  obtain ⟨B, newId, initId, bmB, T⟩ := xcB_ok h1
  exact ⟨⟨_, fd, ["self", x, y], B, newId, initId, bmB, T, h2, h3, init2 T F S h4 h5 hs hx hy hd hc hd2 hc2, hb⟩, g⟩
end
/-! ### all of it -/
structure Tabs where
  tb : ClsTab
  kts : List (List Ty)
  fcs : List (Str × List Str × List Str)
  xks : List (Str × List Str × Bool)
  xns : List (Str × Bool)
def Tabs.ok (T : Tabs) (K : PySem.W.Frag) : Bool := ttB K T.tb && (T.kts.all (ktB K T.tb) && ((T.fcs.all fun p => fcB K p.1 p.2.1 p.2.2) && ((T.xks.all fun p => xkB K p.1 p.2.1 p.2.2) && T.xns.all fun p => xnB K p.1 p.2)))
/-- what the defs' proofs take -/
structure Al (T : Tabs) (fa : List He.Fa) (fn : List He.DefD) (K : PySem.W.Frag) (mg : Str → Option Value) (fdT : Nat → FuncData) : Prop where
  d : ∀ (i : Nat) {d : He.DefD}, fn[i]? = some d → FunD K d.name d.qual d.params d.body d.scope (d.dvs K) (d.kws K) (He.fAd K d.at_) (fdT i)
  glo : ∀ (i : Nat) {x : Str}, fa[i]? = some (.glo x) → mg x = some (.ref (He.ga K x))
  fre : ∀ (i : Nat) {x : Str}, fa[i]? = some (.free x) → mg x = none
  int_ : ∀ (i : Nat) {x : Str} {n : Int}, fa[i]? = some (.int x n) → ∃ t, mg x = some (.int n t)
  str_ : ∀ (i : Nat) {x z : Str}, fa[i]? = some (.str x z) → ∃ t, mg x = some (.str z t)
  fact : ∀ (i : Nat) {f : He.Fa}, fa[i]? = some f → f.ok K = true
  tt : TT K T.tb
  kt_ : ∀ (i : Nat) {Cs : List Ty}, T.kts[i]? = some Cs → KT K T.tb Cs
  fc_ : ∀ (i : Nat) {f : Str} {cs xs : List Str}, T.fcs[i]? = some (f, cs, xs) → FC K f cs xs
  xk_ : ∀ (i : Nat) {c : Str} {ns : List Str} {ve : Bool}, T.xks[i]? = some (c, ns, ve) → xkB K c ns ve = true
  xn : ∀ (i : Nat) {c : Str} {ve : Bool}, T.xns[i]? = some (c, ve) → mg c = some (.ref (He.ga K c)) → XN0 K mg c
theorem al_of {T : Tabs} {fa : List He.Fa} {fn : List He.DefD} {K : PySem.W.Frag} {mg : Str → Option Value} {h : Heap} {w : World} (X : K.In h) (G : h.Ns mainGlobals mg) (c : He.SaysX fa fn [] [] (Tabs.ok T) w h K) : ∃ fdT, Al T fa fn K mg fdT := by
  have c1 := c.t.d
  have c2 := c.more
  unfold Tabs.ok at c2
  simp only [Bool.and_eq_true, List.all_eq_true] at c2
  obtain ⟨e1, e2, e3, e4, e5⟩ := c2
  have hd : ∀ i : Nat, ∃ fd, ∀ {d : He.DefD}, fn[i]? = some d → FunD K d.name d.qual d.params d.body d.scope (d.dvs K) (d.kws K) (He.fAd K d.at_) fd := by
    intro i
    cases q : fn[i]? with
    | none => exact ⟨default, fun e => by cases e⟩
    | some d =>
      obtain ⟨fd, F⟩ := c1.def_ i q
      exact ⟨fd, fun e => by cases e; exact F⟩
  exact ⟨fun i => (hd i).choose, {
    d := fun i {d} e => (hd i).choose_spec e
    glo := fun i {x} e => He.glo_ok X G (c1.fact i e)
    fre := fun i {x} e => He.free_ok X G (c1.fact i e)
    int_ := fun i {x n} e => He.int_ok X G (c1.fact i e)
    str_ := fun i {x z} e => He.str_ok X G (c1.fact i e)
    fact := fun i {f} e => c1.fact i e
    tt := ttB_ok e1
    kt_ := fun i {Cs} e => ktB_ok (e2 _ (List.mem_of_getElem? e))
    fc_ := fun i {f cs xs} e => fcB_ok (e3 _ (List.mem_of_getElem? e))
    xk_ := fun i {c ns ve} e => e4 _ (List.mem_of_getElem? e)
    xn := fun i {c ve} e g => xn_ok (e5 _ (List.mem_of_getElem? e)) g }⟩
/-- nothing is let out of a place that tells nothing of exceptions -/
theorem px0 {X : Cx} : Passes (L2.CX X.prog X.w) X (fun _ _ _ => False) := fun _ _ _ _ _ _ _ h => by
  obtain ⟨_, _, _, _, _, _, _, _, _, _, _, _, z⟩ := h
  exact z.elim
end ML

set_option Elab.async false
set_option linter.all false
set_option maxRecDepth 100000
set_option maxHeartbeats 4000000
/-! MLk: the deck of the laws: what is drawn of a script -/
namespace ML
open PySem PySem.Spec PyProof.Rows L2
/-! ### evaluation -/
@[simp] theorem mSeq_e (m m' : MS) (env : Env') (st : Sto) : mSeq m m' env st = (m env st).bind m' := rfl
@[simp] theorem mSet_e (i : Nat) (me : ME) (env : Env') (st : Sto) : mSet i me env st = (me env st).toS env fun d st1 => .nx (env.set i (some d)) st1 := rfl
@[simp] theorem mVar_e (i : Nat) (env : Env') (st : Sto) : mVar i env st = match env[i]? with | some (some d) => .ok d st | _ => .bad := rfl
@[simp] theorem mC_e (d : D) (env : Env') (st : Sto) : mC d env st = .ok d st := rfl
@[simp] theorem mOp_e (f : D → D → Sto → R D) (ma mb : ME) (env : Env') (st : Sto) : mOp f ma mb env st = (ma env st).bind fun x st1 => (mb env st1).bind fun y st2 => f x y st2 := rfl
@[simp] theorem mUn_e (f : D → Sto → R D) (ma : ME) (env : Env') (st : Sto) : mUn f ma env st = (ma env st).bind f := rfl
@[simp] theorem mNil_e (env : Env') (st : Sto) : mNil env st = .ok [] st := rfl
@[simp] theorem mCons_e (ma : ME) (mr : MA) (env : Env') (st : Sto) : mCons ma mr env st = (ma env st).bind fun d st1 => (mr env st1).bind fun ds st2 => .ok (d :: ds) st2 := rfl
@[simp] theorem mArg_e (F : FA) (mr : MA) (env : Env') (st : Sto) : mArg F mr env st = (mr env st).bind F := rfl
@[simp] theorem mTup_e (mr : MA) (env : Env') (st : Sto) : mTup mr env st = (mr env st).bind fun ds st1 => if fits ds.length = true then .ok (.tup ds) st1 else .bad := rfl
@[simp] theorem mLst_e (md : Bool) (mr : MA) (env : Env') (st : Sto) : mLst md mr env st = (mr env st).bind fun ds st1 => if fits ds.length = true then finL md ds st1 else .bad := rfl
@[simp] theorem mRet_e (me : ME) (env : Env') (st : Sto) : mRet me env st = (me env st).toS env fun d st1 => .rt d st1 := rfl
@[simp] theorem mDrop_e (me : ME) (env : Env') (st : Sto) : mDrop me env st = (me env st).toS env fun _ st1 => .nx env st1 := rfl
@[simp] theorem mNext_e (env : Env') (st : Sto) : mNext env st = .nx env st := rfl
@[simp] theorem mIf_e (mt : MT) (m m' : MS) (env : Env') (st : Sto) : mIf mt m m' env st = (mt env st).toS env fun c st1 => if c = true then m env st1 else m' env st1 := rfl
@[simp] theorem mBool_e (m : ME) (env : Env') (st : Sto) : mBool m env st = (m env st).bind isBl := rfl
@[simp] theorem mTru_e (m : ME) (env : Env') (st : Sto) : mTru m env st = (m env st).bind truR := rfl
@[simp] theorem mNot_e (m : MT) (env : Env') (st : Sto) : mNot m env st = (m env st).bind fun c st1 => .ok (!c) st1 := rfl
@[simp] theorem mAnd_e (ma mb : MT) (env : Env') (st : Sto) : mAnd ma mb env st = (ma env st).bind fun c st1 => if c = true then mb env st1 else .ok false st1 := rfl
@[simp] theorem mOr_e (ma mb : MT) (env : Env') (st : Sto) : mOr ma mb env st = (ma env st).bind fun c st1 => if c = true then .ok true st1 else mb env st1 := rfl
@[simp] theorem mAndV_e (ma mb : ME) (env : Env') (st : Sto) : mAndV ma mb env st = (ma env st).bind fun d st1 => match truD d st1 with | some true => mb env st1 | some false => .ok d st1 | none => .bad := rfl
@[simp] theorem mOrV_e (ma mb : ME) (env : Env') (st : Sto) : mOrV ma mb env st = (ma env st).bind fun d st1 => match truD d st1 with | some true => .ok d st1 | some false => mb env st1 | none => .bad := rfl
@[simp] theorem mNotV_e (ma : ME) (env : Env') (st : Sto) : mNotV ma env st = (ma env st).bind fun d st1 => match truD d st1 with | some k => .ok (.bl (!k)) st1 | none => .bad := rfl
@[simp] theorem mIfE_e (mt : MT) (ma mb : ME) (env : Env') (st : Sto) : mIfE mt ma mb env st = (mt env st).bind fun c st1 => if c = true then ma env st1 else mb env st1 := rfl
@[simp] theorem mAsg_e (p : Pat) (me : ME) (env : Env') (st : Sto) : mAsg p me env st = (me env st).toS env fun d st1 => match bindP p d env with | some env1 => .nx env1 st1 | none => .bad := rfl
@[simp] theorem mFor_e (mi : MI) (p : Pat) (m : MS) (env : Env') (st : Sto) : mFor mi p m env st = (mi env st).toS env fun q st1 => mLoop q.2 (mStep p m) q.1 env st1 := rfl
@[simp] theorem mLC_e (md : Bool) (mi : MI) (p : Pat) (vs : List Nat) (mc : MT) (me : ME) (env : Env') (st : Sto) : mLC md mi p vs mc me env st = (mi env st).bind fun q st1 => (mLCgo q.2 p mc me (wipeE env vs) q.1 [] st1).bind fun ds st2 => finL md ds st2 := rfl
@[simp] theorem mYes_e (env : Env') (st : Sto) : mYes env st = .ok true st := rfl
@[simp] theorem mIt_e (f : D → Sto → R ItD) (me : ME) (env : Env') (st : Sto) : mIt f me env st = (me env st).bind f := rfl
@[simp] theorem mItA_e (f : List D → Sto → R ItD) (mr : MA) (env : Env') (st : Sto) : mItA f mr env st = (mr env st).bind f := rfl
@[simp] theorem mMet_e (g : D → Sto → Bool) (F : FM) (mo : ME) (mr : MA) (env : Env') (st : Sto) : mMet g F mo mr env st = (mo env st).bind fun x st1 => if g x st1 = true then (mr env st1).bind fun ds st2 => F x ds st2 else .bad := rfl
@[simp] theorem mPutL_e (me mo mi : ME) (env : Env') (st : Sto) : mPutL me mo mi env st = (me env st).toS env fun d st1 => (mo env st1).toS env fun x st2 => (mi env st2).toS env fun y st3 => match cellL st3 x, y with
  | some (n, xs), .int i => (match ixN xs.length i with
    | some j => .nx env (st3.set n (.lst (xs.set j d)))
    | none => .bad)
  | _, _ => .bad := rfl
@[simp] theorem mPar_e (is : List Nat) (mr : MA) (env : Env') (st : Sto) : mPar is mr env st = (mr env st).toS env fun ds st1 => match is, ds with
  | [i, j], [d, d'] => .nx ((env.set i (some d)).set j (some d')) st1
  | [i, j, l], [d, d', d''] => .nx (((env.set i (some d)).set j (some d')).set l (some d'')) st1
  | _, _ => .bad := rfl
theorem mWhile_e (mt : MT) (m : MS) (n : Nat) (env : Env') (st : Sto) : mWhileN mt m (n + 1) env st = (mt env st).toS env fun c st1 => if c = true then (m env st1).bind (mWhileN mt m n) else .nx env st1 := rfl
theorem runB_ok {p n : Nat} {m : MS} {ds : List D} {st : Sto} (h : ds.length = p) : runB p n m ds st = match m (ds.map some ++ List.replicate (n - ds.length) none) st with
  | .nx _ st' => .ok .non st'
  | .rt d st' => .ok d st'
  | .ex c ns vs _ st' => .ex c ns vs st'
  | .bad => .bad := if_pos h
/-! ### ints -/
theorem datL_ints (st : Sto) (n : Nat) : ∀ ns : List Int, datL (dat st (n + 1)) (ns.map D.int) = some (ns.map PyData.int)
  | [] => rfl
  | k :: ns => by
    have h : dat st (n + 1) (.int k) = some (.int k) := rfl
    simp only [List.map_cons, datL, h, datL_ints st n ns]
theorem dat_lst {st : Sto} {d : D} {n : Nat} {ns : List Int} (h : lstD st d = some (ns.map D.int)) (hd : ∀ xs, d ≠ .tup xs) (h2 : dat st (n + 2) d = match lstD st d with | some xs => (datL (dat st (n + 1)) xs).map .list | none => none) : dat st (n + 2) d = some (.list (ns.map PyData.int)) := by
  rw [h2, h]
  simp only [datL_ints, Option.map_some]
theorem dat_ref {st : Sto} {k n : Nat} {ns : List Int} (h : st[k]? = some (.lst (ns.map D.int))) : dat st (n + 2) (.ref k) = some (.list (ns.map PyData.int)) :=
  dat_lst (by simp [lstD, h]) (fun _ e => by cases e) rfl
theorem eqv_ints_nil (ns : List Int) : PyData.eqv (.list (ns.map PyData.int)) (.list []) = ns.isEmpty := by
  cases ns <;> simp [PyData.eqv, PyData.eqvAll]
/-- the store with the deck in its first four cells -/
def dkSt (c0 : List D) (bs cs : List Int) (t : Int) (rest : Sto) : Sto := .lst c0 :: .lst (bs.map D.int) :: .lst (cs.map D.int) :: .lst [.ref 1, .ref 2, .int t] :: rest
noncomputable def dk_deck : MS := mSeq (mSet 1 (mLC true (mIt itL (mVar 0)) (.nm 2) [2] (mYes) (mArg absF (mCons (mVar 2) (mNil))))) (mRet (mLst true (mCons (mLC true (mIt itL (mVar 1)) (.nm 2) [2] (mBool (mOp geD (mVar 2) (mOp powD (mC (.int (10))) (mC (.int (18)))))) (mVar 2)) (mCons (mOp (addD true) (mVar 1) (mLst false (mCons (mOp (addD false) (mArg lenF (mCons (mVar 1) (mNil))) (mC (.int (3)))) (mNil)))) (mCons (mC (.int (0))) (mNil))))))
def dk_test : MT := mBool (mOp (eqD true) (mOp ixD (mVar 0) (mC (.int (0)))) (mLst false (mNil)))
def dk_body : MS := (mSeq (mSet 5 (mOp ixD (mOp ixD (mVar 0) (mC (.int (0)))) (mC (.int (0))))) (mSeq (mIf (mBool (mOp gtD (mVar 5) (mC (.int (0))))) (mSeq (mPutL (mOp fdivD (mVar 5) (mVar 1)) (mOp ixD (mVar 0) (mC (.int (0)))) (mC (.int (0)))) (mRet (mOp modD (mArg intF (mCons (mVar 5) (mNil))) (mVar 1)))) (mNext)) (mDrop (mMet isLst fPop (mOp ixD (mVar 0) (mC (.int (0)))) (mCons (mC (.int (0))) (mNil))))))
def dk_next : MS := mSeq (mWhileN dk_test dk_body 64) (mSeq (mPutL (mOp (addD false) (mOp ixD (mVar 0) (mC (.int (2)))) (mC (.int (1)))) (mVar 0) (mC (.int (2)))) (mSeq (mSet 2 (mOp ixD (mVar 0) (mC (.int (2))))) (mSeq (mSet 3 (mOp modD (mArg intF (mCons (mOp ixD (mOp ixD (mVar 0) (mC (.int (1)))) (mOp modD (mArg intF (mCons (mVar 2) (mNil))) (mArg lenF (mCons (mOp ixD (mVar 0) (mC (.int (1)))) (mNil))))) (mNil))) (mC (.int (2147483647))))) (mSeq (mSet 4 (mOp modD (mArg intF (mCons (mOp (addD false) (mOp (addD false) (mOp mulD (mVar 3) (mOp (addD false) (mC (.int (48271))) (mOp mulD (mC (.int (69621))) (mVar 2)))) (mOp mulD (mOp mulD (mC (.int (40692))) (mVar 2)) (mVar 2))) (mC (.int (11)))) (mNil))) (mC (.int (2147483629))))) (mRet (mOp modD (mOp fdivD (mOp modD (mArg intF (mCons (mOp mulD (mVar 4) (mVar 4)) (mNil))) (mC (.int (2147483587)))) (mC (.int (16)))) (mVar 1)))))))
section
variable {c0 : List D} {bs cs : List Int} {t m : Int} {rest : Sto}
theorem test_e (v1 v2 v3 v4 v5 : Option D) : dk_test [some (.ref 3), v1, v2, v3, v4, v5] (dkSt c0 bs cs t rest) = .ok (!bs.isEmpty) (dkSt c0 bs cs t rest) := by
  have h1 : dat (dkSt c0 bs cs t rest) dfuel (.ref 1) = some (.list (bs.map PyData.int)) := dat_ref (n := 38) rfl
  have h2 : dat (dkSt c0 bs cs t rest) dfuel (.lst []) = some (.list []) := rfl
  have h3 : ixD (.ref 3) (.int 0) (dkSt c0 bs cs t rest) = .ok (.ref 1) (dkSt c0 bs cs t rest) := rfl
  have h4 : fits ([] : List D).length = true := rfl
  simp only [dk_test, mBool_e, mOp_e, mVar_e, mC_e, mLst_e, mNil_e, R.bind_ok, List.getElem?_cons_zero, h3, h4, if_true, finL_f]
  simp only [eqD, h1, h2, eqv_ints_nil, if_true, R.bind_ok, isBl]
theorem dk0 : ixD (.ref 3) (.int 0) (dkSt c0 bs cs t rest) = .ok (.ref 1) (dkSt c0 bs cs t rest) := rfl
theorem dk1 : ixD (.ref 3) (.int 1) (dkSt c0 bs cs t rest) = .ok (.ref 2) (dkSt c0 bs cs t rest) := rfl
theorem dk2 : ixD (.ref 3) (.int 2) (dkSt c0 bs cs t rest) = .ok (.int t) (dkSt c0 bs cs t rest) := rfl
theorem ix0 {b : Int} : ixD (.ref 1) (.int 0) (dkSt c0 (b :: bs) cs t rest) = .ok (.int b) (dkSt c0 (b :: bs) cs t rest) := by
  simp [ixD, dkSt, seqD, atI, ixN]
theorem dkc1 : cellL (dkSt c0 bs cs t rest) (.ref 1) = some (1, bs.map D.int) := rfl
theorem dkc3 : cellL (dkSt c0 bs cs t rest) (.ref 3) = some (3, [.ref 1, .ref 2, .int t]) := rfl
theorem dks1 (xs : List Int) : (dkSt c0 bs cs t rest).set 1 (.lst (xs.map D.int)) = dkSt c0 xs cs t rest := rfl
theorem dks3 (t' : Int) : (dkSt c0 bs cs t rest).set 3 (.lst [.ref 1, .ref 2, .int t']) = dkSt c0 bs cs t' rest := rfl
theorem dkl1 : isLst (.ref 1) (dkSt c0 bs cs t rest) = true := rfl
theorem body_pos {b : Int} (hb : 0 < b) (hm : 0 < m) (hm2 : m < 1073741824) (v2 v3 v4 v5 : Option D) : dk_body [some (.ref 3), some (.int m), v2, v3, v4, v5] (dkSt c0 (b :: bs) cs t rest) = .rt (.int (b % m)) (dkSt c0 (b / m :: bs) cs t rest) := by
  have e1 : ixN (bs.length + 1) 0 = some 0 := by simp [ixN]
  have e2 : (List.map D.int (b :: bs)).set 0 (D.int (b / m)) = (b / m :: bs).map D.int := rfl
  simp [dk_body, dk0, ix0, cmpD, hb, isBl, fdivD, hm, hm2, dkc1, intF, modD, -List.map_cons, e1, e2, dks1]
theorem body_neg {b : Int} (hb : ¬ 0 < b) (v2 v3 v4 v5 : Option D) : dk_body [some (.ref 3), some (.int m), v2, v3, v4, v5] (dkSt c0 (b :: bs) cs t rest) = .nx [some (.ref 3), some (.int m), v2, v3, v4, some (.int b)] (dkSt c0 bs cs t rest) := by
  have e1 : ixN (bs.length + 1) 0 = some 0 := by simp [ixN]
  have e2 : (List.map D.int (b :: bs)).eraseIdx 0 = bs.map D.int := rfl
  have e3 : (List.map D.int (b :: bs))[0]? = some (.int b) := rfl
  have e4 : r62 0 = true := rfl
  simp [dk_body, dk0, ix0, cmpD, hb, isBl, dkl1, fPop, dkc1, -List.map_cons, e1, e2, e3, e4, dks1]
/-- what the loop comes to -/
theorem loop_e (hm : 0 < m) (hm2 : m < 1073741824) : ∀ (bs : List Int) (n : Nat) (v2 v3 v4 v5 : Option D), bs.length < n → (∃ b bs', mWhileN dk_test dk_body n [some (.ref 3), some (.int m), v2, v3, v4, v5] (dkSt c0 bs cs t rest) = .rt (.int (b % m)) (dkSt c0 bs' cs t rest) ∧ bs'.length ≤ bs.length) ∨
    ∃ v, mWhileN dk_test dk_body n [some (.ref 3), some (.int m), v2, v3, v4, v5] (dkSt c0 bs cs t rest) = .nx [some (.ref 3), some (.int m), v2, v3, v4, v] (dkSt c0 [] cs t rest)
  | bs, 0, _, _, _, _, h => absurd h (Nat.not_lt_zero _)
  | [], n + 1, v2, v3, v4, v5, h => by
    refine .inr ⟨v5, ?_⟩
    rw [mWhile_e, test_e]
    rfl
  | b :: bs, n + 1, v2, v3, v4, v5, h => by
    rw [mWhile_e, test_e]
    by_cases hb : 0 < b
    · refine .inl ⟨b, b / m :: bs, ?_, by simp⟩
      simp [body_pos hb hm hm2]
    · simp only [R.toS_ok, List.isEmpty_cons, Bool.not_false, if_true, body_neg hb, RS.bind_nx]
      rcases loop_e hm hm2 bs n v2 v3 v4 (some (.int b)) (by simp at h; omega) with ⟨b', bs', h1, h2⟩ | ⟨v, h1⟩
      · exact .inl ⟨b', bs', h1, by simp; omega⟩
      · exact .inr ⟨v, h1⟩
theorem ixc {i : Int} (h0 : 0 ≤ i) (h1 : i < cs.length) : ∃ c, ixD (.ref 2) (.int i) (dkSt c0 bs cs t rest) = .ok (.int c) (dkSt c0 bs cs t rest) := by
  have hn : i.toNat < cs.length := by omega
  refine ⟨cs[i.toNat], ?_⟩
  simp [ixD, dkSt, seqD, atI, ixN, h0, h1, hn]
/-- drawing a number -/
theorem next_e (hm : 0 < m) (hm2 : m < 1073741824) (hb : bs.length ≤ 63) (hc : cs ≠ []) (ht : 0 ≤ t) (ht2 : t < 1000000000) : ∃ r bs' t', runB 2 6 dk_next [.ref 3, .int m] (dkSt c0 bs cs t rest) = .ok (.int r) (dkSt c0 bs' cs t' rest) ∧ 0 ≤ r ∧ r < m ∧ bs'.length ≤ bs.length ∧ t ≤ t' ∧ t' ≤ t + 1 := by
  rw [runB_ok (p := 2) (ds := [.ref 3, .int m]) rfl]
  have hE : (List.map some [D.ref 3, D.int m] ++ List.replicate (6 - [D.ref 3, D.int m].length) none : Env') = [some (.ref 3), some (.int m), none, none, none, none] := rfl
  rw [hE]
  unfold dk_next
  rw [mSeq_e]
  rcases loop_e (c0 := c0) (cs := cs) (t := t) (rest := rest) hm hm2 bs 64 none none none none (by omega) with ⟨b', bs', h1, h2⟩ | ⟨v, h1⟩
  · rw [h1]
    exact ⟨b' % m, bs', t, rfl, Int.emod_nonneg _ (by omega), Int.emod_lt_of_pos _ hm, h2, Int.le_refl _, by omega⟩
  · rw [h1]
    have hl : (0 : Int) < cs.length := by
      cases cs with
      | nil => exact absurd rfl hc
      | cons c cs => simp
    have hl' : 0 < cs.length := by omega
    have q0 : 0 ≤ (t + 1) % (cs.length : Int) := Int.emod_nonneg _ (by omega)
    have q1 : (t + 1) % (cs.length : Int) < cs.length := Int.emod_lt_of_pos _ hl
    obtain ⟨c, hcx⟩ := ixc (c0 := c0) (bs := []) (cs := cs) (t := t + 1) (rest := rest) q0 q1
    have sm1 : small64 (c % 2147483647) = true := by
      have := Int.emod_nonneg c (show (2147483647 : Int) ≠ 0 by decide)
      have := Int.emod_lt_of_pos c (show (0 : Int) < 2147483647 by decide)
      simp [small64]; omega
    have sm2 : small64 (69621 : Int) = true := by decide
    have sm3 : small64 (40692 : Int) = true := by decide
    have sm4 : small64 (t + 1) = true := by simp [small64]; omega
    have ll : seqD (dkSt c0 [] cs (t + 1) rest) (.ref 2) = some (cs.map D.int) := rfl
    have ll2 : lenF [.ref 2] (dkSt c0 [] cs (t + 1) rest) = .ok (.int cs.length) (dkSt c0 [] cs (t + 1) rest) := by simp [lenF, ll]
    have e1 : ixN 3 2 = some 2 := rfl
    have e2 : [D.ref 1, D.ref 2, D.int t].set 2 (D.int (t + 1)) = [.ref 1, .ref 2, .int (t + 1)] := rfl
    generalize hw : (c % 2147483647 * (48271 + 69621 * (t + 1)) + 40692 * (t + 1) * (t + 1) + 11) % 2147483629 = w
    have w0 : 0 ≤ w := by rw [← hw]; exact Int.emod_nonneg _ (by decide)
    have w1 : w < 2147483629 := by rw [← hw]; exact Int.emod_lt_of_pos _ (by decide)
    have sm5 : small64 w = true := by simp [small64]; omega
    refine ⟨w * w % 2147483587 / 16 % m, [], t + 1, ?_, Int.emod_nonneg _ (by omega), Int.emod_lt_of_pos _ hm, Nat.zero_le _, by omega, Int.le_refl _⟩
    simp [dk2, addD, dkc3, e1, e2, dks3, dk1, intF, ll2, modD, hl', hcx, mulD, sm1, sm2, sm3, sm4, hw, sm5, fdivD, hm]
end
/-! ### comprehensions -/
section
variable {k : Kp} {p : Pat} {mc : MT} {me : ME} {env : Env'}
theorem lcgo_pure {st : Sto} (qf : D → Bool) (g : D → D) (hk : k.P st) : ∀ (ds acc : List D), (∀ d ∈ ds, ∃ env1, bindP p d env = some env1 ∧ mc env1 st = .ok (qf d) st ∧ (qf d = true → me env1 st = .ok (g d) st)) → acc.length + ds.length ≤ 16777216 →
    mLCgo k p mc me env ds acc st = .ok (acc ++ (ds.filter qf).map g) st
  | [], acc, _, _ => by
    unfold mLCgo
    rw [chk_pos hk]
    simp
  | d :: ds, acc, h, hl => by
    obtain ⟨env1, h1, h2, h3⟩ := h d (by simp)
    have ih := fun acc' => lcgo_pure qf g hk ds acc' (fun e he => h e (List.mem_cons_of_mem _ he))
    unfold mLCgo
    rw [chk_pos hk, h1]
    simp only [h2, R.noex_ok, R.bind_ok]
    cases hq : qf d with
    | false =>
      rw [if_neg Bool.false_ne_true, ih acc (by simp at hl; omega)]
      simp [hq]
    | true =>
      rw [if_pos rfl, h3 hq]
      simp only [R.noex_ok, R.bind_ok]
      rw [if_pos (fits_of (by simp at hl; omega)), ih _ (by simp at hl ⊢; omega)]
      simp [hq]
theorem lcgo_inv (I : Nat → Sto → Prop) (Good : D → Prop) : ∀ (ds acc : List D) (i : Nat) (st : Sto), (∀ j st d, ds[j]? = some d → I (i + j) st → k.P st ∧ ∃ env1, bindP p d env = some env1 ∧ mc env1 st = .ok true st ∧ ∃ y st', me env1 st = .ok y st' ∧ I (i + j + 1) st' ∧ Good y) →
    (∀ st, I (i + ds.length) st → k.P st) → I i st → acc.length + ds.length ≤ 16777216 → ∃ ys st', mLCgo k p mc me env ds acc st = .ok (acc ++ ys) st' ∧ I (i + ds.length) st' ∧ ys.length = ds.length ∧ ∀ y ∈ ys, Good y
  | [], acc, i, st, _, h2, h3, _ => by
    refine ⟨[], st, ?_, h3, rfl, by simp⟩
    unfold mLCgo
    rw [chk_pos (h2 st h3)]
    simp
  | d :: ds, acc, i, st, h1, h2, h3, hl => by
    obtain ⟨hk, env1, e1, e2, y, st1, e3, e4, e5⟩ := h1 0 st d rfl h3
    obtain ⟨ys, st', f1, f2, f3, f4⟩ := lcgo_inv I Good ds (acc ++ [y]) (i + 1) st1 (fun j st d hd hI => by
      have := h1 (j + 1) st d (by simpa using hd) (by rw [show i + (j + 1) = i + 1 + j by omega]; exact hI)
      rw [show i + (j + 1) = i + 1 + j by omega] at this
      exact this) (fun st hI => h2 st (by rw [show i + (d :: ds).length = i + 1 + ds.length by simp; omega]; exact hI)) e4 (by simp at hl ⊢; omega)
    refine ⟨y :: ys, st', ?_, by rw [show i + (d :: ds).length = i + 1 + ds.length by simp; omega]; exact f2, by simp [f3], by
      intro z hz
      rcases List.mem_cons.mp hz with e | e
      · rw [e]; exact e5
      · exact f4 z e⟩
    unfold mLCgo
    rw [chk_pos hk, e1]
    simp only [e2, R.noex_ok, R.bind_ok, if_true, e3]
    rw [if_pos (fits_of (by simp at hl; omega)), f1]
    simp
end
/-! ### the deck made -/
theorem lst_app {c : Cell} : ∀ {st : Sto}, (st ++ [c])[st.length]? = some c
  | st => by rw [List.getElem?_append_right (Nat.le_refl _)]; simp
def absI (i : Int) : Int := if i < 0 then -i else i
def dkBig (as : List Int) : List Int := as.filter fun i => decide ((1000000000000000000 : Int) ≤ i)
theorem deck_e (ns : List Int) (hl : ns.length ≤ 63) : runB 1 3 dk_deck [.scr ns] [] = .ok (.ref 3) (dkSt ((ns.map absI).map D.int) (dkBig (ns.map absI)) (ns.map absI ++ [((ns.map absI).length : Int) + 3]) 0 []) := by
  rw [runB_ok (p := 1) (ds := [.scr ns]) rfl]
  have hE : (List.map some [D.scr ns] ++ List.replicate (3 - [D.scr ns].length) none : Env') = [some (.scr ns), none, none] := rfl
  rw [hE]
  generalize ha : ns.map absI = as
  have hla : as.length ≤ 63 := by rw [← ha, List.length_map]; exact hl
  have c1 : mLCgo [] (.nm 2) mYes (mArg absF (mCons (mVar 2) mNil)) (wipeE [some (.scr ns), none, none] [2]) (ns.map D.int) [] [] = .ok (as.map D.int) [] := by
    rw [lcgo_pure (fun _ => true) (fun d => match d with | .int i => .int (absI i) | d => d) (by trivial) (ns.map D.int) [] (fun d hd => ?_) (by simp; omega)]
    · rw [← ha, List.filter_eq_self.mpr (fun _ _ => rfl)]; simp [Function.comp_def]
    · obtain ⟨i, _, rfl⟩ := List.mem_map.mp hd
      refine ⟨[some (.scr ns), none, some (.int i)], rfl, rfl, fun _ => ?_⟩
      simp [absF, absI]
  have s1 : mLC true (mIt itL (mVar 0)) (.nm 2) [2] mYes (mArg absF (mCons (mVar 2) mNil)) [some (.scr ns), none, none] [] = .ok (.ref 0) [.lst (as.map D.int)] := by
    have : itL (.scr ns) [] = .ok (ns.map D.int, []) [] := rfl
    simp only [mLC_e, mIt_e, mVar_e, List.getElem?_cons_zero, R.bind_ok, this, c1, finL_t]
    rfl
  have c2 : mLCgo (kpOf (.ref 0) (as.map D.int)) (.nm 2) (mBool (mOp geD (mVar 2) (mOp powD (mC (.int (10))) (mC (.int (18)))))) (mVar 2) (wipeE [some (.scr ns), some (.ref 0), none] [2]) (as.map D.int) [] [.lst (as.map D.int)] = .ok ((dkBig as).map D.int) [.lst (as.map D.int)] := by
    have hp : powD (.int 10) (.int 18) [Cell.lst (as.map D.int)] = .ok (.int 1000000000000000000) [.lst (as.map D.int)] := rfl
    rw [lcgo_pure (fun d => match d with | .int i => decide ((1000000000000000000 : Int) ≤ i) | _ => false) id (show (kpOf (.ref 0) (as.map D.int)).P [Cell.lst (as.map D.int)] from ⟨rfl, trivial⟩) (as.map D.int) [] (fun d hd => ?_) (by simp; omega)]
    · simp [dkBig, List.filter_map, Function.comp_def]
    · obtain ⟨i, _, rfl⟩ := List.mem_map.mp hd
      refine ⟨[some (.scr ns), some (.ref 0), some (.int i)], rfl, ?_, fun _ => rfl⟩
      simp [hp, cmpD, isBl]
  have s2 : mLC true (mIt itL (mVar 1)) (.nm 2) [2] (mBool (mOp geD (mVar 2) (mOp powD (mC (.int (10))) (mC (.int (18)))))) (mVar 2) [some (.scr ns), some (.ref 0), none] [.lst (as.map D.int)] = .ok (.ref 1) [.lst (as.map D.int), .lst ((dkBig as).map D.int)] := by
    have : itL (.ref 0) [Cell.lst (as.map D.int)] = .ok (as.map D.int, kpOf (.ref 0) (as.map D.int)) [.lst (as.map D.int)] := rfl
    simp only [mLC_e, mIt_e, mVar_e, List.getElem?_cons_succ, List.getElem?_cons_zero, R.bind_ok, this, c2, finL_t]
    rfl
  have hln : lenF [.ref 0] [Cell.lst (as.map D.int), .lst ((dkBig as).map D.int)] = .ok (.int as.length) [.lst (as.map D.int), .lst ((dkBig as).map D.int)] := by simp [lenF, seqD]
  have had : addD true (.ref 0) (.lst [.int ((as.length : Int) + 3)]) [Cell.lst (as.map D.int), .lst ((dkBig as).map D.int)] = .ok (.ref 2) [.lst (as.map D.int), .lst ((dkBig as).map D.int), .lst ((as ++ [(as.length : Int) + 3]).map D.int)] := by
    simp [addD, lstD, fits_of (show as.length + 1 ≤ 16777216 by omega)]
  unfold dk_deck
  rw [mSeq_e, mSet_e, s1]
  simp only [R.toS_ok, List.set_cons_succ, List.set_cons_zero, RS.bind_nx, mRet_e, mLst_e, mCons_e, s2, R.bind_ok]
  have hf : fits 1 = true := rfl
  have hf3 : fits 3 = true := rfl
  have had0 : ∀ st : Sto, addD false (.int as.length) (.int 3) st = .ok (.int ((as.length : Int) + 3)) st := fun _ => rfl
  simp only [mOp_e, mVar_e, List.getElem?_cons_succ, List.getElem?_cons_zero, R.bind_ok, mArg_e, mCons_e, mNil_e, hln, mC_e, had0, List.length_cons, List.length_nil, mLst_e, show fits (0 + 1) = true from rfl, if_true, finL_f, had]
  rfl
/-! ### a name drawn -/
noncomputable def dk_name : MS := mSeq (mSet 1 (mC (.str "abcdefghijklmnopqrstuvwxyz"))) (mSeq (mSet 2 (mOp ixD (mLst false (mCons (mC (.int (1))) (mCons (mC (.int (2))) (mCons (mC (.int (3))) (mCons (mC (.int (8))) (mCons (mC (.int (4))) (mCons (mC (.int (1))) (mCons (mC (.int (6))) (mCons (mC (.int (2))) (mNil)))))))))) (mArg (runB 2 6 dk_next) (mCons (mVar 0) (mCons (mC (.int (8))) (mNil)))))) (mRet (mMet isStr fJoin (mC (.str "")) (mCons (mLC false (mItA itR1 (mCons (mVar 2) (mNil))) (.nm 3) [3] (mYes) (mOp ixD (mVar 1) (mArg (runB 2 6 dk_next) (mCons (mVar 0) (mCons (mC (.int (26))) (mNil)))))) (mNil)))))
/-- a text of one to eight small letters -/
def IsNm (p : Str) : Prop := ∃ cs : List Nat, p = ⟨cs.toArray⟩ ∧ cs ≠ [] ∧ cs.length ≤ 8 ∧ ∀ c ∈ cs, 97 ≤ c ∧ c ≤ 122
theorem IsNm.ok {p : Str} (h : IsNm p) : PyData.strOk p = true := by
  obtain ⟨cs, rfl, _, _, h⟩ := h
  unfold PyData.strOk
  rw [← Array.all_toList, List.all_eq_true]
  intro c hc
  have := h c (by simpa using hc)
  simp; omega
theorem letters_l : (("abcdefghijklmnopqrstuvwxyz" : Str).cps.toList) = List.range' 97 26 := by decide +kernel
theorem letter_e {r : Int} (h0 : 0 ≤ r) (h1 : r < 26) (st : Sto) : ixD (.str "abcdefghijklmnopqrstuvwxyz") (.int r) st = .ok (.str ⟨#[97 + r.toNat]⟩) st := by
  have hf : fits ("abcdefghijklmnopqrstuvwxyz" : Str).length = true := by decide +kernel
  have hn : r.toNat < 26 := by omega
  have ha : atI ("abcdefghijklmnopqrstuvwxyz" : Str).cps.toList r = some (97 + r.toNat) := by
    rw [letters_l]
    simp [atI, ixN, h0, h1, hn]
  unfold ixD
  simp only [hf, if_true, ha]
theorem joinL_one : ∀ cs : List Nat, TL.joinL [] (cs.map fun c => [c]) = cs
  | [] => rfl
  | [c] => rfl
  | c :: d :: cs => by
    have := joinL_one (d :: cs)
    simp only [List.map_cons] at this ⊢
    simp only [TL.joinL, this]
    rfl
theorem join_one (cs : List Nat) : Txt.join "" (cs.map fun c => (⟨#[c]⟩ : Str)) = ⟨cs.toArray⟩ := by
  rw [TL.join_eq]
  have h := TL.tl_join "" (cs.map fun c => (⟨#[c]⟩ : Str))
  have e0 : TL.tl ("" : Str) = [] := by decide +kernel
  rw [e0, List.map_map] at h
  have e1 : ((TL.tl ∘ fun c => (⟨#[c]⟩ : Str)) : Nat → List Nat) = fun c => [c] := rfl
  rw [e1, joinL_one] at h
  generalize Str.join "" (cs.map fun c => (⟨#[c]⟩ : Str)) = z at h ⊢
  obtain ⟨⟨l⟩⟩ := z
  have h : l = cs := h
  rw [h]
theorem good_chars : ∀ {ys : List D}, (∀ y ∈ ys, ∃ c : Nat, y = .str ⟨#[c]⟩ ∧ 97 ≤ c ∧ c ≤ 122) → ∃ cs : List Nat, ys = cs.map (fun c => D.str ⟨#[c]⟩) ∧ ∀ c ∈ cs, 97 ≤ c ∧ c ≤ 122
  | [], _ => ⟨[], rfl, by simp⟩
  | y :: ys, h => by
    obtain ⟨c, rfl, h1, h2⟩ := h y (by simp)
    obtain ⟨cs, rfl, h3⟩ := good_chars fun z hz => h z (List.mem_cons_of_mem _ hz)
    refine ⟨c :: cs, rfl, fun d hd => ?_⟩
    rcases List.mem_cons.mp hd with e | e
    · rw [e]; exact ⟨h1, h2⟩
    · exact h3 d e
section
variable {c0 : List D} {bs cs : List Int} {t : Int} {rest : Sto}
theorem many_e {r : Int} (h0 : 0 ≤ r) (h1 : r < 8) (st : Sto) : ∃ m : Int, ixD (.lst [.int 1, .int 2, .int 3, .int 8, .int 4, .int 1, .int 6, .int 2]) (.int r) st = .ok (.int m) st ∧ 1 ≤ m ∧ m ≤ 8 := by
  have : r = 0 ∨ r = 1 ∨ r = 2 ∨ r = 3 ∨ r = 4 ∨ r = 5 ∨ r = 6 ∨ r = 7 := by omega
  rcases this with rfl | rfl | rfl | rfl | rfl | rfl | rfl | rfl
  · exact ⟨1, rfl, by decide, by decide⟩
  · exact ⟨2, rfl, by decide, by decide⟩
  · exact ⟨3, rfl, by decide, by decide⟩
  · exact ⟨8, rfl, by decide, by decide⟩
  · exact ⟨4, rfl, by decide, by decide⟩
  · exact ⟨1, rfl, by decide, by decide⟩
  · exact ⟨6, rfl, by decide, by decide⟩
  · exact ⟨2, rfl, by decide, by decide⟩
theorem name_e (hb : bs.length ≤ 63) (hc : cs ≠ []) (ht : 0 ≤ t) (ht2 : t < 900000000) : ∃ p bs' t', runB 1 4 dk_name [.ref 3] (dkSt c0 bs cs t rest) = .ok (.str p) (dkSt c0 bs' cs t' rest) ∧ IsNm p ∧ bs'.length ≤ 63 ∧ t ≤ t' ∧ t' ≤ t + 9 := by
  rw [runB_ok (p := 1) (ds := [.ref 3]) rfl]
  have hE : (List.map some [D.ref 3] ++ List.replicate (4 - [D.ref 3].length) none : Env') = [some (.ref 3), none, none, none] := rfl
  rw [hE]
  obtain ⟨r, b1, t1, n1, n2, n3, n4, n5, n6⟩ := next_e (m := 8) (c0 := c0) (rest := rest) (by decide) (by decide) hb hc ht (by omega)
  obtain ⟨m, m1, m2, m3⟩ := many_e n2 n3 (dkSt c0 b1 cs t1 rest)
  let I : Nat → Sto → Prop := fun i st => ∃ b2 t2, st = dkSt c0 b2 cs t2 rest ∧ b2.length ≤ 63 ∧ t1 ≤ t2 ∧ t2 ≤ t1 + i
  have hr : itR1 [.int m] (dkSt c0 b1 cs t1 rest) = .ok (rngD 0 m.toNat, []) (dkSt c0 b1 cs t1 rest) := by
    have : r62 m = true := by simp [r62]; omega
    simp [itR1, this]
  have hlr : (rngD 0 m.toNat).length = m.toNat := by simp [rngD]
  obtain ⟨ys, st', f1, ⟨b2, t2, rfl, g1, g2, g3⟩, f3, f4⟩ := lcgo_inv (k := []) (p := .nm 3) (mc := mYes) (me := mOp ixD (mVar 1) (mArg (runB 2 6 dk_next) (mCons (mVar 0) (mCons (mC (.int (26))) (mNil)))))
    (env := wipeE [some (.ref 3), some (.str "abcdefghijklmnopqrstuvwxyz"), some (.int m), none] [3]) I (fun y => ∃ c : Nat, y = .str ⟨#[c]⟩ ∧ 97 ≤ c ∧ c ≤ 122) (rngD 0 m.toNat) [] 0 (dkSt c0 b1 cs t1 rest)
    (fun j st d hd hI => by
      obtain ⟨b2, t2, rfl, g1, g2, g3⟩ := hI
      have hj : j < m.toNat := by rw [← hlr]; exact (List.getElem?_eq_some_iff.mp hd).1
      obtain ⟨r2, b3, t3, q1, q2, q3, q4, q5, q6⟩ := next_e (m := 26) (c0 := c0) (rest := rest) (by decide) (by decide) g1 hc (t := t2) (by omega) (by omega)
      refine ⟨trivial, [some (.ref 3), some (.str "abcdefghijklmnopqrstuvwxyz"), some (.int m), some d], rfl, rfl, .str ⟨#[97 + r2.toNat]⟩, dkSt c0 b3 cs t3 rest, ?_, ⟨b3, t3, rfl, by omega, by omega, by push_cast; omega⟩, _, rfl, by omega, by omega⟩
      have l := letter_e q2 q3 (dkSt c0 b3 cs t3 rest)
      simp only [mOp_e, mVar_e, List.getElem?_cons_succ, List.getElem?_cons_zero, R.bind_ok, mArg_e, mCons_e, mC_e, mNil_e, q1, l]) (fun _ _ => trivial) ⟨b1, t1, rfl, by omega, Int.le_refl _, by omega⟩ (by rw [hlr]; simp; omega)
  obtain ⟨zs, rfl, z2⟩ := good_chars f4
  have hzl : zs.length = m.toNat := by rw [← hlr, ← f3, List.length_map]
  refine ⟨⟨zs.toArray⟩, b2, t2, ?_, ⟨zs, rfl, ?_, by omega, z2⟩, g1, by omega, by rw [hlr] at g3; omega⟩
  · have f1' : mLCgo [] (.nm 3) mYes (mOp ixD (mVar 1) (mArg (runB 2 6 dk_next) (mCons (mVar 0) (mCons (mC (.int (26))) (mNil))))) (wipeE [some (.ref 3), some (.str "abcdefghijklmnopqrstuvwxyz"), some (.int m), none] [3]) (rngD 0 m.toNat) [] (dkSt c0 b1 cs t1 rest) = .ok (zs.map fun c => D.str ⟨#[c]⟩) (dkSt c0 b2 cs t2 rest) := f1
    have hs : strsD (zs.map fun c => D.str ⟨#[c]⟩) = some (zs.map fun c => (⟨#[c]⟩ : Str)) := by
      have := strsD_map (zs.map fun c => (⟨#[c]⟩ : Str))
      rw [List.map_map] at this
      exact this
    have hsum : ((zs.map fun c => (⟨#[c]⟩ : Str)).map (·.length)).sum + (zs.map fun c => (⟨#[c]⟩ : Str)).length * ("" : Str).length ≤ 16777216 := by
      have e0 : ("" : Str).length = 0 := by decide +kernel
      rw [e0, List.map_map]
      have : (zs.map ((fun x : Str => x.length) ∘ fun c => (⟨#[c]⟩ : Str))).sum = zs.length := by
        clear hs f1 f1' f3 f4 z2 hzl
        induction zs with
        | nil => rfl
        | cons c zs ih => rw [List.map_cons, List.sum_cons, ih]; simp [Str.length]; omega
      rw [this]; omega
    have hok : okS (⟨zs.toArray⟩ : Str) (dkSt c0 b2 cs t2 rest) = .ok (.str ⟨zs.toArray⟩) (dkSt c0 b2 cs t2 rest) := if_pos (IsNm.ok ⟨zs, rfl, by intro e; subst e; simp at hzl; omega, by omega, z2⟩)
    have hj : fJoin (.str "") [.lst (zs.map fun c => D.str ⟨#[c]⟩)] (dkSt c0 b2 cs t2 rest) = .ok (.str ⟨zs.toArray⟩) (dkSt c0 b2 cs t2 rest) := by
      unfold fJoin
      simp only [seqD_lst, hs, Nat.ble_eq_true_of_le hsum, if_true, join_one, hok]
    unfold dk_name
    have hf : fits 8 = true := rfl
    simp only [mSeq_e, mSet_e, mC_e, R.toS_ok, List.set_cons_succ, List.set_cons_zero, RS.bind_nx, mOp_e, mLst_e, mCons_e, mNil_e, R.bind_ok, List.length_cons, List.length_nil, show fits (0 + 1 + 1 + 1 + 1 + 1 + 1 + 1 + 1) = true from rfl, if_true, finL_f, mArg_e, mVar_e, List.getElem?_cons_zero, n1, m1, mRet_e, mMet_e, isStr, mLC_e, mItA_e, List.getElem?_cons_succ, hr, f1', hj]
  · intro e; subst e; simp at hzl; omega
end
end ML

set_option Elab.async false
set_option linter.all false
set_option maxRecDepth 100000
set_option maxHeartbeats 4000000

namespace K98
open PySem PySem.Spec PyProof.Rows L2 ML
def topS (i : Nat) : Stmt := PySem.Challenge.pw_mayrest_k98_errors_and_limits.main.body.getD i (.Pass ⟨0, 0, 0, 0⟩)
def tb : ClsTab := [("RestError", true, [.o "RestError", .b "ValueError", .b "Exception", .b "BaseException", .b "object"]),
  ("BadBatch", true, [.o "BadBatch", .o "RestError", .b "ValueError", .b "Exception", .b "BaseException", .b "object"]),
  ("Full", true, [.o "Full", .o "RestError", .b "ValueError", .b "Exception", .b "BaseException", .b "object"]),
  ("NothingToUndo", true, [.o "NothingToUndo", .o "RestError", .b "ValueError", .b "Exception", .b "BaseException", .b "object"]),
  ("BadBook", true, [.o "BadBook", .o "RestError", .b "ValueError", .b "Exception", .b "BaseException", .b "object"]),
  ("BadEdit", true, [.o "BadEdit", .o "RestError", .b "ValueError", .b "Exception", .b "BaseException", .b "object"]),
  ("BadPath", true, [.o "BadPath", .o "RestError", .b "ValueError", .b "Exception", .b "BaseException", .b "object"]),
  ("BadProgram", true, [.o "BadProgram", .o "RestError", .b "ValueError", .b "Exception", .b "BaseException", .b "object"]),
  ("BadReason", true, [.o "BadReason", .o "RestError", .b "ValueError", .b "Exception", .b "BaseException", .b "object"]),
  ("BadRule", true, [.o "BadRule", .o "RestError", .b "ValueError", .b "Exception", .b "BaseException", .b "object"]),
  ("BadText", true, [.o "BadText", .o "RestError", .b "ValueError", .b "Exception", .b "BaseException", .b "object"]),
  ("BadUse", true, [.o "BadUse", .o "RestError", .b "ValueError", .b "Exception", .b "BaseException", .b "object"]),
  ("Breaks", true, [.o "Breaks", .o "RestError", .b "ValueError", .b "Exception", .b "BaseException", .b "object"]),
  ("Circular", true, [.o "Circular", .o "RestError", .b "ValueError", .b "Exception", .b "BaseException", .b "object"]),
  ("Clash", true, [.o "Clash", .o "RestError", .b "ValueError", .b "Exception", .b "BaseException", .b "object"]),
  ("InUse", true, [.o "InUse", .o "RestError", .b "ValueError", .b "Exception", .b "BaseException", .b "object"]),
  ("Itself", true, [.o "Itself", .o "RestError", .b "ValueError", .b "Exception", .b "BaseException", .b "object"]),
  ("Overlap", true, [.o "Overlap", .o "RestError", .b "ValueError", .b "Exception", .b "BaseException", .b "object"]),
  ("Rejected", true, [.o "Rejected", .o "RestError", .b "ValueError", .b "Exception", .b "BaseException", .b "object"]),
  ("Ring", true, [.o "Ring", .o "RestError", .b "ValueError", .b "Exception", .b "BaseException", .b "object"]),
  ("Taken", true, [.o "Taken", .o "RestError", .b "ValueError", .b "Exception", .b "BaseException", .b "object"]),
  ("TooMany", true, [.o "TooMany", .o "RestError", .b "ValueError", .b "Exception", .b "BaseException", .b "object"]),
  ("Unclear", true, [.o "Unclear", .o "RestError", .b "ValueError", .b "Exception", .b "BaseException", .b "object"]),
  ("NoAllowance", true, [.o "NoAllowance", .b "LookupError", .b "Exception", .b "BaseException", .b "object"]),
  ("NoModule", true, [.o "NoModule", .b "LookupError", .b "Exception", .b "BaseException", .b "object"]),
  ("NoPart", true, [.o "NoPart", .b "LookupError", .b "Exception", .b "BaseException", .b "object"]),
  ("NoRule", true, [.o "NoRule", .b "LookupError", .b "Exception", .b "BaseException", .b "object"]),
  ("NoUse", true, [.o "NoUse", .b "LookupError", .b "Exception", .b "BaseException", .b "object"])]
abbrev s_BadEdit : Stmt := inClass (topS 6) 0
theorem sc_BadEdit : FnScope ["self", "index"] ["self", "index"] (defScope s_BadEdit) := ⟨rfl, rfl, rfl, by decide +kernel, rfl, by decide +kernel, by decide +kernel⟩
def d_BadEdit : He.DefD := ⟨("BadEdit", some "__init__"), "__init__", "BadEdit.__init__", defArgs s_BadEdit, defBody s_BadEdit, defScope s_BadEdit, [], []⟩
abbrev s_BadBook : Stmt := inClass (topS 5) 0
theorem sc_BadBook : FnScope ["self", "error"] ["self", "error"] (defScope s_BadBook) := ⟨rfl, rfl, rfl, by decide +kernel, rfl, by decide +kernel, by decide +kernel⟩
def d_BadBook : He.DefD := ⟨("BadBook", some "__init__"), "__init__", "BadBook.__init__", defArgs s_BadBook, defBody s_BadBook, defScope s_BadBook, [], []⟩
abbrev s_BadProgram : Stmt := inClass (topS 8) 0
theorem sc_BadProgram : FnScope ["self", "error"] ["self", "error"] (defScope s_BadProgram) := ⟨rfl, rfl, rfl, by decide +kernel, rfl, by decide +kernel, by decide +kernel⟩
def d_BadProgram : He.DefD := ⟨("BadProgram", some "__init__"), "__init__", "BadProgram.__init__", defArgs s_BadProgram, defBody s_BadProgram, defScope s_BadProgram, [], []⟩
abbrev s_BadPath : Stmt := inClass (topS 7) 0
theorem sc_BadPath : FnScope ["self", "path"] ["self", "path"] (defScope s_BadPath) := ⟨rfl, rfl, rfl, by decide +kernel, rfl, by decide +kernel, by decide +kernel⟩
def d_BadPath : He.DefD := ⟨("BadPath", some "__init__"), "__init__", "BadPath.__init__", defArgs s_BadPath, defBody s_BadPath, defScope s_BadPath, [], []⟩
abbrev s_BadUse : Stmt := inClass (topS 12) 0
theorem sc_BadUse : FnScope ["self", "index"] ["self", "index"] (defScope s_BadUse) := ⟨rfl, rfl, rfl, by decide +kernel, rfl, by decide +kernel, by decide +kernel⟩
def d_BadUse : He.DefD := ⟨("BadUse", some "__init__"), "__init__", "BadUse.__init__", defArgs s_BadUse, defBody s_BadUse, defScope s_BadUse, [], []⟩
abbrev s_BadText : Stmt := inClass (topS 11) 0
theorem sc_BadText : FnScope ["self", "line", "code"] ["self", "line", "code"] (defScope s_BadText) := ⟨rfl, rfl, rfl, by decide +kernel, rfl, by decide +kernel, by decide +kernel⟩
def d_BadText : He.DefD := ⟨("BadText", some "__init__"), "__init__", "BadText.__init__", defArgs s_BadText, defBody s_BadText, defScope s_BadText, [], []⟩
abbrev s_BadRule : Stmt := inClass (topS 10) 0
theorem sc_BadRule : FnScope ["self", "word"] ["self", "word"] (defScope s_BadRule) := ⟨rfl, rfl, rfl, by decide +kernel, rfl, by decide +kernel, by decide +kernel⟩
def d_BadRule : He.DefD := ⟨("BadRule", some "__init__"), "__init__", "BadRule.__init__", defArgs s_BadRule, defBody s_BadRule, defScope s_BadRule, [], []⟩
abbrev s_BadReason : Stmt := inClass (topS 9) 0
theorem sc_BadReason : FnScope ["self", "reason"] ["self", "reason"] (defScope s_BadReason) := ⟨rfl, rfl, rfl, by decide +kernel, rfl, by decide +kernel, by decide +kernel⟩
def d_BadReason : He.DefD := ⟨("BadReason", some "__init__"), "__init__", "BadReason.__init__", defArgs s_BadReason, defBody s_BadReason, defScope s_BadReason, [], []⟩
abbrev s_InUse : Stmt := inClass (topS 16) 0
theorem sc_InUse : FnScope ["self", "path"] ["self", "path"] (defScope s_InUse) := ⟨rfl, rfl, rfl, by decide +kernel, rfl, by decide +kernel, by decide +kernel⟩
def d_InUse : He.DefD := ⟨("InUse", some "__init__"), "__init__", "InUse.__init__", defArgs s_InUse, defBody s_InUse, defScope s_InUse, [], []⟩
abbrev s_Clash : Stmt := inClass (topS 15) 0
theorem sc_Clash : FnScope ["self", "path"] ["self", "path"] (defScope s_Clash) := ⟨rfl, rfl, rfl, by decide +kernel, rfl, by decide +kernel, by decide +kernel⟩
def d_Clash : He.DefD := ⟨("Clash", some "__init__"), "__init__", "Clash.__init__", defArgs s_Clash, defBody s_Clash, defScope s_Clash, [], []⟩
abbrev s_Circular : Stmt := inClass (topS 14) 0
theorem sc_Circular : FnScope ["self", "evidence"] ["self", "evidence"] (defScope s_Circular) := ⟨rfl, rfl, rfl, by decide +kernel, rfl, by decide +kernel, by decide +kernel⟩
def d_Circular : He.DefD := ⟨("Circular", some "__init__"), "__init__", "Circular.__init__", defArgs s_Circular, defBody s_Circular, defScope s_Circular, [], []⟩
abbrev s_Breaks : Stmt := inClass (topS 13) 0
theorem sc_Breaks : FnScope ["self", "rule", "evidence"] ["self", "rule", "evidence"] (defScope s_Breaks) := ⟨rfl, rfl, rfl, by decide +kernel, rfl, by decide +kernel, by decide +kernel⟩
def d_Breaks : He.DefD := ⟨("Breaks", some "__init__"), "__init__", "Breaks.__init__", defArgs s_Breaks, defBody s_Breaks, defScope s_Breaks, [], []⟩
abbrev s_Overlap : Stmt := inClass (topS 18) 0
theorem sc_Overlap : FnScope ["self", "path"] ["self", "path"] (defScope s_Overlap) := ⟨rfl, rfl, rfl, by decide +kernel, rfl, by decide +kernel, by decide +kernel⟩
def d_Overlap : He.DefD := ⟨("Overlap", some "__init__"), "__init__", "Overlap.__init__", defArgs s_Overlap, defBody s_Overlap, defScope s_Overlap, [], []⟩
abbrev s_Itself : Stmt := inClass (topS 17) 0
theorem sc_Itself : FnScope ["self", "path"] ["self", "path"] (defScope s_Itself) := ⟨rfl, rfl, rfl, by decide +kernel, rfl, by decide +kernel, by decide +kernel⟩
def d_Itself : He.DefD := ⟨("Itself", some "__init__"), "__init__", "Itself.__init__", defArgs s_Itself, defBody s_Itself, defScope s_Itself, [], []⟩
abbrev s_Ring : Stmt := inClass (topS 20) 0
theorem sc_Ring : FnScope ["self", "ring"] ["self", "ring"] (defScope s_Ring) := ⟨rfl, rfl, rfl, by decide +kernel, rfl, by decide +kernel, by decide +kernel⟩
def d_Ring : He.DefD := ⟨("Ring", some "__init__"), "__init__", "Ring.__init__", defArgs s_Ring, defBody s_Ring, defScope s_Ring, [], []⟩
abbrev s_Rejected : Stmt := inClass (topS 19) 0
theorem sc_Rejected : FnScope ["self", "index"] ["self", "index"] (defScope s_Rejected) := ⟨rfl, rfl, rfl, by decide +kernel, rfl, by decide +kernel, by decide +kernel⟩
def d_Rejected : He.DefD := ⟨("Rejected", some "__init__"), "__init__", "Rejected.__init__", defArgs s_Rejected, defBody s_Rejected, defScope s_Rejected, [], []⟩
abbrev s_Unclear : Stmt := inClass (topS 23) 0
theorem sc_Unclear : FnScope ["self", "name"] ["self", "name"] (defScope s_Unclear) := ⟨rfl, rfl, rfl, by decide +kernel, rfl, by decide +kernel, by decide +kernel⟩
def d_Unclear : He.DefD := ⟨("Unclear", some "__init__"), "__init__", "Unclear.__init__", defArgs s_Unclear, defBody s_Unclear, defScope s_Unclear, [], []⟩
abbrev s_TooMany : Stmt := inClass (topS 22) 0
theorem sc_TooMany : FnScope ["self", "limit"] ["self", "limit"] (defScope s_TooMany) := ⟨rfl, rfl, rfl, by decide +kernel, rfl, by decide +kernel, by decide +kernel⟩
def d_TooMany : He.DefD := ⟨("TooMany", some "__init__"), "__init__", "TooMany.__init__", defArgs s_TooMany, defBody s_TooMany, defScope s_TooMany, [], []⟩
abbrev s_Taken : Stmt := inClass (topS 21) 0
theorem sc_Taken : FnScope ["self", "thing"] ["self", "thing"] (defScope s_Taken) := ⟨rfl, rfl, rfl, by decide +kernel, rfl, by decide +kernel, by decide +kernel⟩
def d_Taken : He.DefD := ⟨("Taken", some "__init__"), "__init__", "Taken.__init__", defArgs s_Taken, defBody s_Taken, defScope s_Taken, [], []⟩
abbrev s_NoPart : Stmt := inClass (topS 26) 0
theorem sc_NoPart : FnScope ["self", "path"] ["self", "path"] (defScope s_NoPart) := ⟨rfl, rfl, rfl, by decide +kernel, rfl, by decide +kernel, by decide +kernel⟩
def d_NoPart : He.DefD := ⟨("NoPart", some "__init__"), "__init__", "NoPart.__init__", defArgs s_NoPart, defBody s_NoPart, defScope s_NoPart, [], []⟩
abbrev s_NoModule : Stmt := inClass (topS 25) 0
theorem sc_NoModule : FnScope ["self", "path"] ["self", "path"] (defScope s_NoModule) := ⟨rfl, rfl, rfl, by decide +kernel, rfl, by decide +kernel, by decide +kernel⟩
def d_NoModule : He.DefD := ⟨("NoModule", some "__init__"), "__init__", "NoModule.__init__", defArgs s_NoModule, defBody s_NoModule, defScope s_NoModule, [], []⟩
abbrev s_NoAllowance : Stmt := inClass (topS 24) 0
theorem sc_NoAllowance : FnScope ["self", "use"] ["self", "use"] (defScope s_NoAllowance) := ⟨rfl, rfl, rfl, by decide +kernel, rfl, by decide +kernel, by decide +kernel⟩
def d_NoAllowance : He.DefD := ⟨("NoAllowance", some "__init__"), "__init__", "NoAllowance.__init__", defArgs s_NoAllowance, defBody s_NoAllowance, defScope s_NoAllowance, [], []⟩
abbrev s_NoUse : Stmt := inClass (topS 28) 0
theorem sc_NoUse : FnScope ["self", "use"] ["self", "use"] (defScope s_NoUse) := ⟨rfl, rfl, rfl, by decide +kernel, rfl, by decide +kernel, by decide +kernel⟩
def d_NoUse : He.DefD := ⟨("NoUse", some "__init__"), "__init__", "NoUse.__init__", defArgs s_NoUse, defBody s_NoUse, defScope s_NoUse, [], []⟩
abbrev s_NoRule : Stmt := inClass (topS 27) 0
theorem sc_NoRule : FnScope ["self", "index"] ["self", "index"] (defScope s_NoRule) := ⟨rfl, rfl, rfl, by decide +kernel, rfl, by decide +kernel, by decide +kernel⟩
def d_NoRule : He.DefD := ⟨("NoRule", some "__init__"), "__init__", "NoRule.__init__", defArgs s_NoRule, defBody s_NoRule, defScope s_NoRule, [], []⟩
abbrev s_law_deck : Stmt := topS 40
theorem sc_law_deck : FnScope ["_law_script", "_law_cells", "_law_number"] ["_law_script"] (defScope s_law_deck) := ⟨rfl, rfl, rfl, by decide +kernel, rfl, by decide +kernel, by decide +kernel⟩
def d_law_deck : He.DefD := ⟨("_law_deck", none), "_law_deck", "_law_deck", defArgs s_law_deck, defBody s_law_deck, defScope s_law_deck, [], []⟩
noncomputable def m_law_deck : MS := mSeq (mSet 1 (mLC true (mIt itL (mVar 0)) (.nm 2) [2] (mYes) (mArg absF (mCons (mVar 2) (mNil))))) (mRet (mLst true (mCons (mLC true (mIt itL (mVar 1)) (.nm 2) [2] (mBool (mOp geD (mVar 2) (mOp powD (mC (.int (10))) (mC (.int (18)))))) (mVar 2)) (mCons (mOp (addD true) (mVar 1) (mLst false (mCons (mOp (addD false) (mArg lenF (mCons (mVar 1) (mNil))) (mC (.int (3)))) (mNil)))) (mCons (mC (.int (0))) (mNil))))))
noncomputable def F_law_deck : FN := runB 1 3 m_law_deck
abbrev s_law_next : Stmt := topS 41
theorem sc_law_next : FnScope ["_law_deck_here", "_law_many", "_law_turn", "_law_number", "_law_mixed", "_law_rest"] ["_law_deck_here", "_law_many"] (defScope s_law_next) := ⟨rfl, rfl, rfl, by decide +kernel, rfl, by decide +kernel, by decide +kernel⟩
def d_law_next : He.DefD := ⟨("_law_next", none), "_law_next", "_law_next", defArgs s_law_next, defBody s_law_next, defScope s_law_next, [], []⟩
noncomputable def m_law_next : MS := mSeq (mWhileN (mBool (mOp (eqD true) (mOp ixD (mVar 0) (mC (.int (0)))) (mLst false (mNil)))) (mSeq (mSet 5 (mOp ixD (mOp ixD (mVar 0) (mC (.int (0)))) (mC (.int (0))))) (mSeq (mIf (mBool (mOp gtD (mVar 5) (mC (.int (0))))) (mSeq (mPutL (mOp fdivD (mVar 5) (mVar 1)) (mOp ixD (mVar 0) (mC (.int (0)))) (mC (.int (0)))) (mRet (mOp modD (mArg intF (mCons (mVar 5) (mNil))) (mVar 1)))) (mNext)) (mDrop (mMet isLst fPop (mOp ixD (mVar 0) (mC (.int (0)))) (mCons (mC (.int (0))) (mNil)))))) 64) (mSeq (mPutL (mOp (addD false) (mOp ixD (mVar 0) (mC (.int (2)))) (mC (.int (1)))) (mVar 0) (mC (.int (2)))) (mSeq (mSet 2 (mOp ixD (mVar 0) (mC (.int (2))))) (mSeq (mSet 3 (mOp modD (mArg intF (mCons (mOp ixD (mOp ixD (mVar 0) (mC (.int (1)))) (mOp modD (mArg intF (mCons (mVar 2) (mNil))) (mArg lenF (mCons (mOp ixD (mVar 0) (mC (.int (1)))) (mNil))))) (mNil))) (mC (.int (2147483647))))) (mSeq (mSet 4 (mOp modD (mArg intF (mCons (mOp (addD false) (mOp (addD false) (mOp mulD (mVar 3) (mOp (addD false) (mC (.int (48271))) (mOp mulD (mC (.int (69621))) (mVar 2)))) (mOp mulD (mOp mulD (mC (.int (40692))) (mVar 2)) (mVar 2))) (mC (.int (11)))) (mNil))) (mC (.int (2147483629))))) (mRet (mOp modD (mOp fdivD (mOp modD (mArg intF (mCons (mOp mulD (mVar 4) (mVar 4)) (mNil))) (mC (.int (2147483587)))) (mC (.int (16)))) (mVar 1)))))))
noncomputable def F_law_next : FN := runB 2 6 m_law_next
abbrev s_law_name : Stmt := topS 42
theorem sc_law_name : FnScope ["_law_deck_here", "_law_letters", "_law_many", "_law_k"] ["_law_deck_here"] (defScope s_law_name) := ⟨rfl, rfl, rfl, by decide +kernel, rfl, by decide +kernel, by decide +kernel⟩
def d_law_name : He.DefD := ⟨("_law_name", none), "_law_name", "_law_name", defArgs s_law_name, defBody s_law_name, defScope s_law_name, [], []⟩
noncomputable def m_law_name : MS := mSeq (mSet 1 (mC (.str "abcdefghijklmnopqrstuvwxyz"))) (mSeq (mSet 2 (mOp ixD (mLst false (mCons (mC (.int (1))) (mCons (mC (.int (2))) (mCons (mC (.int (3))) (mCons (mC (.int (8))) (mCons (mC (.int (4))) (mCons (mC (.int (1))) (mCons (mC (.int (6))) (mCons (mC (.int (2))) (mNil)))))))))) (mArg F_law_next (mCons (mVar 0) (mCons (mC (.int (8))) (mNil)))))) (mRet (mMet isStr fJoin (mC (.str "")) (mCons (mLC false (mItA itR1 (mCons (mVar 2) (mNil))) (.nm 3) [3] (mYes) (mOp ixD (mVar 1) (mArg F_law_next (mCons (mVar 0) (mCons (mC (.int (26))) (mNil)))))) (mNil)))))
noncomputable def F_law_name : FN := runB 1 4 m_law_name
abbrev s_law_odd : Stmt := topS 43
theorem sc_law_odd : FnScope ["_law_deck_here", "_law_path", "_law_some"] ["_law_deck_here", "_law_path"] (defScope s_law_odd) := ⟨rfl, rfl, rfl, by decide +kernel, rfl, by decide +kernel, by decide +kernel⟩
def d_law_odd : He.DefD := ⟨("_law_odd", none), "_law_odd", "_law_odd", defArgs s_law_odd, defBody s_law_odd, defScope s_law_odd, [], []⟩
noncomputable def m_law_odd : MS := mSeq (mSet 2 (mLst false (mCons (mC .non) (mCons (mC (.bl true)) (mCons (mC (.bl false)) (mCons (mC (.int (0))) (mCons (mC (.int (1))) (mCons (mUn negD (mC (.int (1)))) (mCons (mOp powD (mC (.int (10))) (mC (.int (30)))) (mCons (mC (.str "")) (mCons (mC (.str ".")) (mCons (mC (.str "A")) (mCons (mC (.str "a.")) (mCons (mC (.str ".a")) (mCons (mC (.str "a..b")) (mCons (mC (.str "a b")) (mCons (mC (.str "abcdefghi")) (mCons (mC (.str "a\n")) (mCons (mC (.str " a")) (mNil)))))))))))))))))))) (mSeq (mSet 2 (mOp (addD false) (mVar 2) (mLst false (mCons (mC (.str "a.b.c.d.e.f.g")) (mCons (mTup (mNil)) (mCons (mLst false (mNil)) (mCons ((fun _ st => finD false [] [] st)) (mCons (mTup (mCons (mVar 1) (mNil))) (mCons (mLst false (mCons (mVar 1) (mNil))) (mCons (mDic false (mPairs (mVar 1) (mVar 1) (fun _ st => .ok [] st))) (mCons (mTup (mCons (mVar 1) (mCons (mVar 1) (mNil)))) (mCons (mTup (mCons (mVar 1) (mCons (mVar 1) (mCons (mVar 1) (mNil))))) (mNil))))))))))))) (mSeq (mSet 2 (mOp (addD false) (mVar 2) (mLst false (mCons (mOp (addD false) (mVar 1) (mC (.str "."))) (mCons (mOp (addD false) (mVar 1) (mC (.str "\n"))) (mCons (mMet isStr (fStr0 5592405 Txt.upper) (mVar 1) mNil) (mCons (mOp (addD false) (mVar 1) (mC (.str "-"))) (mCons (mLst false (mCons (mVar 1) (mCons (mVar 1) (mNil)))) (mCons (mTup (mCons (mC (.str "a")) (mCons (mLst false (mNil)) (mCons ((fun _ st => finD false [] [] st)) (mNil))))) (mCons (mTup (mCons (mTup (mCons (mVar 1) (mCons (mVar 1) (mNil)))) (mNil))) (mNil))))))))))) (mRet (mOp ixD (mVar 2) (mArg F_law_next (mCons (mVar 0) (mCons (mArg lenF (mCons (mVar 2) (mNil))) (mNil))))))))
noncomputable def F_law_odd : FN := runB 2 3 m_law_odd
abbrev s_law_made : Stmt := topS 47
theorem sc_law_made : FnScope ["_law_one", "_law_other", "_law_found", "_law_book", "_law_edit", "_law_path", "_law_made_here", "_law_reason", "_law_rule", "_law_text", "_law_use", "_law_broken", "_law_circle", "_law_clash", "_law_held", "_law_itself", "_law_across", "_law_refused", "_law_round_it", "_law_taken", "_law_many", "_law_dark"] ["_law_one", "_law_other"] (defScope s_law_made) := ⟨rfl, rfl, rfl, by decide +kernel, rfl, by decide +kernel, by decide +kernel⟩
def d_law_made : He.DefD := ⟨("_law_made", none), "_law_made", "_law_made", defArgs s_law_made, defBody s_law_made, defScope s_law_made, [], []⟩
noncomputable def m_law_made : MS := mSeq (mPar [3, 4] (mCons (mExn "BadBook" ["error"] (mCons (mVar 0) (mNil))) (mCons (mExn "BadEdit" ["index"] (mCons (mVar 0) (mNil))) (mNil)))) (mSeq (mPar [5, 6] (mCons (mExn "BadPath" ["path"] (mCons (mVar 0) (mNil))) (mCons (mExn "BadProgram" ["error"] (mCons (mVar 0) (mNil))) (mNil)))) (mSeq (mSet 2 (mLst false (mCons (mTup (mCons (mVar 3) (mCons (mC (.str "BadBook")) (mCons (mLst false (mCons (mFld "error" [] ["BadBook", "BadProgram"] (mVar 3)) (mNil))) (mCons (mLst false (mCons (mVar 0) (mNil))) (mNil)))))) (mCons (mTup (mCons (mVar 4) (mCons (mC (.str "BadEdit")) (mCons (mLst false (mCons (mFld "index" [] ["BadEdit", "BadUse", "Rejected", "NoRule"] (mVar 4)) (mNil))) (mCons (mLst false (mCons (mVar 0) (mNil))) (mNil)))))) (mNil))))) (mSeq (mSet 2 (mOp (addD false) (mVar 2) (mLst false (mCons (mTup (mCons (mVar 5) (mCons (mC (.str "BadPath")) (mCons (mLst false (mCons (mFld "path" [] ["BadPath", "Clash", "InUse", "Itself", "Overlap", "NoModule", "NoPart"] (mVar 5)) (mNil))) (mCons (mLst false (mCons (mVar 0) (mNil))) (mNil)))))) (mCons (mTup (mCons (mVar 6) (mCons (mC (.str "BadProgram")) (mCons (mLst false (mCons (mFld "error" [] ["BadBook", "BadProgram"] (mVar 6)) (mNil))) (mCons (mLst false (mCons (mVar 0) (mNil))) (mNil)))))) (mNil)))))) (mSeq (mAsg (.tp [.nm 7, .nm 8, .nm 9, .nm 10]) (mTup (mCons (mExn "BadReason" ["reason"] (mCons (mVar 0) (mNil))) (mCons (mExn "BadRule" ["word"] (mCons (mVar 0) (mNil))) (mCons (mExn "BadText" ["line", "code"] (mCons (mVar 0) (mCons (mVar 1) (mNil)))) (mCons (mExn "BadUse" ["index"] (mCons (mVar 0) (mNil))) (mNil))))))) (mSeq (mSet 2 (mOp (addD false) (mVar 2) (mLst false (mCons (mTup (mCons (mVar 7) (mCons (mC (.str "BadReason")) (mCons (mLst false (mCons (mFld "reason" [] ["BadReason"] (mVar 7)) (mNil))) (mCons (mLst false (mCons (mVar 0) (mNil))) (mNil)))))) (mCons (mTup (mCons (mVar 8) (mCons (mC (.str "BadRule")) (mCons (mLst false (mCons (mFld "word" [] ["BadRule"] (mVar 8)) (mNil))) (mCons (mLst false (mCons (mVar 0) (mNil))) (mNil)))))) (mNil)))))) (mSeq (mSet 2 (mOp (addD false) (mVar 2) (mLst false (mCons (mTup (mCons (mVar 9) (mCons (mC (.str "BadText")) (mCons (mLst false (mCons (mFld "line" [] ["BadText"] (mVar 9)) (mCons (mFld "code" [] ["BadText"] (mVar 9)) (mNil)))) (mCons (mLst false (mCons (mVar 0) (mCons (mVar 1) (mNil)))) (mNil)))))) (mCons (mTup (mCons (mVar 10) (mCons (mC (.str "BadUse")) (mCons (mLst false (mCons (mFld "index" [] ["BadEdit", "BadUse", "Rejected", "NoRule"] (mVar 10)) (mNil))) (mCons (mLst false (mCons (mVar 0) (mNil))) (mNil)))))) (mNil)))))) (mSeq (mAsg (.tp [.nm 11, .nm 12, .nm 13, .nm 14]) (mTup (mCons (mExn "Breaks" ["rule", "evidence"] (mCons (mVar 0) (mCons (mVar 1) (mNil)))) (mCons (mExn "Circular" ["evidence"] (mCons (mVar 0) (mNil))) (mCons (mExn "Clash" ["path"] (mCons (mVar 0) (mNil))) (mCons (mExn "InUse" ["path"] (mCons (mVar 0) (mNil))) (mNil))))))) (mSeq (mSet 2 (mOp (addD false) (mVar 2) (mLst false (mCons (mTup (mCons (mVar 11) (mCons (mC (.str "Breaks")) (mCons (mLst false (mCons (mFld "rule" [] ["Breaks"] (mVar 11)) (mCons (mFld "evidence" [] ["Breaks", "Circular"] (mVar 11)) (mNil)))) (mCons (mLst false (mCons (mVar 0) (mCons (mVar 1) (mNil)))) (mNil)))))) (mNil))))) (mSeq (mSet 2 (mOp (addD false) (mVar 2) (mLst false (mCons (mTup (mCons (mVar 12) (mCons (mC (.str "Circular")) (mCons (mLst false (mCons (mFld "evidence" [] ["Breaks", "Circular"] (mVar 12)) (mNil))) (mCons (mLst false (mCons (mVar 0) (mNil))) (mNil)))))) (mCons (mTup (mCons (mVar 13) (mCons (mC (.str "Clash")) (mCons (mLst false (mCons (mFld "path" [] ["BadPath", "Clash", "InUse", "Itself", "Overlap", "NoModule", "NoPart"] (mVar 13)) (mNil))) (mCons (mLst false (mCons (mVar 0) (mNil))) (mNil)))))) (mNil)))))) (mSeq (mSet 2 (mOp (addD false) (mVar 2) (mLst false (mCons (mTup (mCons (mVar 14) (mCons (mC (.str "InUse")) (mCons (mLst false (mCons (mFld "path" [] ["BadPath", "Clash", "InUse", "Itself", "Overlap", "NoModule", "NoPart"] (mVar 14)) (mNil))) (mCons (mLst false (mCons (mVar 0) (mNil))) (mNil)))))) (mNil))))) (mSeq (mPar [15, 16] (mCons (mExn "Itself" ["path"] (mCons (mVar 0) (mNil))) (mCons (mExn "Overlap" ["path"] (mCons (mVar 0) (mNil))) (mNil)))) (mSeq (mPar [17, 18] (mCons (mExn "Rejected" ["index"] (mCons (mVar 0) (mNil))) (mCons (mExn "Ring" ["ring"] (mCons (mVar 0) (mNil))) (mNil)))) (mSeq (mSet 2 (mOp (addD false) (mVar 2) (mLst false (mCons (mTup (mCons (mVar 15) (mCons (mC (.str "Itself")) (mCons (mLst false (mCons (mFld "path" [] ["BadPath", "Clash", "InUse", "Itself", "Overlap", "NoModule", "NoPart"] (mVar 15)) (mNil))) (mCons (mLst false (mCons (mVar 0) (mNil))) (mNil)))))) (mCons (mTup (mCons (mVar 16) (mCons (mC (.str "Overlap")) (mCons (mLst false (mCons (mFld "path" [] ["BadPath", "Clash", "InUse", "Itself", "Overlap", "NoModule", "NoPart"] (mVar 16)) (mNil))) (mCons (mLst false (mCons (mVar 0) (mNil))) (mNil)))))) (mNil)))))) (mSeq (mSet 2 (mOp (addD false) (mVar 2) (mLst false (mCons (mTup (mCons (mVar 17) (mCons (mC (.str "Rejected")) (mCons (mLst false (mCons (mFld "index" [] ["BadEdit", "BadUse", "Rejected", "NoRule"] (mVar 17)) (mNil))) (mCons (mLst false (mCons (mVar 0) (mNil))) (mNil)))))) (mCons (mTup (mCons (mVar 18) (mCons (mC (.str "Ring")) (mCons (mLst false (mCons (mFld "ring" [] ["Ring"] (mVar 18)) (mNil))) (mCons (mLst false (mCons (mVar 0) (mNil))) (mNil)))))) (mNil)))))) (mSeq (mPar [19, 20, 21] (mCons (mExn "Taken" ["thing"] (mCons (mVar 0) (mNil))) (mCons (mExn "TooMany" ["limit"] (mCons (mVar 0) (mNil))) (mCons (mExn "Unclear" ["name"] (mCons (mVar 0) (mNil))) (mNil))))) (mSeq (mSet 2 (mOp (addD false) (mVar 2) (mLst false (mCons (mTup (mCons (mVar 19) (mCons (mC (.str "Taken")) (mCons (mLst false (mCons (mFld "thing" [] ["Taken"] (mVar 19)) (mNil))) (mCons (mLst false (mCons (mVar 0) (mNil))) (mNil)))))) (mCons (mTup (mCons (mVar 20) (mCons (mC (.str "TooMany")) (mCons (mLst false (mCons (mFld "limit" [] ["TooMany"] (mVar 20)) (mNil))) (mCons (mLst false (mCons (mVar 0) (mNil))) (mNil)))))) (mNil)))))) (mRet (mOp (addD false) (mVar 2) (mLst false (mCons (mTup (mCons (mVar 21) (mCons (mC (.str "Unclear")) (mCons (mLst false (mCons (mFld "name" [] ["Unclear"] (mVar 21)) (mNil))) (mCons (mLst false (mCons (mVar 0) (mNil))) (mNil)))))) (mNil)))))))))))))))))))))
noncomputable def F_law_made : FN := runB 2 22 m_law_made
abbrev s_law_same : Stmt := topS 44
theorem sc_law_same : FnScope ["_law_found", "_law_due", "_law_one", "_law_other"] ["_law_found", "_law_due"] (defScope s_law_same) := ⟨rfl, rfl, rfl, by decide +kernel, rfl, by decide +kernel, by decide +kernel⟩
def d_law_same : He.DefD := ⟨("_law_same", none), "_law_same", "_law_same", defArgs s_law_same, defBody s_law_same, defScope s_law_same, [], []⟩
noncomputable def m_law_same (Fr : FN) : MS := mSeq (mIf (mTru (mIsi tb [.b "tuple", .b "list"] (mVar 1))) (mSeq (mIf (mOr (mBool (mOp (eqD true) (mIsi tb [.b "tuple"] (mVar 1)) (mIsi tb [.b "tuple"] (mVar 0)))) (mBool (mOp (eqD true) (mIsi tb [.b "list"] (mVar 1)) (mIsi tb [.b "list"] (mVar 0))))) (mRet (mC (.bl false))) (mNext)) (mRet (mAndV (mOp (eqD false) (mArg lenF (mCons (mVar 0) (mNil))) (mArg lenF (mCons (mVar 1) (mNil)))) (mArg allF (mCons (mLC false (mItA itZ (mCons (mVar 0) (mCons (mVar 1) (mNil)))) (.tp [.nm 2, .nm 3]) [2, 3] (mYes) (mArg Fr (mCons (mVar 2) (mCons (mVar 3) (mNil))))) (mNil)))))) (mNext)) (mSeq (mIf (mBool (mOp (isnD false) (mVar 1) (mC .non))) (mRet (mOp (isnD false) (mVar 0) (mC .non))) (mNext)) (mSeq (mIf (mTru (mIsi tb [.b "str"] (mVar 1))) (mRet (mAndV (mIsi tb [.b "str"] (mVar 0)) (mOp (eqD false) (mVar 0) (mVar 1)))) (mNext)) (mSeq (mIf (mOr (mTru (mIsi tb [.b "bool"] (mVar 1))) (mTru (mIsi tb [.b "bool"] (mVar 0)))) (mRet (mAndV (mIsi tb [.b "bool"] (mVar 0)) (mAndV (mIsi tb [.b "bool"] (mVar 1)) (mOp (eqD false) (mVar 0) (mVar 1))))) (mNext)) (mSeq (mIf (mTru (mIsi tb [.b "int"] (mVar 1))) (mRet (mAndV (mIsi tb [.b "int"] (mVar 0)) (mOp (eqD false) (mVar 0) (mVar 1)))) (mNext)) (mRet (mAndV (mIsi tb [.b "dict"] (mVar 1)) (mAndV (mIsi tb [.b "dict"] (mVar 0)) (mReprEq (mVar 0) (mVar 1)))))))))
noncomputable def F_law_same : Nat → FN
  | 0 => fun _ _ => .bad
  | n + 1 => runB 2 4 (m_law_same (F_law_same n))
abbrev s_law_other_kinds : Stmt := topS 46
theorem sc_law_other_kinds : FnScope ["_law_error", "_law_found"] ["_law_error"] (defScope s_law_other_kinds) := ⟨rfl, rfl, rfl, by decide +kernel, rfl, by decide +kernel, by decide +kernel⟩
def d_law_other_kinds : He.DefD := ⟨("_law_other_kinds", none), "_law_other_kinds", "_law_other_kinds", defArgs s_law_other_kinds, defBody s_law_other_kinds, defScope s_law_other_kinds, [], []⟩
noncomputable def m_law_other_kinds : MS := mSeq (mSet 1 (mLst false (mCons (mTup (mCons (mC (.str "NoAllowance")) (mCons (mIsi tb [.o "NoAllowance"] (mVar 0)) (mNil)))) (mCons (mTup (mCons (mC (.str "NoModule")) (mCons (mIsi tb [.o "NoModule"] (mVar 0)) (mNil)))) (mNil))))) (mSeq (mSet 1 (mOp (addD false) (mVar 1) (mLst false (mCons (mTup (mCons (mC (.str "NoPart")) (mCons (mIsi tb [.o "NoPart"] (mVar 0)) (mNil)))) (mCons (mTup (mCons (mC (.str "NoRule")) (mCons (mIsi tb [.o "NoRule"] (mVar 0)) (mNil)))) (mNil)))))) (mRet (mOp (addD false) (mVar 1) (mLst false (mCons (mTup (mCons (mC (.str "NoUse")) (mCons (mIsi tb [.o "NoUse"] (mVar 0)) (mNil)))) (mNil))))))
noncomputable def F_law_other_kinds : FN := runB 1 2 m_law_other_kinds
abbrev s_law_kinds : Stmt := topS 45
theorem sc_law_kinds : FnScope ["_law_error", "_law_found", "_law_name_here", "_law_hit"] ["_law_error"] (defScope s_law_kinds) := ⟨rfl, rfl, rfl, by decide +kernel, rfl, by decide +kernel, by decide +kernel⟩
def d_law_kinds : He.DefD := ⟨("_law_kinds", none), "_law_kinds", "_law_kinds", defArgs s_law_kinds, defBody s_law_kinds, defScope s_law_kinds, [], []⟩
noncomputable def m_law_kinds : MS := mSeq (mSet 1 (mLst false (mCons (mTup (mCons (mC (.str "BadBatch")) (mCons (mIsi tb [.o "BadBatch"] (mVar 0)) (mNil)))) (mCons (mTup (mCons (mC (.str "BadBook")) (mCons (mIsi tb [.o "BadBook"] (mVar 0)) (mNil)))) (mNil))))) (mSeq (mSet 1 (mOp (addD false) (mVar 1) (mLst false (mCons (mTup (mCons (mC (.str "BadEdit")) (mCons (mIsi tb [.o "BadEdit"] (mVar 0)) (mNil)))) (mCons (mTup (mCons (mC (.str "BadPath")) (mCons (mIsi tb [.o "BadPath"] (mVar 0)) (mNil)))) (mNil)))))) (mSeq (mSet 1 (mOp (addD false) (mVar 1) (mLst false (mCons (mTup (mCons (mC (.str "BadProgram")) (mCons (mIsi tb [.o "BadProgram"] (mVar 0)) (mNil)))) (mCons (mTup (mCons (mC (.str "BadReason")) (mCons (mIsi tb [.o "BadReason"] (mVar 0)) (mNil)))) (mNil)))))) (mSeq (mSet 1 (mOp (addD false) (mVar 1) (mLst false (mCons (mTup (mCons (mC (.str "BadRule")) (mCons (mIsi tb [.o "BadRule"] (mVar 0)) (mNil)))) (mCons (mTup (mCons (mC (.str "BadText")) (mCons (mIsi tb [.o "BadText"] (mVar 0)) (mNil)))) (mNil)))))) (mSeq (mSet 1 (mOp (addD false) (mVar 1) (mLst false (mCons (mTup (mCons (mC (.str "BadUse")) (mCons (mIsi tb [.o "BadUse"] (mVar 0)) (mNil)))) (mCons (mTup (mCons (mC (.str "Breaks")) (mCons (mIsi tb [.o "Breaks"] (mVar 0)) (mNil)))) (mNil)))))) (mSeq (mSet 1 (mOp (addD false) (mVar 1) (mLst false (mCons (mTup (mCons (mC (.str "Circular")) (mCons (mIsi tb [.o "Circular"] (mVar 0)) (mNil)))) (mCons (mTup (mCons (mC (.str "Clash")) (mCons (mIsi tb [.o "Clash"] (mVar 0)) (mNil)))) (mNil)))))) (mSeq (mSet 1 (mOp (addD false) (mVar 1) (mLst false (mCons (mTup (mCons (mC (.str "Full")) (mCons (mIsi tb [.o "Full"] (mVar 0)) (mNil)))) (mCons (mTup (mCons (mC (.str "InUse")) (mCons (mIsi tb [.o "InUse"] (mVar 0)) (mNil)))) (mNil)))))) (mSeq (mSet 1 (mOp (addD false) (mVar 1) (mLst false (mCons (mTup (mCons (mC (.str "Itself")) (mCons (mIsi tb [.o "Itself"] (mVar 0)) (mNil)))) (mCons (mTup (mCons (mC (.str "NothingToUndo")) (mCons (mIsi tb [.o "NothingToUndo"] (mVar 0)) (mNil)))) (mNil)))))) (mSeq (mSet 1 (mOp (addD false) (mVar 1) (mLst false (mCons (mTup (mCons (mC (.str "Overlap")) (mCons (mIsi tb [.o "Overlap"] (mVar 0)) (mNil)))) (mCons (mTup (mCons (mC (.str "Rejected")) (mCons (mIsi tb [.o "Rejected"] (mVar 0)) (mNil)))) (mNil)))))) (mSeq (mSet 1 (mOp (addD false) (mVar 1) (mLst false (mCons (mTup (mCons (mC (.str "Ring")) (mCons (mIsi tb [.o "Ring"] (mVar 0)) (mNil)))) (mCons (mTup (mCons (mC (.str "Taken")) (mCons (mIsi tb [.o "Taken"] (mVar 0)) (mNil)))) (mNil)))))) (mSeq (mSet 1 (mOp (addD false) (mVar 1) (mLst false (mCons (mTup (mCons (mC (.str "TooMany")) (mCons (mIsi tb [.o "TooMany"] (mVar 0)) (mNil)))) (mCons (mTup (mCons (mC (.str "Unclear")) (mCons (mIsi tb [.o "Unclear"] (mVar 0)) (mNil)))) (mNil)))))) (mRet (mLC false (mIt itL (mOp (addD false) (mVar 1) (mArg F_law_other_kinds (mCons (mVar 0) (mNil))))) (.tp [.nm 2, .nm 3]) [2, 3] (mTru (mVar 3)) (mVar 2)))))))))))))
noncomputable def F_law_kinds : FN := runB 1 4 m_law_kinds
abbrev s_law_made_others : Stmt := topS 48
theorem sc_law_made_others : FnScope ["_law_one", "_law_found", "_law_allowance", "_law_module", "_law_part", "_law_rule", "_law_use"] ["_law_one"] (defScope s_law_made_others) := ⟨rfl, rfl, rfl, by decide +kernel, rfl, by decide +kernel, by decide +kernel⟩
def d_law_made_others : He.DefD := ⟨("_law_made_others", none), "_law_made_others", "_law_made_others", defArgs s_law_made_others, defBody s_law_made_others, defScope s_law_made_others, [], []⟩
noncomputable def m_law_made_others : MS := mSeq (mPar [2, 3, 4] (mCons (mExn "NoAllowance" ["use"] (mCons (mVar 0) (mNil))) (mCons (mExn "NoModule" ["path"] (mCons (mVar 0) (mNil))) (mCons (mExn "NoPart" ["path"] (mCons (mVar 0) (mNil))) (mNil))))) (mSeq (mPar [5, 6] (mCons (mExn "NoRule" ["index"] (mCons (mVar 0) (mNil))) (mCons (mExn "NoUse" ["use"] (mCons (mVar 0) (mNil))) (mNil)))) (mSeq (mSet 1 (mLst false (mCons (mTup (mCons (mVar 2) (mCons (mC (.str "NoAllowance")) (mCons (mLst false (mCons (mFld "use" [] ["NoAllowance", "NoUse"] (mVar 2)) (mNil))) (mCons (mLst false (mCons (mVar 0) (mNil))) (mNil)))))) (mCons (mTup (mCons (mVar 3) (mCons (mC (.str "NoModule")) (mCons (mLst false (mCons (mFld "path" [] ["BadPath", "Clash", "InUse", "Itself", "Overlap", "NoModule", "NoPart"] (mVar 3)) (mNil))) (mCons (mLst false (mCons (mVar 0) (mNil))) (mNil)))))) (mNil))))) (mSeq (mSet 1 (mOp (addD false) (mVar 1) (mLst false (mCons (mTup (mCons (mVar 4) (mCons (mC (.str "NoPart")) (mCons (mLst false (mCons (mFld "path" [] ["BadPath", "Clash", "InUse", "Itself", "Overlap", "NoModule", "NoPart"] (mVar 4)) (mNil))) (mCons (mLst false (mCons (mVar 0) (mNil))) (mNil)))))) (mCons (mTup (mCons (mVar 5) (mCons (mC (.str "NoRule")) (mCons (mLst false (mCons (mFld "index" [] ["BadEdit", "BadUse", "Rejected", "NoRule"] (mVar 5)) (mNil))) (mCons (mLst false (mCons (mVar 0) (mNil))) (mNil)))))) (mNil)))))) (mRet (mOp (addD false) (mVar 1) (mLst false (mCons (mTup (mCons (mVar 6) (mCons (mC (.str "NoUse")) (mCons (mLst false (mCons (mFld "use" [] ["NoAllowance", "NoUse"] (mVar 6)) (mNil))) (mCons (mLst false (mCons (mVar 0) (mNil))) (mNil)))))) (mNil))))))))
noncomputable def F_law_made_others : FN := runB 1 7 m_law_made_others
abbrev s_law : Stmt := topS 49
theorem sc_law : FnScope ["_law_script", "_law_deck_here", "_law_turn", "_law_limits", "_law_name_here", "_law_plain", "_law_one", "_law_other", "_law_error", "_law_kind", "_law_fields", "_law_due"] ["_law_script"] (defScope s_law) := ⟨rfl, rfl, rfl, by decide +kernel, rfl, by decide +kernel, by decide +kernel⟩
def d_law : He.DefD := ⟨("law", none), "law", "law", defArgs s_law, defBody s_law, defScope s_law, [], []⟩
noncomputable def m_law : MS := mSeq (mSet 1 (mArg F_law_deck (mCons (mVar 0) (mNil)))) (mSeq (mFor (mItA itR1 (mCons (mC (.int (2))) (mNil))) (.nm 2) (mSeq (mSet 4 (mArg F_law_name (mCons (mVar 1) (mNil)))) (mSeq (mPar [6, 7] (mCons (mArg F_law_odd (mCons (mVar 1) (mCons (mVar 4) (mNil)))) (mCons (mArg F_law_odd (mCons (mVar 1) (mCons (mVar 4) (mNil)))) (mNil)))) (mSeq (mSet 5 (mLst false (mCons (mTup (mCons (mC (.exn "BadBatch" [] [])) (mCons (mC (.str "BadBatch")) (mCons (mLst false (mNil)) (mCons (mLst false (mNil)) (mNil)))))) (mCons (mTup (mCons (mC (.exn "Full" [] [])) (mCons (mC (.str "Full")) (mCons (mLst false (mNil)) (mCons (mLst false (mNil)) (mNil)))))) (mCons (mTup (mCons (mC (.exn "NothingToUndo" [] [])) (mCons (mC (.str "NothingToUndo")) (mCons (mLst false (mNil)) (mCons (mLst false (mNil)) (mNil)))))) (mNil)))))) (mSeq (mFor (mIt itL (mOp (addD false) (mVar 5) (mArg F_law_made (mCons (mVar 6) (mCons (mVar 7) (mNil)))))) (.tp [.nm 8, .nm 9, .nm 10, .nm 11]) (mSeq (mIf (mOr (mNot (mTru (mArg (F_law_same 6) (mCons (mVar 10) (mCons (mVar 11) (mNil)))))) (mOr (mBool (mOp (eqD true) (mArg F_law_kinds (mCons (mVar 8) (mNil))) (mLst false (mCons (mVar 9) (mNil))))) (mTru (mIsi tb [.b "LookupError"] (mVar 8))))) (mRet (mC (.bl false))) (mNext)) (mIf (mOr (mNot (mTru (mIsi tb [.o "RestError"] (mVar 8)))) (mNot (mTru (mIsi tb [.b "ValueError"] (mVar 8))))) (mRet (mC (.bl false))) (mNext)))) (mFor (mIt itL (mArg F_law_made_others (mCons (mVar 7) (mNil)))) (.tp [.nm 8, .nm 9, .nm 10, .nm 11]) (mSeq (mIf (mOr (mNot (mTru (mArg (F_law_same 6) (mCons (mVar 10) (mCons (mVar 11) (mNil)))))) (mOr (mBool (mOp (eqD true) (mArg F_law_kinds (mCons (mVar 8) (mNil))) (mLst false (mCons (mVar 9) (mNil))))) (mNot (mTru (mIsi tb [.b "LookupError"] (mVar 8)))))) (mRet (mC (.bl false))) (mNext)) (mIf (mTru (mIsi tb [.o "RestError", .b "ValueError", .b "KeyError", .b "IndexError"] (mVar 8))) (mRet (mC (.bl false))) (mNext))))))))) (mSeq (mSet 3 (mTup (mCons (mC (.int (10))) (mCons (mC (.int (4))) (mCons (mC (.int (40))) (mCons (mC (.int (6))) (mCons (mC (.int (24))) (mCons (mC (.int (2))) (mCons (mC (.int (6))) (mCons (mC (.int (4))) (mNil))))))))))) (mRet (mArg (F_law_same 6) (mCons (mOp (addD false) (mVar 3) (mTup (mCons (mC (.int (8))) (mCons (mC (.int (200))) (mNil))))) (mCons (mTup (mCons (mC (.int (10))) (mCons (mC (.int (4))) (mCons (mC (.int (40))) (mCons (mC (.int (6))) (mCons (mC (.int (24))) (mCons (mC (.int (2))) (mCons (mC (.int (6))) (mCons (mC (.int (4))) (mCons (mC (.int (8))) (mCons (mC (.int (200))) (mNil)))))))))))) (mNil)))))))
noncomputable def F_law : FN := runB 1 12 m_law
def fn : List He.DefD := [d_law, d_law_deck, d_law_name, d_law_next, d_law_odd, d_law_made, d_BadEdit, d_BadBook, d_BadProgram, d_BadPath, d_BadUse, d_BadText, d_BadRule, d_BadReason, d_InUse, d_Clash, d_Circular, d_Breaks, d_Overlap, d_Itself, d_Ring, d_Rejected, d_Unclear, d_TooMany, d_Taken, d_law_same, d_law_kinds, d_law_other_kinds, d_law_made_others, d_NoPart, d_NoModule, d_NoAllowance, d_NoUse, d_NoRule]
def fa : List He.Fa := [.free "abs", .free "len", .glo "_law_deck", .free "range", .free "int", .glo "_law_next", .glo "_law_name", .glo "_law_odd", .glo "_law_made", .free "list", .free "tuple", .free "isinstance", .free "zip", .glo "_law_same", .free "all", .free "str", .free "bool", .free "dict", .free "repr", .glo "BadBook", .glo "BadBatch", .glo "BadPath", .glo "BadEdit", .glo "BadReason", .glo "BadProgram", .glo "BadText", .glo "BadRule", .glo "Breaks", .glo "BadUse", .glo "Clash", .glo "Circular", .glo "InUse", .glo "Full", .glo "NothingToUndo", .glo "Itself", .glo "Rejected", .glo "Overlap", .glo "Taken", .glo "Ring", .glo "Unclear", .glo "TooMany", .glo "NoModule", .glo "NoAllowance", .glo "NoRule", .glo "NoPart", .glo "NoUse", .glo "_law_other_kinds", .glo "_law_kinds", .free "LookupError", .glo "RestError", .free "ValueError", .glo "_law_made_others", .free "IndexError", .free "KeyError", .int "MAX_RULE_NAMES" (4), .int "MAX_NAMES" (6), .int "MAX_MOVES" (2), .int "MAX_MODULES" (24), .int "MAX_LISTED" (6), .int "MAX_EDITS" (40), .int "MAX_CUTS" (4), .int "BATCH" (10), .int "MAX_USES" (200), .int "MAX_RULES" (8), .glo "law"]
def tabs : Tabs := ⟨tb, [[.b "tuple", .b "list"], [.b "tuple"], [.b "list"], [.b "str"], [.b "bool"], [.b "int"], [.b "dict"], [.o "BadBook"], [.o "BadBatch"], [.o "BadPath"], [.o "BadEdit"], [.o "BadReason"], [.o "BadProgram"], [.o "BadText"], [.o "BadRule"], [.o "Breaks"], [.o "BadUse"], [.o "Clash"], [.o "Circular"], [.o "InUse"], [.o "Full"], [.o "NothingToUndo"], [.o "Itself"], [.o "Rejected"], [.o "Overlap"], [.o "Taken"], [.o "Ring"], [.o "Unclear"], [.o "TooMany"], [.o "NoModule"], [.o "NoAllowance"], [.o "NoRule"], [.o "NoPart"], [.o "NoUse"], [.b "LookupError"], [.o "RestError"], [.b "ValueError"], [.o "RestError", .b "ValueError", .b "KeyError", .b "IndexError"]], [("index", [], ["BadEdit", "BadUse", "Rejected", "NoRule"]), ("error", [], ["BadBook", "BadProgram"]), ("path", [], ["BadPath", "Clash", "InUse", "Itself", "Overlap", "NoModule", "NoPart"]), ("word", [], ["BadRule"]), ("reason", [], ["BadReason"]), ("code", [], ["BadText"]), ("line", [], ["BadText"]), ("evidence", [], ["Breaks", "Circular"]), ("rule", [], ["Breaks"]), ("ring", [], ["Ring"]), ("limit", [], ["TooMany"]), ("thing", [], ["Taken"]), ("name", [], ["Unclear"]), ("use", [], ["NoAllowance", "NoUse"])], [("BadEdit", ["index"], true), ("BadBook", ["error"], true), ("BadProgram", ["error"], true), ("BadPath", ["path"], true), ("BadUse", ["index"], true), ("BadText", ["line", "code"], true), ("BadRule", ["word"], true), ("BadReason", ["reason"], true), ("InUse", ["path"], true), ("Clash", ["path"], true), ("Circular", ["evidence"], true), ("Breaks", ["rule", "evidence"], true), ("Overlap", ["path"], true), ("Itself", ["path"], true), ("Ring", ["ring"], true), ("Rejected", ["index"], true), ("Unclear", ["name"], true), ("TooMany", ["limit"], true), ("Taken", ["thing"], true), ("NoPart", ["path"], false), ("NoModule", ["path"], false), ("NoAllowance", ["use"], false), ("NoUse", ["use"], false), ("NoRule", ["index"], false)], [("NothingToUndo", true), ("Full", true), ("BadBatch", true)]⟩
section
variable {P : Program} {w : World} {K : PySem.W.Frag} {mg : Str → Option Value} {base : Heap} {fdT : Nat → FuncData}
theorem b_BadEdit (A : Al tabs fa fn K mg fdT) : Binds K (fdT 6) ["self", "index"] [] := (A.d 6 (d := d_BadEdit) rfl).bindsN fun _ _ _ _ _ _ us hl => match us, hl with | [_, _], _ => rfl
theorem xk_BadEdit (A : Al tabs fa fn K mg fdT) : XK0 P w K mg base "BadEdit" ["index"] := xk1 (A.xk_ 0 rfl) (A.glo 22 rfl) (A.d 6 (d := d_BadEdit) rfl) sc_BadEdit (by first | exact Or.inl rfl | exact Or.inr (Or.inl rfl)) (by first | exact Or.inl rfl | exact Or.inr (Or.inl rfl)) (by decide) (by decide) (b_BadEdit A)
theorem b_BadBook (A : Al tabs fa fn K mg fdT) : Binds K (fdT 7) ["self", "error"] [] := (A.d 7 (d := d_BadBook) rfl).bindsN fun _ _ _ _ _ _ us hl => match us, hl with | [_, _], _ => rfl
theorem xk_BadBook (A : Al tabs fa fn K mg fdT) : XK0 P w K mg base "BadBook" ["error"] := xk1 (A.xk_ 1 rfl) (A.glo 19 rfl) (A.d 7 (d := d_BadBook) rfl) sc_BadBook (by first | exact Or.inl rfl | exact Or.inr (Or.inl rfl)) (by first | exact Or.inl rfl | exact Or.inr (Or.inl rfl)) (by decide) (by decide) (b_BadBook A)
theorem b_BadProgram (A : Al tabs fa fn K mg fdT) : Binds K (fdT 8) ["self", "error"] [] := (A.d 8 (d := d_BadProgram) rfl).bindsN fun _ _ _ _ _ _ us hl => match us, hl with | [_, _], _ => rfl
theorem xk_BadProgram (A : Al tabs fa fn K mg fdT) : XK0 P w K mg base "BadProgram" ["error"] := xk1 (A.xk_ 2 rfl) (A.glo 24 rfl) (A.d 8 (d := d_BadProgram) rfl) sc_BadProgram (by first | exact Or.inl rfl | exact Or.inr (Or.inl rfl)) (by first | exact Or.inl rfl | exact Or.inr (Or.inl rfl)) (by decide) (by decide) (b_BadProgram A)
theorem b_BadPath (A : Al tabs fa fn K mg fdT) : Binds K (fdT 9) ["self", "path"] [] := (A.d 9 (d := d_BadPath) rfl).bindsN fun _ _ _ _ _ _ us hl => match us, hl with | [_, _], _ => rfl
theorem xk_BadPath (A : Al tabs fa fn K mg fdT) : XK0 P w K mg base "BadPath" ["path"] := xk1 (A.xk_ 3 rfl) (A.glo 21 rfl) (A.d 9 (d := d_BadPath) rfl) sc_BadPath (by first | exact Or.inl rfl | exact Or.inr (Or.inl rfl)) (by first | exact Or.inl rfl | exact Or.inr (Or.inl rfl)) (by decide) (by decide) (b_BadPath A)
theorem b_BadUse (A : Al tabs fa fn K mg fdT) : Binds K (fdT 10) ["self", "index"] [] := (A.d 10 (d := d_BadUse) rfl).bindsN fun _ _ _ _ _ _ us hl => match us, hl with | [_, _], _ => rfl
theorem xk_BadUse (A : Al tabs fa fn K mg fdT) : XK0 P w K mg base "BadUse" ["index"] := xk1 (A.xk_ 4 rfl) (A.glo 28 rfl) (A.d 10 (d := d_BadUse) rfl) sc_BadUse (by first | exact Or.inl rfl | exact Or.inr (Or.inl rfl)) (by first | exact Or.inl rfl | exact Or.inr (Or.inl rfl)) (by decide) (by decide) (b_BadUse A)
theorem b_BadText (A : Al tabs fa fn K mg fdT) : Binds K (fdT 11) ["self", "line", "code"] [] := (A.d 11 (d := d_BadText) rfl).bindsN fun _ _ _ _ _ _ us hl => match us, hl with | [_, _, _], _ => rfl
theorem xk_BadText (A : Al tabs fa fn K mg fdT) : XK0 P w K mg base "BadText" ["line", "code"] := xk2 (A.xk_ 5 rfl) (A.glo 25 rfl) (A.d 11 (d := d_BadText) rfl) sc_BadText (by first | exact Or.inl rfl | exact Or.inr (Or.inl rfl)) (by first | exact Or.inl rfl | exact Or.inr (Or.inl rfl)) (by first | exact Or.inl rfl | exact Or.inr (Or.inl rfl)) (by decide) (by decide) (by decide) (by decide) (b_BadText A)
theorem b_BadRule (A : Al tabs fa fn K mg fdT) : Binds K (fdT 12) ["self", "word"] [] := (A.d 12 (d := d_BadRule) rfl).bindsN fun _ _ _ _ _ _ us hl => match us, hl with | [_, _], _ => rfl
theorem xk_BadRule (A : Al tabs fa fn K mg fdT) : XK0 P w K mg base "BadRule" ["word"] := xk1 (A.xk_ 6 rfl) (A.glo 26 rfl) (A.d 12 (d := d_BadRule) rfl) sc_BadRule (by first | exact Or.inl rfl | exact Or.inr (Or.inl rfl)) (by first | exact Or.inl rfl | exact Or.inr (Or.inl rfl)) (by decide) (by decide) (b_BadRule A)
theorem b_BadReason (A : Al tabs fa fn K mg fdT) : Binds K (fdT 13) ["self", "reason"] [] := (A.d 13 (d := d_BadReason) rfl).bindsN fun _ _ _ _ _ _ us hl => match us, hl with | [_, _], _ => rfl
theorem xk_BadReason (A : Al tabs fa fn K mg fdT) : XK0 P w K mg base "BadReason" ["reason"] := xk1 (A.xk_ 7 rfl) (A.glo 23 rfl) (A.d 13 (d := d_BadReason) rfl) sc_BadReason (by first | exact Or.inl rfl | exact Or.inr (Or.inl rfl)) (by first | exact Or.inl rfl | exact Or.inr (Or.inl rfl)) (by decide) (by decide) (b_BadReason A)
theorem b_InUse (A : Al tabs fa fn K mg fdT) : Binds K (fdT 14) ["self", "path"] [] := (A.d 14 (d := d_InUse) rfl).bindsN fun _ _ _ _ _ _ us hl => match us, hl with | [_, _], _ => rfl
theorem xk_InUse (A : Al tabs fa fn K mg fdT) : XK0 P w K mg base "InUse" ["path"] := xk1 (A.xk_ 8 rfl) (A.glo 31 rfl) (A.d 14 (d := d_InUse) rfl) sc_InUse (by first | exact Or.inl rfl | exact Or.inr (Or.inl rfl)) (by first | exact Or.inl rfl | exact Or.inr (Or.inl rfl)) (by decide) (by decide) (b_InUse A)
theorem b_Clash (A : Al tabs fa fn K mg fdT) : Binds K (fdT 15) ["self", "path"] [] := (A.d 15 (d := d_Clash) rfl).bindsN fun _ _ _ _ _ _ us hl => match us, hl with | [_, _], _ => rfl
theorem xk_Clash (A : Al tabs fa fn K mg fdT) : XK0 P w K mg base "Clash" ["path"] := xk1 (A.xk_ 9 rfl) (A.glo 29 rfl) (A.d 15 (d := d_Clash) rfl) sc_Clash (by first | exact Or.inl rfl | exact Or.inr (Or.inl rfl)) (by first | exact Or.inl rfl | exact Or.inr (Or.inl rfl)) (by decide) (by decide) (b_Clash A)
theorem b_Circular (A : Al tabs fa fn K mg fdT) : Binds K (fdT 16) ["self", "evidence"] [] := (A.d 16 (d := d_Circular) rfl).bindsN fun _ _ _ _ _ _ us hl => match us, hl with | [_, _], _ => rfl
theorem xk_Circular (A : Al tabs fa fn K mg fdT) : XK0 P w K mg base "Circular" ["evidence"] := xk1 (A.xk_ 10 rfl) (A.glo 30 rfl) (A.d 16 (d := d_Circular) rfl) sc_Circular (by first | exact Or.inl rfl | exact Or.inr (Or.inl rfl)) (by first | exact Or.inl rfl | exact Or.inr (Or.inl rfl)) (by decide) (by decide) (b_Circular A)
theorem b_Breaks (A : Al tabs fa fn K mg fdT) : Binds K (fdT 17) ["self", "rule", "evidence"] [] := (A.d 17 (d := d_Breaks) rfl).bindsN fun _ _ _ _ _ _ us hl => match us, hl with | [_, _, _], _ => rfl
theorem xk_Breaks (A : Al tabs fa fn K mg fdT) : XK0 P w K mg base "Breaks" ["rule", "evidence"] := xk2 (A.xk_ 11 rfl) (A.glo 27 rfl) (A.d 17 (d := d_Breaks) rfl) sc_Breaks (by first | exact Or.inl rfl | exact Or.inr (Or.inl rfl)) (by first | exact Or.inl rfl | exact Or.inr (Or.inl rfl)) (by first | exact Or.inl rfl | exact Or.inr (Or.inl rfl)) (by decide) (by decide) (by decide) (by decide) (b_Breaks A)
theorem b_Overlap (A : Al tabs fa fn K mg fdT) : Binds K (fdT 18) ["self", "path"] [] := (A.d 18 (d := d_Overlap) rfl).bindsN fun _ _ _ _ _ _ us hl => match us, hl with | [_, _], _ => rfl
theorem xk_Overlap (A : Al tabs fa fn K mg fdT) : XK0 P w K mg base "Overlap" ["path"] := xk1 (A.xk_ 12 rfl) (A.glo 36 rfl) (A.d 18 (d := d_Overlap) rfl) sc_Overlap (by first | exact Or.inl rfl | exact Or.inr (Or.inl rfl)) (by first | exact Or.inl rfl | exact Or.inr (Or.inl rfl)) (by decide) (by decide) (b_Overlap A)
theorem b_Itself (A : Al tabs fa fn K mg fdT) : Binds K (fdT 19) ["self", "path"] [] := (A.d 19 (d := d_Itself) rfl).bindsN fun _ _ _ _ _ _ us hl => match us, hl with | [_, _], _ => rfl
theorem xk_Itself (A : Al tabs fa fn K mg fdT) : XK0 P w K mg base "Itself" ["path"] := xk1 (A.xk_ 13 rfl) (A.glo 34 rfl) (A.d 19 (d := d_Itself) rfl) sc_Itself (by first | exact Or.inl rfl | exact Or.inr (Or.inl rfl)) (by first | exact Or.inl rfl | exact Or.inr (Or.inl rfl)) (by decide) (by decide) (b_Itself A)
theorem b_Ring (A : Al tabs fa fn K mg fdT) : Binds K (fdT 20) ["self", "ring"] [] := (A.d 20 (d := d_Ring) rfl).bindsN fun _ _ _ _ _ _ us hl => match us, hl with | [_, _], _ => rfl
theorem xk_Ring (A : Al tabs fa fn K mg fdT) : XK0 P w K mg base "Ring" ["ring"] := xk1 (A.xk_ 14 rfl) (A.glo 38 rfl) (A.d 20 (d := d_Ring) rfl) sc_Ring (by first | exact Or.inl rfl | exact Or.inr (Or.inl rfl)) (by first | exact Or.inl rfl | exact Or.inr (Or.inl rfl)) (by decide) (by decide) (b_Ring A)
theorem b_Rejected (A : Al tabs fa fn K mg fdT) : Binds K (fdT 21) ["self", "index"] [] := (A.d 21 (d := d_Rejected) rfl).bindsN fun _ _ _ _ _ _ us hl => match us, hl with | [_, _], _ => rfl
theorem xk_Rejected (A : Al tabs fa fn K mg fdT) : XK0 P w K mg base "Rejected" ["index"] := xk1 (A.xk_ 15 rfl) (A.glo 35 rfl) (A.d 21 (d := d_Rejected) rfl) sc_Rejected (by first | exact Or.inl rfl | exact Or.inr (Or.inl rfl)) (by first | exact Or.inl rfl | exact Or.inr (Or.inl rfl)) (by decide) (by decide) (b_Rejected A)
theorem b_Unclear (A : Al tabs fa fn K mg fdT) : Binds K (fdT 22) ["self", "name"] [] := (A.d 22 (d := d_Unclear) rfl).bindsN fun _ _ _ _ _ _ us hl => match us, hl with | [_, _], _ => rfl
theorem xk_Unclear (A : Al tabs fa fn K mg fdT) : XK0 P w K mg base "Unclear" ["name"] := xk1 (A.xk_ 16 rfl) (A.glo 39 rfl) (A.d 22 (d := d_Unclear) rfl) sc_Unclear (by first | exact Or.inl rfl | exact Or.inr (Or.inl rfl)) (by first | exact Or.inl rfl | exact Or.inr (Or.inl rfl)) (by decide) (by decide) (b_Unclear A)
theorem b_TooMany (A : Al tabs fa fn K mg fdT) : Binds K (fdT 23) ["self", "limit"] [] := (A.d 23 (d := d_TooMany) rfl).bindsN fun _ _ _ _ _ _ us hl => match us, hl with | [_, _], _ => rfl
theorem xk_TooMany (A : Al tabs fa fn K mg fdT) : XK0 P w K mg base "TooMany" ["limit"] := xk1 (A.xk_ 17 rfl) (A.glo 40 rfl) (A.d 23 (d := d_TooMany) rfl) sc_TooMany (by first | exact Or.inl rfl | exact Or.inr (Or.inl rfl)) (by first | exact Or.inl rfl | exact Or.inr (Or.inl rfl)) (by decide) (by decide) (b_TooMany A)
theorem b_Taken (A : Al tabs fa fn K mg fdT) : Binds K (fdT 24) ["self", "thing"] [] := (A.d 24 (d := d_Taken) rfl).bindsN fun _ _ _ _ _ _ us hl => match us, hl with | [_, _], _ => rfl
theorem xk_Taken (A : Al tabs fa fn K mg fdT) : XK0 P w K mg base "Taken" ["thing"] := xk1 (A.xk_ 18 rfl) (A.glo 37 rfl) (A.d 24 (d := d_Taken) rfl) sc_Taken (by first | exact Or.inl rfl | exact Or.inr (Or.inl rfl)) (by first | exact Or.inl rfl | exact Or.inr (Or.inl rfl)) (by decide) (by decide) (b_Taken A)
theorem b_NoPart (A : Al tabs fa fn K mg fdT) : Binds K (fdT 29) ["self", "path"] [] := (A.d 29 (d := d_NoPart) rfl).bindsN fun _ _ _ _ _ _ us hl => match us, hl with | [_, _], _ => rfl
theorem xk_NoPart (A : Al tabs fa fn K mg fdT) : XK0 P w K mg base "NoPart" ["path"] := xk1 (A.xk_ 19 rfl) (A.glo 44 rfl) (A.d 29 (d := d_NoPart) rfl) sc_NoPart (by first | exact Or.inl rfl | exact Or.inr (Or.inl rfl)) (by first | exact Or.inl rfl | exact Or.inr (Or.inl rfl)) (by decide) (by decide) (b_NoPart A)
theorem b_NoModule (A : Al tabs fa fn K mg fdT) : Binds K (fdT 30) ["self", "path"] [] := (A.d 30 (d := d_NoModule) rfl).bindsN fun _ _ _ _ _ _ us hl => match us, hl with | [_, _], _ => rfl
theorem xk_NoModule (A : Al tabs fa fn K mg fdT) : XK0 P w K mg base "NoModule" ["path"] := xk1 (A.xk_ 20 rfl) (A.glo 41 rfl) (A.d 30 (d := d_NoModule) rfl) sc_NoModule (by first | exact Or.inl rfl | exact Or.inr (Or.inl rfl)) (by first | exact Or.inl rfl | exact Or.inr (Or.inl rfl)) (by decide) (by decide) (b_NoModule A)
theorem b_NoAllowance (A : Al tabs fa fn K mg fdT) : Binds K (fdT 31) ["self", "use"] [] := (A.d 31 (d := d_NoAllowance) rfl).bindsN fun _ _ _ _ _ _ us hl => match us, hl with | [_, _], _ => rfl
theorem xk_NoAllowance (A : Al tabs fa fn K mg fdT) : XK0 P w K mg base "NoAllowance" ["use"] := xk1 (A.xk_ 21 rfl) (A.glo 42 rfl) (A.d 31 (d := d_NoAllowance) rfl) sc_NoAllowance (by first | exact Or.inl rfl | exact Or.inr (Or.inl rfl)) (by first | exact Or.inl rfl | exact Or.inr (Or.inl rfl)) (by decide) (by decide) (b_NoAllowance A)
theorem b_NoUse (A : Al tabs fa fn K mg fdT) : Binds K (fdT 32) ["self", "use"] [] := (A.d 32 (d := d_NoUse) rfl).bindsN fun _ _ _ _ _ _ us hl => match us, hl with | [_, _], _ => rfl
theorem xk_NoUse (A : Al tabs fa fn K mg fdT) : XK0 P w K mg base "NoUse" ["use"] := xk1 (A.xk_ 22 rfl) (A.glo 45 rfl) (A.d 32 (d := d_NoUse) rfl) sc_NoUse (by first | exact Or.inl rfl | exact Or.inr (Or.inl rfl)) (by first | exact Or.inl rfl | exact Or.inr (Or.inl rfl)) (by decide) (by decide) (b_NoUse A)
theorem b_NoRule (A : Al tabs fa fn K mg fdT) : Binds K (fdT 33) ["self", "index"] [] := (A.d 33 (d := d_NoRule) rfl).bindsN fun _ _ _ _ _ _ us hl => match us, hl with | [_, _], _ => rfl
theorem xk_NoRule (A : Al tabs fa fn K mg fdT) : XK0 P w K mg base "NoRule" ["index"] := xk1 (A.xk_ 23 rfl) (A.glo 43 rfl) (A.d 33 (d := d_NoRule) rfl) sc_NoRule (by first | exact Or.inl rfl | exact Or.inr (Or.inl rfl)) (by first | exact Or.inl rfl | exact Or.inr (Or.inl rfl)) (by decide) (by decide) (b_NoRule A)
theorem b_law_deck (A : Al tabs fa fn K mg fdT) : Binds K (fdT 1) ["_law_script"] [] := (A.d 1 (d := d_law_deck) rfl).bindsN fun _ _ _ _ _ _ us hl => match us, hl with | [_], _ => rfl
theorem ok_law_deck (A : Al tabs fa fn K mg fdT) : FnOkG P w K mg base 1 (He.ga K "_law_deck") (fdT 1) ["_law_script"] (spF K F_law_deck) := by
  have nd := sc_law_deck.nd
  exact fn_okG (A.d 1 (d := d_law_deck) rfl) sc_law_deck fun cdv Ar outer s H E hgd hr => sss_cons (ss_setLc 1 true [("_law_number", 2)] (.nm 2) rfl nd (si_list (se_var 0)) (by kernel_rfl) (by decide) (fun _ _ _ _ _ => sg_nm 2 nd) (fun _ _ _ _ _ => sts_nil) (fun _ _ _ _ _ => se_callB "abs" on_abs (A.fre 0 rfl) (sa_cons (se_var 2) (sa_nil)))) (sss_one (ss_ret (se_lst true (sa_cons (se_lc true [("_law_number", 2)] (.nm 2) rfl nd (si_list (se_var 1)) (by kernel_rfl) (by decide) (fun _ _ _ _ _ => sg_nm 2 nd) (fun _ _ _ _ _ => sts_one (st_cmp o2_ge (se_var 2) (se_op o2_pow (se_int) (se_int)))) (fun _ _ _ _ _ => se_var 2)) (sa_cons (se_op (o2_add true) (se_var 1) (se_lst false (sa_cons (se_op (o2_add false) (se_callB "len" on_len (A.fre 1 rfl) (sa_cons (se_var 1) (sa_nil))) (se_int)) (sa_nil)))) (sa_cons (se_int) (sa_nil)))))))
theorem b_law_next (A : Al tabs fa fn K mg fdT) : Binds K (fdT 3) ["_law_deck_here", "_law_many"] [] := (A.d 3 (d := d_law_next) rfl).bindsN fun _ _ _ _ _ _ us hl => match us, hl with | [_, _], _ => rfl
theorem ok_law_next (A : Al tabs fa fn K mg fdT) : FnOkG P w K mg base 1 (He.ga K "_law_next") (fdT 3) ["_law_deck_here", "_law_many"] (spF K F_law_next) := by
  have nd := sc_law_next.nd
  exact fn_okG (A.d 3 (d := d_law_next) rfl) sc_law_next fun cdv Ar outer s H E hgd hr => sss_cons (ss_while 64 passesF (st_cmp (o2_ne hr.units) (se_ix (se_var 0) (se_int)) (se_lst false (sa_nil))) (sss_cons (ss_set 5 nd (se_ix (se_ix (se_var 0) (se_int)) (se_int))) (sss_cons (ss_if (st_cmp o2_gt (se_var 5) (se_int)) (sss_cons (ss_putL (se_ix (se_var 0) (se_int)) (se_int) (se_op o2_fdiv (se_var 5) (se_var 1))) (sss_one (ss_ret (se_op o2_mod (se_callTy "int" on_int (A.fre 4 rfl) (sa_cons (se_var 5) (sa_nil))) (se_var 1))))) (sss_nil)) (sss_one (ss_expr (se_met F.plainAttrs_list F.slot_list_pop F.type_list_pop recv_lst om_pop0 (se_ix (se_var 0) (se_int)) (sa_cons (se_int) (sa_nil)))))))) (sss_cons (ss_putL (se_var 0) (se_int) (se_op (o2_add false) (se_ix (se_var 0) (se_int)) (se_int))) (sss_cons (ss_set 2 nd (se_ix (se_var 0) (se_int))) (sss_cons (ss_set 3 nd (se_op o2_mod (se_callTy "int" on_int (A.fre 4 rfl) (sa_cons (se_ix (se_ix (se_var 0) (se_int)) (se_op o2_mod (se_callTy "int" on_int (A.fre 4 rfl) (sa_cons (se_var 2) (sa_nil))) (se_callB "len" on_len (A.fre 1 rfl) (sa_cons (se_ix (se_var 0) (se_int)) (sa_nil))))) (sa_nil))) (se_int))) (sss_cons (ss_set 4 nd (se_op o2_mod (se_callTy "int" on_int (A.fre 4 rfl) (sa_cons (se_op (o2_add false) (se_op (o2_add false) (se_op o2_mul (se_var 3) (se_op (o2_add false) (se_int) (se_op o2_mul (se_int) (se_var 2)))) (se_op o2_mul (se_op o2_mul (se_int) (se_var 2)) (se_var 2))) (se_int)) (sa_nil))) (se_int))) (sss_one (ss_ret (se_op o2_mod (se_op o2_fdiv (se_op o2_mod (se_callTy "int" on_int (A.fre 4 rfl) (sa_cons (se_op o2_mul (se_var 4) (se_var 4)) (sa_nil))) (se_int)) (se_int)) (se_var 1))))))))
theorem b_law_name (A : Al tabs fa fn K mg fdT) : Binds K (fdT 2) ["_law_deck_here"] [] := (A.d 2 (d := d_law_name) rfl).bindsN fun _ _ _ _ _ _ us hl => match us, hl with | [_], _ => rfl
theorem ok_law_name (A : Al tabs fa fn K mg fdT) : FnOkG P w K mg base 2 (He.ga K "_law_name") (fdT 2) ["_law_deck_here"] (spF K F_law_name) := by
  have nd := sc_law_name.nd
  exact fn_okG (A.d 2 (d := d_law_name) rfl) sc_law_name fun cdv Ar outer s H E hgd hr => sss_cons (ss_set 1 nd (se_str)) (sss_cons (ss_set 2 nd (se_ix (se_lst false (sa_cons (se_int) (sa_cons (se_int) (sa_cons (se_int) (sa_cons (se_int) (sa_cons (se_int) (sa_cons (se_int) (sa_cons (se_int) (sa_cons (se_int) (sa_nil)))))))))) (se_callG (ok_law_next A) hgd (hr.mono (by omega)) (A.glo 5 rfl) (A.d 3 (d := d_law_next) rfl).kp (b_law_next A) takesF (sa_cons (se_var 0) (sa_cons (se_int) (sa_nil)))))) (sss_one (ss_ret (se_met F.plainAttrs_str F.slot_str_join F.type_str_join recv_str om_join (se_str) (sa_cons (se_lc false [("_law_k", 3)] (.nm 3) rfl nd (si_range1 (A.fre 3 rfl) (sa_cons (se_var 2) (sa_nil))) (by kernel_rfl) (by decide) (fun _ _ _ _ _ => sg_nm 3 nd) (fun _ _ _ _ _ => sts_nil) (fun _ _ _ _ _ => se_ix (se_var 1) (se_callG (ok_law_next A) hgd (hr.mono (by omega)) (A.glo 5 rfl) (A.d 3 (d := d_law_next) rfl).kp (b_law_next A) takes_none5 (sa_cons (se_var 0) (sa_cons (se_int) (sa_nil)))))) (sa_nil))))))
theorem b_law_odd (A : Al tabs fa fn K mg fdT) : Binds K (fdT 4) ["_law_deck_here", "_law_path"] [] := (A.d 4 (d := d_law_odd) rfl).bindsN fun _ _ _ _ _ _ us hl => match us, hl with | [_, _], _ => rfl
theorem ok_law_odd (A : Al tabs fa fn K mg fdT) : FnOkG P w K mg base 2 (He.ga K "_law_odd") (fdT 4) ["_law_deck_here", "_law_path"] (spF K F_law_odd) := by
  have nd := sc_law_odd.nd
  exact fn_okG (A.d 4 (d := d_law_odd) rfl) sc_law_odd fun cdv Ar outer s H E hgd hr => sss_cons (ss_set 2 nd (se_lst false (sa_cons (se_non) (sa_cons (se_bl) (sa_cons (se_bl) (sa_cons (se_int) (sa_cons (se_int) (sa_cons (se_un o1_neg (se_int)) (sa_cons (se_op o2_pow (se_int) (se_int)) (sa_cons (se_str) (sa_cons (se_str) (sa_cons (se_str) (sa_cons (se_str) (sa_cons (se_str) (sa_cons (se_str) (sa_cons (se_str) (sa_cons (se_str) (sa_cons (se_str) (sa_cons (se_str) (sa_nil)))))))))))))))))))) (sss_cons (ss_set 2 nd (se_op (o2_add false) (se_var 2) (se_lst false (sa_cons (se_str) (sa_cons (se_tup (sa_nil)) (sa_cons (se_lst false (sa_nil)) (sa_cons (se_dic0 false) (sa_cons (se_tup (sa_cons (se_var 1) (sa_nil))) (sa_cons (se_lst false (sa_cons (se_var 1) (sa_nil))) (sa_cons (se_dic false (sp_cons (se_var 1) (se_var 1) (sp_nil))) (sa_cons (se_tup (sa_cons (se_var 1) (sa_cons (se_var 1) (sa_nil)))) (sa_cons (se_tup (sa_cons (se_var 1) (sa_cons (se_var 1) (sa_cons (se_var 1) (sa_nil))))) (sa_nil))))))))))))) (sss_cons (ss_set 2 nd (se_op (o2_add false) (se_var 2) (se_lst false (sa_cons (se_op (o2_add false) (se_var 1) (se_str)) (sa_cons (se_op (o2_add false) (se_var 1) (se_str)) (sa_cons (se_met0 F.plainAttrs_str F.slot_str_upper F.type_str_upper recv_str om_upper (se_var 1)) (sa_cons (se_op (o2_add false) (se_var 1) (se_str)) (sa_cons (se_lst false (sa_cons (se_var 1) (sa_cons (se_var 1) (sa_nil)))) (sa_cons (se_tup (sa_cons (se_str) (sa_cons (se_lst false (sa_nil)) (sa_cons (se_dic0 false) (sa_nil))))) (sa_cons (se_tup (sa_cons (se_tup (sa_cons (se_var 1) (sa_cons (se_var 1) (sa_nil)))) (sa_nil))) (sa_nil))))))))))) (sss_one (ss_ret (se_ix (se_var 2) (se_callG (ok_law_next A) hgd (hr.mono (by omega)) (A.glo 5 rfl) (A.d 3 (d := d_law_next) rfl).kp (b_law_next A) takesF (sa_cons (se_var 0) (sa_cons (se_callB "len" on_len (A.fre 1 rfl) (sa_cons (se_var 2) (sa_nil))) (sa_nil)))))))))
theorem b_law_made (A : Al tabs fa fn K mg fdT) : Binds K (fdT 5) ["_law_one", "_law_other"] [] := (A.d 5 (d := d_law_made) rfl).bindsN fun _ _ _ _ _ _ us hl => match us, hl with | [_, _], _ => rfl
theorem ok_law_made (A : Al tabs fa fn K mg fdT) : FnOkG P w K mg base 3 (He.ga K "_law_made") (fdT 5) ["_law_one", "_law_other"] (spF K F_law_made) := by
  have nd := sc_law_made.nd
  exact fn_okG (A.d 5 (d := d_law_made) rfl) sc_law_made fun cdv Ar outer s H E hgd hr => sss_cons (ss_par (i := 3) (j := 4) rfl nd (sa_cons (se_exn "BadBook" ["error"] (xk_BadBook A) (hr.mono (by omega)) px0 (sa_cons (se_var 0) (sa_nil))) (sa_cons (se_exn "BadEdit" ["index"] (xk_BadEdit A) (hr.mono (by omega)) px0 (sa_cons (se_var 0) (sa_nil))) (sa_nil)))) (sss_cons (ss_par (i := 5) (j := 6) rfl nd (sa_cons (se_exn "BadPath" ["path"] (xk_BadPath A) (hr.mono (by omega)) px0 (sa_cons (se_var 0) (sa_nil))) (sa_cons (se_exn "BadProgram" ["error"] (xk_BadProgram A) (hr.mono (by omega)) px0 (sa_cons (se_var 0) (sa_nil))) (sa_nil)))) (sss_cons (ss_set 2 nd (se_lst false (sa_cons (se_tup (sa_cons (se_var 3) (sa_cons (se_str) (sa_cons (se_lst false (sa_cons (se_fld [] ["BadBook", "BadProgram"] (A.fc_ 1 rfl) (se_var 3)) (sa_nil))) (sa_cons (se_lst false (sa_cons (se_var 0) (sa_nil))) (sa_nil)))))) (sa_cons (se_tup (sa_cons (se_var 4) (sa_cons (se_str) (sa_cons (se_lst false (sa_cons (se_fld [] ["BadEdit", "BadUse", "Rejected", "NoRule"] (A.fc_ 0 rfl) (se_var 4)) (sa_nil))) (sa_cons (se_lst false (sa_cons (se_var 0) (sa_nil))) (sa_nil)))))) (sa_nil))))) (sss_cons (ss_set 2 nd (se_op (o2_add false) (se_var 2) (se_lst false (sa_cons (se_tup (sa_cons (se_var 5) (sa_cons (se_str) (sa_cons (se_lst false (sa_cons (se_fld [] ["BadPath", "Clash", "InUse", "Itself", "Overlap", "NoModule", "NoPart"] (A.fc_ 2 rfl) (se_var 5)) (sa_nil))) (sa_cons (se_lst false (sa_cons (se_var 0) (sa_nil))) (sa_nil)))))) (sa_cons (se_tup (sa_cons (se_var 6) (sa_cons (se_str) (sa_cons (se_lst false (sa_cons (se_fld [] ["BadBook", "BadProgram"] (A.fc_ 1 rfl) (se_var 6)) (sa_nil))) (sa_cons (se_lst false (sa_cons (se_var 0) (sa_nil))) (sa_nil)))))) (sa_nil)))))) (sss_cons (ss_asg (sg_tp rfl (sgs_cons (sg_nm 7 nd) (sgs_cons (sg_nm 8 nd) (sgs_cons (sg_nm 9 nd) (sgs_cons (sg_nm 10 nd) (sgs_nil)))))) (se_tup (sa_cons (se_exn "BadReason" ["reason"] (xk_BadReason A) (hr.mono (by omega)) px0 (sa_cons (se_var 0) (sa_nil))) (sa_cons (se_exn "BadRule" ["word"] (xk_BadRule A) (hr.mono (by omega)) px0 (sa_cons (se_var 0) (sa_nil))) (sa_cons (se_exn "BadText" ["line", "code"] (xk_BadText A) (hr.mono (by omega)) px0 (sa_cons (se_var 0) (sa_cons (se_var 1) (sa_nil)))) (sa_cons (se_exn "BadUse" ["index"] (xk_BadUse A) (hr.mono (by omega)) px0 (sa_cons (se_var 0) (sa_nil))) (sa_nil))))))) (sss_cons (ss_set 2 nd (se_op (o2_add false) (se_var 2) (se_lst false (sa_cons (se_tup (sa_cons (se_var 7) (sa_cons (se_str) (sa_cons (se_lst false (sa_cons (se_fld [] ["BadReason"] (A.fc_ 4 rfl) (se_var 7)) (sa_nil))) (sa_cons (se_lst false (sa_cons (se_var 0) (sa_nil))) (sa_nil)))))) (sa_cons (se_tup (sa_cons (se_var 8) (sa_cons (se_str) (sa_cons (se_lst false (sa_cons (se_fld [] ["BadRule"] (A.fc_ 3 rfl) (se_var 8)) (sa_nil))) (sa_cons (se_lst false (sa_cons (se_var 0) (sa_nil))) (sa_nil)))))) (sa_nil)))))) (sss_cons (ss_set 2 nd (se_op (o2_add false) (se_var 2) (se_lst false (sa_cons (se_tup (sa_cons (se_var 9) (sa_cons (se_str) (sa_cons (se_lst false (sa_cons (se_fld [] ["BadText"] (A.fc_ 6 rfl) (se_var 9)) (sa_cons (se_fld [] ["BadText"] (A.fc_ 5 rfl) (se_var 9)) (sa_nil)))) (sa_cons (se_lst false (sa_cons (se_var 0) (sa_cons (se_var 1) (sa_nil)))) (sa_nil)))))) (sa_cons (se_tup (sa_cons (se_var 10) (sa_cons (se_str) (sa_cons (se_lst false (sa_cons (se_fld [] ["BadEdit", "BadUse", "Rejected", "NoRule"] (A.fc_ 0 rfl) (se_var 10)) (sa_nil))) (sa_cons (se_lst false (sa_cons (se_var 0) (sa_nil))) (sa_nil)))))) (sa_nil)))))) (sss_cons (ss_asg (sg_tp rfl (sgs_cons (sg_nm 11 nd) (sgs_cons (sg_nm 12 nd) (sgs_cons (sg_nm 13 nd) (sgs_cons (sg_nm 14 nd) (sgs_nil)))))) (se_tup (sa_cons (se_exn "Breaks" ["rule", "evidence"] (xk_Breaks A) (hr.mono (by omega)) px0 (sa_cons (se_var 0) (sa_cons (se_var 1) (sa_nil)))) (sa_cons (se_exn "Circular" ["evidence"] (xk_Circular A) (hr.mono (by omega)) px0 (sa_cons (se_var 0) (sa_nil))) (sa_cons (se_exn "Clash" ["path"] (xk_Clash A) (hr.mono (by omega)) px0 (sa_cons (se_var 0) (sa_nil))) (sa_cons (se_exn "InUse" ["path"] (xk_InUse A) (hr.mono (by omega)) px0 (sa_cons (se_var 0) (sa_nil))) (sa_nil))))))) (sss_cons (ss_set 2 nd (se_op (o2_add false) (se_var 2) (se_lst false (sa_cons (se_tup (sa_cons (se_var 11) (sa_cons (se_str) (sa_cons (se_lst false (sa_cons (se_fld [] ["Breaks"] (A.fc_ 8 rfl) (se_var 11)) (sa_cons (se_fld [] ["Breaks", "Circular"] (A.fc_ 7 rfl) (se_var 11)) (sa_nil)))) (sa_cons (se_lst false (sa_cons (se_var 0) (sa_cons (se_var 1) (sa_nil)))) (sa_nil)))))) (sa_nil))))) (sss_cons (ss_set 2 nd (se_op (o2_add false) (se_var 2) (se_lst false (sa_cons (se_tup (sa_cons (se_var 12) (sa_cons (se_str) (sa_cons (se_lst false (sa_cons (se_fld [] ["Breaks", "Circular"] (A.fc_ 7 rfl) (se_var 12)) (sa_nil))) (sa_cons (se_lst false (sa_cons (se_var 0) (sa_nil))) (sa_nil)))))) (sa_cons (se_tup (sa_cons (se_var 13) (sa_cons (se_str) (sa_cons (se_lst false (sa_cons (se_fld [] ["BadPath", "Clash", "InUse", "Itself", "Overlap", "NoModule", "NoPart"] (A.fc_ 2 rfl) (se_var 13)) (sa_nil))) (sa_cons (se_lst false (sa_cons (se_var 0) (sa_nil))) (sa_nil)))))) (sa_nil)))))) (sss_cons (ss_set 2 nd (se_op (o2_add false) (se_var 2) (se_lst false (sa_cons (se_tup (sa_cons (se_var 14) (sa_cons (se_str) (sa_cons (se_lst false (sa_cons (se_fld [] ["BadPath", "Clash", "InUse", "Itself", "Overlap", "NoModule", "NoPart"] (A.fc_ 2 rfl) (se_var 14)) (sa_nil))) (sa_cons (se_lst false (sa_cons (se_var 0) (sa_nil))) (sa_nil)))))) (sa_nil))))) (sss_cons (ss_par (i := 15) (j := 16) rfl nd (sa_cons (se_exn "Itself" ["path"] (xk_Itself A) (hr.mono (by omega)) px0 (sa_cons (se_var 0) (sa_nil))) (sa_cons (se_exn "Overlap" ["path"] (xk_Overlap A) (hr.mono (by omega)) px0 (sa_cons (se_var 0) (sa_nil))) (sa_nil)))) (sss_cons (ss_par (i := 17) (j := 18) rfl nd (sa_cons (se_exn "Rejected" ["index"] (xk_Rejected A) (hr.mono (by omega)) px0 (sa_cons (se_var 0) (sa_nil))) (sa_cons (se_exn "Ring" ["ring"] (xk_Ring A) (hr.mono (by omega)) px0 (sa_cons (se_var 0) (sa_nil))) (sa_nil)))) (sss_cons (ss_set 2 nd (se_op (o2_add false) (se_var 2) (se_lst false (sa_cons (se_tup (sa_cons (se_var 15) (sa_cons (se_str) (sa_cons (se_lst false (sa_cons (se_fld [] ["BadPath", "Clash", "InUse", "Itself", "Overlap", "NoModule", "NoPart"] (A.fc_ 2 rfl) (se_var 15)) (sa_nil))) (sa_cons (se_lst false (sa_cons (se_var 0) (sa_nil))) (sa_nil)))))) (sa_cons (se_tup (sa_cons (se_var 16) (sa_cons (se_str) (sa_cons (se_lst false (sa_cons (se_fld [] ["BadPath", "Clash", "InUse", "Itself", "Overlap", "NoModule", "NoPart"] (A.fc_ 2 rfl) (se_var 16)) (sa_nil))) (sa_cons (se_lst false (sa_cons (se_var 0) (sa_nil))) (sa_nil)))))) (sa_nil)))))) (sss_cons (ss_set 2 nd (se_op (o2_add false) (se_var 2) (se_lst false (sa_cons (se_tup (sa_cons (se_var 17) (sa_cons (se_str) (sa_cons (se_lst false (sa_cons (se_fld [] ["BadEdit", "BadUse", "Rejected", "NoRule"] (A.fc_ 0 rfl) (se_var 17)) (sa_nil))) (sa_cons (se_lst false (sa_cons (se_var 0) (sa_nil))) (sa_nil)))))) (sa_cons (se_tup (sa_cons (se_var 18) (sa_cons (se_str) (sa_cons (se_lst false (sa_cons (se_fld [] ["Ring"] (A.fc_ 9 rfl) (se_var 18)) (sa_nil))) (sa_cons (se_lst false (sa_cons (se_var 0) (sa_nil))) (sa_nil)))))) (sa_nil)))))) (sss_cons (ss_par3 (i := 19) (j := 20) (l := 21) rfl nd (sa_cons (se_exn "Taken" ["thing"] (xk_Taken A) (hr.mono (by omega)) px0 (sa_cons (se_var 0) (sa_nil))) (sa_cons (se_exn "TooMany" ["limit"] (xk_TooMany A) (hr.mono (by omega)) px0 (sa_cons (se_var 0) (sa_nil))) (sa_cons (se_exn "Unclear" ["name"] (xk_Unclear A) (hr.mono (by omega)) px0 (sa_cons (se_var 0) (sa_nil))) (sa_nil))))) (sss_cons (ss_set 2 nd (se_op (o2_add false) (se_var 2) (se_lst false (sa_cons (se_tup (sa_cons (se_var 19) (sa_cons (se_str) (sa_cons (se_lst false (sa_cons (se_fld [] ["Taken"] (A.fc_ 11 rfl) (se_var 19)) (sa_nil))) (sa_cons (se_lst false (sa_cons (se_var 0) (sa_nil))) (sa_nil)))))) (sa_cons (se_tup (sa_cons (se_var 20) (sa_cons (se_str) (sa_cons (se_lst false (sa_cons (se_fld [] ["TooMany"] (A.fc_ 10 rfl) (se_var 20)) (sa_nil))) (sa_cons (se_lst false (sa_cons (se_var 0) (sa_nil))) (sa_nil)))))) (sa_nil)))))) (sss_one (ss_ret (se_op (o2_add false) (se_var 2) (se_lst false (sa_cons (se_tup (sa_cons (se_var 21) (sa_cons (se_str) (sa_cons (se_lst false (sa_cons (se_fld [] ["Unclear"] (A.fc_ 12 rfl) (se_var 21)) (sa_nil))) (sa_cons (se_lst false (sa_cons (se_var 0) (sa_nil))) (sa_nil)))))) (sa_nil))))))))))))))))))))))
theorem b_law_same (A : Al tabs fa fn K mg fdT) : Binds K (fdT 25) ["_law_found", "_law_due"] [] := (A.d 25 (d := d_law_same) rfl).bindsN fun _ _ _ _ _ _ us hl => match us, hl with | [_, _], _ => rfl
theorem ok_law_same (A : Al tabs fa fn K mg fdT) : ∀ n : Nat, FnOkG P w K mg base (n + 1) (He.ga K "_law_same") (fdT 25) ["_law_found", "_law_due"] (spF K (F_law_same n))
  | 0 => ⟨fun _ _ _ _ h => by obtain ⟨_, _, _, _, _, o⟩ := h; exact o.elim, fun _ _ _ _ _ _ _ _ _ _ _ _ _ _ h => by obtain ⟨_, _, _, _, _, o⟩ := h; exact o.elim⟩
  | n + 1 => by
    have ih := ok_law_same A n
    have nd := sc_law_same.nd
    exact (fn_okG (k := n + 1) (A.d 25 (d := d_law_same) rfl) sc_law_same fun cdv Ar outer s H E hgd hr => sss_cons (ss_if (st_tru (se_isiT tb [.b "tuple", .b "list"] (A.fre 11 rfl) A.tt (A.kt_ 0 rfl) (se_var 1) (.cons (nmc_ty "tuple" (A.fre 10 rfl)) rfl (.cons (nmc_ty "list" (A.fre 9 rfl)) rfl (.nil))))) (sss_cons (ss_if (PW.pt (sw_or (st_cmp (o2_ne hr.units) (se_isi tb (A.fre 11 rfl) A.tt (A.kt_ 1 rfl) (se_var 1) (nmc_ty "tuple" (A.fre 10 rfl))) (se_isi tb (A.fre 11 rfl) A.tt (A.kt_ 1 rfl) (se_var 0) (nmc_ty "tuple" (A.fre 10 rfl)))) (sw_or1 (st_cmp (o2_ne hr.units) (se_isi tb (A.fre 11 rfl) A.tt (A.kt_ 2 rfl) (se_var 1) (nmc_ty "list" (A.fre 9 rfl))) (se_isi tb (A.fre 11 rfl) A.tt (A.kt_ 2 rfl) (se_var 0) (nmc_ty "list" (A.fre 9 rfl))))))) (sss_one (ss_ret (se_bl))) (sss_nil)) (sss_one (ss_ret (se_and (se_cmp (o2_eq hr.units) (se_callB "len" on_len (A.fre 1 rfl) (sa_cons (se_var 0) (sa_nil))) (se_callB "len" on_len (A.fre 1 rfl) (sa_cons (se_var 1) (sa_nil)))) (se_and1 (se_callB "all" (on_all rfl) (A.fre 14 rfl) (sa_cons (se_lc false [("_law_one", 2), ("_law_other", 3)] (.tp [.nm 2, .nm 3]) rfl nd (si_zip (A.fre 12 rfl) (sa_cons (se_var 0) (sa_cons (se_var 1) (sa_nil)))) (by kernel_rfl) (by decide) (fun _ _ _ _ _ => sg_tp rfl (sgs_cons (sg_nm 2 nd) (sgs_cons (sg_nm 3 nd) (sgs_nil)))) (fun _ _ _ _ _ => sts_nil) (fun _ _ _ _ _ => se_callG ih hgd hr (A.glo 13 rfl) (A.d 25 (d := d_law_same) rfl).kp (b_law_same A) takes_none5 (sa_cons (se_var 2) (sa_cons (se_var 3) (sa_nil))))) (sa_nil)))))))) (sss_nil)) (sss_cons (ss_if (st_cmp o2_is (se_var 1) (se_non)) (sss_one (ss_ret (se_cmp o2_is (se_var 0) (se_non)))) (sss_nil)) (sss_cons (ss_if (st_tru (se_isi tb (A.fre 11 rfl) A.tt (A.kt_ 3 rfl) (se_var 1) (nmc_ty "str" (A.fre 15 rfl)))) (sss_one (ss_ret (se_and (se_isi tb (A.fre 11 rfl) A.tt (A.kt_ 3 rfl) (se_var 0) (nmc_ty "str" (A.fre 15 rfl))) (se_and1 (se_cmp (o2_eq hr.units) (se_var 0) (se_var 1)))))) (sss_nil)) (sss_cons (ss_if (PW.pt (sw_or (st_tru (se_isi tb (A.fre 11 rfl) A.tt (A.kt_ 4 rfl) (se_var 1) (nmc_ty "bool" (A.fre 16 rfl)))) (sw_or1 (st_tru (se_isi tb (A.fre 11 rfl) A.tt (A.kt_ 4 rfl) (se_var 0) (nmc_ty "bool" (A.fre 16 rfl))))))) (sss_one (ss_ret (se_and (se_isi tb (A.fre 11 rfl) A.tt (A.kt_ 4 rfl) (se_var 0) (nmc_ty "bool" (A.fre 16 rfl))) (se_and (se_isi tb (A.fre 11 rfl) A.tt (A.kt_ 4 rfl) (se_var 1) (nmc_ty "bool" (A.fre 16 rfl))) (se_and1 (se_cmp (o2_eq hr.units) (se_var 0) (se_var 1))))))) (sss_nil)) (sss_cons (ss_if (st_tru (se_isi tb (A.fre 11 rfl) A.tt (A.kt_ 5 rfl) (se_var 1) (nmc_ty "int" (A.fre 4 rfl)))) (sss_one (ss_ret (se_and (se_isi tb (A.fre 11 rfl) A.tt (A.kt_ 5 rfl) (se_var 0) (nmc_ty "int" (A.fre 4 rfl))) (se_and1 (se_cmp (o2_eq hr.units) (se_var 0) (se_var 1)))))) (sss_nil)) (sss_one (ss_ret (se_and (se_isi tb (A.fre 11 rfl) A.tt (A.kt_ 6 rfl) (se_var 1) (nmc_ty "dict" (A.fre 17 rfl))) (se_and (se_isi tb (A.fre 11 rfl) A.tt (A.kt_ 6 rfl) (se_var 0) (nmc_ty "dict" (A.fre 17 rfl))) (se_and1 (se_reprEq hgd hr.units (A.fre 18 rfl) (se_var 0) (se_var 1)))))))))))).mono (by omega)
theorem b_law_other_kinds (A : Al tabs fa fn K mg fdT) : Binds K (fdT 27) ["_law_error"] [] := (A.d 27 (d := d_law_other_kinds) rfl).bindsN fun _ _ _ _ _ _ us hl => match us, hl with | [_], _ => rfl
theorem ok_law_other_kinds (A : Al tabs fa fn K mg fdT) : FnOkG P w K mg base 1 (He.ga K "_law_other_kinds") (fdT 27) ["_law_error"] (spF K F_law_other_kinds) := by
  have nd := sc_law_other_kinds.nd
  exact fn_okG (A.d 27 (d := d_law_other_kinds) rfl) sc_law_other_kinds fun cdv Ar outer s H E hgd hr => sss_cons (ss_set 1 nd (se_lst false (sa_cons (se_tup (sa_cons (se_str) (sa_cons (se_isi tb (A.fre 11 rfl) A.tt (A.kt_ 30 rfl) (se_var 0) (nmc_own (A.glo 42 rfl))) (sa_nil)))) (sa_cons (se_tup (sa_cons (se_str) (sa_cons (se_isi tb (A.fre 11 rfl) A.tt (A.kt_ 29 rfl) (se_var 0) (nmc_own (A.glo 41 rfl))) (sa_nil)))) (sa_nil))))) (sss_cons (ss_set 1 nd (se_op (o2_add false) (se_var 1) (se_lst false (sa_cons (se_tup (sa_cons (se_str) (sa_cons (se_isi tb (A.fre 11 rfl) A.tt (A.kt_ 32 rfl) (se_var 0) (nmc_own (A.glo 44 rfl))) (sa_nil)))) (sa_cons (se_tup (sa_cons (se_str) (sa_cons (se_isi tb (A.fre 11 rfl) A.tt (A.kt_ 31 rfl) (se_var 0) (nmc_own (A.glo 43 rfl))) (sa_nil)))) (sa_nil)))))) (sss_one (ss_ret (se_op (o2_add false) (se_var 1) (se_lst false (sa_cons (se_tup (sa_cons (se_str) (sa_cons (se_isi tb (A.fre 11 rfl) A.tt (A.kt_ 33 rfl) (se_var 0) (nmc_own (A.glo 45 rfl))) (sa_nil)))) (sa_nil)))))))
theorem b_law_kinds (A : Al tabs fa fn K mg fdT) : Binds K (fdT 26) ["_law_error"] [] := (A.d 26 (d := d_law_kinds) rfl).bindsN fun _ _ _ _ _ _ us hl => match us, hl with | [_], _ => rfl
theorem ok_law_kinds (A : Al tabs fa fn K mg fdT) : FnOkG P w K mg base 2 (He.ga K "_law_kinds") (fdT 26) ["_law_error"] (spF K F_law_kinds) := by
  have nd := sc_law_kinds.nd
  exact fn_okG (A.d 26 (d := d_law_kinds) rfl) sc_law_kinds fun cdv Ar outer s H E hgd hr => sss_cons (ss_set 1 nd (se_lst false (sa_cons (se_tup (sa_cons (se_str) (sa_cons (se_isi tb (A.fre 11 rfl) A.tt (A.kt_ 8 rfl) (se_var 0) (nmc_own (A.glo 20 rfl))) (sa_nil)))) (sa_cons (se_tup (sa_cons (se_str) (sa_cons (se_isi tb (A.fre 11 rfl) A.tt (A.kt_ 7 rfl) (se_var 0) (nmc_own (A.glo 19 rfl))) (sa_nil)))) (sa_nil))))) (sss_cons (ss_set 1 nd (se_op (o2_add false) (se_var 1) (se_lst false (sa_cons (se_tup (sa_cons (se_str) (sa_cons (se_isi tb (A.fre 11 rfl) A.tt (A.kt_ 10 rfl) (se_var 0) (nmc_own (A.glo 22 rfl))) (sa_nil)))) (sa_cons (se_tup (sa_cons (se_str) (sa_cons (se_isi tb (A.fre 11 rfl) A.tt (A.kt_ 9 rfl) (se_var 0) (nmc_own (A.glo 21 rfl))) (sa_nil)))) (sa_nil)))))) (sss_cons (ss_set 1 nd (se_op (o2_add false) (se_var 1) (se_lst false (sa_cons (se_tup (sa_cons (se_str) (sa_cons (se_isi tb (A.fre 11 rfl) A.tt (A.kt_ 12 rfl) (se_var 0) (nmc_own (A.glo 24 rfl))) (sa_nil)))) (sa_cons (se_tup (sa_cons (se_str) (sa_cons (se_isi tb (A.fre 11 rfl) A.tt (A.kt_ 11 rfl) (se_var 0) (nmc_own (A.glo 23 rfl))) (sa_nil)))) (sa_nil)))))) (sss_cons (ss_set 1 nd (se_op (o2_add false) (se_var 1) (se_lst false (sa_cons (se_tup (sa_cons (se_str) (sa_cons (se_isi tb (A.fre 11 rfl) A.tt (A.kt_ 14 rfl) (se_var 0) (nmc_own (A.glo 26 rfl))) (sa_nil)))) (sa_cons (se_tup (sa_cons (se_str) (sa_cons (se_isi tb (A.fre 11 rfl) A.tt (A.kt_ 13 rfl) (se_var 0) (nmc_own (A.glo 25 rfl))) (sa_nil)))) (sa_nil)))))) (sss_cons (ss_set 1 nd (se_op (o2_add false) (se_var 1) (se_lst false (sa_cons (se_tup (sa_cons (se_str) (sa_cons (se_isi tb (A.fre 11 rfl) A.tt (A.kt_ 16 rfl) (se_var 0) (nmc_own (A.glo 28 rfl))) (sa_nil)))) (sa_cons (se_tup (sa_cons (se_str) (sa_cons (se_isi tb (A.fre 11 rfl) A.tt (A.kt_ 15 rfl) (se_var 0) (nmc_own (A.glo 27 rfl))) (sa_nil)))) (sa_nil)))))) (sss_cons (ss_set 1 nd (se_op (o2_add false) (se_var 1) (se_lst false (sa_cons (se_tup (sa_cons (se_str) (sa_cons (se_isi tb (A.fre 11 rfl) A.tt (A.kt_ 18 rfl) (se_var 0) (nmc_own (A.glo 30 rfl))) (sa_nil)))) (sa_cons (se_tup (sa_cons (se_str) (sa_cons (se_isi tb (A.fre 11 rfl) A.tt (A.kt_ 17 rfl) (se_var 0) (nmc_own (A.glo 29 rfl))) (sa_nil)))) (sa_nil)))))) (sss_cons (ss_set 1 nd (se_op (o2_add false) (se_var 1) (se_lst false (sa_cons (se_tup (sa_cons (se_str) (sa_cons (se_isi tb (A.fre 11 rfl) A.tt (A.kt_ 20 rfl) (se_var 0) (nmc_own (A.glo 32 rfl))) (sa_nil)))) (sa_cons (se_tup (sa_cons (se_str) (sa_cons (se_isi tb (A.fre 11 rfl) A.tt (A.kt_ 19 rfl) (se_var 0) (nmc_own (A.glo 31 rfl))) (sa_nil)))) (sa_nil)))))) (sss_cons (ss_set 1 nd (se_op (o2_add false) (se_var 1) (se_lst false (sa_cons (se_tup (sa_cons (se_str) (sa_cons (se_isi tb (A.fre 11 rfl) A.tt (A.kt_ 22 rfl) (se_var 0) (nmc_own (A.glo 34 rfl))) (sa_nil)))) (sa_cons (se_tup (sa_cons (se_str) (sa_cons (se_isi tb (A.fre 11 rfl) A.tt (A.kt_ 21 rfl) (se_var 0) (nmc_own (A.glo 33 rfl))) (sa_nil)))) (sa_nil)))))) (sss_cons (ss_set 1 nd (se_op (o2_add false) (se_var 1) (se_lst false (sa_cons (se_tup (sa_cons (se_str) (sa_cons (se_isi tb (A.fre 11 rfl) A.tt (A.kt_ 24 rfl) (se_var 0) (nmc_own (A.glo 36 rfl))) (sa_nil)))) (sa_cons (se_tup (sa_cons (se_str) (sa_cons (se_isi tb (A.fre 11 rfl) A.tt (A.kt_ 23 rfl) (se_var 0) (nmc_own (A.glo 35 rfl))) (sa_nil)))) (sa_nil)))))) (sss_cons (ss_set 1 nd (se_op (o2_add false) (se_var 1) (se_lst false (sa_cons (se_tup (sa_cons (se_str) (sa_cons (se_isi tb (A.fre 11 rfl) A.tt (A.kt_ 26 rfl) (se_var 0) (nmc_own (A.glo 38 rfl))) (sa_nil)))) (sa_cons (se_tup (sa_cons (se_str) (sa_cons (se_isi tb (A.fre 11 rfl) A.tt (A.kt_ 25 rfl) (se_var 0) (nmc_own (A.glo 37 rfl))) (sa_nil)))) (sa_nil)))))) (sss_cons (ss_set 1 nd (se_op (o2_add false) (se_var 1) (se_lst false (sa_cons (se_tup (sa_cons (se_str) (sa_cons (se_isi tb (A.fre 11 rfl) A.tt (A.kt_ 28 rfl) (se_var 0) (nmc_own (A.glo 40 rfl))) (sa_nil)))) (sa_cons (se_tup (sa_cons (se_str) (sa_cons (se_isi tb (A.fre 11 rfl) A.tt (A.kt_ 27 rfl) (se_var 0) (nmc_own (A.glo 39 rfl))) (sa_nil)))) (sa_nil)))))) (sss_one (ss_ret (se_lc false [("_law_name_here", 2), ("_law_hit", 3)] (.tp [.nm 2, .nm 3]) rfl nd (si_list (se_op (o2_add false) (se_var 1) (se_callG (ok_law_other_kinds A) hgd (hr.mono (by omega)) (A.glo 46 rfl) (A.d 27 (d := d_law_other_kinds) rfl).kp (b_law_other_kinds A) takesF (sa_cons (se_var 0) (sa_nil))))) (by kernel_rfl) (by decide) (fun _ _ _ _ _ => sg_tp rfl (sgs_cons (sg_nm 2 nd) (sgs_cons (sg_nm 3 nd) (sgs_nil)))) (fun _ _ _ _ _ => sts_one (st_tru (se_var 3))) (fun _ _ _ _ _ => se_var 2))))))))))))))
theorem b_law_made_others (A : Al tabs fa fn K mg fdT) : Binds K (fdT 28) ["_law_one"] [] := (A.d 28 (d := d_law_made_others) rfl).bindsN fun _ _ _ _ _ _ us hl => match us, hl with | [_], _ => rfl
theorem ok_law_made_others (A : Al tabs fa fn K mg fdT) : FnOkG P w K mg base 3 (He.ga K "_law_made_others") (fdT 28) ["_law_one"] (spF K F_law_made_others) := by
  have nd := sc_law_made_others.nd
  exact fn_okG (A.d 28 (d := d_law_made_others) rfl) sc_law_made_others fun cdv Ar outer s H E hgd hr => sss_cons (ss_par3 (i := 2) (j := 3) (l := 4) rfl nd (sa_cons (se_exn "NoAllowance" ["use"] (xk_NoAllowance A) (hr.mono (by omega)) px0 (sa_cons (se_var 0) (sa_nil))) (sa_cons (se_exn "NoModule" ["path"] (xk_NoModule A) (hr.mono (by omega)) px0 (sa_cons (se_var 0) (sa_nil))) (sa_cons (se_exn "NoPart" ["path"] (xk_NoPart A) (hr.mono (by omega)) px0 (sa_cons (se_var 0) (sa_nil))) (sa_nil))))) (sss_cons (ss_par (i := 5) (j := 6) rfl nd (sa_cons (se_exn "NoRule" ["index"] (xk_NoRule A) (hr.mono (by omega)) px0 (sa_cons (se_var 0) (sa_nil))) (sa_cons (se_exn "NoUse" ["use"] (xk_NoUse A) (hr.mono (by omega)) px0 (sa_cons (se_var 0) (sa_nil))) (sa_nil)))) (sss_cons (ss_set 1 nd (se_lst false (sa_cons (se_tup (sa_cons (se_var 2) (sa_cons (se_str) (sa_cons (se_lst false (sa_cons (se_fld [] ["NoAllowance", "NoUse"] (A.fc_ 13 rfl) (se_var 2)) (sa_nil))) (sa_cons (se_lst false (sa_cons (se_var 0) (sa_nil))) (sa_nil)))))) (sa_cons (se_tup (sa_cons (se_var 3) (sa_cons (se_str) (sa_cons (se_lst false (sa_cons (se_fld [] ["BadPath", "Clash", "InUse", "Itself", "Overlap", "NoModule", "NoPart"] (A.fc_ 2 rfl) (se_var 3)) (sa_nil))) (sa_cons (se_lst false (sa_cons (se_var 0) (sa_nil))) (sa_nil)))))) (sa_nil))))) (sss_cons (ss_set 1 nd (se_op (o2_add false) (se_var 1) (se_lst false (sa_cons (se_tup (sa_cons (se_var 4) (sa_cons (se_str) (sa_cons (se_lst false (sa_cons (se_fld [] ["BadPath", "Clash", "InUse", "Itself", "Overlap", "NoModule", "NoPart"] (A.fc_ 2 rfl) (se_var 4)) (sa_nil))) (sa_cons (se_lst false (sa_cons (se_var 0) (sa_nil))) (sa_nil)))))) (sa_cons (se_tup (sa_cons (se_var 5) (sa_cons (se_str) (sa_cons (se_lst false (sa_cons (se_fld [] ["BadEdit", "BadUse", "Rejected", "NoRule"] (A.fc_ 0 rfl) (se_var 5)) (sa_nil))) (sa_cons (se_lst false (sa_cons (se_var 0) (sa_nil))) (sa_nil)))))) (sa_nil)))))) (sss_one (ss_ret (se_op (o2_add false) (se_var 1) (se_lst false (sa_cons (se_tup (sa_cons (se_var 6) (sa_cons (se_str) (sa_cons (se_lst false (sa_cons (se_fld [] ["NoAllowance", "NoUse"] (A.fc_ 13 rfl) (se_var 6)) (sa_nil))) (sa_cons (se_lst false (sa_cons (se_var 0) (sa_nil))) (sa_nil)))))) (sa_nil)))))))))
theorem b_law (A : Al tabs fa fn K mg fdT) : Binds K (fdT 0) ["_law_script"] [] := (A.d 0 (d := d_law) rfl).bindsN fun _ _ _ _ _ _ us hl => match us, hl with | [_], _ => rfl
theorem ok_law (A : Al tabs fa fn K mg fdT) : FnOkG P w K mg base 8 (He.ga K "law") (fdT 0) ["_law_script"] (spF K F_law) := by
  have nd := sc_law.nd
  exact fn_okG (A.d 0 (d := d_law) rfl) sc_law fun cdv Ar outer s H E hgd hr => sss_cons (ss_set 1 nd (se_callG (ok_law_deck A) hgd (hr.mono (by omega)) (A.glo 2 rfl) (A.d 1 (d := d_law_deck) rfl).kp (b_law_deck A) takesF (sa_cons (se_var 0) (sa_nil)))) (sss_cons (ss_for passesF rfl (si_range1 (A.fre 3 rfl) (sa_cons (se_int) (sa_nil))) (sg_nm 2 nd) (sss_cons (ss_set 4 nd (se_callG (ok_law_name A) hgd (hr.mono (by omega)) (A.glo 6 rfl) (A.d 2 (d := d_law_name) rfl).kp (b_law_name A) takesF (sa_cons (se_var 1) (sa_nil)))) (sss_cons (ss_par (i := 6) (j := 7) rfl nd (sa_cons (se_callG (ok_law_odd A) hgd (hr.mono (by omega)) (A.glo 7 rfl) (A.d 4 (d := d_law_odd) rfl).kp (b_law_odd A) takesF (sa_cons (se_var 1) (sa_cons (se_var 4) (sa_nil)))) (sa_cons (se_callG (ok_law_odd A) hgd (hr.mono (by omega)) (A.glo 7 rfl) (A.d 4 (d := d_law_odd) rfl).kp (b_law_odd A) takesF (sa_cons (se_var 1) (sa_cons (se_var 4) (sa_nil)))) (sa_nil)))) (sss_cons (ss_set 5 nd (se_lst false (sa_cons (se_tup (sa_cons (se_exn0 "BadBatch" (A.xn 2 rfl (A.glo 20 rfl))) (sa_cons (se_str) (sa_cons (se_lst false (sa_nil)) (sa_cons (se_lst false (sa_nil)) (sa_nil)))))) (sa_cons (se_tup (sa_cons (se_exn0 "Full" (A.xn 1 rfl (A.glo 32 rfl))) (sa_cons (se_str) (sa_cons (se_lst false (sa_nil)) (sa_cons (se_lst false (sa_nil)) (sa_nil)))))) (sa_cons (se_tup (sa_cons (se_exn0 "NothingToUndo" (A.xn 0 rfl (A.glo 33 rfl))) (sa_cons (se_str) (sa_cons (se_lst false (sa_nil)) (sa_cons (se_lst false (sa_nil)) (sa_nil)))))) (sa_nil)))))) (sss_cons (ss_for passesF rfl (si_list (se_op (o2_add false) (se_var 5) (se_callG (ok_law_made A) hgd (hr.mono (by omega)) (A.glo 8 rfl) (A.d 5 (d := d_law_made) rfl).kp (b_law_made A) takesF (sa_cons (se_var 6) (sa_cons (se_var 7) (sa_nil)))))) (sg_tp rfl (sgs_cons (sg_nm 8 nd) (sgs_cons (sg_nm 9 nd) (sgs_cons (sg_nm 10 nd) (sgs_cons (sg_nm 11 nd) (sgs_nil)))))) (sss_cons (ss_if (PW.pt (sw_or (st_not (st_tru (se_callG (ok_law_same A 6) hgd (hr.mono (by omega)) (A.glo 13 rfl) (A.d 25 (d := d_law_same) rfl).kp (b_law_same A) takesF (sa_cons (se_var 10) (sa_cons (se_var 11) (sa_nil)))))) (sw_or (st_cmp (o2_ne hr.units) (se_callG (ok_law_kinds A) hgd (hr.mono (by omega)) (A.glo 47 rfl) (A.d 26 (d := d_law_kinds) rfl).kp (b_law_kinds A) takesF (sa_cons (se_var 8) (sa_nil))) (se_lst false (sa_cons (se_var 9) (sa_nil)))) (sw_or1 (st_tru (se_isi tb (A.fre 11 rfl) A.tt (A.kt_ 34 rfl) (se_var 8) (nmc_ty "LookupError" (A.fre 48 rfl)))))))) (sss_one (ss_ret (se_bl))) (sss_nil)) (sss_one (ss_if (PW.pt (sw_or (st_not (st_tru (se_isi tb (A.fre 11 rfl) A.tt (A.kt_ 35 rfl) (se_var 8) (nmc_own (A.glo 49 rfl))))) (sw_or1 (st_not (st_tru (se_isi tb (A.fre 11 rfl) A.tt (A.kt_ 36 rfl) (se_var 8) (nmc_ty "ValueError" (A.fre 50 rfl)))))))) (sss_one (ss_ret (se_bl))) (sss_nil))))) (sss_one (ss_for passesF rfl (si_list (se_callG (ok_law_made_others A) hgd (hr.mono (by omega)) (A.glo 51 rfl) (A.d 28 (d := d_law_made_others) rfl).kp (b_law_made_others A) takesF (sa_cons (se_var 7) (sa_nil)))) (sg_tp rfl (sgs_cons (sg_nm 8 nd) (sgs_cons (sg_nm 9 nd) (sgs_cons (sg_nm 10 nd) (sgs_cons (sg_nm 11 nd) (sgs_nil)))))) (sss_cons (ss_if (PW.pt (sw_or (st_not (st_tru (se_callG (ok_law_same A 6) hgd (hr.mono (by omega)) (A.glo 13 rfl) (A.d 25 (d := d_law_same) rfl).kp (b_law_same A) takesF (sa_cons (se_var 10) (sa_cons (se_var 11) (sa_nil)))))) (sw_or (st_cmp (o2_ne hr.units) (se_callG (ok_law_kinds A) hgd (hr.mono (by omega)) (A.glo 47 rfl) (A.d 26 (d := d_law_kinds) rfl).kp (b_law_kinds A) takesF (sa_cons (se_var 8) (sa_nil))) (se_lst false (sa_cons (se_var 9) (sa_nil)))) (sw_or1 (st_not (st_tru (se_isi tb (A.fre 11 rfl) A.tt (A.kt_ 34 rfl) (se_var 8) (nmc_ty "LookupError" (A.fre 48 rfl))))))))) (sss_one (ss_ret (se_bl))) (sss_nil)) (sss_one (ss_if (st_tru (se_isiT tb [.o "RestError", .b "ValueError", .b "KeyError", .b "IndexError"] (A.fre 11 rfl) A.tt (A.kt_ 37 rfl) (se_var 8) (.cons (nmc_own (A.glo 49 rfl)) rfl (.cons (nmc_ty "ValueError" (A.fre 50 rfl)) rfl (.cons (nmc_ty "KeyError" (A.fre 53 rfl)) rfl (.cons (nmc_ty "IndexError" (A.fre 52 rfl)) rfl (.nil))))))) (sss_one (ss_ret (se_bl))) (sss_nil))))))))))) (sss_cons (ss_set 3 nd (se_tup (sa_cons (se_gint (A.int_ 61 rfl)) (sa_cons (se_gint (A.int_ 60 rfl)) (sa_cons (se_gint (A.int_ 59 rfl)) (sa_cons (se_gint (A.int_ 58 rfl)) (sa_cons (se_gint (A.int_ 57 rfl)) (sa_cons (se_gint (A.int_ 56 rfl)) (sa_cons (se_gint (A.int_ 55 rfl)) (sa_cons (se_gint (A.int_ 54 rfl)) (sa_nil))))))))))) (sss_one (ss_ret (se_callG (ok_law_same A 6) hgd (hr.mono (by omega)) (A.glo 13 rfl) (A.d 25 (d := d_law_same) rfl).kp (b_law_same A) takesF (sa_cons (se_op (o2_add false) (se_var 3) (se_tup (sa_cons (se_gint (A.int_ 63 rfl)) (sa_cons (se_gint (A.int_ 62 rfl)) (sa_nil))))) (sa_cons (se_tup (sa_cons (se_int) (sa_cons (se_int) (sa_cons (se_int) (sa_cons (se_int) (sa_cons (se_int) (sa_cons (se_int) (sa_cons (se_int) (sa_cons (se_int) (sa_cons (se_int) (sa_cons (se_int) (sa_nil)))))))))))) (sa_nil))))))))
end
end K98

set_option Elab.async false
set_option linter.all false
set_option maxRecDepth 100000
set_option maxHeartbeats 0
namespace K98
open PySem PySem.Spec PyProof.Rows L2 ML
abbrev R : PySem.W.OpenRow := PySem.W.OpenLaw.row PySem.Challenge.rw_mayrest_k98_errors_and_limits
abbrev hk : PySem.W.Hook := He.hookX 4 fa fn [] [] (Tabs.ok tabs)
def ob (s : PySem.W.SharedT) : He.AlX := He.obsX 4 fa fn [] [] (Tabs.ok tabs) (HandSHeadRun.getT s)
theorem ob_eq (s : PySem.W.SharedT) : ob s = hk.obs s.abs := He.obsX_eq (HandSHeadRun.getT_eq s)
def loose0 : List Str := ["RestError", "BadBatch", "Full", "NothingToUndo", "BadBook", "BadEdit", "BadPath", "BadProgram", "BadReason", "BadRule", "BadText", "BadUse", "Breaks", "Circular", "Clash", "InUse", "Itself", "Overlap", "Rejected", "Ring", "Taken", "TooMany", "Unclear", "NoAllowance", "NoModule", "NoPart", "NoRule", "NoUse", "BATCH", "MAX_CUTS"]
def loose1 : List Str := ["MAX_EDITS", "MAX_LISTED", "MAX_MODULES", "MAX_MOVES", "MAX_NAMES", "MAX_RULE_NAMES", "MAX_RULES", "MAX_USES", "_law_deck", "_law_next", "_law_name", "_law_odd", "_law_same", "_law_kinds", "_law_other_kinds", "_law_made", "_law_made_others"]
def loose : List Str := loose0 ++ loose1
theorem run (w : World) : HandSHeadRun.RunEq R (PySem.W.view R.prog [49]) hk ob 8000 loose w := by
  intro os
  kernel_rfl
end K98

set_option Elab.async false
set_option linter.all false
set_option maxRecDepth 100000
set_option maxHeartbeats 4000000
namespace K98
open PySem PySem.Spec PyProof.Rows L2 ML
theorem next_t : F_law_next = runB 2 6 dk_next := rfl
theorem name_t : F_law_name = runB 1 4 dk_name := rfl
theorem deck_t : F_law_deck = runB 1 3 dk_deck := rfl
/-! ### the drawn values -/
theorem up26 : ∀ c ∈ List.range' 97 26, (Unicode.upperOf c).all (· < 0x110000) = true := by
  have : (List.range' 97 26).all (fun c => (Unicode.upperOf c).all (· < 0x110000)) = true := by decide +kernel
  exact List.all_eq_true.mp this
theorem upper_ok {p : Str} (h : IsNm p) : PyData.strOk (Txt.upper p) = true := by
  obtain ⟨cs, rfl, _, _, h⟩ := h
  have e : (Txt.upper ⟨cs.toArray⟩).cps.toList = cs.flatMap Unicode.upperOf := by
    show (((cs.toArray).mapIdx fun i c => (Unicode.upperOf c).toArray).flatten).toList = _
    rw [Array.toList_flatten, Array.toList_mapIdx, List.flatMap_def]
    congr 1
    apply List.ext_getElem?
    intro i
    simp [Function.comp_def]
  unfold PyData.strOk
  rw [← Array.all_toList, e, List.all_eq_true]
  intro c hc
  obtain ⟨x, hx, hc⟩ := List.mem_flatMap.mp hc
  obtain ⟨h1, h2⟩ := h x hx
  exact List.all_eq_true.mp (up26 x (List.mem_range'_1.mpr ⟨h1, by omega⟩)) c hc
def odd1 : List D := [.non, .bl true, .bl false, .int 0, .int 1, .int (-1), .int ((10 : Int) ^ 30), .str "", .str ".", .str "A", .str "a.", .str ".a", .str "a..b", .str "a b", .str "abcdefghi", .str "a\n", .str " a"]
def odd2 (p : Str) : List D := [.str "a.b.c.d.e.f.g", .tup [], .lst [], .dic [] [], .tup [.str p], .lst [.str p], .dic [.s p] [.str p], .tup [.str p, .str p], .tup [.str p, .str p, .str p]]
def odd3 (p : Str) : List D := [.str (p ++ "."), .str (p ++ "\n"), .str (Txt.upper p), .str (p ++ "-"), .lst [.str p, .str p], .tup [.str "a", .lst [], .dic [] []], .tup [.tup [.str p, .str p]]]
def oddL (p : Str) : List D := (odd1 ++ odd2 p) ++ odd3 p
section
variable {c0 : List D} {bs cs : List Int} {t : Int} {rest : Sto}
theorem odd_e {p : Str} (hp : IsNm p) (hb : bs.length ≤ 63) (hc : cs ≠ []) (ht : 0 ≤ t) (ht2 : t < 900000000) : ∃ v bs' t', F_law_odd [.ref 3, .str p] (dkSt c0 bs cs t rest) = .ok v (dkSt c0 bs' cs t' rest) ∧ v ∈ oddL p ∧ bs'.length ≤ 63 ∧ t ≤ t' ∧ t' ≤ t + 1 := by
  have hl : p.length ≤ 8 := by
    obtain ⟨cs, rfl, _, h, _⟩ := hp
    simpa [Str.length] using h
  obtain ⟨r, b1, t1, n1, n2, n3, n4, n5, n6⟩ := next_e (m := 33) (c0 := c0) (rest := rest) (by decide) (by decide) hb hc ht (by omega)
  have hlen : (oddL p).length = 33 := rfl
  have hr : r.toNat < (oddL p).length := by rw [hlen]; omega
  refine ⟨(oddL p)[r.toNat], b1, t1, ?_, List.getElem_mem _, by omega, by omega, by omega⟩
  have hix : ixD (.lst (oddL p)) (.int r) (dkSt c0 b1 cs t1 rest) = .ok ((oddL p)[r.toNat]) (dkSt c0 b1 cs t1 rest) := by
    have : atI (oddL p) r = some ((oddL p)[r.toNat]) := by
      unfold atI ixN
      rw [if_pos n2, if_pos (by rw [hlen]; omega)]
      exact List.getElem?_eq_getElem hr
    unfold ixD
    simp only [seqD_lst, this]
  generalize dkSt c0 bs cs t rest = S at n1 ⊢
  have e1 : mLst false (mCons (mC .non) (mCons (mC (.bl true)) (mCons (mC (.bl false)) (mCons (mC (.int (0))) (mCons (mC (.int (1))) (mCons (mUn negD (mC (.int (1)))) (mCons (mOp powD (mC (.int (10))) (mC (.int (30)))) (mCons (mC (.str "")) (mCons (mC (.str ".")) (mCons (mC (.str "A")) (mCons (mC (.str "a.")) (mCons (mC (.str ".a")) (mCons (mC (.str "a..b")) (mCons (mC (.str "a b")) (mCons (mC (.str "abcdefghi")) (mCons (mC (.str "a\n")) (mCons (mC (.str " a")) (mNil)))))))))))))))))) [some (.ref 3), some (.str p), none] S = .ok (.lst odd1) S := rfl
  have e2 : mOp (addD false) (mVar 2) (mLst false (mCons (mC (.str "a.b.c.d.e.f.g")) (mCons (mTup (mNil)) (mCons (mLst false (mNil)) (mCons ((fun _ st => finD false [] [] st)) (mCons (mTup (mCons (mVar 1) (mNil))) (mCons (mLst false (mCons (mVar 1) (mNil))) (mCons (mDic false (mPairs (mVar 1) (mVar 1) (fun _ st => .ok [] st))) (mCons (mTup (mCons (mVar 1) (mCons (mVar 1) (mNil)))) (mCons (mTup (mCons (mVar 1) (mCons (mVar 1) (mCons (mVar 1) (mNil))))) (mNil))))))))))) [some (.ref 3), some (.str p), some (.lst odd1)] S = .ok (.lst (odd1 ++ odd2 p)) S := rfl
  have e3 : mOp (addD false) (mVar 2) (mLst false (mCons (mOp (addD false) (mVar 1) (mC (.str "."))) (mCons (mOp (addD false) (mVar 1) (mC (.str "\n"))) (mCons (mMet isStr (fStr0 5592405 Txt.upper) (mVar 1) mNil) (mCons (mOp (addD false) (mVar 1) (mC (.str "-"))) (mCons (mLst false (mCons (mVar 1) (mCons (mVar 1) (mNil)))) (mCons (mTup (mCons (mC (.str "a")) (mCons (mLst false (mNil)) (mCons ((fun _ st => finD false [] [] st)) (mNil))))) (mCons (mTup (mCons (mTup (mCons (mVar 1) (mCons (mVar 1) (mNil)))) (mNil))) (mNil))))))))) [some (.ref 3), some (.str p), some (.lst (odd1 ++ odd2 p))] S = .ok (.lst (oddL p)) S := by
    have l1 : ("." : Str).length = 1 := by decide +kernel
    have l2 : ("\n" : Str).length = 1 := by decide +kernel
    have l3 : ("-" : Str).length = 1 := by decide +kernel
    have f1 : fits (p.length + ("." : Str).length) = true := fits_of (by omega)
    have f2 : fits (p.length + ("\n" : Str).length) = true := fits_of (by omega)
    have f3 : fits (p.length + ("-" : Str).length) = true := fits_of (by omega)
    have u1 : fStr0 5592405 Txt.upper (.str p) [] S = .ok (.str (Txt.upper p)) S := by
      unfold fStr0 okS
      simp only [Nat.ble_eq_true_of_le (show p.length ≤ 5592405 by omega), if_true, upper_ok hp]
    have a1 : ∀ z : Str, fits (p.length + z.length) = true → addD false (.str p) (.str z) S = .ok (.str (p ++ z)) S := fun z h => if_pos h
    have a2 : addD false (.lst (odd1 ++ odd2 p)) (.lst (odd3 p)) S = .ok (.lst (oddL p)) S := rfl
    simp only [mOp_e, mVar_e, List.getElem?_cons_succ, List.getElem?_cons_zero, R.bind_ok, mLst_e, mCons_e, mC_e, a1 _ f1, a1 _ f2, a1 _ f3, mMet_e, isStr, if_true, mNil_e, u1, mTup_e, finD, List.length_cons, List.length_nil, finL_f]
    exact a2
  show runB 2 3 m_law_odd _ _ = _
  rw [runB_ok (p := 2) (ds := [.ref 3, .str p]) rfl]
  have hE : (List.map some [D.ref 3, D.str p] ++ List.replicate (3 - [D.ref 3, D.str p].length) none : Env') = [some (.ref 3), some (.str p), none] := rfl
  rw [hE]
  unfold m_law_odd
  have hln : lenF [.lst (oddL p)] S = .ok (.int 33) S := rfl
  simp only [mSeq_e, mSet_e, e1, R.toS_ok, List.set_cons_succ, List.set_cons_zero, RS.bind_nx, e2, e3, mRet_e, mOp_e, mVar_e, List.getElem?_cons_succ, List.getElem?_cons_zero, R.bind_ok, mArg_e, mCons_e, mNil_e, hln, next_t, n1, hix]
end
/-! ### the same -/
/-- the same value on both sides is told to be the same -/
def SameOk (n : Nat) (v : D) : Prop := ∀ st, F_law_same n [v, v] st = .ok (.bl true) st
theorem isi_e (Cs : List Ty) (m : ME) (env : Env') (st : Sto) : mIsi tb Cs m env st = (m env st).bind fun d st1 => isiD tb Cs d st1 := rfl
theorem isiB {d : D} {st : Sto} {n : String} (Cs : List Ty) (h : tyD d st = some (.b n)) (h2 : builtins8.contains (.b n) = true) (h3 : kindT tb d st = true) : isiD tb Cs d st = .ok (.bl (Cs.any fun C => subT tb (.b n) C)) st := by
  unfold isiD
  rw [h]
  simp only [okT, h2, h3, Bool.and_self, if_true]
theorem isi_str (Cs : List Ty) (x : Str) (st : Sto) : isiD tb Cs (.str x) st = .ok (.bl (Cs.any fun C => subT tb (.b "str") C)) st := isiB Cs rfl rfl rfl
theorem isi_tup (Cs : List Ty) (x : List D) (st : Sto) : isiD tb Cs (.tup x) st = .ok (.bl (Cs.any fun C => subT tb (.b "tuple") C)) st := isiB Cs rfl rfl rfl
theorem isi_lst (Cs : List Ty) (x : List D) (st : Sto) : isiD tb Cs (.lst x) st = .ok (.bl (Cs.any fun C => subT tb (.b "list") C)) st := isiB Cs rfl rfl rfl
theorem isi_dic (Cs : List Ty) (x : List DK) (y : List D) (st : Sto) : isiD tb Cs (.dic x y) st = .ok (.bl (Cs.any fun C => subT tb (.b "dict") C)) st := isiB Cs rfl rfl rfl
theorem eq_bl (a : Bool) (st : Sto) : eqD true (.bl a) (.bl a) st = .ok (.bl false) st := by
  show R.ok (D.bl (!PyData.eqv (.bool a) (.bool a))) st = _
  simp [PyData.eqv]
theorem same_run (n : Nat) (v : D) (st : Sto) {d : D} (h : m_law_same (F_law_same n) [some v, some v, none, none] st = .rt d st) : F_law_same (n + 1) [v, v] st = .ok d st := by
  show runB 2 4 (m_law_same (F_law_same n)) [v, v] st = _
  rw [runB_ok (p := 2) (ds := [v, v]) rfl]
  have hE : (List.map some [v, v] ++ List.replicate (4 - [v, v].length) none : Env') = [some v, some v, none, none] := rfl
  rw [hE, h]
theorem same_str (n : Nat) (x : Str) : SameOk (n + 1) (.str x) := by
  intro st
  have h : eqD false (.str x) (.str x) st = .ok (.bl true) st := by
    show R.ok (D.bl (PyData.eqv (.str x) (.str x))) st = _
    simp [PyData.eqv]
  refine same_run n _ st ?_
  unfold m_law_same
  simp [isi_e, isi_str, subT, truR, truD, isnD, ML.isNon, isBl, h]
noncomputable abbrev sameLc (Fr : FN) : ME := mLC false (mItA itZ (mCons (mVar 0) (mCons (mVar 1) (mNil)))) (.tp [.nm 2, .nm 3]) [2, 3] (mYes) (mArg Fr (mCons (mVar 2) (mCons (mVar 3) (mNil))))
theorem zip_self : ∀ xs : List D, zipD xs xs = xs.map fun x => .tup [x, x]
  | [] => rfl
  | x :: xs => by
    have := zip_self xs
    unfold zipD at this ⊢
    rw [List.zipWith_cons_cons, this]; rfl
theorem sameLc_e {n : Nat} {v : D} {xs : List D} {st : Sto} (hz : itZ [v, v] st = .ok (zipD xs xs, []) st) (h : ∀ x ∈ xs, SameOk n x) (hl : xs.length ≤ 1000) : (sameLc (F_law_same n)) [some v, some v, none, none] st = .ok (.lst (xs.map fun _ => .bl true)) st := by
  have c : mLCgo [] (.tp [.nm 2, .nm 3]) mYes (mArg (F_law_same n) (mCons (mVar 2) (mCons (mVar 3) mNil))) (wipeE [some v, some v, none, none] [2, 3]) (zipD xs xs) [] st = .ok (xs.map fun _ => .bl true) st := by
    rw [zip_self, lcgo_pure (fun _ => true) (fun _ => .bl true) (show Kp.P [] st from trivial) (xs.map fun x => .tup [x, x]) [] (fun d hd => ?_) (by simp; omega)]
    · rw [List.filter_eq_self.mpr (fun _ _ => rfl)]; simp [Function.comp_def]
    · obtain ⟨x, hx, rfl⟩ := List.mem_map.mp hd
      refine ⟨[some v, some v, some x, some x], rfl, rfl, fun _ => ?_⟩
      simp [h x hx st]
  simp only [sameLc, mLC_e, mItA_e, mCons_e, mVar_e, List.getElem?_cons_zero, List.getElem?_cons_succ, R.bind_ok, mNil_e, hz, c, finL_f]
theorem all_true {st : Sto} (xs : List D) : allF [.lst (xs.map fun _ => D.bl true)] st = .ok (.bl true) st := by
  have h : blsD (xs.map fun _ => D.bl true) = some (xs.map fun _ => true) := by
    induction xs with
    | nil => rfl
    | cons x xs ih => simp [blsD, ih]
  simp [allF, bls1, h]
theorem eq_len {st : Sto} (k : Nat) : eqD false (.int k) (.int k) st = .ok (.bl true) st := by
  show R.ok (D.bl (PyData.eqv (.int k) (.int k))) st = _
  simp [PyData.eqv]
theorem same_tup {n : Nat} {xs : List D} (h : ∀ x ∈ xs, SameOk n x) (hl : xs.length ≤ 1000) : SameOk (n + 1) (.tup xs) := by
  intro st
  have h1 := sameLc_e (v := .tup xs) (st := st) rfl h hl
  refine same_run n _ st ?_
  unfold m_law_same
  have e := eq_len (st := st) xs.length
  simp only [sameLc] at h1
  simp [isi_e, isi_tup, subT, truR, truD, isBl, eq_bl, lenF, e, h1, all_true, -mLC_e]
theorem same_lst {n : Nat} {xs : List D} (h : ∀ x ∈ xs, SameOk n x) (hl : xs.length ≤ 1000) : SameOk (n + 1) (.lst xs) := by
  intro st
  have h1 := sameLc_e (v := .lst xs) (st := st) rfl h hl
  refine same_run n _ st ?_
  unfold m_law_same
  have e := eq_len (st := st) xs.length
  simp only [sameLc] at h1
  simp [isi_e, isi_lst, subT, truR, truD, isBl, eq_bl, lenF, e, h1, all_true, -mLC_e]
theorem same_dic {n : Nat} {ks : List DK} {vs : List D} {ss ws : List Str} (h : dicT (.dic ks vs) = some (ss, ws)) (hf : (dictShown ss ws).length ≤ 16777216) : SameOk (n + 1) (.dic ks vs) := by
  intro st
  refine same_run n _ st ?_
  have e : ∀ env : Env', env[0]? = some (some (.dic ks vs)) → env[1]? = some (some (.dic ks vs)) → mReprEq (mVar 0) (mVar 1) env st = .ok (.bl true) st := by
    intro env h0 h1
    unfold mReprEq
    simp [h0, h1, h, fits_of hf]
  unfold m_law_same
  simp [isi_e, isi_dic, subT, truR, truD, isBl, isnD, ML.isNon, e]
theorem same_non (n : Nat) : SameOk (n + 1) .non := fun st => by kernel_rfl
theorem same_bl (n : Nat) (b : Bool) : SameOk (n + 1) (.bl b) := fun st => by cases b <;> kernel_rfl
theorem same_int (n : Nat) (i : Int) : SameOk (n + 1) (.int i) := by
  intro st
  have h : eqD false (.int i) (.int i) st = .ok (.bl true) st := by
    show R.ok (D.bl (PyData.eqv (.int i) (.int i))) st = _
    simp [PyData.eqv]
  have hi : ∀ Cs, isiD tb Cs (.int i) st = .ok (.bl (Cs.any fun C => subT tb (.b "int") C)) st := fun Cs => isiB Cs rfl rfl rfl
  refine same_run n _ st ?_
  unfold m_law_same
  simp [isi_e, hi, subT, truR, truD, isnD, ML.isNon, isBl, h]
theorem nm_lt {p : Str} (h : IsNm p) : ∀ c ∈ p.cps.toList, c < 16 ^ 8 := by
  obtain ⟨cs, rfl, _, _, h⟩ := h
  intro c hc
  have := h c (by simpa using hc)
  have e : (16 : Nat) ^ 8 = 4294967296 := by decide
  omega
theorem shown_len {p : Str} (h : IsNm p) : (dictShown [p] [p]).length ≤ 16777216 := by
  have h1 := StrLaws.reprText_len p (nm_lt h)
  have hl : p.length ≤ 8 := by
    obtain ⟨cs, rfl, _, h, _⟩ := h
    simpa [Str.length] using h
  have e : dictShown [p] [p] = ("{" : Str) ++ (reprText p ++ ": " ++ reprText p) ++ "}" := rfl
  rw [e]
  have l1 : ("{" : Str).length = 1 := by decide +kernel
  have l2 : ("}" : Str).length = 1 := by decide +kernel
  have l3 : (": " : Str).length = 2 := by decide +kernel
  simp only [strLen_append, l1, l2, l3]
  omega
/-- each drawn value is the same as itself -/
theorem odd_same {p : Str} (h : IsNm p) {v : D} (hv : v ∈ oddL p) : SameOk 5 v := by
  have hs : ∀ n, SameOk (n + 1) (.str p) := fun n => same_str n p
  have h0 : (dictShown [] []).length ≤ 16777216 := by decide +kernel
  have d0 : ∀ n, SameOk (n + 1) (.dic [] []) := fun n => same_dic (ss := []) (ws := []) rfl h0
  have h3 : SameOk 4 (.str p) := hs 3
  have h2 : SameOk 3 (.str p) := hs 2
  have e0 : ∀ x ∈ ([] : List D), SameOk 4 x := by simp
  have e1 : ∀ x ∈ [D.str p], SameOk 4 x := by simpa using h3
  have e2 : ∀ x ∈ [D.str p, D.str p], SameOk 4 x := by simpa using h3
  have e3 : ∀ x ∈ [D.str p, D.str p, D.str p], SameOk 4 x := by simpa using h3
  have e4 : ∀ x ∈ [D.str p, D.str p], SameOk 3 x := by simpa using h2
  have e5 : ∀ x ∈ [D.str "a", D.lst [], D.dic [] []], SameOk 4 x := by
    have z1 : SameOk 4 (.str "a") := same_str 3 _
    have z2 : SameOk 4 (.lst []) := same_lst (by simp) (by simp)
    have z3 : SameOk 4 (.dic [] []) := d0 3
    simp [z1, z2, z3]
  have e6 : ∀ x ∈ [D.tup [D.str p, D.str p]], SameOk 4 x := by
    have z : SameOk 4 (.tup [.str p, .str p]) := same_tup e4 (by simp)
    simp [z]
  simp only [oddL, odd1, odd2, odd3, List.mem_append, List.mem_cons, List.not_mem_nil, or_false] at hv
  rcases hv with ((rfl | rfl | rfl | rfl | rfl | rfl | rfl | rfl | rfl | rfl | rfl | rfl | rfl | rfl | rfl | rfl | rfl) | (rfl | rfl | rfl | rfl | rfl | rfl | rfl | rfl | rfl)) | (rfl | rfl | rfl | rfl | rfl | rfl | rfl)
  · exact same_non 4
  · exact same_bl 4 _
  · exact same_bl 4 _
  · exact same_int 4 _
  · exact same_int 4 _
  · exact same_int 4 _
  · exact same_int 4 _
  · exact same_str 4 _
  · exact same_str 4 _
  · exact same_str 4 _
  · exact same_str 4 _
  · exact same_str 4 _
  · exact same_str 4 _
  · exact same_str 4 _
  · exact same_str 4 _
  · exact same_str 4 _
  · exact same_str 4 _
  · exact same_str 4 _
  · exact same_tup e0 (by simp)
  · exact same_lst e0 (by simp)
  · exact d0 4
  · exact same_tup e1 (by simp)
  · exact same_lst e1 (by simp)
  · exact same_dic (ss := [p]) (ws := [p]) rfl (shown_len h)
  · exact same_tup e2 (by simp)
  · exact same_tup e3 (by simp)
  · exact same_str 4 _
  · exact same_str 4 _
  · exact same_str 4 _
  · exact same_str 4 _
  · exact same_lst e2 (by simp)
  · exact same_tup e5 (by simp)
  · exact same_tup e6 (by simp)
/-! ### the errors made -/
def madeL (a b : D) : List D := [.tup [.exn "BadBook" ["error"] [a], .str "BadBook", .lst [a], .lst [a]],
  .tup [.exn "BadEdit" ["index"] [a], .str "BadEdit", .lst [a], .lst [a]],
  .tup [.exn "BadPath" ["path"] [a], .str "BadPath", .lst [a], .lst [a]],
  .tup [.exn "BadProgram" ["error"] [a], .str "BadProgram", .lst [a], .lst [a]],
  .tup [.exn "BadReason" ["reason"] [a], .str "BadReason", .lst [a], .lst [a]],
  .tup [.exn "BadRule" ["word"] [a], .str "BadRule", .lst [a], .lst [a]],
  .tup [.exn "BadText" ["code", "line"] [b, a], .str "BadText", .lst [a, b], .lst [a, b]],
  .tup [.exn "BadUse" ["index"] [a], .str "BadUse", .lst [a], .lst [a]],
  .tup [.exn "Breaks" ["evidence", "rule"] [b, a], .str "Breaks", .lst [a, b], .lst [a, b]],
  .tup [.exn "Circular" ["evidence"] [a], .str "Circular", .lst [a], .lst [a]],
  .tup [.exn "Clash" ["path"] [a], .str "Clash", .lst [a], .lst [a]],
  .tup [.exn "InUse" ["path"] [a], .str "InUse", .lst [a], .lst [a]],
  .tup [.exn "Itself" ["path"] [a], .str "Itself", .lst [a], .lst [a]],
  .tup [.exn "Overlap" ["path"] [a], .str "Overlap", .lst [a], .lst [a]],
  .tup [.exn "Rejected" ["index"] [a], .str "Rejected", .lst [a], .lst [a]],
  .tup [.exn "Ring" ["ring"] [a], .str "Ring", .lst [a], .lst [a]],
  .tup [.exn "Taken" ["thing"] [a], .str "Taken", .lst [a], .lst [a]],
  .tup [.exn "TooMany" ["limit"] [a], .str "TooMany", .lst [a], .lst [a]],
  .tup [.exn "Unclear" ["name"] [a], .str "Unclear", .lst [a], .lst [a]]]
def othersL (a : D) : List D := [.tup [.exn "NoAllowance" ["use"] [a], .str "NoAllowance", .lst [a], .lst [a]],
  .tup [.exn "NoModule" ["path"] [a], .str "NoModule", .lst [a], .lst [a]],
  .tup [.exn "NoPart" ["path"] [a], .str "NoPart", .lst [a], .lst [a]],
  .tup [.exn "NoRule" ["index"] [a], .str "NoRule", .lst [a], .lst [a]],
  .tup [.exn "NoUse" ["use"] [a], .str "NoUse", .lst [a], .lst [a]]]
def plainL : List D := [.tup [.exn "BadBatch" [] [], .str "BadBatch", .lst [], .lst []],
  .tup [.exn "Full" [] [], .str "Full", .lst [], .lst []],
  .tup [.exn "NothingToUndo" [] [], .str "NothingToUndo", .lst [], .lst []]]
theorem made_e (a b : D) (st : Sto) : F_law_made [a, b] st = .ok (.lst (madeL a b)) st := by kernel_rfl
theorem others_e (a : D) (st : Sto) : F_law_made_others [a] st = .ok (.lst (othersL a)) st := by kernel_rfl
noncomputable abbrev body1 : MS := (mSeq (mIf (mOr (mNot (mTru (mArg (F_law_same 6) (mCons (mVar 10) (mCons (mVar 11) (mNil)))))) (mOr (mBool (mOp (eqD true) (mArg F_law_kinds (mCons (mVar 8) (mNil))) (mLst false (mCons (mVar 9) (mNil))))) (mTru (mIsi tb [.b "LookupError"] (mVar 8))))) (mRet (mC (.bl false))) (mNext)) (mIf (mOr (mNot (mTru (mIsi tb [.o "RestError"] (mVar 8)))) (mNot (mTru (mIsi tb [.b "ValueError"] (mVar 8))))) (mRet (mC (.bl false))) (mNext)))
noncomputable abbrev body2 : MS := (mSeq (mIf (mOr (mNot (mTru (mArg (F_law_same 6) (mCons (mVar 10) (mCons (mVar 11) (mNil)))))) (mOr (mBool (mOp (eqD true) (mArg F_law_kinds (mCons (mVar 8) (mNil))) (mLst false (mCons (mVar 9) (mNil))))) (mNot (mTru (mIsi tb [.b "LookupError"] (mVar 8)))))) (mRet (mC (.bl false))) (mNext)) (mIf (mTru (mIsi tb [.o "RestError", .b "ValueError", .b "KeyError", .b "IndexError"] (mVar 8))) (mRet (mC (.bl false))) (mNext)))
def pat4 : Pat := .tp [.nm 8, .nm 9, .nm 10, .nm 11]
/-- what is asked of an item -/
structure ItemOk (look : Bool) (it : D) : Prop where
  ex : ∃ (e : D) (k : Str) (fs : List D), it = .tup [e, .str k, .lst fs, .lst fs] ∧ SameOk 6 (.lst fs) ∧ (∀ st, F_law_kinds [e] st = .ok (.lst [.str k]) st) ∧ (∀ st, isiD tb [.b "LookupError"] e st = .ok (.bl look) st) ∧
    (∀ st, isiD tb [.o "RestError"] e st = .ok (.bl (!look)) st) ∧ (∀ st, isiD tb [.b "ValueError"] e st = .ok (.bl (!look)) st) ∧ ∀ st, isiD tb [.o "RestError", .b "ValueError", .b "KeyError", .b "IndexError"] e st = .ok (.bl (!look)) st
def AllOk (look : Bool) : List D → Prop
  | [] => True
  | it :: r => ItemOk look it ∧ AllOk look r
theorem eq_kind (k : Str) (st : Sto) : eqD true (.lst [.str k]) (.lst [.str k]) st = .ok (.bl false) st := by
  have h : dat st dfuel (.lst [.str k]) = some (.list [.str k]) := rfl
  unfold eqD
  rw [h]
  simp [PyData.eqv, PyData.eqvAll]
section
variable {v0 v1 v2 v3 v4 v5 v6 v7 : Option D}
theorem step1 {it : D} (h : ItemOk false it) (x8 x9 x10 x11 : Option D) (st : Sto) : ∃ y8 y9 y10 y11, mStep pat4 body1 it [v0, v1, v2, v3, v4, v5, v6, v7, x8, x9, x10, x11] st = .nx [v0, v1, v2, v3, v4, v5, v6, v7, y8, y9, y10, y11] st := by
  obtain ⟨e, k, fs, rfl, h1, h2, h3, h4, h5, h6⟩ := h.ex
  refine ⟨some e, some (.str k), some (.lst fs), some (.lst fs), ?_⟩
  have hb : bindP pat4 (.tup [e, .str k, .lst fs, .lst fs]) [v0, v1, v2, v3, v4, v5, v6, v7, x8, x9, x10, x11] = some [v0, v1, v2, v3, v4, v5, v6, v7, some e, some (.str k), some (.lst fs), some (.lst fs)] := rfl
  unfold mStep
  rw [hb]
  simp [body1, isi_e, h1 st, h2 st, h3 st, h4 st, h5 st, truR, truD, eq_kind, isBl, fits_of]
theorem step2 {it : D} (h : ItemOk true it) (x8 x9 x10 x11 : Option D) (st : Sto) : ∃ y8 y9 y10 y11, mStep pat4 body2 it [v0, v1, v2, v3, v4, v5, v6, v7, x8, x9, x10, x11] st = .nx [v0, v1, v2, v3, v4, v5, v6, v7, y8, y9, y10, y11] st := by
  obtain ⟨e, k, fs, rfl, h1, h2, h3, h4, h5, h6⟩ := h.ex
  refine ⟨some e, some (.str k), some (.lst fs), some (.lst fs), ?_⟩
  have hb : bindP pat4 (.tup [e, .str k, .lst fs, .lst fs]) [v0, v1, v2, v3, v4, v5, v6, v7, x8, x9, x10, x11] = some [v0, v1, v2, v3, v4, v5, v6, v7, some e, some (.str k), some (.lst fs), some (.lst fs)] := rfl
  unfold mStep
  rw [hb]
  simp [body2, isi_e, h1 st, h2 st, h3 st, h4 st, h5 st, h6 st, truR, truD, eq_kind, isBl, fits_of]
theorem loop1 : ∀ {its : List D}, AllOk false its → ∀ (x8 x9 x10 x11 : Option D) (st : Sto), ∃ y8 y9 y10 y11, mLoop [] (mStep pat4 body1) its [v0, v1, v2, v3, v4, v5, v6, v7, x8, x9, x10, x11] st = .nx [v0, v1, v2, v3, v4, v5, v6, v7, y8, y9, y10, y11] st
  | [], _, x8, x9, x10, x11, st => ⟨x8, x9, x10, x11, by unfold mLoop; rw [chk_nil]⟩
  | it :: its, h, x8, x9, x10, x11, st => by
    obtain ⟨a, b, c, d, e1⟩ := step1 (v0 := v0) (v1 := v1) (v2 := v2) (v3 := v3) (v4 := v4) (v5 := v5) (v6 := v6) (v7 := v7) h.1 x8 x9 x10 x11 st
    obtain ⟨a', b', c', d', e2⟩ := loop1 h.2 a b c d st
    refine ⟨a', b', c', d', ?_⟩
    unfold mLoop
    rw [chk_nil, e1, RS.bind_nx, e2]
theorem loop2 : ∀ {its : List D}, AllOk true its → ∀ (x8 x9 x10 x11 : Option D) (st : Sto), ∃ y8 y9 y10 y11, mLoop [] (mStep pat4 body2) its [v0, v1, v2, v3, v4, v5, v6, v7, x8, x9, x10, x11] st = .nx [v0, v1, v2, v3, v4, v5, v6, v7, y8, y9, y10, y11] st
  | [], _, x8, x9, x10, x11, st => ⟨x8, x9, x10, x11, by unfold mLoop; rw [chk_nil]⟩
  | it :: its, h, x8, x9, x10, x11, st => by
    obtain ⟨a, b, c, d, e1⟩ := step2 (v0 := v0) (v1 := v1) (v2 := v2) (v3 := v3) (v4 := v4) (v5 := v5) (v6 := v6) (v7 := v7) h.1 x8 x9 x10 x11 st
    obtain ⟨a', b', c', d', e2⟩ := loop2 h.2 a b c d st
    refine ⟨a', b', c', d', ?_⟩
    unfold mLoop
    rw [chk_nil, e1, RS.bind_nx, e2]
end
theorem sameF {fs : List D} (h : ∀ x ∈ fs, SameOk 5 x) (hl : fs.length ≤ 1000) : SameOk 6 (.lst fs) := same_lst h hl
theorem plain_ok : AllOk false plainL := ⟨⟨⟨_, _, _, rfl, sameF (by simp) (by simp), fun st => by kernel_rfl, fun st => by kernel_rfl, fun st => by kernel_rfl, fun st => by kernel_rfl, fun st => by kernel_rfl⟩⟩, ⟨⟨_, _, _, rfl, sameF (by simp) (by simp), fun st => by kernel_rfl, fun st => by kernel_rfl, fun st => by kernel_rfl, fun st => by kernel_rfl, fun st => by kernel_rfl⟩⟩, ⟨⟨_, _, _, rfl, sameF (by simp) (by simp), fun st => by kernel_rfl, fun st => by kernel_rfl, fun st => by kernel_rfl, fun st => by kernel_rfl, fun st => by kernel_rfl⟩⟩, trivial⟩
theorem made_ok {a b : D} (ha : SameOk 5 a) (hb : SameOk 5 b) : AllOk false (madeL a b) := by
  have s1 : SameOk 6 (.lst [a]) := sameF (by simpa using ha) (by simp)
  have s2 : SameOk 6 (.lst [a, b]) := sameF (by simp [ha, hb]) (by simp)
  exact ⟨⟨⟨_, _, _, rfl, s1, fun st => by kernel_rfl, fun st => by kernel_rfl, fun st => by kernel_rfl, fun st => by kernel_rfl, fun st => by kernel_rfl⟩⟩, ⟨⟨_, _, _, rfl, s1, fun st => by kernel_rfl, fun st => by kernel_rfl, fun st => by kernel_rfl, fun st => by kernel_rfl, fun st => by kernel_rfl⟩⟩, ⟨⟨_, _, _, rfl, s1, fun st => by kernel_rfl, fun st => by kernel_rfl, fun st => by kernel_rfl, fun st => by kernel_rfl, fun st => by kernel_rfl⟩⟩, ⟨⟨_, _, _, rfl, s1, fun st => by kernel_rfl, fun st => by kernel_rfl, fun st => by kernel_rfl, fun st => by kernel_rfl, fun st => by kernel_rfl⟩⟩, ⟨⟨_, _, _, rfl, s1, fun st => by kernel_rfl, fun st => by kernel_rfl, fun st => by kernel_rfl, fun st => by kernel_rfl, fun st => by kernel_rfl⟩⟩, ⟨⟨_, _, _, rfl, s1, fun st => by kernel_rfl, fun st => by kernel_rfl, fun st => by kernel_rfl, fun st => by kernel_rfl, fun st => by kernel_rfl⟩⟩, ⟨⟨_, _, _, rfl, s2, fun st => by kernel_rfl, fun st => by kernel_rfl, fun st => by kernel_rfl, fun st => by kernel_rfl, fun st => by kernel_rfl⟩⟩, ⟨⟨_, _, _, rfl, s1, fun st => by kernel_rfl, fun st => by kernel_rfl, fun st => by kernel_rfl, fun st => by kernel_rfl, fun st => by kernel_rfl⟩⟩, ⟨⟨_, _, _, rfl, s2, fun st => by kernel_rfl, fun st => by kernel_rfl, fun st => by kernel_rfl, fun st => by kernel_rfl, fun st => by kernel_rfl⟩⟩, ⟨⟨_, _, _, rfl, s1, fun st => by kernel_rfl, fun st => by kernel_rfl, fun st => by kernel_rfl, fun st => by kernel_rfl, fun st => by kernel_rfl⟩⟩, ⟨⟨_, _, _, rfl, s1, fun st => by kernel_rfl, fun st => by kernel_rfl, fun st => by kernel_rfl, fun st => by kernel_rfl, fun st => by kernel_rfl⟩⟩, ⟨⟨_, _, _, rfl, s1, fun st => by kernel_rfl, fun st => by kernel_rfl, fun st => by kernel_rfl, fun st => by kernel_rfl, fun st => by kernel_rfl⟩⟩, ⟨⟨_, _, _, rfl, s1, fun st => by kernel_rfl, fun st => by kernel_rfl, fun st => by kernel_rfl, fun st => by kernel_rfl, fun st => by kernel_rfl⟩⟩, ⟨⟨_, _, _, rfl, s1, fun st => by kernel_rfl, fun st => by kernel_rfl, fun st => by kernel_rfl, fun st => by kernel_rfl, fun st => by kernel_rfl⟩⟩, ⟨⟨_, _, _, rfl, s1, fun st => by kernel_rfl, fun st => by kernel_rfl, fun st => by kernel_rfl, fun st => by kernel_rfl, fun st => by kernel_rfl⟩⟩, ⟨⟨_, _, _, rfl, s1, fun st => by kernel_rfl, fun st => by kernel_rfl, fun st => by kernel_rfl, fun st => by kernel_rfl, fun st => by kernel_rfl⟩⟩, ⟨⟨_, _, _, rfl, s1, fun st => by kernel_rfl, fun st => by kernel_rfl, fun st => by kernel_rfl, fun st => by kernel_rfl, fun st => by kernel_rfl⟩⟩, ⟨⟨_, _, _, rfl, s1, fun st => by kernel_rfl, fun st => by kernel_rfl, fun st => by kernel_rfl, fun st => by kernel_rfl, fun st => by kernel_rfl⟩⟩, ⟨⟨_, _, _, rfl, s1, fun st => by kernel_rfl, fun st => by kernel_rfl, fun st => by kernel_rfl, fun st => by kernel_rfl, fun st => by kernel_rfl⟩⟩, trivial⟩
theorem others_ok {a : D} (ha : SameOk 5 a) : AllOk true (othersL a) := by
  have s1 : SameOk 6 (.lst [a]) := sameF (by simpa using ha) (by simp)
  exact ⟨⟨⟨_, _, _, rfl, s1, fun st => by kernel_rfl, fun st => by kernel_rfl, fun st => by kernel_rfl, fun st => by kernel_rfl, fun st => by kernel_rfl⟩⟩, ⟨⟨_, _, _, rfl, s1, fun st => by kernel_rfl, fun st => by kernel_rfl, fun st => by kernel_rfl, fun st => by kernel_rfl, fun st => by kernel_rfl⟩⟩, ⟨⟨_, _, _, rfl, s1, fun st => by kernel_rfl, fun st => by kernel_rfl, fun st => by kernel_rfl, fun st => by kernel_rfl, fun st => by kernel_rfl⟩⟩, ⟨⟨_, _, _, rfl, s1, fun st => by kernel_rfl, fun st => by kernel_rfl, fun st => by kernel_rfl, fun st => by kernel_rfl, fun st => by kernel_rfl⟩⟩, ⟨⟨_, _, _, rfl, s1, fun st => by kernel_rfl, fun st => by kernel_rfl, fun st => by kernel_rfl, fun st => by kernel_rfl, fun st => by kernel_rfl⟩⟩, trivial⟩
theorem all_app {look : Bool} : ∀ {a b : List D}, AllOk look a → AllOk look b → AllOk look (a ++ b)
  | [], b, _, h => h
  | x :: a, b, h, h' => ⟨h.1, all_app h.2 h'⟩
/-! ### the law -/
/-- one turn, its parts open -/
noncomputable def turnG (Fn Fd Fm Fo : FN) (B1 B2 : MS) : MS := (mSeq (mSet 4 (mArg Fn (mCons (mVar 1) (mNil)))) (mSeq (mPar [6, 7] (mCons (mArg Fd (mCons (mVar 1) (mCons (mVar 4) (mNil)))) (mCons (mArg Fd (mCons (mVar 1) (mCons (mVar 4) (mNil)))) (mNil)))) (mSeq (mSet 5 (mLst false (mCons (mTup (mCons (mC (.exn "BadBatch" [] [])) (mCons (mC (.str "BadBatch")) (mCons (mLst false (mNil)) (mCons (mLst false (mNil)) (mNil)))))) (mCons (mTup (mCons (mC (.exn "Full" [] [])) (mCons (mC (.str "Full")) (mCons (mLst false (mNil)) (mCons (mLst false (mNil)) (mNil)))))) (mCons (mTup (mCons (mC (.exn "NothingToUndo" [] [])) (mCons (mC (.str "NothingToUndo")) (mCons (mLst false (mNil)) (mCons (mLst false (mNil)) (mNil)))))) (mNil)))))) (mSeq (mFor (mIt itL (mOp (addD false) (mVar 5) (mArg Fm (mCons (mVar 6) (mCons (mVar 7) (mNil)))))) (.tp [.nm 8, .nm 9, .nm 10, .nm 11]) B1) (mFor (mIt itL (mArg Fo (mCons (mVar 7) (mNil)))) (.tp [.nm 8, .nm 9, .nm 10, .nm 11]) B2)))))
theorem turnG_e {Fn Fd Fm Fo : FN} {B1 B2 : MS} {S S1 S2 S3 : Sto} {p v w i : D} {ms os : List D} {sc x2 x3 x4 x5 x6 x7 x8 x9 x10 x11 y8 y9 y10 y11 z8 z9 z10 z11 : Option D}
    (h1 : Fn [.ref 3] S = .ok p S1) (h2 : Fd [.ref 3, p] S1 = .ok v S2) (h3 : Fd [.ref 3, p] S2 = .ok w S3) (h4 : Fm [v, w] S3 = .ok (.lst ms) S3) (h5 : Fo [w] S3 = .ok (.lst os) S3) (hl : fits (3 + ms.length) = true)
    (l1 : mLoop [] (mStep (.tp [.nm 8, .nm 9, .nm 10, .nm 11]) B1) (plainL ++ ms) [sc, some (.ref 3), some i, x3, some p, some (.lst plainL), some v, some w, x8, x9, x10, x11] S3 = .nx [sc, some (.ref 3), some i, x3, some p, some (.lst plainL), some v, some w, y8, y9, y10, y11] S3)
    (l2 : mLoop [] (mStep (.tp [.nm 8, .nm 9, .nm 10, .nm 11]) B2) os [sc, some (.ref 3), some i, x3, some p, some (.lst plainL), some v, some w, y8, y9, y10, y11] S3 = .nx [sc, some (.ref 3), some i, x3, some p, some (.lst plainL), some v, some w, z8, z9, z10, z11] S3) :
    mStep (.nm 2) (turnG Fn Fd Fm Fo B1 B2) i [sc, some (.ref 3), x2, x3, x4, x5, x6, x7, x8, x9, x10, x11] S = .nx [sc, some (.ref 3), some i, x3, some p, some (.lst plainL), some v, some w, z8, z9, z10, z11] S3 := by
  have hp : ∀ (env : Env') (st : Sto), mLst false (mCons (mTup (mCons (mC (.exn "BadBatch" [] [])) (mCons (mC (.str "BadBatch")) (mCons (mLst false (mNil)) (mCons (mLst false (mNil)) (mNil)))))) (mCons (mTup (mCons (mC (.exn "Full" [] [])) (mCons (mC (.str "Full")) (mCons (mLst false (mNil)) (mCons (mLst false (mNil)) (mNil)))))) (mCons (mTup (mCons (mC (.exn "NothingToUndo" [] [])) (mCons (mC (.str "NothingToUndo")) (mCons (mLst false (mNil)) (mCons (mLst false (mNil)) (mNil)))))) (mNil)))) env st = .ok (.lst plainL) st := fun _ _ => rfl
  have had : addD false (.lst plainL) (.lst ms) S3 = .ok (.lst (plainL ++ ms)) S3 := if_pos hl
  have it1 : ∀ (xs : List D) (st : Sto), itL (.lst xs) st = .ok (xs, []) st := fun _ _ => rfl
  have hbd : bindP (.nm 2) i [sc, some (.ref 3), x2, x3, x4, x5, x6, x7, x8, x9, x10, x11] = some [sc, some (.ref 3), some i, x3, x4, x5, x6, x7, x8, x9, x10, x11] := rfl
  unfold mStep
  rw [hbd]
  simp only [turnG, mSeq_e, mSet_e, mArg_e, mCons_e, mVar_e, List.getElem?_cons_succ, List.getElem?_cons_zero, mNil_e, R.bind_ok, h1, R.toS_ok, List.set_cons_succ, List.set_cons_zero, RS.bind_nx, mPar_e, h2, h3, hp, mFor_e, mIt_e, mOp_e, h4, had, it1, l1, h5, l2]
section
variable {c0 : List D} {cs : List Int} {rest : Sto}
noncomputable def bodyT : MS := turnG F_law_name F_law_odd F_law_made F_law_made_others body1 body2
theorem turn_e (hc : cs ≠ []) (sc : Option D) (i : D) {bs : List Int} {t : Int} (hb : bs.length ≤ 63) (ht : 0 ≤ t) (ht2 : t < 800000000) (x2 x3 x4 x5 x6 x7 x8 x9 x10 x11 : Option D) :
    ∃ z2 z3 z4 z5 z6 z7 z8 z9 z10 z11 bs' t', mStep (.nm 2) bodyT i [sc, some (.ref 3), x2, x3, x4, x5, x6, x7, x8, x9, x10, x11] (dkSt c0 bs cs t rest) = .nx [sc, some (.ref 3), z2, z3, z4, z5, z6, z7, z8, z9, z10, z11] (dkSt c0 bs' cs t' rest) ∧ bs'.length ≤ 63 ∧ t ≤ t' ∧ t' ≤ t + 11 := by
  obtain ⟨p, b1, t1, n1, n2, n3, n4, n5⟩ := name_e (c0 := c0) (cs := cs) (rest := rest) hb hc ht (by omega)
  obtain ⟨v, b2, t2, o1, o2, o3, o4, o5⟩ := odd_e (c0 := c0) (cs := cs) (rest := rest) n2 n3 hc (t := t1) (by omega) (by omega)
  obtain ⟨w, b3, t3, q1, q2, q3, q4, q5⟩ := odd_e (c0 := c0) (cs := cs) (rest := rest) n2 o3 hc (t := t2) (by omega) (by omega)
  have hv := odd_same n2 o2
  have hw := odd_same n2 q2
  have hm := all_app plain_ok (made_ok hv hw)
  obtain ⟨y8, y9, y10, y11, l1⟩ := loop1 (v0 := sc) (v1 := some (.ref 3)) (v2 := some i) (v3 := x3) (v4 := some (.str p)) (v5 := some (.lst plainL)) (v6 := some v) (v7 := some w) hm x8 x9 x10 x11 (dkSt c0 b3 cs t3 rest)
  obtain ⟨z8, z9, z10, z11, l2⟩ := loop2 (v0 := sc) (v1 := some (.ref 3)) (v2 := some i) (v3 := x3) (v4 := some (.str p)) (v5 := some (.lst plainL)) (v6 := some v) (v7 := some w) (others_ok hw) y8 y9 y10 y11 (dkSt c0 b3 cs t3 rest)
  rw [← name_t] at n1
  exact ⟨some i, x3, some (.str p), some (.lst plainL), some v, some w, z8, z9, z10, z11, b3, t3, turnG_e n1 o1 q1 (made_e _ _ _) (others_e _ _) (fits_of (by show 3 + 19 ≤ 16777216; decide)) l1 l2, q3, by omega, by omega⟩
end
/-- the law, its parts open -/
noncomputable def lawG (Fk : FN) (B : MS) (Fs : FN) : MS := mSeq (mSet 1 (mArg Fk (mCons (mVar 0) (mNil)))) (mSeq (mFor (mItA itR1 (mCons (mC (.int (2))) (mNil))) (.nm 2) B) (mSeq (mSet 3 (mTup (mCons (mC (.int (10))) (mCons (mC (.int (4))) (mCons (mC (.int (40))) (mCons (mC (.int (6))) (mCons (mC (.int (24))) (mCons (mC (.int (2))) (mCons (mC (.int (6))) (mCons (mC (.int (4))) (mNil))))))))))) (mRet (mArg Fs (mCons (mOp (addD false) (mVar 3) (mTup (mCons (mC (.int (8))) (mCons (mC (.int (200))) (mNil))))) (mCons (mTup (mCons (mC (.int (10))) (mCons (mC (.int (4))) (mCons (mC (.int (40))) (mCons (mC (.int (6))) (mCons (mC (.int (24))) (mCons (mC (.int (2))) (mCons (mC (.int (6))) (mCons (mC (.int (4))) (mCons (mC (.int (8))) (mCons (mC (.int (200))) (mNil)))))))))))) (mNil)))))))
def limL : List D := [.int 10, .int 4, .int 40, .int 6, .int 24, .int 2, .int 6, .int 4, .int 8, .int 200]
theorem lawG_e {Fk Fs : FN} {B : MS} {S S2 : Sto} {sc : D} {b2 b3 b4 b5 b6 b7 b8 b9 b10 b11 : Option D} (h1 : Fk [sc] [] = .ok (.ref 3) S)
    (lp : mLoop [] (mStep (.nm 2) B) [.int 0, .int 1] [some sc, some (.ref 3), none, none, none, none, none, none, none, none, none, none] S = .nx [some sc, some (.ref 3), b2, b3, b4, b5, b6, b7, b8, b9, b10, b11] S2) (h2 : Fs [.tup limL, .tup limL] S2 = .ok (.bl true) S2) :
    lawG Fk B Fs [some sc, none, none, none, none, none, none, none, none, none, none, none] [] = .rt (.bl true) S2 := by
  have hr : ∀ st : Sto, itR1 [.int 2] st = .ok ([.int 0, .int 1], []) st := fun _ => rfl
  have t1 : ∀ (env : Env') (st : Sto), mTup (mCons (mC (.int (10))) (mCons (mC (.int (4))) (mCons (mC (.int (40))) (mCons (mC (.int (6))) (mCons (mC (.int (24))) (mCons (mC (.int (2))) (mCons (mC (.int (6))) (mCons (mC (.int (4))) (mNil))))))))) env st = .ok (.tup [.int 10, .int 4, .int 40, .int 6, .int 24, .int 2, .int 6, .int 4]) st := fun _ _ => rfl
  have t2 : ∀ (env : Env') (st : Sto), mTup (mCons (mC (.int (8))) (mCons (mC (.int (200))) (mNil))) env st = .ok (.tup [.int 8, .int 200]) st := fun _ _ => rfl
  have t3 : ∀ (env : Env') (st : Sto), mTup (mCons (mC (.int (10))) (mCons (mC (.int (4))) (mCons (mC (.int (40))) (mCons (mC (.int (6))) (mCons (mC (.int (24))) (mCons (mC (.int (2))) (mCons (mC (.int (6))) (mCons (mC (.int (4))) (mCons (mC (.int (8))) (mCons (mC (.int (200))) (mNil))))))))))) env st = .ok (.tup limL) st := fun _ _ => rfl
  have t4 : ∀ st : Sto, addD false (.tup [.int 10, .int 4, .int 40, .int 6, .int 24, .int 2, .int 6, .int 4]) (.tup [.int 8, .int 200]) st = .ok (.tup limL) st := fun _ => rfl
  simp only [lawG, mSeq_e, mSet_e, mArg_e, mCons_e, mVar_e, List.getElem?_cons_succ, List.getElem?_cons_zero, mNil_e, R.bind_ok, h1, R.toS_ok, List.set_cons_succ, List.set_cons_zero, RS.bind_nx, mFor_e, mItA_e, mC_e, hr, lp, t1, t2, t3, mRet_e, mOp_e, t4, h2]
theorem limits_e (st : Sto) : F_law_same 6 [.tup limL, .tup limL] st = .ok (.bl true) st := by kernel_rfl
theorem law_true (ns : List Int) (hl : ns.length ≤ 63) : ∃ st, F_law [.scr ns] [] = .ok (.bl true) st := by
  have hd := deck_e ns hl
  generalize hcs : (ns.map absI ++ [((ns.map absI).length : Int) + 3]) = cs at hd
  have hc : cs ≠ [] := by rw [← hcs]; simp
  have hb : (dkBig (ns.map absI)).length ≤ 63 := by
    unfold dkBig
    have := List.length_filter_le (fun i => decide ((1000000000000000000 : Int) ≤ i)) (ns.map absI)
    rw [List.length_map] at this
    omega
  obtain ⟨a2, a3, a4, a5, a6, a7, a8, a9, a10, a11, b1, t1, e1, e2, e3, e4⟩ := turn_e (c0 := (ns.map absI).map D.int) (rest := []) hc (some (.scr ns)) (.int 0) hb (t := 0) (by omega) (by omega) none none none none none none none none none none
  obtain ⟨b2, b3, b4, b5, b6, b7, b8, b9, b10, b11, c1, t2, f1, f2, f3, f4⟩ := turn_e (c0 := (ns.map absI).map D.int) (rest := []) hc (some (.scr ns)) (.int 1) e2 (t := t1) (by omega) (by omega) a2 a3 a4 a5 a6 a7 a8 a9 a10 a11
  refine ⟨dkSt ((ns.map absI).map D.int) c1 cs t2 [], ?_⟩
  have lp : mLoop [] (mStep (.nm 2) bodyT) [.int 0, .int 1] [some (.scr ns), some (.ref 3), none, none, none, none, none, none, none, none, none, none] (dkSt ((ns.map absI).map D.int) (dkBig (ns.map absI)) cs 0 []) = .nx [some (.scr ns), some (.ref 3), b2, b3, b4, b5, b6, b7, b8, b9, b10, b11] (dkSt ((ns.map absI).map D.int) c1 cs t2 []) := by
    generalize mStep (.nm 2) bodyT = F at e1 f1
    unfold mLoop
    rw [chk_nil, e1, RS.bind_nx]
    unfold mLoop
    rw [chk_nil, f1, RS.bind_nx]
    unfold mLoop
    rw [chk_nil]
  rw [← deck_t] at hd
  have hm := lawG_e (Fs := F_law_same 6) hd lp (limits_e _)
  have ht : m_law = lawG F_law_deck bodyT (F_law_same 6) := rfl
  rw [← ht] at hm
  show runB 1 12 m_law _ _ = _
  rw [runB_ok (p := 1) (ds := [.scr ns]) rfl]
  have hE : (List.map some [D.scr ns] ++ List.replicate (12 - [D.scr ns].length) none : Env') = [some (.scr ns), none, none, none, none, none, none, none, none, none, none, none] := rfl
  rw [hE, hm]
end K98

set_option Elab.async false
set_option linter.all false
set_option maxRecDepth 100000
set_option maxHeartbeats 0
namespace K98
open PySem PySem.Spec PyProof.Rows L2 ML
theorem facts {P : Program} {w : World} {h : Heap} {mg : Str → Option Value} {f : Addr} (G : h.Ns mainGlobals mg) (hfa : mg ("law" : Str) = some (.ref f)) (K : PySem.W.Frag) (KX : K.In h) (c : He.SaysX fa fn [] [] (Tabs.ok tabs) w h K) :
    ∃ (K : PySem.W.Frag) (fd : FuncData) (g : FN), K.In h ∧ (∀ (s : Shared) (u : Value), BindsTo s fd ⟨[u], []⟩ [("_law_script", u)]) ∧ (∀ ns : List Int, ns.length ≤ 63 → ∃ st, g [.scr ns] [] = .ok (.bl true) st) ∧
      ∀ base : Heap, K.In base → base.Ns mainGlobals mg → FnOkG P w K mg base 8 f fd ["_law_script"] (spF K g) := by
  obtain ⟨fdT, A⟩ := al_of KX G c
  have e := hfa.symm.trans (A.glo 64 (x := "law") rfl)
  cases e
  have b := FunD.bindsA (ps := ["_law_script"]) (A.d 0 (d := d_law) rfl) fun _ _ _ _ _ _ us hl => match us, hl with | [_], _ => rfl
  exact ⟨K, fdT 0, F_law, KX, fun s v => b s [v] rfl, law_true, fun base _ _ => ok_law A⟩
end K98
open PySem PySem.W PySem.Calls PyProof.Rows
theorem PySem.Challenge.cw_mayrest_k98_errors_and_limits_holds : PySem.Challenge.rw_mayrest_k98_errors_and_limits.Holds := by
  w_on; o_law
  refine HandSHeadRun.head_any (r := OpenLaw.row PySem.Challenge.rw_mayrest_k98_errors_and_limits) (q := view (OpenLaw.row PySem.Challenge.rw_mayrest_k98_errors_and_limits).prog [49]) (H := K98.hk) (ob := K98.ob) (M := 8000) (loose := K98.loose) (d := HandSHeadRun.topDef (OpenLaw.row PySem.Challenge.rw_mayrest_k98_errors_and_limits).prog 49) (kwd := []) K98.ob_eq
    (by kernel_rfl) (fun s => by kernel_rfl) K98.run (by kernel_rfl) (by kernel_rfl) (by kernel_rfl) (by rfl) (by first | assumption | decide +kernel) (by decide +kernel) ⟨rfl, rfl, rfl, rfl, rfl, by decide +kernel⟩ ?hw ?hc
  case hw => w_witness2
  case hc =>
    refine ML.walk_ofG (l := PySem.Challenge.rw_mayrest_k98_errors_and_limits) (n := 63) (k := 8) (x := "_law_script") rfl (by decide) (by kernel_rfl) ⟨rfl, by decide, by decide⟩ ?F
    intro w mg fa h Y G hmg0
    obtain ⟨K, KX, c⟩ := Y
    have hmg : mg ("law" : PySem.Str) = some (.ref fa) := by
      have e : (HandSHeadRun.topDef (OpenLaw.row PySem.Challenge.rw_mayrest_k98_errors_and_limits).prog 49).name = ("law" : PySem.Str) := by kernel_rfl
      rw [← e]
      exact hmg0
    exact K98.facts G hmg K KX c

