import PyProof.Rows.All
import HandS.ForMost
import HandS.Walk
import HandS.Exc
import HandS.CallSlots
import HandS.Star
import HandS.TupAny
import HandS.ExcInit
import HandS.TryMany
import HandS.TryOnly
import HandS.NoneIn
import HandS.WordsExc
import HandS.IsInst
import HandS.ListEq
import HandS.DictEq
import HandS.StrMore
import HandS.FStr
import HandS.Wide
import HandS.WideBits
import HandS.Conv
import HandS.RaiseMore
import HandS.Zip
import KE.KDictDisplayH
import KE.KDictWalk
import KE.SortData
import KE.KDictSum
import HandS.TupSets
import HandS.SetKeys
import KE.KItemsList
import HandS.DictTup
import KE.KUnpackStar
import HandS.ExcValue
import HandS.EndBits
import PyProof.ReprRoads
import HandS.Defaults
import HandS.HeadEnd
import PyProof.Rows.RuleB_pow
import HandS.HeadHook1
import PyProof.ExcBaseAll.ValueError
import HandS.HeadHook2
import HandS.Head0
import HandS.Head1
import HandS.Head2
import HandS.HeadHook3
import HandS.HeadHook4
import PySem.Challenge.RW_keptways_k70_texts_of_all_forms
set_option Elab.async false
set_option linter.all false
set_option maxRecDepth 100000
section Part_DL1
set_option maxRecDepth 100000
/-! data without addresses, a store of cells, and how both lie in the layer's abstract heap -/
namespace DL
open PySem PySem.Spec PyProof.Rows L2

/-- data: texts by their code points; an instance by its class's name and its attributes in order; a cell is a thing that may change -/
inductive Dat where
  | non | bl (b : Bool) | int (i : Int) | str (x : List Nat)
  | tup (xs : List Dat) | wt (xs : List Dat) | lst (xs : List Dat) | frl (xs : List Dat) | dct (ks vs : List Dat)
  | ins (c : String) (fs : List Dat)
  | cell (i : Nat)

abbrev Om := List Dat
abbrev En := List (Option Dat)
structure Exc where
  c : String
  arg : Option Dat
inductive R (α : Type) where
  | ok (a : α) (o : Om) | exc (e : Exc) (o : Om) | no
def R.bind {α β : Type} (r : R α) (k : α → Om → R β) : R β := match r with
  | .ok a o => k a o
  | .exc e o => .exc e o
  | .no => .no
@[simp] theorem R.bind_ok {α β : Type} (a : α) (o : Om) (k : α → Om → R β) : (R.ok a o).bind k = k a o := rfl
@[simp] theorem R.bind_exc {α β : Type} (e : Exc) (o : Om) (k : α → Om → R β) : (R.exc e o : R α).bind k = .exc e o := rfl
@[simp] theorem R.bind_no {α β : Type} (k : α → Om → R β) : (R.no : R α).bind k = .no := rfl
abbrev DV := En → Om → R Dat
inductive RS where
  | nx (e : En) (o : Om) | brk (e : En) (o : Om) | cnt (e : En) (o : Om) | ret (d : Dat) (o : Om) | exc (x : Exc) (e : En) (o : Om) | no
abbrev SD := En → Om → RS

/-- what is static: the addresses of the own classes, the names of their attributes, in order -/
structure Ct where
  cl : String → Option Addr
  fs : String → List Str

def dK : Key → Dat
  | .inl i => .int i
  | .inr x => .str x.cps.toList
def dT (l : List Key) : Dat := .tup (l.map dK)

/-- a tuple of the written part -/
def WrT (K : PySem.W.Frag) (a : Addr) (xs : List V) : Prop := ∃ (o : Obj) (its : Array Value) (n : Nat), K.lookup a = some o ∧ o.cls = .type "tuple" ∧ o.data = .seq its n ∧ its.size ≤ sizeLine ∧ Vals xs its.toList
/-- a tuple, a list that is read and is none of the excluded things -/
def TupAt (_K : PySem.W.Frag) (H : Hp) (ex : Addr → Prop) (a : Addr) (vs : List V) : Prop := H a = some (.tup vs) ∧ ¬ ex a
def LstAt (H : Hp) (ex : Addr → Prop) (a : Addr) (vs : List V) : Prop := H a = some (.lst vs) ∧ ¬ ex a
theorem TupAt.sq {K : PySem.W.Frag} {H : Hp} {ex : Addr → Prop} {a : Addr} {vs : List V} (h : TupAt K H ex a vs) : SqT K H a vs := .inl (.inl h.1)
theorem LstAt.sq {K : PySem.W.Frag} {H : Hp} {ex : Addr → Prop} {a : Addr} {vs : List V} (h : LstAt H ex a vs) : SqL K H a vs := .inl (.inl h.1)
section
variable (K : PySem.W.Frag) (T : Ct) (H : Hp) (ex : Addr → Prop) (rho : List Addr)
mutual
inductive Rep : V → Dat → Prop
  | non : Rep .non .non
  | bl {b : Bool} : Rep (.bl b) (.bl b)
  | int {i : Int} : Rep (.int i) (.int i)
  | str {x : Str} {l : List Nat} : x.cps.toList = l → Rep (.str x) (.str l)
  | tup {a : Addr} {vs : List V} {xs : List Dat} : TupAt K H ex a vs → Reps vs xs → Rep (.ref a) (.tup xs)
  | wt {a : Addr} {vs : List V} {xs : List Dat} : WrT K a vs → Reps vs xs → Rep (.ref a) (.wt xs)
  | lst {a : Addr} {vs : List V} {xs : List Dat} : LstAt H ex a vs → Reps vs xs → Rep (.ref a) (.lst xs)
  | frl {a : Addr} {o : Obj} {vs : List V} {xs : List Dat} : H a = some (.frz o (.lst vs)) → ¬ ex a → Reps vs xs → Rep (.ref a) (.frl xs)
  | dctK {a : Addr} {o : Obj} {kvs : List (Key × V)} {ks ds : List Dat} : H a = some (.frz o (.dK kvs)) → ¬ ex a → Reps (kvs.map (·.2)) ds → ks = (kvs.map fun p => dK p.1) → Rep (.ref a) (.dct ks ds)
  | dctT {a : Addr} {o : Obj} {kvs : List (List Key × V)} {ks ds : List Dat} : H a = some (.frz o (.dT kvs)) → ¬ ex a → Reps (kvs.map (·.2)) ds → ks = (kvs.map fun p => dT p.1) → Rep (.ref a) (.dct ks ds)
  | ins {a C dx : Addr} {c : String} {vs : List V} {ds : List Dat} : T.cl c = some C → H a = some (.ins C dx ((T.fs c).zip vs)) → ¬ ex a → ds.length ≤ (T.fs c).length → Reps vs ds → Rep (.ref a) (.ins c ds)
  | cell {a : Addr} {i : Nat} : rho[i]? = some a → Rep (.ref a) (.cell i)
inductive Reps : List V → List Dat → Prop
  | nil : Reps [] []
  | cons {v : V} {d : Dat} {vs : List V} {ds : List Dat} : Rep v d → Reps vs ds → Reps (v :: vs) (d :: ds)
end

/-- what stands at a cell -/
def CRep (a : Addr) : Dat → Prop
  | .lst xs => ∃ vs, H a = some (.lst vs) ∧ Reps K T H ex rho vs xs
  | .dct ks ds => (∃ kvs, H a = some (.dK kvs) ∧ Reps K T H ex rho (kvs.map (·.2)) ds ∧ ks = (kvs.map fun p => dK p.1)) ∨
      (∃ kvs, H a = some (.dT kvs) ∧ Reps K T H ex rho (kvs.map (·.2)) ds ∧ ks = (kvs.map fun p => dT p.1))
  | .ins c ds => ∃ C dx vs, T.cl c = some C ∧ H a = some (.ins C dx ((T.fs c).zip vs)) ∧ ds.length ≤ (T.fs c).length ∧ Reps K T H ex rho vs ds
  | _ => True

def NoTup (o : HO) : Prop := ∀ xs, o ≠ .tup xs
structure WRel (om : Om) : Prop where
  len : rho.length = om.length
  nd : rho.Nodup
  sub : ∀ a ∈ rho, ex a
  trk : ∀ a, ex a → ∃ o, H a = some o ∧ NoTup o
  cells : ∀ (i : Nat) (a : Addr) (d : Dat), rho[i]? = some a → om[i]? = some d → CRep K T H ex rho a d

/-- a slot and what is known of it -/
def ERel (sg : L2.St) (env : En) : Prop := sg.length = env.length ∧ ∀ (i : Nat) (x : Dat), env[i]? = some (some x) → ∃ v, sg[i]? = some (some v) ∧ Rep K T H ex rho v x
def ERep (cls : Value) (dx : Option Addr) (e : Exc) : Prop := ∃ C, T.cl e.c = some C ∧ cls = .ref C ∧
  match e.arg with
  | none => dx = none
  | some d => ∃ a f v, dx = some a ∧ H a = some (.xd [(f, v)]) ∧ T.fs e.c = [f] ∧ Rep K T H ex rho v d
end

/-- time goes on: new cells, more that is excluded (all of it new), what was tracked and is no cell stays -/
structure Stp (H : Hp) (ex : Addr → Prop) (rho : List Addr) (H' : Hp) (ex' : Addr → Prop) (rho' : List Addr) : Prop where
  new : ∃ n, rho' = rho ++ n ∧ ∀ a ∈ n, H a = none
  up : ∀ a, ex a → ex' a
  fre : ∀ a, ex' a → ex a ∨ H a = none
  keep : ∀ a o, H a = some o → a ∉ rho → H' a = some o
theorem Stp.refl {H : Hp} {ex : Addr → Prop} {rho : List Addr} : Stp H ex rho H ex rho := ⟨⟨[], by simp, by simp⟩, fun _ h => h, fun _ h => .inl h, fun _ _ h _ => h⟩

section
variable {K : PySem.W.Frag} {T : Ct} {H H1 H2 H' : Hp} {ex ex1 ex2 ex' : Addr → Prop} {rho rho1 rho2 rho' : List Addr}
theorem Stp.back (a : Stp H ex rho H1 ex1 rho1) (t : ∀ x ∈ rho, ∃ o, H1 x = some o) {z : Addr} (h : H1 z = none) : H z = none := by
  cases q : H z with
  | none => rfl
  | some o =>
    by_cases hr : z ∈ rho
    · obtain ⟨o', h'⟩ := t z hr
      rw [h] at h'; cases h'
    · have := a.keep z o q hr
      rw [h] at this; cases this
theorem Stp.trans (a : Stp H ex rho H1 ex1 rho1) (b : Stp H1 ex1 rho1 H2 ex2 rho2) (t : ∀ x ∈ rho, ∃ o, H1 x = some o) : Stp H ex rho H2 ex2 rho2 := by
  obtain ⟨n1, e1, f1⟩ := a.new
  obtain ⟨n2, e2, f2⟩ := b.new
  refine ⟨⟨n1 ++ n2, by rw [e2, e1, List.append_assoc], fun z hz => ?_⟩, fun z h => b.up z (a.up z h), fun z h => ?_, fun z o h hn => ?_⟩
  · rcases List.mem_append.mp hz with h | h
    · exact f1 z h
    · exact a.back t (f2 z h)
  · rcases b.fre z h with h | h
    · exact a.fre z h
    · exact .inr (a.back t h)
  · have h1 := a.keep z o h hn
    refine b.keep z o h1 fun hm => ?_
    rw [e1] at hm
    rcases List.mem_append.mp hm with hm | hm
    · exact hn hm
    · rw [f1 z hm] at h; cases h
theorem Stp.exOf (a : Stp H ex rho H' ex' rho') {x : Addr} {o : HO} (h : H x = some o) (n : ¬ ex x) : ¬ ex' x := by
  intro q
  rcases a.fre x q with q | q
  · exact n q
  · rw [q] at h; cases h
theorem Stp.rd (a : Stp H ex rho H' ex' rho') (sub : ∀ x ∈ rho, ex x) {x : Addr} {u : HO} (h : Rd H x u) (n : ¬ ex x) : Rd H' x u ∧ ¬ ex' x := by
  rcases h with q | ⟨o, q⟩
  · exact ⟨.inl (a.keep _ _ q fun z => n (sub _ z)), a.exOf q n⟩
  · exact ⟨.inr ⟨o, a.keep _ _ q fun z => n (sub _ z)⟩, a.exOf q n⟩
theorem Stp.tup (a : Stp H ex rho H' ex' rho') (sub : ∀ x ∈ rho, ex x) {x : Addr} {vs : List V} (h : TupAt K H ex x vs) : TupAt K H' ex' x vs :=
  ⟨a.keep _ _ h.1 fun z => h.2 (sub _ z), a.exOf h.1 h.2⟩
theorem Stp.at (a : Stp H ex rho H' ex' rho') (sub : ∀ x ∈ rho, ex x) {x : Addr} {u : HO} (h : H x = some u) (n : ¬ ex x) : H' x = some u ∧ ¬ ex' x :=
  ⟨a.keep _ _ h fun z => n (sub _ z), a.exOf h n⟩
theorem Stp.cell (a : Stp H ex rho H' ex' rho') {x : Addr} {i : Nat} (h : rho[i]? = some x) : rho'[i]? = some x := by
  obtain ⟨n, e, _⟩ := a.new
  rw [e, List.getElem?_append_left (List.getElem?_eq_some_iff.mp h).1]
  exact h
mutual
theorem Rep.step (a : Stp H ex rho H' ex' rho') (sub : ∀ x ∈ rho, ex x) : ∀ {v : V} {d : Dat}, Rep K T H ex rho v d → Rep K T H' ex' rho' v d
  | _, _, .non => .non
  | _, _, .bl => .bl
  | _, _, .int => .int
  | _, _, .str h => .str h
  | _, _, .tup h r => .tup (a.tup sub h) (Reps.step a sub r)
  | _, _, .wt h r => .wt h (Reps.step a sub r)
  | _, _, .lst h r => .lst (a.at sub h.1 h.2) (Reps.step a sub r)
  | _, _, .frl h n r => let q := a.at sub h n; .frl q.1 q.2 (Reps.step a sub r)
  | _, _, .dctK h n r e => let q := a.at sub h n; .dctK q.1 q.2 (Reps.step a sub r) e
  | _, _, .dctT h n r e => let q := a.at sub h n; .dctT q.1 q.2 (Reps.step a sub r) e
  | _, _, .ins hc h n hl r => .ins hc (a.keep _ _ h fun z => n (sub _ z)) (a.exOf h n) hl (Reps.step a sub r)
  | _, _, .cell h => .cell (a.cell h)
theorem Reps.step (a : Stp H ex rho H' ex' rho') (sub : ∀ x ∈ rho, ex x) : ∀ {vs : List V} {ds : List Dat}, Reps K T H ex rho vs ds → Reps K T H' ex' rho' vs ds
  | _, _, .nil => .nil
  | _, _, .cons r t => .cons (Rep.step a sub r) (Reps.step a sub t)
end
mutual
/-- less is excluded -/
theorem Rep.weak (m : ∀ a, ex' a → ex a) : ∀ {v : V} {d : Dat}, Rep K T H ex rho v d → Rep K T H ex' rho v d
  | _, _, .non => .non
  | _, _, .bl => .bl
  | _, _, .int => .int
  | _, _, .str h => .str h
  | _, _, .tup h r => .tup ⟨h.1, fun z => h.2 (m _ z)⟩ (Reps.weak m r)
  | _, _, .wt h r => .wt h (Reps.weak m r)
  | _, _, .lst h r => .lst ⟨h.1, fun z => h.2 (m _ z)⟩ (Reps.weak m r)
  | _, _, .frl h n r => .frl h (fun z => n (m _ z)) (Reps.weak m r)
  | _, _, .dctK h n r e => .dctK h (fun z => n (m _ z)) (Reps.weak m r) e
  | _, _, .dctT h n r e => .dctT h (fun z => n (m _ z)) (Reps.weak m r) e
  | _, _, .ins hc h n hl r => .ins hc h (fun z => n (m _ z)) hl (Reps.weak m r)
  | _, _, .cell h => .cell h
theorem Reps.weak (m : ∀ a, ex' a → ex a) : ∀ {vs : List V} {ds : List Dat}, Reps K T H ex rho vs ds → Reps K T H ex' rho vs ds
  | _, _, .nil => .nil
  | _, _, .cons r t => .cons (Rep.weak m r) (Reps.weak m t)
end
theorem CRep.weak (m : ∀ a, ex' a → ex a) {a : Addr} {d : Dat} (c : CRep K T H ex rho a d) : CRep K T H ex' rho a d := by
  cases d with
  | lst xs => obtain ⟨vs, e, r⟩ := c; exact ⟨vs, e, r.weak m⟩
  | dct ks ds =>
    rcases c with ⟨kvs, e, r, z⟩ | ⟨kvs, e, r, z⟩
    · exact .inl ⟨kvs, e, r.weak m, z⟩
    · exact .inr ⟨kvs, e, r.weak m, z⟩
  | ins c ds => obtain ⟨C, dx, vs, h1, e, h3, r⟩ := c; exact ⟨C, dx, vs, h1, e, h3, r.weak m⟩
  | _ => trivial
theorem CRep.step (a : Stp H ex rho H' ex' rho') (sub : ∀ x ∈ rho, ex x) {x : Addr} {d : Dat} (keep : ∀ o, H x = some o → H' x = some o) (c : CRep K T H ex rho x d) : CRep K T H' ex' rho' x d := by
  cases d with
  | lst xs => obtain ⟨vs, e, r⟩ := c; exact ⟨vs, keep _ e, r.step a sub⟩
  | dct ks ds =>
    rcases c with ⟨kvs, e, r, z⟩ | ⟨kvs, e, r, z⟩
    · exact .inl ⟨kvs, keep _ e, r.step a sub, z⟩
    · exact .inr ⟨kvs, keep _ e, r.step a sub, z⟩
  | ins c ds => obtain ⟨C, dx, vs, h1, e, h3, r⟩ := c; exact ⟨C, dx, vs, h1, keep _ e, h3, r.step a sub⟩
  | _ => trivial
theorem ERel.weak (m : ∀ a, ex' a → ex a) {sg : L2.St} {env : En} (h : ERel K T H ex rho sg env) : ERel K T H ex' rho sg env :=
  ⟨h.1, fun i x e => let ⟨v, h1, h2⟩ := h.2 i x e; ⟨v, h1, h2.weak m⟩⟩
theorem ERel.step (a : Stp H ex rho H' ex' rho') (sub : ∀ x ∈ rho, ex x) {sg : L2.St} {env : En} (h : ERel K T H ex rho sg env) : ERel K T H' ex' rho' sg env :=
  ⟨h.1, fun i x e => let ⟨v, h1, h2⟩ := h.2 i x e; ⟨v, h1, h2.step a sub⟩⟩
theorem WRel.there {om : Om} (w : WRel K T H ex rho om) : ∀ x ∈ rho, ∃ o, H x = some o := fun x hx => let ⟨o, e, _⟩ := w.trk x (w.sub x hx); ⟨o, e⟩
theorem Reps.length : ∀ {vs : List V} {ds : List Dat}, Reps K T H ex rho vs ds → vs.length = ds.length
  | _, _, .nil => rfl
  | _, _, .cons _ t => by rw [List.length_cons, List.length_cons, Reps.length t]
theorem Reps.get : ∀ {vs : List V} {ds : List Dat} {i : Nat} {d : Dat}, Reps K T H ex rho vs ds → ds[i]? = some d → ∃ v, vs[i]? = some v ∧ Rep K T H ex rho v d
  | _, _, _, _, .nil, e => by simp at e
  | _, _, 0, _, .cons r _, e => ⟨_, rfl, by cases e; exact r⟩
  | _, _, i + 1, _, .cons _ t, e => Reps.get (i := i) t (by simpa using e)
theorem Reps.get' : ∀ {vs : List V} {ds : List Dat} {i : Nat} {v : V}, Reps K T H ex rho vs ds → vs[i]? = some v → ∃ d, ds[i]? = some d ∧ Rep K T H ex rho v d
  | _, _, _, _, .nil, e => by simp at e
  | _, _, 0, _, .cons r _, e => ⟨_, rfl, by cases e; exact r⟩
  | _, _, i + 1, _, .cons _ t, e => Reps.get' (i := i) t (by simpa using e)
theorem Reps.append : ∀ {vs vs' : List V} {ds ds' : List Dat}, Reps K T H ex rho vs ds → Reps K T H ex rho vs' ds' → Reps K T H ex rho (vs ++ vs') (ds ++ ds')
  | _, _, _, _, .nil, s => s
  | _, _, _, _, .cons r t, s => .cons r (Reps.append t s)
theorem Reps.take (n : Nat) : ∀ {vs : List V} {ds : List Dat}, Reps K T H ex rho vs ds → Reps K T H ex rho (vs.take n) (ds.take n) := by
  induction n with
  | zero => intro vs ds _; exact .nil
  | succ n ih => intro vs ds h; cases h with
    | nil => exact .nil
    | cons r t => exact .cons r (ih t)
theorem Reps.drop (n : Nat) : ∀ {vs : List V} {ds : List Dat}, Reps K T H ex rho vs ds → Reps K T H ex rho (vs.drop n) (ds.drop n) := by
  induction n with
  | zero => intro vs ds h; exact h
  | succ n ih => intro vs ds h; cases h with
    | nil => exact .nil
    | cons r t => exact ih t
theorem Reps.inj_len {vs : List V} {ds : List Dat} (h : Reps K T H ex rho vs ds) {n : Nat} (e : ds.length = n) : vs.length = n := h.length.trans e
end
end DL
end Part_DL1
section Part_DL2
set_option maxRecDepth 100000
/-! expressions as functions on data -/
namespace DL
open PySem PySem.Spec PyProof.Rows L2

section
variable {K : PySem.W.Frag} {T : Ct}
/-- what is wanted of an outcome -/
def Out {α β : Type} (K : PySem.W.Frag) (T : Ct) (rel : Hp → (Addr → Prop) → List Addr → β → α → Prop) (W : WX) (sg : L2.St) (H : Hp) (ex : Addr → Prop) (rho : List Addr) (Q : β → Hp → Prop) : R α → Prop
  | .ok a om => ∀ b H' ex' rho', Stp H ex rho H' ex' rho' → WRel K T H' ex' rho' om → rel H' ex' rho' b a → Q b H'
  | .exc e om => ∀ cls dx H' ex' rho', Stp H ex rho H' ex' rho' → WRel K T H' ex' rho' om → ERep K T H' ex' rho' cls dx e → W cls dx sg H'
  | .no => False
def tD {α β : Type} (K : PySem.W.Frag) (T : Ct) (rel : Hp → (Addr → Prop) → List Addr → β → α → Prop) (W : WX) (f : En → Om → R α) : L2.St → Hp → (β → Hp → Prop) → Prop := fun sg H Q =>
  ∃ ex rho om env, WRel K T H ex rho om ∧ ERel K T H ex rho sg env ∧ Out K T rel W sg H ex rho Q (f env om)
abbrev rB : Hp → (Addr → Prop) → List Addr → Bool → Bool → Prop := fun _ _ _ b a => b = a

section
variable {α β γ δ : Type} {rel : Hp → (Addr → Prop) → List Addr → β → α → Prop} {rel2 : Hp → (Addr → Prop) → List Addr → δ → γ → Prop} {W : WX} {sg : L2.St} {H H1 : Hp} {ex ex1 : Addr → Prop} {rho rho1 : List Addr} {Q Q' : β → Hp → Prop} {Q2 : δ → Hp → Prop} {om : Om}
theorem Out.mono {r : R α} (h : Out K T rel W sg H ex rho Q r) (m : ∀ b H, Q b H → Q' b H) : Out K T rel W sg H ex rho Q' r := by
  cases r with
  | ok a om => exact fun b H' ex' rho' st w r => m _ _ (h b H' ex' rho' st w r)
  | exc e om => exact h
  | no => exact h
theorem Out.step {r : R α} (st : Stp H ex rho H1 ex1 rho1) (w : WRel K T H1 ex1 rho1 om) (h : Out K T rel W sg H ex rho Q r) : Out K T rel W sg H1 ex1 rho1 Q r := by
  have there : ∀ x ∈ rho, ∃ o, H1 x = some o := fun x hx => by
    obtain ⟨n, e, _⟩ := st.new
    exact w.there x (by rw [e]; exact List.mem_append_left _ hx)
  cases r with
  | ok a om => exact fun b H' ex' rho' st' w' r => h b H' ex' rho' (st.trans st' there) w' r
  | exc e om => exact fun c d H' ex' rho' st' w' r => h c d H' ex' rho' (st.trans st' there) w' r
  | no => exact h
theorem Out.bind {r : R α} {k : α → Om → R γ} (h : Out K T rel2 W sg H ex rho Q2 (r.bind k)) : Out K T rel W sg H ex rho (fun b H1 => ∃ a om1 ex1 rho1, r = .ok a om1 ∧ Stp H ex rho H1 ex1 rho1 ∧ WRel K T H1 ex1 rho1 om1 ∧ rel H1 ex1 rho1 b a ∧ Out K T rel2 W sg H1 ex1 rho1 Q2 (k a om1)) r := by
  cases r with
  | ok a om1 => exact fun b H' ex' rho' st w r => ⟨a, om1, ex', rho', rfl, st, w, r, Out.step st w h⟩
  | exc e om => exact h
  | no => exact h
/-- an outcome that is here, in the heap as it is -/
theorem Out.here {a : α} {b : β} (h : Out K T rel W sg H ex rho Q (.ok a om)) (w : WRel K T H ex rho om) (r : rel H ex rho b a) : Q b H := h b H ex rho .refl w r
end

/-! ### judgements -/
def DE (X : Cx) (T : Ct) (e : Expr) (f : DV) : Prop := ∀ W, Takes X W → PE X e (tD X.K T (Rep X.K T) W f)
def DA (X : Cx) (T : Ct) (es : List Expr) (f : En → Om → R (List Dat)) : Prop := ∀ W, Takes X W → PA X es (tD X.K T (Reps X.K T) W f)
def DT (X : Cx) (T : Ct) (e : Expr) (f : En → Om → R Bool) : Prop := ∀ W, Takes X W → PT X e (tD X.K T rB W f)
end

section
variable {X : Cx}
theorem pe_mono {e : Expr} {t t' : TE} (h : PE X e t) (m : ∀ sg H Q, t' sg H Q → t sg H Q) : PE X e t' := ⟨fun pins s sg H Q I q => h.run pins s sg H Q I (m sg H Q q)⟩
theorem pt_mono {e : Expr} {t t' : TT} (h : PT X e t) (m : ∀ sg H Q, t' sg H Q → t sg H Q) : PT X e t' := ⟨fun pins s sg H Q I q => h.run pins s sg H Q I (m sg H Q q)⟩
theorem pa_mono {es : List Expr} {t t' : TA} (h : PA X es t) (m : ∀ sg H Q, t' sg H Q → t sg H Q) : PA X es t' := ⟨fun pos pins s sg H Q I q => h.run pos pins s sg H Q I (m sg H Q q)⟩
end

/-! ### combinators of meaning -/
def eVar (i : Nat) : DV := fun env om => match env[i]? with
  | some (some d) => .ok d om
  | _ => .no
def eC (d : Dat) : DV := fun _ om => .ok d om
def e1 (k : Dat → Om → R Dat) (f : DV) : DV := fun env om => (f env om).bind k
def e2 (k : Dat → Dat → Om → R Dat) (f g : DV) : DV := fun env om => (f env om).bind fun x om => (g env om).bind fun y om => k x y om
def aNil : En → Om → R (List Dat) := fun _ om => .ok [] om
def aCons (f : DV) (g : En → Om → R (List Dat)) : En → Om → R (List Dat) := fun env om => (f env om).bind fun x om => (g env om).bind fun xs om => .ok (x :: xs) om
def eTup (g : En → Om → R (List Dat)) : DV := fun env om => (g env om).bind fun xs om => if xs.length ≤ 1000000 then .ok (.tup xs) om else .no
def eLst (g : En → Om → R (List Dat)) : DV := fun env om => (g env om).bind fun xs om => if xs.length ≤ 1000000 then .ok (.lst xs) om else .no
/-- a display that makes a cell -/
def eLstC (g : En → Om → R (List Dat)) : DV := fun env om => (g env om).bind fun xs om => if xs.length ≤ 1000000 then .ok (.cell om.length) (om ++ [.lst xs]) else .no
def tst (f : DV) : En → Om → R Bool := fun env om => (f env om).bind fun d om => match d with
  | .bl b => .ok b om
  | _ => .no
def ofT (f : En → Om → R Bool) : DV := fun env om => (f env om).bind fun b om => .ok (.bl b) om
def tAndD (f g : En → Om → R Bool) : En → Om → R Bool := fun env om => (f env om).bind fun b om => if b = true then g env om else .ok false om
def tOrD (f g : En → Om → R Bool) : En → Om → R Bool := fun env om => (f env om).bind fun b om => if b = true then .ok true om else g env om
def tNotD (f : En → Om → R Bool) : En → Om → R Bool := fun env om => (f env om).bind fun b om => .ok (!b) om
def eIf (t : En → Om → R Bool) (f g : DV) : DV := fun env om => (t env om).bind fun b om => if b = true then f env om else g env om
/-- and, or as values: all but the last True or False -/
def eAnd (f g : DV) : DV := fun env om => (f env om).bind fun d om => match d with
  | .bl true => g env om
  | .bl false => .ok (.bl false) om
  | _ => .no
def eOr (f g : DV) : DV := fun env om => (f env om).bind fun d om => match d with
  | .bl true => .ok (.bl true) om
  | .bl false => g env om
  | _ => .no
def eCall (n : Nat) (dvs : List Dat) (F : List Dat → Om → R Dat) (g : En → Om → R (List Dat)) : DV := fun env om => (g env om).bind fun ds om => if ds.length + dvs.length = n then F (ds ++ dvs) om else .no
/-- a function's promise -/
def spD (K : PySem.W.Frag) (T : Ct) (n : Nat) (F : List Dat → Om → R Dat) : Sp := fun vs H Q E =>
  ∃ ex rho om ds, WRel K T H ex rho om ∧ Reps K T H ex rho vs ds ∧ ds.length = n ∧ Out K T (Rep K T) (fun c d _ H' => E c d H') [] H ex rho Q (F ds om)

section
variable {X : Cx} {T : Ct} {K : PySem.W.Frag}
theorem million_line {n : Nat} (h : n ≤ 1000000) : n ≤ sizeLine := Nat.le_trans h (by rw [sizeLine_eq]; decide)
theorem million_lt {n : Nat} (h : n < 1000000) : n < sizeLine := Nat.lt_of_lt_of_le h (by rw [sizeLine_eq]; decide)
theorem de_var {i : Nat} {x : Str} {pos : Pos} (h : PE X (.Name x pos) (tVar i)) : DE X T (.Name x pos) (eVar i) := fun W tk => pe_mono h fun sg H Q h => by
  obtain ⟨ex, rho, om, env, w, er, o⟩ := h
  unfold eVar at o
  split at o
  · rename_i d hd
    obtain ⟨v, h1, h2⟩ := er.2 _ _ hd
    exact ⟨v, h1, o.here w h2⟩
  · exact o.elim
theorem de_c {e : Expr} {v : V} {d : Dat} (h : PE X e (tC v)) (r : ∀ H ex rho, Rep X.K T H ex rho v d) : DE X T e (eC d) := fun W tk => pe_mono h fun sg H Q h => by
  obtain ⟨ex, rho, om, env, w, er, o⟩ := h
  exact o.here w (r _ _ _)
theorem de_int {i : Int} {j pos} : DE X T (.Constant (.int i) j pos) (eC (.int i)) := de_c pe_int fun _ _ _ => .int
theorem de_bl {b : Bool} {j pos} : DE X T (.Constant (.bool b) j pos) (eC (.bl b)) := de_c pe_bl fun _ _ _ => .bl
theorem de_non {j pos} : DE X T (.Constant .none j pos) (eC .non) := de_c pe_non fun _ _ _ => .non
theorem de_str {x : Str} {l : List Nat} {j pos} (h : x.cps.toList = l) : DE X T (.Constant (.str x) j pos) (eC (.str l)) := de_c pe_str fun _ _ _ => .str h

/-- an operation of two values -/
def OpD (K : PySem.W.Frag) (T : Ct) (r : R2) (k : Dat → Dat → Om → R Dat) : Prop :=
  ∀ (W : WX) (sg : L2.St) (H : Hp) (ex : Addr → Prop) (rho : List Addr) (om : Om) (Q : VK) (x y : Dat) (v u : V), WRel K T H ex rho om → Rep K T H ex rho v x → Rep K T H ex rho u y → Out K T (Rep K T) W sg H ex rho Q (k x y om) → r v u H Q
def UnD (K : PySem.W.Frag) (T : Ct) (r : V → Hp → VK → Prop) (k : Dat → Om → R Dat) : Prop :=
  ∀ (W : WX) (sg : L2.St) (H : Hp) (ex : Addr → Prop) (rho : List Addr) (om : Om) (Q : VK) (x : Dat) (v : V), WRel K T H ex rho om → Rep K T H ex rho v x → Out K T (Rep K T) W sg H ex rho Q (k x om) → r v H Q
theorem tD_op {W : WX} {f g : DV} {k : Dat → Dat → Om → R Dat} {r : R2} {sg : L2.St} {H : Hp} {Q : VK} (hk : OpD K T r k) (h : tD K T (Rep K T) W (e2 k f g) sg H Q) : tOp r (tD K T (Rep K T) W f) (tD K T (Rep K T) W g) sg H Q := by
  obtain ⟨ex, rho, om, env, w, er, o⟩ := h
  refine ⟨ex, rho, om, env, w, er, (Out.bind (rel := Rep K T) o).mono ?_⟩
  rintro v H1 ⟨x, om1, ex1, rho1, _, st, w1, rx, o1⟩
  refine ⟨ex1, rho1, om1, env, w1, er.step st w.sub, (Out.bind (rel := Rep K T) o1).mono ?_⟩
  rintro u H2 ⟨y, om2, ex2, rho2, _, st2, w2, ry, o2⟩
  exact hk W sg H2 ex2 rho2 om2 Q x y v u w2 (rx.step st2 w1.sub) ry o2
theorem tD_un {W : WX} {f : DV} {k : Dat → Om → R Dat} {r : V → Hp → VK → Prop} {sg : L2.St} {H : Hp} {Q : VK} (hk : UnD K T r k) (h : tD K T (Rep K T) W (e1 k f) sg H Q) : tUn r (tD K T (Rep K T) W f) sg H Q := by
  obtain ⟨ex, rho, om, env, w, er, o⟩ := h
  refine ⟨ex, rho, om, env, w, er, (Out.bind (rel := Rep K T) o).mono ?_⟩
  rintro v H1 ⟨x, om1, ex1, rho1, _, st, w1, rx, o1⟩
  exact hk W sg H1 ex1 rho1 om1 Q x v w1 rx o1
variable {a b c : Expr} {f g h : DV} {pos : Pos}
theorem de_bin {op : Operator} {r : R2} {k : Dat → Dat → Om → R Dat} (ho : OpR X (binaryOp op) r) (hk : OpD X.K T r k) (ha : DE X T a f) (hb : DE X T b g) : DE X T (.BinOp a op b pos) (e2 k f g) := fun W tk => pe_mono (pe_op ho (ha W tk) (hb W tk)) fun _ _ _ h => tD_op hk h
theorem de_un {op : UnaryOp} {r : V → Hp → VK → Prop} {k : Dat → Om → R Dat} (ho : UnR X (unaryOp op) r) (hk : UnD X.K T r k) (ha : DE X T a f) : DE X T (.UnaryOp op a pos) (e1 k f) := fun W tk => pe_mono (pe_un ho (ha W tk)) fun _ _ _ h => tD_un hk h
theorem de_cmp {op : CmpOp} {r : R2} {k : Dat → Dat → Om → R Dat} (ho : OpR X (compareOp op) r) (hk : OpD X.K T r k) (ha : DE X T a f) (hb : DE X T b g) (hm : behindInMarks op b = false) : DE X T (.Compare a [op] [b] pos) (e2 k f g) := fun W tk => pe_mono (pe_cmpR ho (ha W tk) (hb W tk) hm) fun _ _ _ h => tD_op hk h
/-- as a test -/
theorem tD_tst {W : WX} {sg : L2.St} {H : Hp} {Q : Bool → Hp → Prop} (h : tD K T rB W (tst f) sg H Q) : tTest (tD K T (Rep K T) W f) sg H Q := by
  obtain ⟨ex, rho, om, env, w, er, o⟩ := h
  refine ⟨ex, rho, om, env, w, er, (Out.bind (rel := Rep K T) o).mono ?_⟩
  rintro v H1 ⟨x, om1, ex1, rho1, _, st, w1, rx, o1⟩
  cases rx with
  | bl => exact ⟨_, rfl, o1.here w1 rfl⟩
  | _ => exact o1.elim
theorem dt_of (ha : DE X T a f) (hp : ∀ whole, isTrue a X.env whole = (do let v ← whole; standAt a.pos; holding [v] (truthy v)) := by intro _; rfl) : DT X T a (tst f) := fun W tk => pt_mono (pt_val (ha W tk) hp) fun _ _ _ h => tD_tst h
theorem dt_cmp {op : CmpOp} {r : R2} {k : Dat → Dat → Om → R Dat} (ho : OpR X (compareOp op) r) (hk : OpD X.K T r k) (ha : DE X T a f) (hb : DE X T b g) (hm : behindInMarks op b = false) : DT X T (.Compare a [op] [b] pos) (tst (e2 k f g)) := fun W tk => pt_mono (pt_cmpR ho (ha W tk) (hb W tk) hm) fun sg H Q q => by
  have q2 := tD_tst q
  obtain ⟨ex, rho, om, env, w, er, o⟩ := q2
  exact tD_op hk ⟨ex, rho, om, env, w, er, o⟩
/-- a < b < c -/
def eChain (k k' : Dat → Dat → Om → R Dat) (f g h : DV) : DV := fun env om => (f env om).bind fun x om => (g env om).bind fun y om => (k x y om).bind fun z om => match z with
  | .bl true => (h env om).bind fun u om => k' y u om
  | .bl false => .ok (.bl false) om
  | _ => .no
theorem tD_chain {W : WX} {k k' : Dat → Dat → Om → R Dat} {r r' : R2} {sg : L2.St} {H : Hp} {Q : VK} (hk : OpD K T r k) (hk' : OpD K T r' k') (q : tD K T (Rep K T) W (eChain k k' f g h) sg H Q) : tChain r r' (tD K T (Rep K T) W f) (tD K T (Rep K T) W g) (tD K T (Rep K T) W h) sg H Q := by
  obtain ⟨ex, rho, om, env, w, er, o⟩ := q
  refine ⟨ex, rho, om, env, w, er, (Out.bind (rel := Rep K T) o).mono ?_⟩
  rintro v H1 ⟨x, om1, ex1, rho1, _, st, w1, rx, o1⟩
  refine ⟨ex1, rho1, om1, env, w1, er.step st w.sub, (Out.bind (rel := Rep K T) o1).mono ?_⟩
  rintro u H2 ⟨y, om2, ex2, rho2, _, st2, w2, ry, o2⟩
  refine hk W sg H2 ex2 rho2 om2 _ x y v u w2 (rx.step st2 w1.sub) ry ((Out.bind (rel := Rep K T) o2).mono ?_)
  rintro t H3 ⟨z, om3, ex3, rho3, _, st3, w3, rz, o3⟩
  cases rz with
  | @bl b =>
    cases b with
    | false => exact ⟨false, rfl, iteF (o3.here w3 .bl)⟩
    | true =>
      refine ⟨true, rfl, iteT ⟨ex3, rho3, om3, env, w3, ((er.step st w.sub).step st2 w1.sub).step st3 w2.sub, (Out.bind (rel := Rep K T) o3).mono ?_⟩⟩
      rintro t' H4 ⟨z', om4, ex4, rho4, _, st4, w4, rz', o4⟩
      exact hk' W sg H4 ex4 rho4 om4 Q y z' u t' w4 ((ry.step st3 w2.sub).step st4 w3.sub) rz' o4
  | _ => exact o3.elim
theorem de_chain {op op' : CmpOp} {r r' : R2} {k k' : Dat → Dat → Om → R Dat} (ho : OpR X (compareOp op) r) (ho' : OpR X (compareOp op') r') (hk : OpD X.K T r k) (hk' : OpD X.K T r' k') (ha : DE X T a f) (hb : DE X T b g) (hc : DE X T c h)
    (hm : lastMarks [op, op'] [b, c] = false := by with_unfolding_all rfl) : DE X T (.Compare a [op, op'] [b, c] pos) (eChain k k' f g h) := fun W tk => pe_mono (pe_chain ho ho' (ha W tk) (hb W tk) (hc W tk) hm) fun _ _ _ q => tD_chain hk hk' q
theorem dt_chain {op op' : CmpOp} {r r' : R2} {k k' : Dat → Dat → Om → R Dat} (ho : OpR X (compareOp op) r) (ho' : OpR X (compareOp op') r') (hk : OpD X.K T r k) (hk' : OpD X.K T r' k') (ha : DE X T a f) (hb : DE X T b g) (hc : DE X T c h)
    (hm : lastMarks [op, op'] [b, c] = false := by with_unfolding_all rfl) : DT X T (.Compare a [op, op'] [b, c] pos) (tst (eChain k k' f g h)) := fun W tk => pt_mono (pt_chain ho ho' (ha W tk) (hb W tk) (hc W tk) hm) fun sg H Q q => by
  have q2 := tD_tst q
  obtain ⟨ex, rho, om, env, w, er, o⟩ := q2
  exact tD_chain hk hk' ⟨ex, rho, om, env, w, er, o⟩

/-! ### tests in chains -/
def DW (X : Cx) (T : Ct) (e : Expr) (f : En → Om → R Bool) : Prop := ∀ W, Takes X W → PW X e (tD X.K T rB W f)
theorem pw_mono {e : Expr} {t t' : TT} (h : PW X e t) (m : ∀ sg H Q, t' sg H Q → t sg H Q) : PW X e t' := ⟨fun wh pins s sg H Q I q => h.run wh pins s sg H Q I (m sg H Q q)⟩
variable {t u : En → Om → R Bool} {rest : List Expr}
theorem dt_w (h : DW X T a t) : DT X T a t := fun W tk => (h W tk).pt
theorem dw_and1 (h : DT X T a t) : DW X T (.BoolOp .And [a] pos) t := fun W tk => pw_and1 (h W tk)
theorem dw_or1 (h : DT X T a t) : DW X T (.BoolOp .Or [a] pos) t := fun W tk => pw_or1 (h W tk)
theorem tD_and {W : WX} {sg : L2.St} {H : Hp} {Q : Bool → Hp → Prop} (h : tD K T rB W (tAndD t u) sg H Q) : L2.tAnd (tD K T rB W t) (tD K T rB W u) sg H Q := by
  obtain ⟨ex, rho, om, env, w, er, o⟩ := h
  refine ⟨ex, rho, om, env, w, er, (Out.bind (rel := rB) o).mono ?_⟩
  rintro v H1 ⟨x, om1, ex1, rho1, _, st, w1, rx, o1⟩
  cases rx
  by_cases hv : v = true
  · subst hv
    exact iteT ⟨ex1, rho1, om1, env, w1, er.step st w.sub, by simpa using o1⟩
  · have hv : v = false := by simpa using hv
    subst hv
    refine iteF ?_
    have o2 : Out K T rB W sg H1 ex1 rho1 Q (.ok false om1) := by simpa using o1
    exact o2.here w1 rfl
theorem tD_or {W : WX} {sg : L2.St} {H : Hp} {Q : Bool → Hp → Prop} (h : tD K T rB W (tOrD t u) sg H Q) : L2.tOr (tD K T rB W t) (tD K T rB W u) sg H Q := by
  obtain ⟨ex, rho, om, env, w, er, o⟩ := h
  refine ⟨ex, rho, om, env, w, er, (Out.bind (rel := rB) o).mono ?_⟩
  rintro v H1 ⟨x, om1, ex1, rho1, _, st, w1, rx, o1⟩
  cases rx
  by_cases hv : v = true
  · subst hv
    refine iteT ?_
    have o2 : Out K T rB W sg H1 ex1 rho1 Q (.ok true om1) := by simpa using o1
    exact o2.here w1 rfl
  · have hv : v = false := by simpa using hv
    subst hv
    exact iteF ⟨ex1, rho1, om1, env, w1, er.step st w.sub, by simpa using o1⟩
theorem dw_and (h : DT X T a t) (h2 : DW X T (.BoolOp .And (b :: rest) pos) u) : DW X T (.BoolOp .And (a :: b :: rest) pos) (tAndD t u) := fun W tk => pw_mono (pw_and (h W tk) (h2 W tk)) fun _ _ _ q => tD_and q
theorem dw_or (h : DT X T a t) (h2 : DW X T (.BoolOp .Or (b :: rest) pos) u) : DW X T (.BoolOp .Or (a :: b :: rest) pos) (tOrD t u) := fun W tk => pw_mono (pw_or (h W tk) (h2 W tk)) fun _ _ _ q => tD_or q
theorem dt_not (h : DT X T a t) : DT X T (.UnaryOp .Not a pos) (tNotD t) := fun W tk => pt_mono (pt_not (h W tk)) fun sg H Q q => by
  obtain ⟨ex, rho, om, env, w, er, o⟩ := q
  refine ⟨ex, rho, om, env, w, er, (Out.bind (rel := rB) o).mono ?_⟩
  rintro v H1 ⟨x, om1, ex1, rho1, _, st, w1, rx, o1⟩
  cases rx
  exact o1.here w1 rfl
/-! ### as values -/
theorem de_one {op : BoolOp} (h : DE X T a f) : DE X T (.BoolOp op [a] pos) f := fun W tk => pe_one (h W tk)
theorem de_and (h : DE X T a f) (h2 : DE X T (.BoolOp .And (b :: rest) pos) g) : DE X T (.BoolOp .And (a :: b :: rest) pos) (eAnd f g) := fun W tk => pe_mono (L2.pe_and (h W tk) (h2 W tk)) fun sg H Q q => by
  obtain ⟨ex, rho, om, env, w, er, o⟩ := q
  refine ⟨ex, rho, om, env, w, er, (Out.bind (rel := Rep X.K T) o).mono ?_⟩
  rintro v H1 ⟨x, om1, ex1, rho1, _, st, w1, rx, o1⟩
  cases rx with
  | @bl v =>
    cases v with
    | true => exact ⟨true, rfl, iteT ⟨ex1, rho1, om1, env, w1, er.step st w.sub, o1⟩⟩
    | false => exact ⟨false, rfl, iteF (o1.here w1 .bl)⟩
  | _ => exact o1.elim
theorem de_or (h : DE X T a f) (h2 : DE X T (.BoolOp .Or (b :: rest) pos) g) : DE X T (.BoolOp .Or (a :: b :: rest) pos) (eOr f g) := fun W tk => pe_mono (L2.pe_or (h W tk) (h2 W tk)) fun sg H Q q => by
  obtain ⟨ex, rho, om, env, w, er, o⟩ := q
  refine ⟨ex, rho, om, env, w, er, (Out.bind (rel := Rep X.K T) o).mono ?_⟩
  rintro v H1 ⟨x, om1, ex1, rho1, _, st, w1, rx, o1⟩
  cases rx with
  | @bl v =>
    cases v with
    | true => exact ⟨true, rfl, iteT (o1.here w1 .bl)⟩
    | false => exact ⟨false, rfl, iteF ⟨ex1, rho1, om1, env, w1, er.step st w.sub, o1⟩⟩
  | _ => exact o1.elim
def eNot (f : DV) : DV := fun env om => (f env om).bind fun d om => match d with
  | .bl b => .ok (.bl (!b)) om
  | _ => .no
theorem de_not (h : DE X T a f) : DE X T (.UnaryOp .Not a pos) (eNot f) := fun W tk => pe_mono (L2.pe_not (h W tk)) fun sg H Q q => by
  obtain ⟨ex, rho, om, env, w, er, o⟩ := q
  refine ⟨ex, rho, om, env, w, er, (Out.bind (rel := Rep X.K T) o).mono ?_⟩
  rintro v H1 ⟨x, om1, ex1, rho1, _, st, w1, rx, o1⟩
  cases rx with
  | bl => exact ⟨_, rfl, o1.here w1 .bl⟩
  | _ => exact o1.elim
theorem de_if (hc : DT X T c t) (ha : DE X T a f) (hb : DE X T b g) : DE X T (.IfExp c a b pos) (eIf t f g) := fun W tk => pe_mono (pe_ifExp (hc W tk) (ha W tk) (hb W tk)) fun sg H Q q => by
  obtain ⟨ex, rho, om, env, w, er, o⟩ := q
  refine ⟨ex, rho, om, env, w, er, (Out.bind (rel := rB) o).mono ?_⟩
  rintro v H1 ⟨x, om1, ex1, rho1, _, st, w1, rx, o1⟩
  cases rx
  by_cases hv : v = true
  · subst hv
    exact iteT ⟨ex1, rho1, om1, env, w1, er.step st w.sub, by simpa using o1⟩
  · have hv : v = false := by simpa using hv
    subst hv
    exact iteF ⟨ex1, rho1, om1, env, w1, er.step st w.sub, by simpa using o1⟩

/-! ### arguments, displays, calls -/
variable {es : List Expr} {as as' : En → Om → R (List Dat)}
theorem da_nil : DA X T [] aNil := fun W tk => pa_mono pa_nil fun sg H Q q => by
  obtain ⟨ex, rho, om, env, w, er, o⟩ := q
  exact o.here w .nil
theorem da_cons (ha : DE X T a f) (hr : DA X T es as) (hs : starEach (a :: es) X.env = (false, eval a X.env) :: starEach es X.env := by rfl) : DA X T (a :: es) (aCons f as) := fun W tk => pa_mono (pa_cons (ha W tk) (hr W tk) hs) fun sg H Q q => by
  obtain ⟨ex, rho, om, env, w, er, o⟩ := q
  refine ⟨ex, rho, om, env, w, er, (Out.bind (rel := Rep X.K T) o).mono ?_⟩
  rintro v H1 ⟨x, om1, ex1, rho1, _, st, w1, rx, o1⟩
  refine ⟨ex1, rho1, om1, env, w1, er.step st w.sub, (Out.bind (rel := Reps X.K T) o1).mono ?_⟩
  rintro vs H2 ⟨xs, om2, ex2, rho2, _, st2, w2, rxs, o2⟩
  exact o2.here w2 (.cons (rx.step st2 w1.sub) rxs)
/-- the items of a thing -/
def itemsD (om : Om) : Dat → Option (List Dat)
  | .tup xs => some xs
  | .wt xs => some xs
  | .lst xs => some xs
  | .cell i => match om[i]? with
    | some (.lst xs) => some xs
    | _ => none
  | _ => none
theorem items_sq {H : Hp} {ex : Addr → Prop} {rho : List Addr} {om : Om} {v : V} {d : Dat} {xs : List Dat} (w : WRel K T H ex rho om) (r : Rep K T H ex rho v d) (h : itemsD om d = some xs) :
    ∃ a vs, v = .ref a ∧ (SqT K H a vs ∨ SqL K H a vs) ∧ Reps K T H ex rho vs xs := by
  cases r with
  | tup q r => cases h; exact ⟨_, _, rfl, .inl q.sq, r⟩
  | wt q r => cases h; exact ⟨_, _, rfl, .inl (.inr q), r⟩
  | lst q r => cases h; exact ⟨_, _, rfl, .inr q.sq, r⟩
  | @cell a i hi =>
    unfold itemsD at h
    simp only at h
    split at h
    · rename_i ys hy
      cases h
      obtain ⟨vs, e, r⟩ := w.cells _ _ _ hi hy
      exact ⟨_, vs, rfl, .inr (.of e), r⟩
    · cases h
  | _ => cases h
def aStar (f : DV) (g : En → Om → R (List Dat)) : En → Om → R (List Dat) := fun env om => (f env om).bind fun x om => match itemsD om x with
  | some xs => (g env om).bind fun ys om => .ok (xs ++ ys) om
  | none => .no
theorem da_star {p : Pos} (ha : DE X T a f) (hr : DA X T es as) (hs : starEach (.Starred a p :: es) X.env = (true, eval a X.env) :: starEach es X.env := by rfl) : DA X T (.Starred a p :: es) (aStar f as) := fun W tk => pa_mono (StX.pa_star (ha W tk) (hr W tk) hs) fun sg H Q q => by
  obtain ⟨ex, rho, om, env, w, er, o⟩ := q
  refine ⟨ex, rho, om, env, w, er, (Out.bind (rel := Rep X.K T) o).mono ?_⟩
  rintro v H1 ⟨x, om1, ex1, rho1, _, st, w1, rx, o1⟩
  cases hi : itemsD om1 x with
  | none => rw [hi] at o1; exact o1.elim
  | some xs =>
    rw [hi] at o1
    obtain ⟨p, vs, rfl, sq, rs⟩ := items_sq w1 rx hi
    refine ⟨p, vs, rfl, sq, ex1, rho1, om1, env, w1, er.step st w.sub, (Out.bind (rel := Reps X.K T) o1).mono ?_⟩
    rintro us H2 ⟨ys, om2, ex2, rho2, _, st2, w2, rxs, o2⟩
    exact o2.here w2 ((rs.step st2 w1.sub).append rxs)
/-- a new thing is laid that is no cell -/
theorem keep_stp {H H' : Hp} {ex : Addr → Prop} {rho : List Addr} (k : ∀ a o, H a = some o → H' a = some o) : Stp H ex rho H' ex rho := ⟨⟨[], by simp, by simp⟩, fun _ h => h, fun _ h => .inl h, fun a o h _ => k a o h⟩
theorem lay_stp {H : Hp} {ex : Addr → Prop} {rho : List Addr} {p : Addr} {o : HO} (hp : H p = none) : Stp H ex rho (upd H p o) ex rho :=
  keep_stp fun a o' h => by rw [upd_ne (ne_of_none h hp)]; exact h
theorem WRel.keepAll {H H' : Hp} {ex : Addr → Prop} {rho : List Addr} {om : Om} (w : WRel K T H ex rho om) (k : ∀ a o, H a = some o → H' a = some o) : WRel K T H' ex rho om :=
  ⟨w.len, w.nd, w.sub, fun a h => let ⟨o, e, n⟩ := w.trk a h; ⟨o, k a o e, n⟩, fun i a d h1 h2 => (w.cells i a d h1 h2).step (keep_stp k) w.sub (k a)⟩
theorem WRel.lay {H : Hp} {ex : Addr → Prop} {rho : List Addr} {om : Om} {p : Addr} {o : HO} (w : WRel K T H ex rho om) (hp : H p = none) : WRel K T (upd H p o) ex rho om :=
  w.keepAll fun a o' h => by rw [upd_ne (ne_of_none h hp)]; exact h
theorem WRel.nex {H : Hp} {ex : Addr → Prop} {rho : List Addr} {om : Om} {p : Addr} (w : WRel K T H ex rho om) (hp : H p = none) : ¬ ex p := fun h => by
  obtain ⟨o, e, _⟩ := w.trk p h
  rw [hp] at e; cases e
theorem de_tup {k : Nat} (h : DA X T es as) : DE X T (.Tuple es k pos) (eTup as) := fun W tk => pe_mono (pe_tup (h W tk)) fun sg H Q q => by
  obtain ⟨ex, rho, om, env, w, er, o⟩ := q
  refine ⟨ex, rho, om, env, w, er, (Out.bind (rel := Reps X.K T) o).mono ?_⟩
  rintro vs H1 ⟨xs, om1, ex1, rho1, _, st, w1, rx, o1⟩
  by_cases hl : xs.length ≤ 1000000
  · rw [if_pos hl] at o1
    refine ⟨by rw [rx.length]; exact million_line hl, fun p hp => ?_⟩
    exact o1 _ _ _ _ (lay_stp hp) (w1.lay hp) (.tup (⟨upd_same, w1.nex hp⟩) (rx.step (lay_stp hp) w1.sub))
  · rw [if_neg hl] at o1; exact o1.elim
theorem de_lst (h : DA X T es as) : DE X T (.List es pos) (eLst as) := fun W tk => pe_mono (pe_lst (h W tk)) fun sg H Q q => by
  obtain ⟨ex, rho, om, env, w, er, o⟩ := q
  refine ⟨ex, rho, om, env, w, er, (Out.bind (rel := Reps X.K T) o).mono ?_⟩
  rintro vs H1 ⟨xs, om1, ex1, rho1, _, st, w1, rx, o1⟩
  by_cases hl : xs.length ≤ 1000000
  · rw [if_pos hl] at o1
    refine ⟨by rw [rx.length]; exact million_line hl, fun p hp => ?_⟩
    exact o1 _ _ _ _ (lay_stp hp) (w1.lay hp) (.lst ⟨upd_same, w1.nex hp⟩ (rx.step (lay_stp hp) w1.sub))
  · rw [if_neg hl] at o1; exact o1.elim
variable {k n : Nat} {fa : Addr} {fd : FuncData} {ps : List Str} {F : List Dat → Om → R Dat} {x : Str} {p : Pos} {dvs : List V} {ds : List Value} {dds : List Dat}
theorem de_call (G : FnOk X.prog X.w X.K X.mg X.base (L2.CX X.prog X.w) k fa fd ps (spD X.K T n F)) (hr : Room k X.A) (hg : Gl X x) (hm : X.mg x = some (.ref fa)) (hk : PySem.W.keepIn X.K (.ref fa) = true) (hb : Binds X.K fd ps ds) (hd : Vals dvs ds)
    (hdd : ∀ H ex rho, Reps X.K T H ex rho dvs dds) (ha : DA X T (a :: es) as) (hdb : (x == ("__debug__" : Str)) = false := by decide) (he : starEach (a :: es) X.env = (false, eval a X.env) :: starEach es X.env := by rfl)
    (hpl : (backTo pos (starEach es X.env)).any (·.1) = false := by rfl) : DE X T (.Call (.Name x p) (a :: es) [] pos) (eCall n dds F as) := fun W tk =>
  pe_mono (pe_callSD (E := fun sg c d H' => W c d sg H') G hr hg hm hk hb hd (fun sg => L2.passAt tk sg) (ha W tk) hdb he hpl) fun sg H Q q => by
  obtain ⟨ex, rho, om, env, w, er, o⟩ := q
  refine ⟨ex, rho, om, env, w, er, (Out.bind (rel := Reps X.K T) o).mono ?_⟩
  rintro vs H1 ⟨xs, om1, ex1, rho1, _, st, w1, rx, o1⟩
  by_cases hl : xs.length + dds.length = n
  · rw [if_pos hl] at o1
    refine ⟨ex1, rho1, om1, xs ++ dds, w1, rx.append (hdd _ _ _), by rw [List.length_append]; exact hl, ?_⟩
    cases hz : F (xs ++ dds) om1 with
    | ok d om2 => rw [hz] at o1; exact o1
    | exc e om2 => rw [hz] at o1; exact o1
    | no => rw [hz] at o1; exact o1
  · rw [if_neg hl] at o1; exact o1.elim
end
end DL
end Part_DL2
section Part_DL3
set_option maxRecDepth 100000
/-! statements, targets, walks, comprehensions, functions -/
namespace DL
open PySem PySem.Spec PyProof.Rows L2

section
variable {K : PySem.W.Frag} {T : Ct}
def OutS (K : PySem.W.Frag) (T : Ct) (W : WX) (D : Ends) (H : Hp) (ex : Addr → Prop) (rho : List Addr) : RS → Prop
  | .nx env om => ∀ sg' H' ex' rho', Stp H ex rho H' ex' rho' → WRel K T H' ex' rho' om → ERel K T H' ex' rho' sg' env → D.nx sg' H'
  | .brk env om => ∀ sg' H' ex' rho', Stp H ex rho H' ex' rho' → WRel K T H' ex' rho' om → ERel K T H' ex' rho' sg' env → D.bk sg' H'
  | .cnt env om => ∀ sg' H' ex' rho', Stp H ex rho H' ex' rho' → WRel K T H' ex' rho' om → ERel K T H' ex' rho' sg' env → D.ct sg' H'
  | .ret d om => ∀ v H' ex' rho', Stp H ex rho H' ex' rho' → WRel K T H' ex' rho' om → Rep K T H' ex' rho' v d → D.rt v H'
  | .exc e env om => ∀ cls dx sg' H' ex' rho', Stp H ex rho H' ex' rho' → WRel K T H' ex' rho' om → ERel K T H' ex' rho' sg' env → ERep K T H' ex' rho' cls dx e → W cls dx sg' H'
  | .no => False
def tSD (K : PySem.W.Frag) (T : Ct) (W : WX) (sd : SD) : TS := fun D sg H => ∃ ex rho om env, WRel K T H ex rho om ∧ ERel K T H ex rho sg env ∧ OutS K T W D H ex rho (sd env om)
theorem Stp.there (st : Stp H ex rho H1 ex1 rho1) {om : Om} (w : WRel K T H1 ex1 rho1 om) : ∀ x ∈ rho, ∃ o, H1 x = some o := fun x hx => by
  obtain ⟨n, e, _⟩ := st.new
  exact w.there x (by rw [e]; exact List.mem_append_left _ hx)
theorem OutS.step {W : WX} {D : Ends} {H H1 : Hp} {ex ex1 : Addr → Prop} {rho rho1 : List Addr} {om : Om} {r : RS} (st : Stp H ex rho H1 ex1 rho1) (w : WRel K T H1 ex1 rho1 om) (h : OutS K T W D H ex rho r) : OutS K T W D H1 ex1 rho1 r := by
  have there := st.there w
  cases r with
  | nx env om => exact fun sg' H' ex' rho' st' w' r => h sg' H' ex' rho' (st.trans st' there) w' r
  | brk env om => exact fun sg' H' ex' rho' st' w' r => h sg' H' ex' rho' (st.trans st' there) w' r
  | cnt env om => exact fun sg' H' ex' rho' st' w' r => h sg' H' ex' rho' (st.trans st' there) w' r
  | ret d om => exact fun v H' ex' rho' st' w' r => h v H' ex' rho' (st.trans st' there) w' r
  | exc e env om => exact fun c d sg' H' ex' rho' st' w' r => h c d sg' H' ex' rho' (st.trans st' there) w' r
  | no => exact h
/-- other ends -/
theorem OutS.mono {W : WX} {D D' : Ends} {H : Hp} {ex : Addr → Prop} {rho : List Addr} {r : RS} (h : OutS K T W D H ex rho r) (h1 : ∀ sg H, D.nx sg H → D'.nx sg H) (h2 : ∀ sg H, D.bk sg H → D'.bk sg H) (h3 : ∀ sg H, D.ct sg H → D'.ct sg H) (h4 : ∀ v H, D.rt v H → D'.rt v H) : OutS K T W D' H ex rho r := by
  cases r with
  | nx env om => exact fun sg' H' ex' rho' st' w' r => h1 _ _ (h sg' H' ex' rho' st' w' r)
  | brk env om => exact fun sg' H' ex' rho' st' w' r => h2 _ _ (h sg' H' ex' rho' st' w' r)
  | cnt env om => exact fun sg' H' ex' rho' st' w' r => h3 _ _ (h sg' H' ex' rho' st' w' r)
  | ret d om => exact fun v H' ex' rho' st' w' r => h4 _ _ (h v H' ex' rho' st' w' r)
  | exc e env om => exact h
  | no => exact h
end
def Po (X : Cx) : Prop := PassesOwn (model X.prog X.w) X.A X.env X.xe
def DS (X : Cx) (T : Ct) (st : Stmt) (sd : SD) : Prop := ∀ W, Takes X W → Po X → PS X st (tSD X.K T W sd)
def DSs (X : Cx) (T : Ct) (st : List Stmt) (sd : SD) : Prop := ∀ W, Takes X W → Po X → PSs X st (tSD X.K T W sd)
section
variable {X : Cx}
theorem ps_mono {e : Stmt} {t t' : TS} (h : PS X e t) (m : ∀ D sg H, t' D sg H → t D sg H) : PS X e t' := ⟨fun pins s sg H D I q => h.run pins s sg H D I (m D sg H q)⟩
theorem pss_mono {e : List Stmt} {t t' : TS} (h : PSs X e t) (m : ∀ D sg H, t' D sg H → t D sg H) : PSs X e t' := ⟨fun pins s sg H D I q => h.run pins s sg H D I (m D sg H q)⟩
end

def rs (k : Dat → Om → RS) (env : En) : R Dat → RS
  | .ok d om => k d om
  | .exc e om => .exc e env om
  | .no => .no
def sNil : SD := fun env om => .nx env om
def sSeq (s1 s2 : SD) : SD := fun env om => match s1 env om with
  | .nx e o => s2 e o
  | .brk e o => .brk e o
  | .cnt e o => .cnt e o
  | .ret d o => .ret d o
  | .exc x e o => .exc x e o
  | .no => .no
def sRet (f : DV) : SD := fun env om => rs (fun d om => .ret d om) env (f env om)
def sRetN : SD := fun _ om => .ret .non om
def sIf (t : En → Om → R Bool) (a b : SD) : SD := fun env om => match t env om with
  | .ok true om => a env om
  | .ok false om => b env om
  | .exc e om => .exc e env om
  | .no => .no
def sExpr (f : DV) : SD := fun env om => rs (fun _ om => .nx env om) env (f env om)
abbrev GD := Dat → En → Om → R En
abbrev GDs := List Dat → En → Om → R En
def gN (i : Nat) : GD := fun d env om => .ok (env.set i (some d)) om
def gsN : GDs := fun ds env om => match ds with
  | [] => .ok env om
  | _ => .no
def gsC (g : GD) (gs : GDs) : GDs := fun ds env om => match ds with
  | d :: r => (g d env om).bind fun env om => gs r env om
  | [] => .no
def gT (n : Nat) (gs : GDs) : GD := fun d env om => match itemsD om d with
  | some xs => if xs.length = n then gs xs env om else .no
  | none => .no
def sAsg (f : DV) (g : GD) : SD := fun env om => rs (fun d om => match g d env om with
  | .ok env om => .nx env om
  | _ => .no) env (f env om)

section
variable {K : PySem.W.Frag} {T : Ct} {X : Cx} {st : Stmt} {rest : List Stmt} {s1 s2 : SD} {e : Expr} {f : DV} {pos : Pos} {t : En → Om → R Bool}
/-- a value's outcome into a statement's -/
theorem tD_rs {W : WX} {k : Dat → Om → RS} {D : Ends} {sg : L2.St} {H : Hp} {ex : Addr → Prop} {rho : List Addr} {env : En} {r : R Dat} {Q : VK} (er : ERel K T H ex rho sg env) (w : ∀ x ∈ rho, ex x) (h : OutS K T W D H ex rho (rs k env r))
    (m : ∀ d om v H1 ex1 rho1, r = .ok d om → Stp H ex rho H1 ex1 rho1 → WRel K T H1 ex1 rho1 om → Rep K T H1 ex1 rho1 v d → OutS K T W D H1 ex1 rho1 (k d om) → Q v H1) : Out K T (Rep K T) W sg H ex rho Q r := by
  cases r with
  | ok d om => exact fun v H1 ex1 rho1 st w1 rv => m d om v H1 ex1 rho1 rfl st w1 rv (OutS.step st w1 h)
  | exc e om => exact fun c dx H1 ex1 rho1 st w1 re => h c dx sg H1 ex1 rho1 st w1 (er.step st w) re
  | no => exact h
theorem dss_nil : DSs X T [] sNil := fun W tk po => pss_mono pss_nil fun D sg H ⟨ex, rho, om, env, w, er, o⟩ => o _ _ _ _ .refl w er
theorem tSD_seq {W : WX} {D : Ends} {sg : L2.St} {H : Hp} (h : tSD K T W (sSeq s1 s2) D sg H) : tSeq (tSD K T W s1) (tSD K T W s2) D sg H := by
  obtain ⟨ex, rho, om, env, w, er, o⟩ := h
  refine ⟨ex, rho, om, env, w, er, ?_⟩
  unfold sSeq at o
  cases hr : s1 env om with
  | nx env1 om1 =>
    rw [hr] at o
    exact fun sg' H' ex' rho' st w' er' => ⟨ex', rho', om1, env1, w', er', OutS.step st w' o⟩
  | _ => rw [hr] at o; exact o
theorem dss_cons (h1 : DS X T st s1) (h2 : DSs X T rest s2) : DSs X T (st :: rest) (sSeq s1 s2) := fun W tk po => pss_mono (pss_cons (h1 W tk po) (h2 W tk po)) fun _ _ _ h => tSD_seq h
theorem dss_one (h1 : DS X T st s1) : DSs X T [st] s1 := fun W tk po => pss_mono (pss_one (h1 W tk po)) fun _ _ _ h => h
theorem ds_ret (h : DE X T e f) : DS X T (.Return (some e) pos) (sRet f) := fun W tk po => ps_mono (ps_ret (h W tk)) fun D sg H ⟨ex, rho, om, env, w, er, o⟩ =>
  ⟨ex, rho, om, env, w, er, tD_rs er w.sub o fun d om v H1 ex1 rho1 _ st w1 rv o1 => o1 v _ _ _ .refl w1 rv⟩
theorem ds_retN : DS X T (.Return none pos) sRetN := fun W tk po => ps_mono ps_retN fun D sg H ⟨ex, rho, om, env, w, er, o⟩ => o _ _ _ _ .refl w .non
theorem ds_pass : DS X T (.Pass pos) sNil := fun W tk po => ps_mono ps_pass fun D sg H ⟨ex, rho, om, env, w, er, o⟩ => o _ _ _ _ .refl w er
theorem ds_expr (h : DE X T e f) (hs : swapsWith e none pos.line X.env = pure false := by rfl) : DS X T (.Expr e pos) (sExpr f) := fun W tk po => ps_mono (ps_expr (h W tk) hs) fun D sg H ⟨ex, rho, om, env, w, er, o⟩ =>
  ⟨ex, rho, om, env, w, er, tD_rs er w.sub o fun d om v H1 ex1 rho1 _ st w1 rv o1 => o1 sg _ _ _ .refl w1 (er.step st w.sub)⟩
theorem ds_if {c : Expr} {a b : List Stmt} (hc : DT X T c t) (ha : DSs X T a s1) (hb : DSs X T b s2) : DS X T (.If c a b pos) (sIf t s1 s2) := fun W tk po => ps_mono (ps_if (hc W tk) (ha W tk po) (hb W tk po)) fun D sg H ⟨ex, rho, om, env, w, er, o⟩ => by
  refine ⟨ex, rho, om, env, w, er, ?_⟩
  unfold sIf at o
  cases hr : t env om with
  | ok b om1 =>
    rw [hr] at o
    intro b' H1 ex1 rho1 st w1 rv
    cases rv
    cases b with
    | true => exact iteT ⟨ex1, rho1, om1, env, w1, er.step st w.sub, OutS.step st w1 o⟩
    | false => exact iteF ⟨ex1, rho1, om1, env, w1, er.step st w.sub, OutS.step st w1 o⟩
  | exc x om1 => rw [hr] at o; exact fun c dx H1 ex1 rho1 st w1 re => o c dx sg H1 ex1 rho1 st w1 (er.step st w.sub) re
  | no => rw [hr] at o; exact o.elim

/-! ### targets -/
def OutG (K : PySem.W.Frag) (T : Ct) (vs : List Nat) (sg : L2.St) (H : Hp) (ex : Addr → Prop) (rho : List Addr) (Q : L2.St → Hp → Prop) : R En → Prop
  | .ok env om => ∀ sg' H' ex' rho', wipe sg' vs = wipe sg vs → Stp H ex rho H' ex' rho' → WRel K T H' ex' rho' om → ERel K T H' ex' rho' sg' env → Q sg' H'
  | _ => False
theorem OutG.step {H H1 : Hp} {ex ex1 : Addr → Prop} {rho rho1 : List Addr} {om : Om} {r : R En} {Q : L2.St → Hp → Prop} {vs : List Nat} {sg sg1 : L2.St} (st : Stp H ex rho H1 ex1 rho1) (w : WRel K T H1 ex1 rho1 om) (e : wipe sg1 vs = wipe sg vs) (h : OutG K T vs sg H ex rho Q r) : OutG K T vs sg1 H1 ex1 rho1 Q r := by
  cases r with
  | ok env om => exact fun sg' H' ex' rho' e' st' w' r => h sg' H' ex' rho' (e'.trans e) (st.trans st' (st.there w)) w' r
  | _ => exact h
def tG (K : PySem.W.Frag) (T : Ct) (ws : List Nat) (g : GD) : TG := fun v sg H Q => ∃ ex rho om env d, WRel K T H ex rho om ∧ ERel K T H ex rho sg env ∧ Rep K T H ex rho v d ∧ OutG K T ws sg H ex rho Q (g d env om)
def tGs (K : PySem.W.Frag) (T : Ct) (ws : List Nat) (g : GDs) : TGs := fun vs sg H Q => ∃ ex rho om env ds, WRel K T H ex rho om ∧ ERel K T H ex rho sg env ∧ Reps K T H ex rho vs ds ∧ OutG K T ws sg H ex rho Q (g ds env om)
def DG (X : Cx) (T : Ct) (ws : List Nat) (tg : Expr) (g : GD) : Prop := ∀ W, Takes X W → PG X tg (tG X.K T ws g)
def DGs (X : Cx) (T : Ct) (ws : List Nat) (tg : List Expr) (g : GDs) : Prop := ∀ W, Takes X W → PGs X tg (tGs X.K T ws g)
theorem pg_mono {tg : Expr} {t t' : TG} (h : PG X tg t) (m : ∀ v sg H Q, t' v sg H Q → t v sg H Q) : PG X tg t' := ⟨fun pins s sg H v u Q I r q => h.run pins s sg H v u Q I r (m v sg H Q q)⟩
theorem pgs_mono {tg : List Expr} {t t' : TGs} (h : PGs X tg t) (m : ∀ v sg H Q, t' v sg H Q → t v sg H Q) : PGs X tg t' := ⟨fun pins s sg H v u Q I r q => h.run pins s sg H v u Q I r (m v sg H Q q)⟩
theorem pg_or {tg : Expr} {t t' : TG} (h : PG X tg t) (h' : PG X tg t') : PG X tg (fun v sg H Q => t v sg H Q ∨ t' v sg H Q) := ⟨fun pins s sg H v u Q I r q => q.elim (h.run pins s sg H v u Q I r) (h'.run pins s sg H v u Q I r)⟩
theorem ERel.set {H : Hp} {ex : Addr → Prop} {rho : List Addr} {sg : L2.St} {env : En} (er : ERel K T H ex rho sg env) (i : Nat) {v : V} {d : Dat} (r : Rep K T H ex rho v d) : ERel K T H ex rho (sg.set i (some v)) (env.set i (some d)) := by
  refine ⟨by simp [er.1], fun j x hj => ?_⟩
  by_cases hij : i = j
  · subst hij
    have hl : i < env.length := by
      have := (List.getElem?_eq_some_iff.mp hj).1
      simpa using this
    rw [List.getElem?_set_self hl] at hj
    cases hj
    exact ⟨v, by rw [List.getElem?_set_self (by rw [er.1]; exact hl)], r⟩
  · rw [List.getElem?_set_ne hij] at hj
    obtain ⟨v', h1, h2⟩ := er.2 j x hj
    exact ⟨v', by rw [List.getElem?_set_ne hij]; exact h1, h2⟩
theorem wipe_get {sg : L2.St} {j : Nat} : ∀ {vs : List Nat}, (wipe sg vs)[j]? = if j ∈ vs ∧ j < sg.length then some none else sg[j]?
  | [] => by simp [wipe]
  | v :: vs => by
    unfold wipe
    by_cases h : v = j
    · subst h
      by_cases hl : v < sg.length
      · rw [List.getElem?_set_self (by rw [wipe_length]; exact hl), if_pos ⟨by simp, hl⟩]
      · rw [if_neg (fun z => hl z.2), List.getElem?_eq_none (by rw [List.length_set, wipe_length]; omega), List.getElem?_eq_none (by omega)]
    · rw [List.getElem?_set_ne h, wipe_get]
      have : (j ∈ v :: vs ∧ j < sg.length) ↔ (j ∈ vs ∧ j < sg.length) := by
        rw [List.mem_cons]
        exact ⟨fun ⟨a, b⟩ => ⟨a.elim (fun e => absurd e.symm h) id, b⟩, fun ⟨a, b⟩ => ⟨.inr a, b⟩⟩
      simp only [this]
theorem wipe_set {sg : L2.St} {i : Nat} {v : Option V} {vs : List Nat} (h : i ∈ vs) : wipe (sg.set i v) vs = wipe sg vs := by
  apply List.ext_getElem?
  intro j
  rw [wipe_get, wipe_get, List.length_set]
  by_cases hj : j ∈ vs ∧ j < sg.length
  · rw [if_pos hj, if_pos hj]
  · rw [if_neg hj, if_neg hj]
    by_cases e : i = j
    · subst e
      have hl : ¬ i < sg.length := fun z => hj ⟨h, z⟩
      rw [List.getElem?_eq_none (by rw [List.length_set]; omega), List.getElem?_eq_none (by omega)]
    · rw [List.getElem?_set_ne e]
theorem wipe_wipe {sg : L2.St} {vs : List Nat} : wipe (wipe sg vs) vs = wipe sg vs := by
  apply List.ext_getElem?
  intro j
  rw [wipe_get, wipe_length]
  by_cases hj : j ∈ vs ∧ j < sg.length
  · rw [if_pos hj, wipe_get, if_pos hj]
  · rw [if_neg hj]
theorem dg_name {i : Nat} {x : Str} {ws : List Nat} (h : PG X (.Name x pos) (gName i)) (hi : i ∈ ws) : DG X T ws (.Name x pos) (gN i) := fun _ _ => pg_mono h fun v sg H Q ⟨ex, rho, om, env, d, w, er, r, o⟩ => o _ _ _ _ (wipe_set hi) .refl w (er.set i r)
theorem dgs_nil {ws : List Nat} : DGs X T ws [] gsN := fun _ _ => pgs_mono pgs_nil fun vs sg H Q ⟨ex, rho, om, env, ds, w, er, r, o⟩ => by
  cases r with
  | nil => exact ⟨rfl, o _ _ _ _ rfl .refl w er⟩
  | cons _ _ => exact o.elim
theorem dgs_cons {tg : Expr} {tgs : List Expr} {g : GD} {gs : GDs} {ws : List Nat} (h : DG X T ws tg g) (h2 : DGs X T ws tgs gs) (hs : (assignEach (tg :: tgs) X.env).map (·.2) = assign tg X.env :: (assignEach tgs X.env).map (·.2) := by rfl) : DGs X T ws (tg :: tgs) (gsC g gs) := fun W tk => pgs_mono (pgs_cons (h W tk) (h2 W tk) hs) fun vs sg H Q ⟨ex, rho, om, env, ds, w, er, r, o⟩ => by
  cases r with
  | nil => exact o.elim
  | @cons v d vs ds r rr =>
    refine ⟨v, vs, rfl, ex, rho, om, env, d, w, er, r, ?_⟩
    unfold gsC at o
    simp only at o
    cases hr : g d env om with
    | ok env1 om1 =>
      rw [hr] at o
      exact fun sg' H' ex' rho' e st w' er' => ⟨ex', rho', om1, env1, ds, w', er', rr.step st w.sub, OutG.step st w' e o⟩
    | _ => rw [hr] at o; exact o.elim
theorem dg_tup {es : List Expr} {k : Nat} {gs : GDs} {n : Nat} {ws : List Nat} (hc : X.calm = true) (h : DGs X T ws es gs) (hn : (assignEach es X.env).length = n := by rfl) (hst : (assignEach es X.env).findIdx? (·.1) = none := by rfl) : DG X T ws (.Tuple es k pos) (gT n gs) :=
  fun W tk => pg_mono (pg_or (pg_tup hc (h W tk) hn hst) (pg_lst hc (h W tk) hn hst)) fun v sg H Q ⟨ex, rho, om, env, d, w, er, r, o⟩ => by
  unfold gT at o
  cases hi : itemsD om d with
  | none => rw [hi] at o; exact o.elim
  | some xs =>
    rw [hi] at o
    simp only at o
    by_cases hl : xs.length = n
    · rw [if_pos hl] at o
      obtain ⟨p, vs, rfl, sq, rs⟩ := items_sq w r hi
      have hv : vs.length = n := rs.length.trans hl
      rcases sq with sq | sq
      · exact .inl ⟨p, vs, rfl, sq, hv, ex, rho, om, env, xs, w, er, rs, o⟩
      · exact .inr ⟨p, vs, rfl, sq, hv, ex, rho, om, env, xs, w, er, rs, o⟩
    · rw [if_neg hl] at o; exact o.elim
theorem ds_asg {tg : Expr} {g : GD} {ws : List Nat} (he : DE X T e f) (hg : DG X T ws tg g) (hs : swapsWithSole [tg] e pos.line X.env = pure false := by rfl) (hw : swappedStores [tg] e X.env = pure none := by rfl)
    (h1 : (assignEach [tg] X.env).map (·.2) = [assign tg X.env] := by rfl) : DS X T (.Assign [tg] e pos) (sAsg f g) := fun W tk po => ps_mono (ps_asg (he W tk) (hg W tk) hs hw h1) fun D sg H ⟨ex, rho, om, env, w, er, o⟩ =>
  ⟨ex, rho, om, env, w, er, tD_rs er w.sub o fun d om v H1 ex1 rho1 _ st w1 rv o1 => ⟨ex1, rho1, om, env, d, w1, er.step st w.sub, rv, by
    cases hr : g d env om with
    | ok env1 om1 => rw [hr] at o1; exact fun sg' H' ex' rho' _ => o1 sg' H' ex' rho'
    | _ => rw [hr] at o1; exact o1.elim⟩⟩
end
end DL
end Part_DL3
section Part_DL4
set_option maxRecDepth 100000
/-! walks, for, comprehensions, functions -/
namespace DL
open PySem PySem.Spec PyProof.Rows L2

/-- a thing that is walked gives just these data -/
def WalkD (K : PySem.W.Frag) (T : Ct) (H0 : Hp) (ex0 : Addr → Prop) (rho0 : List Addr) (J : It) (xs : List Dat) : Prop := ∃ (G : Hp → Prop) (Y : Nat → Hp → V → Hp → Prop), Walk J xs.length G Y ∧
  (∀ H ex rho, Stp H0 ex0 rho0 H ex rho → G H) ∧ ∀ i H x H' ex rho om, i < xs.length → Stp H0 ex0 rho0 H ex rho → WRel K T H ex rho om → Y i H x H' → (∀ a o, H a = some o → H' a = some o) ∧ ∃ d, xs[i]? = some d ∧ Rep K T H' ex rho x d
def DI (X : Cx) (T : Ct) (tg iter : Expr) (fi : En → Om → R (List Dat)) : Prop := ∀ W, Takes X W → PI X tg iter (tD X.K T (WalkD X.K T) W fi)

def forL (g : GD) (b : SD) : List Dat → En → Om → RS
  | [], env, om => .nx env om
  | x :: xs, env, om => match g x env om with
    | .ok env om => match b env om with
      | .nx env om => forL g b xs env om
      | .cnt env om => forL g b xs env om
      | .brk env om => .nx env om
      | .ret d om => .ret d om
      | .exc e env om => .exc e env om
      | .no => .no
    | _ => .no
def sFor (fi : En → Om → R (List Dat)) (g : GD) (b : SD) : SD := fun env om => match fi env om with
  | .ok xs om => forL g b xs env om
  | .exc e om => .exc e env om
  | .no => .no
def sBrk : SD := fun env om => .brk env om
def sCnt : SD := fun env om => .cnt env om

section
variable {K : PySem.W.Frag} {T : Ct} {X : Cx}
theorem pi_mono {tg iter : Expr} {t t' : TI} (h : PI X tg iter t) (m : ∀ sg H Q, t' sg H Q → t sg H Q) : PI X tg iter t' := ⟨fun pins s sg H R I q => h.run pins s sg H R I (m sg H R q)⟩
theorem ds_brk {pos : Pos} : DS X T (.Break pos) sBrk := fun W tk po => ps_mono ps_break fun D sg H ⟨ex, rho, om, env, w, er, o⟩ => o _ _ _ _ .refl w er
theorem ds_cnt {pos : Pos} : DS X T (.Continue pos) sCnt := fun W tk po => ps_mono ps_continue fun D sg H ⟨ex, rho, om, env, w, er, o⟩ => o _ _ _ _ .refl w er
theorem ds_for {tg iter : Expr} {body : List Stmt} {fi : En → Om → R (List Dat)} {g : GD} {b : SD} {pos : Pos} {ws : List Nat} (hc : X.calm = true) (hi : DI X T tg iter fi) (hg : DG X T ws tg g) (hb : DSs X T body b)
    (hs : ∀ x, foldedSetIterable iter X.env x = pure x := by intro _; rfl) : DS X T (.For tg iter body [] pos) (sFor fi g b) := fun W tk po => ps_mono (ps_for po hc (hi W tk) (hg W tk) (hb W tk po) hs) fun D sg H ⟨ex, rho, om, env, w, er, o⟩ => by
  refine ⟨ex, rho, om, env, w, er, ?_⟩
  unfold sFor at o
  cases hr : fi env om with
  | exc x om1 => rw [hr] at o; exact fun c dx H1 ex1 rho1 st w1 re => o c dx sg H1 ex1 rho1 st w1 (er.step st w.sub) re
  | no => rw [hr] at o; exact o.elim
  | ok xs om1 =>
    rw [hr] at o
    simp only at o
    rintro J H1 ex1 rho1 st w1 ⟨G, Y, wk, hG, hY⟩
    refine for_it wk (fun i sg H => ∃ ex rho om env, Stp H1 ex1 rho1 H ex rho ∧ WRel X.K T H ex rho om ∧ ERel X.K T H ex rho sg env ∧ OutS X.K T W D H ex rho (forL g b (xs.drop i) env om))
      ⟨ex1, rho1, om1, env, .refl, w1, er.step st w.sub, OutS.step st w1 o⟩ (fun i sg H _ ⟨ex, rho, om, env, st, _⟩ => hG H ex rho st) (fun i x sg H H' hi ⟨ex, rho, om, env, st1, w2, er2, o2⟩ y => ?_) (fun sg H ⟨ex, rho, om, env, st1, w2, er2, o2⟩ => ?_)
    · obtain ⟨k, d, hd, rx⟩ := hY i H x H' ex rho om hi st1 w2 y
      have w3 := w2.keepAll k
      have st3 : Stp H ex rho H' ex rho := keep_stp k
      have e : xs.drop i = d :: xs.drop (i + 1) := by
        obtain ⟨hl, he⟩ := List.getElem?_eq_some_iff.mp hd
        rw [List.drop_eq_getElem_cons hl, he]
      rw [e] at o2
      unfold forL at o2
      refine ⟨ex, rho, om, env, d, w3, er2.step st3 w2.sub, rx, ?_⟩
      cases hg : g d env om with
      | ok env4 om4 =>
        rw [hg] at o2
        simp only at o2
        intro sg' H4 ex4 rho4 _ st4 w4 er4
        refine ⟨ex4, rho4, om4, env4, w4, er4, ?_⟩
        have st13 : Stp H1 ex1 rho1 H' ex rho := st1.trans st3 (st1.there w2)
        have st14 : Stp H1 ex1 rho1 H4 ex4 rho4 := st13.trans st4 (st13.there w3)
        have o4 := OutS.step (st3.trans st4 (st3.there w3)) w4 o2
        have again : ∀ env5 om5, OutS X.K T W D H4 ex4 rho4 (forL g b (xs.drop (i + 1)) env5 om5) → ∀ sg' H' ex' rho', Stp H4 ex4 rho4 H' ex' rho' → WRel X.K T H' ex' rho' om5 → ERel X.K T H' ex' rho' sg' env5 →
            ∃ ex rho om env, Stp H1 ex1 rho1 H' ex rho ∧ WRel X.K T H' ex rho om ∧ ERel X.K T H' ex rho sg' env ∧ OutS X.K T W D H' ex rho (forL g b (xs.drop (i + 1)) env om) :=
          fun env5 om5 o5 sg' H' ex' rho' st5 w5 er5 => ⟨ex', rho', om5, env5, st14.trans st5 (st14.there w4), w5, er5, OutS.step st5 w5 o5⟩
        cases hb : b env4 om4 with
        | nx env5 om5 => rw [hb] at o4; exact again env5 om5 o4
        | cnt env5 om5 => rw [hb] at o4; exact again env5 om5 o4
        | brk env5 om5 => rw [hb] at o4; exact o4
        | ret d om5 => rw [hb] at o4; exact o4
        | exc e env5 om5 => rw [hb] at o4; exact o4
        | no => rw [hb] at o4; exact o4.elim
      | _ => rw [hg] at o2; exact o2.elim
    · rw [List.drop_length] at o2
      exact o2 _ _ _ _ .refl w2 er2
end
end DL
end Part_DL4
section Part_DL5
set_option maxRecDepth 100000
/-! comprehensions -/
namespace DL
open PySem PySem.Spec PyProof.Rows L2

def wipeE (env : En) : List Nat → En
  | [] => env
  | v :: vs => (wipeE env vs).set v none
def lcL (g : GD) (t : En → Om → R Bool) (f : DV) : List Dat → En → Om → List Dat → R (List Dat)
  | [], _, om, acc => .ok acc om
  | x :: xs, env, om, acc => match g x env om with
    | .ok env1 om => match t env1 om with
      | .ok true om => match f env1 om with
        | .ok y om => if acc.length < 1000000 then lcL g t f xs env om (acc ++ [y]) else .no
        | _ => .no
      | .ok false om => lcL g t f xs env om acc
      | _ => .no
    | _ => .no
def eLc (fi : En → Om → R (List Dat)) (g : GD) (t : En → Om → R Bool) (f : DV) (own : List Nat) : DV := fun env om => (fi env om).bind fun xs om => (lcL g t f xs (wipeE env own) om []).bind fun ys om => .ok (.lst ys) om
def tYesD : En → Om → R Bool := fun _ om => .ok true om
def DTs (X : Cx) (T : Ct) (ifs : List Expr) (t : En → Om → R Bool) : Prop := ∀ W, Takes X W → PTs X ifs (tD X.K T rB W t)

section
variable {K : PySem.W.Frag} {T : Ct} {X : Cx}
theorem dts_nil : DTs X T [] tYesD := fun W tk => ⟨fun pins s sg H Q I ⟨ex, rho, om, env, w, er, o⟩ => pts_nil.run pins s sg H Q I (o.here w rfl)⟩
theorem dts_one {c : Expr} {t : En → Om → R Bool} (h : DT X T c t) : DTs X T [c] t := fun W tk => pts_one (h W tk)
theorem ERel.unset {H : Hp} {ex : Addr → Prop} {rho : List Addr} {sg : L2.St} {env : En} (er : ERel K T H ex rho sg env) (i : Nat) (v : Option V) : ERel K T H ex rho (sg.set i v) (env.set i none) := by
  refine ⟨by simp [er.1], fun j x hj => ?_⟩
  by_cases hij : i = j
  · subst hij
    by_cases hl : i < env.length
    · rw [List.getElem?_set_self hl] at hj; cases hj
    · rw [List.getElem?_eq_none (by rw [List.length_set]; omega)] at hj; cases hj
  · rw [List.getElem?_set_ne hij] at hj
    obtain ⟨v', h1, h2⟩ := er.2 j x hj
    exact ⟨v', by rw [List.getElem?_set_ne hij]; exact h1, h2⟩
theorem ERel.wipe {H : Hp} {ex : Addr → Prop} {rho : List Addr} {sg : L2.St} {env : En} (er : ERel K T H ex rho sg env) : ∀ vs : List Nat, ERel K T H ex rho (L2.wipe sg vs) (wipeE env vs)
  | [] => er
  | v :: vs => (ERel.wipe er vs).unset v none
/-- what is excluded may change without harm to what is known -/
theorem rd_upd {H : Hp} {ex : Addr → Prop} {D a : Addr} {o u : HO} (hD : ex D) (h : Rd H a u) (n : ¬ ex a) : Rd (upd H D o) a u := by
  have ne : a ≠ D := fun z => n (z ▸ hD)
  rcases h with h | ⟨ob, h⟩
  · exact .inl (by rw [upd_ne ne]; exact h)
  · exact .inr ⟨ob, by rw [upd_ne ne]; exact h⟩
theorem at_upd {H : Hp} {ex : Addr → Prop} {D a : Addr} {o u : HO} (hD : ex D) (h : H a = some u) (n : ¬ ex a) : upd H D o a = some u := by
  have ne : a ≠ D := fun z => n (by rw [z]; exact hD)
  rw [upd_ne ne]; exact h
mutual
theorem Rep.upd {H : Hp} {ex : Addr → Prop} {rho : List Addr} {D : Addr} {o : HO} (hD : ex D) : ∀ {v : V} {d : Dat}, Rep K T H ex rho v d → Rep K T (upd H D o) ex rho v d
  | _, _, .non => .non
  | _, _, .bl => .bl
  | _, _, .int => .int
  | _, _, .str h => .str h
  | _, _, .tup h r => .tup ⟨at_upd hD h.1 h.2, h.2⟩ (Reps.upd hD r)
  | _, _, .wt h r => .wt h (Reps.upd hD r)
  | _, _, .lst h r => .lst ⟨at_upd hD h.1 h.2, h.2⟩ (Reps.upd hD r)
  | _, _, .frl h n r => .frl (at_upd hD h n) n (Reps.upd hD r)
  | _, _, .dctK h n r e => .dctK (at_upd hD h n) n (Reps.upd hD r) e
  | _, _, .dctT h n r e => .dctT (at_upd hD h n) n (Reps.upd hD r) e
  | _, _, .ins hc h n hl r => .ins hc (at_upd hD h n) n hl (Reps.upd hD r)
  | _, _, .cell h => .cell h
theorem Reps.upd {H : Hp} {ex : Addr → Prop} {rho : List Addr} {D : Addr} {o : HO} (hD : ex D) : ∀ {vs : List V} {ds : List Dat}, Reps K T H ex rho vs ds → Reps K T (upd H D o) ex rho vs ds
  | _, _, .nil => .nil
  | _, _, .cons r t => .cons (Rep.upd hD r) (Reps.upd hD t)
end
theorem CRep.upd {H : Hp} {ex : Addr → Prop} {rho : List Addr} {D a : Addr} {o : HO} {d : Dat} (hD : ex D) (ne : a ≠ D) (c : CRep K T H ex rho a d) : CRep K T (upd H D o) ex rho a d := by
  cases d with
  | lst xs => obtain ⟨vs, e, r⟩ := c; exact ⟨vs, by rw [upd_ne ne]; exact e, r.upd hD⟩
  | dct ks ds =>
    rcases c with ⟨kvs, e, r, z⟩ | ⟨kvs, e, r, z⟩
    · exact .inl ⟨kvs, by rw [upd_ne ne]; exact e, r.upd hD, z⟩
    · exact .inr ⟨kvs, by rw [upd_ne ne]; exact e, r.upd hD, z⟩
  | ins c ds => obtain ⟨C, dx, vs, h1, e, h3, r⟩ := c; exact ⟨C, dx, vs, h1, by rw [upd_ne ne]; exact e, h3, r.upd hD⟩
  | _ => trivial
theorem WRel.updEx {H : Hp} {ex : Addr → Prop} {rho : List Addr} {om : Om} {D : Addr} {o : HO} (w : WRel K T H ex rho om) (hD : ex D) (nD : D ∉ rho) (ho : NoTup o := by exact fun _ z => nomatch z) : WRel K T (upd H D o) ex rho om :=
  ⟨w.len, w.nd, w.sub, fun a h => by
    by_cases e : a = D
    · subst e; exact ⟨o, upd_same, ho⟩
    · rw [upd_ne e]; exact w.trk a h, fun i a d h1 h2 => (w.cells i a d h1 h2).upd hD fun z => nD (z ▸ List.mem_of_getElem? h1)⟩
theorem WRel.weak {H : Hp} {ex ex' : Addr → Prop} {rho : List Addr} {om : Om} (w : WRel K T H ex rho om) (m : ∀ a, ex' a → ex a) (s : ∀ a ∈ rho, ex' a) : WRel K T H ex' rho om :=
  ⟨w.len, w.nd, s, fun a h => w.trk a (m a h), fun i a d h1 h2 => (w.cells i a d h1 h2).weak m⟩

theorem tD_lc {W : WX} {fi : En → Om → R (List Dat)} {g : GD} {t : En → Om → R Bool} {f : DV} {own : List Nat} {sg : L2.St} {H : Hp} {Q : VK} {Wb : WX} (h : tD K T (Rep K T) W (eLc fi g t f own) sg H Q) :
    tLc (tD K T (WalkD K T) W fi) (tG K T own g) (tD K T rB Wb t) (tD K T (Rep K T) Wb f) own sg H Q := by
  obtain ⟨ex, rho, om, env, w, er, o⟩ := h
  refine ⟨ex, rho, om, env, w, er, (Out.bind (rel := WalkD K T) o).mono ?_⟩
  rintro J H1 ⟨xs, om1, ex1, rho1, _, st0, w1, ⟨G, Y, wk, hG, hY⟩, o1⟩ D hD
  have nD1 : ¬ ex1 D := w1.nex hD
  have er1 := (er.step st0 w.sub).wipe own
  -- the loop's end as it stands at each turn
  cases hfin : lcL g t f xs (wipeE env own) om1 [] with
  | exc x om2 =>
    -- no exception comes out of the loop
    exfalso
    have no : ∀ (xs : List Dat) (om : Om) (acc : List Dat) (env : En), lcL g t f xs env om acc ≠ .exc x om2 := by
      intro xs
      induction xs with
      | nil => intro om acc env z; cases z
      | cons x xs ih =>
        intro om acc env
        unfold lcL
        repeat' split
        all_goals first | exact ih _ _ _ | exact fun z => by cases z
    exact no _ _ _ _ hfin
  | no => rw [hfin] at o1; exact o1.elim
  | ok ys omF =>
    rw [hfin] at o1
    refine lc_it wk (fun i H => ∃ ex rho om acc vs, Stp H1 ex1 rho1 H ex rho ∧ WRel K T H ex rho om ∧ ex D ∧ D ∉ rho ∧ H D = some (.lst vs) ∧ Reps K T H ex rho vs acc ∧ lcL g t f (xs.drop i) (wipeE env own) om acc = .ok ys omF)
      ?_ (fun i H _ ⟨ex, rho, om, acc, vs, st, _⟩ => hG H ex rho st) (fun i x H H' hi ⟨ex, rho, om, acc, vs, st1, w2, hx, hr, hl, ra, eq⟩ y => ?_) (fun H ⟨ex, rho, om, acc, vs, st1, w2, hx, hr, hl, ra, eq⟩ => ?_)
    · refine ⟨fun a => ex1 a ∨ a = D, rho1, om1, [], [], ⟨⟨[], by simp, by simp⟩, fun a h => .inl h, fun a h => h.elim .inl fun e => .inr (e ▸ hD), fun a ob h _ => by rw [upd_ne (ne_of_none h hD)]; exact h⟩, ?_, .inr rfl, fun z => nD1 (w1.sub _ z), upd_same, .nil, hfin⟩
      have hDex : (fun a => ex1 a ∨ a = D) D := .inr rfl
      refine ⟨w1.len, w1.nd, fun a h => .inl (w1.sub a h), fun a h => ?_, fun i a d h1 h2 => ?_⟩
      · by_cases e : a = D
        · subst e; exact ⟨_, upd_same, fun _ z => nomatch z⟩
        · rw [upd_ne e]; exact w1.trk a (h.resolve_right e)
      · have st : Stp H1 ex1 rho1 (L2.upd H1 D (.lst [])) (fun a => ex1 a ∨ a = D) rho1 := ⟨⟨[], by simp, by simp⟩, fun a h => .inl h, fun a h => h.elim .inl fun e => .inr (e ▸ hD), fun a ob h _ => by rw [upd_ne (ne_of_none h hD)]; exact h⟩
        exact (w1.cells i a d h1 h2).step st w1.sub fun ob h => by rw [upd_ne (ne_of_none h hD)]; exact h
    · obtain ⟨k, d, hd, rx⟩ := hY i H x H' ex rho om hi st1 w2 y
      have w3 := w2.keepAll k
      have st3 : Stp H ex rho H' ex rho := keep_stp k
      have st13 : Stp H1 ex1 rho1 H' ex rho := st1.trans st3 (st1.there w2)
      have e : xs.drop i = d :: xs.drop (i + 1) := by
        obtain ⟨hl, he⟩ := List.getElem?_eq_some_iff.mp hd
        rw [List.drop_eq_getElem_cons hl, he]
      rw [e] at eq
      unfold lcL at eq
      refine ⟨ex, rho, om, wipeE env own, d, w3, (er1.step st13 w1.sub), rx, ?_⟩
      cases hg : g d (wipeE env own) om with
      | ok env4 om4 =>
        rw [hg] at eq
        simp only at eq
        intro sg' H4 ex4 rho4 ew st4 w4 er4
        refine ⟨ew.trans wipe_wipe, ex4, rho4, om4, env4, w4, er4, ?_⟩
        cases ht : t env4 om4 with
        | ok b om5 =>
          rw [ht] at eq
          intro b' H5 ex5 rho5 st5 w5 eb
          cases eb
          have st15 : Stp H1 ex1 rho1 H5 ex5 rho5 := (st13.trans st4 (st13.there w3)).trans st5 ((st13.trans st4 (st13.there w3)).there w4)
          have st35 : Stp H' ex rho H5 ex5 rho5 := st4.trans st5 (st4.there w4)
          have stay : ∀ {Hn : Hp} {exn : Addr → Prop} {rhon : List Addr} {omn : Om}, Stp H' ex rho Hn exn rhon → WRel K T Hn exn rhon omn → exn D ∧ D ∉ rhon ∧ Hn D = some (.lst vs) ∧ Reps K T Hn exn rhon vs acc := fun {Hn exn rhon omn} st wn => by
            refine ⟨st.up _ hx, fun z => ?_, st.keep _ _ (k _ _ hl) hr, (ra.step st3 w2.sub).step st w3.sub⟩
            obtain ⟨n, en, fn⟩ := st.new
            rw [en] at z
            rcases List.mem_append.mp z with z | z
            · exact hr z
            · have := fn _ z
              rw [k _ _ hl] at this; cases this
          cases b with
          | false =>
            refine iteF ?_
            obtain ⟨s1, s2, s3, s4⟩ := stay st35 w5
            exact ⟨ex5, rho5, om5, acc, vs, st15, w5, s1, s2, s3, s4, eq⟩
          | true =>
            refine iteT ⟨ex5, rho5, om5, env4, w5, er4.step st5 w4.sub, ?_⟩
            simp only at eq
            cases hf : f env4 om5 with
            | ok z om6 =>
              rw [hf] at eq
              simp only at eq
              by_cases hlen : acc.length < 1000000
              · rw [if_pos hlen] at eq
                intro zv H6 ex6 rho6 st6 w6 rz
                have st36 : Stp H' ex rho H6 ex6 rho6 := st35.trans st6 (st35.there w5)
                obtain ⟨s1, s2, s3, s4⟩ := stay st36 w6
                have st16 : Stp H1 ex1 rho1 H6 ex6 rho6 := st15.trans st6 (st15.there w5)
                refine ⟨vs, s3, by rw [s4.length]; exact million_lt hlen, ex6, rho6, om6, acc ++ [z], vs ++ [zv], ?_, w6.updEx s1 s2, s1, s2, upd_same, (s4.append (.cons rz .nil)).upd s1, eq⟩
                exact ⟨st16.new, st16.up, st16.fre, fun a ob h hn => by rw [upd_ne (ne_of_none h hD)]; exact st16.keep a ob h hn⟩
              · rw [if_neg hlen] at eq; cases eq
            | _ => rw [hf] at eq; cases eq
        | _ => rw [ht] at eq; cases eq
      | _ => rw [hg] at eq; cases eq
    · rw [List.drop_length] at eq
      unfold lcL at eq
      cases eq
      refine o1 (.ref D) H (fun a => ex a ∧ a ≠ D) rho ⟨st1.new, fun a h => ⟨st1.up a h, fun z => nD1 (z ▸ h)⟩, fun a h => st1.fre a h.1, st1.keep⟩ (w2.weak (fun a h => h.1) fun a h => ⟨w2.sub a h, fun z => hr (z ▸ h)⟩) ?_
      exact .lst ⟨hl, fun z => z.2 rfl⟩ (ra.weak fun a h => h.1)

section
variable {elt tg iter : Expr} {ifs : List Expr} {scope : Scope} {own : List (Str × Nat)} {pos : Pos} {fi : En → Om → R (List Dat)} {g : GD} {t : En → Om → R Bool} {f : DV}
theorem de_lc (hc : X.calm = true) (hN : X.N.Nodup) (hi : DI X T tg iter fi) (ok : BlkOk X.N X.env.scope scope own)
    (hg : ∀ (s : Shared) (H : Hp) (C : Addr) (cl : List (Str × Addr)) (fp : List Addr), DG (X.blk s H scope (compEnvC scope cl C X.env) fp) T (own.map (·.2)) tg g)
    (ht : ∀ (s : Shared) (H : Hp) (C : Addr) (cl : List (Str × Addr)) (fp : List Addr), DTs (X.blk s H scope (compEnvC scope cl C X.env) fp) T ifs t)
    (he : ∀ (s : Shared) (H : Hp) (C : Addr) (cl : List (Str × Addr)) (fp : List Addr), DE (X.blk s H scope (compEnvC scope cl C X.env) fp) T elt f) (hs : ∀ x, foldedSetIterable iter X.env x = pure x := by intro _; rfl) :
    DE X T (.ListComp elt [⟨tg, iter, ifs, 0⟩] scope pos) (eLc fi g t f (own.map (·.2))) := fun W tk =>
  pe_mono (pe_lc hc hN (hi W tk) ok (fun s H C cl fp => hg s H C cl fp (fun _ _ _ _ => False) takes0) (fun s H C cl fp => ht s H C cl fp (fun _ _ _ _ => False) takes0) (fun s H C cl fp => he s H C cl fp (fun _ _ _ _ => False) takes0) hs) fun _ _ _ h => tD_lc h
theorem ds_setLc {i : Nat} {y : Str} {py spos : Pos} (hc : X.calm = true) (hN : X.N.Nodup) (hy : X.N[i]? = some y) (hyl : X.env.scope.names.lookup y = some .local)
    (hsw : swapsWith (.ListComp elt [⟨tg, iter, ifs, 0⟩] scope pos) (some (.Name y py)) spos.line X.env = pure true) (hi : DI X T tg iter fi) (ok : BlkOk X.N X.env.scope scope own)
    (hg : ∀ (s : Shared) (H : Hp) (C : Addr) (cl : List (Str × Addr)) (fp : List Addr), DG (X.blk s H scope (compEnvC scope cl C X.env) fp) T (own.map (·.2)) tg g)
    (ht : ∀ (s : Shared) (H : Hp) (C : Addr) (cl : List (Str × Addr)) (fp : List Addr), DTs (X.blk s H scope (compEnvC scope cl C X.env) fp) T ifs t)
    (he : ∀ (s : Shared) (H : Hp) (C : Addr) (cl : List (Str × Addr)) (fp : List Addr), DE (X.blk s H scope (compEnvC scope cl C X.env) fp) T elt f) (hs : ∀ x, foldedSetIterable iter X.env x = pure x := by intro _; rfl) :
    DS X T (.Assign [.Name y py] (.ListComp elt [⟨tg, iter, ifs, 0⟩] scope pos) spos) (sAsg (eLc fi g t f (own.map (·.2))) (gN i)) := fun W tk po =>
  ps_mono (ps_setLc hc hN hy hyl hsw (hi W tk) ok (fun s H C cl fp => hg s H C cl fp (fun _ _ _ _ => False) takes0) (fun s H C cl fp => ht s H C cl fp (fun _ _ _ _ => False) takes0) (fun s H C cl fp => he s H C cl fp (fun _ _ _ _ => False) takes0) hs) fun D sg H ⟨ex, rho, om, env, w, er, o⟩ =>
    tD_lc ⟨ex, rho, om, env, w, er, tD_rs er w.sub o fun d om v H1 ex1 rho1 _ st w1 rv o1 => o1 _ _ _ _ .refl w1 ((er.step st w.sub).set i rv)⟩
end
end
end DL
end Part_DL5
section Part_DL6
set_option maxRecDepth 100000
/-! functions -/
namespace DL
open PySem PySem.Spec PyProof.Rows L2

mutual
def okN (n : Nat) : Dat → Bool
  | .tup xs => okNs n xs
  | .lst xs => okNs n xs
  | .frl xs => okNs n xs
  | .wt xs => okNs n xs
  | .dct _ ds => okNs n ds
  | .ins _ fs => okNs n fs
  | .cell i => decide (i < n)
  | _ => true
def okNs (n : Nat) : List Dat → Bool
  | [] => true
  | d :: r => okN n d && okNs n r
end
def mapO (f : Dat → Option Dat) : List Dat → Option (List Dat)
  | [] => some []
  | d :: r => match f d, mapO f r with
    | some d, some r => some (d :: r)
    | _, _ => none
/-- what a call hands back where the cells that it made are forgotten: they are looked into, up to a depth -/
def fin1 (n : Nat) (om : Om) : Nat → Dat → Option Dat
  | 0, d => match d with
    | .cell i => if i < n then some (.cell i) else none
    | .non => some .non
    | .bl b => some (.bl b)
    | .int i => some (.int i)
    | .str x => some (.str x)
    | _ => none
  | k + 1, d => match d with
    | .cell i => if i < n then some (.cell i) else match om[i]? with
      | some (.lst xs) => (mapO (fin1 n om k) xs).map .lst
      | some (.dct ks ds) => (mapO (fin1 n om k) ds).map (.dct ks)
      | some (.ins c fs) => (mapO (fin1 n om k) fs).map (.ins c)
      | _ => none
    | .tup xs => (mapO (fin1 n om k) xs).map .tup
    | .lst xs => (mapO (fin1 n om k) xs).map .lst
    | .frl xs => (mapO (fin1 n om k) xs).map .frl
    | .wt xs => (mapO (fin1 n om k) xs).map .wt
    | .dct ks ds => (mapO (fin1 n om k) ds).map (.dct ks)
    | .ins c fs => (mapO (fin1 n om k) fs).map (.ins c)
    | .non => some .non
    | .bl b => some (.bl b)
    | .int i => some (.int i)
    | .str x => some (.str x)
abbrev fins (n : Nat) (om : Om) (k : Nat) (ds : List Dat) : Option (List Dat) := mapO (fin1 n om k) ds
def finO (n : Nat) (om : Om) : Option Dat → Option (Option Dat)
  | none => some none
  | some d => (fin1 n om 60 d).map some
def finR (keep : Bool) (n : Nat) (d : Dat) (om : Om) : R Dat := if keep = true ∨ om.length = n then .ok d om else match fin1 n om 60 d with
  | some d' => if okNs n (om.take n) = true then .ok d' (om.take n) else .no
  | none => .no
def finE (keep : Bool) (n : Nat) (e : Exc) (om : Om) : R Dat := if keep = true ∨ om.length = n then .exc e om else match finO n om e.arg with
  | some a => if okNs n (om.take n) = true then .exc ⟨e.c, a⟩ (om.take n) else .no
  | none => .no
/-- a def: n parameters, N names -/
def fnD (keep : Bool) (n N : Nat) (b : SD) : List Dat → Om → R Dat := fun ds om => match b (ds.map some ++ List.replicate (N - n) none) om with
  | .ret d om' => finR keep om.length d om'
  | .nx _ om' => finR keep om.length .non om'
  | .exc e _ om' => finE keep om.length e om'
  | _ => .no

section
variable {K : PySem.W.Frag} {T : Ct} {H : Hp} {ex ex' : Addr → Prop} {rho : List Addr} {n : Nat}
mutual
theorem Rep.cut (m : ∀ a, ex' a → ex a) : ∀ {v : V} {d : Dat}, Rep K T H ex rho v d → okN n d = true → Rep K T H ex' (rho.take n) v d
  | _, _, .non, _ => .non
  | _, _, .bl, _ => .bl
  | _, _, .int, _ => .int
  | _, _, .str h, _ => .str h
  | _, _, .tup h r, q => .tup ⟨h.1, fun z => h.2 (m _ z)⟩ (Reps.cut m r (by simpa [okN] using q))
  | _, _, .wt h r, q => .wt h (Reps.cut m r (by simpa [okN] using q))
  | _, _, .lst h r, q => .lst ⟨h.1, fun z => h.2 (m _ z)⟩ (Reps.cut m r (by simpa [okN] using q))
  | _, _, .frl h nn r, q => .frl h (fun z => nn (m _ z)) (Reps.cut m r (by simpa [okN] using q))
  | _, _, .dctK h nn r e, q => .dctK h (fun z => nn (m _ z)) (Reps.cut m r (by simpa [okN] using q)) e
  | _, _, .dctT h nn r e, q => .dctT h (fun z => nn (m _ z)) (Reps.cut m r (by simpa [okN] using q)) e
  | _, _, .ins hc h nn hl r, q => .ins hc h (fun z => nn (m _ z)) hl (Reps.cut m r (by simpa [okN] using q))
  | _, _, .cell h, q => .cell (by rw [List.getElem?_take_of_lt (by simpa [okN] using q)]; exact h)
theorem Reps.cut (m : ∀ a, ex' a → ex a) : ∀ {vs : List V} {ds : List Dat}, Reps K T H ex rho vs ds → okNs n ds = true → Reps K T H ex' (rho.take n) vs ds
  | _, _, .nil, _ => .nil
  | _, _, .cons r t, q => by
    unfold okNs at q
    rw [Bool.and_eq_true] at q
    exact .cons (Rep.cut m r q.1) (Reps.cut m t q.2)
end
theorem okNs_get : ∀ {ds : List Dat} {i : Nat} {d : Dat}, okNs n ds = true → ds[i]? = some d → okN n d = true
  | [], _, _, _, e => by simp at e
  | d :: r, 0, _, q, e => by
    unfold okNs at q
    rw [Bool.and_eq_true] at q
    cases e; exact q.1
  | d :: r, i + 1, _, q, e => by
    unfold okNs at q
    rw [Bool.and_eq_true] at q
    exact okNs_get (i := i) q.2 (by simpa using e)
theorem CRep.cut (m : ∀ a, ex' a → ex a) {a : Addr} {d : Dat} (q : okN n d = true) (c : CRep K T H ex rho a d) : CRep K T H ex' (rho.take n) a d := by
  cases d with
  | lst xs => obtain ⟨vs, e, r⟩ := c; exact ⟨vs, e, r.cut m (by simpa [okN] using q)⟩
  | dct ks ds =>
    rcases c with ⟨kvs, e, r, z⟩ | ⟨kvs, e, r, z⟩
    · exact .inl ⟨kvs, e, r.cut m (by simpa [okN] using q), z⟩
    · exact .inr ⟨kvs, e, r.cut m (by simpa [okN] using q), z⟩
  | ins c ds => obtain ⟨C, dx, vs, h1, e, h3, r⟩ := c; exact ⟨C, dx, vs, h1, e, h3, r.cut m (by simpa [okN] using q)⟩
  | _ => trivial
theorem nodup_drop {l : List Addr} (nd : l.Nodup) {i : Nat} {a : Addr} (h : l[i]? = some a) (hi : n ≤ i) : a ∉ l.take n := fun hm => by
  obtain ⟨j, hj⟩ := List.mem_iff_getElem?.mp hm
  have hjn : j < n := by
    have := (List.getElem?_eq_some_iff.mp hj).1
    rw [List.length_take] at this
    omega
  rw [List.getElem?_take_of_lt hjn] at hj
  have := nd_ix nd hj h
  omega
/-- the cells behind the first n are forgotten -/
theorem WRel.cut {om : Om} (w : WRel K T H ex rho om) (q : okNs n (om.take n) = true) : WRel K T H (fun a => ex a ∧ a ∉ rho.drop n) (rho.take n) (om.take n) := by
  refine ⟨by rw [List.length_take, List.length_take, w.len], w.nd.sublist (List.take_sublist _ _), fun a h => ⟨w.sub a (List.mem_of_mem_take h), fun z => ?_⟩, fun a h => w.trk a h.1, fun i a d h1 h2 => ?_⟩
  · obtain ⟨j, hj⟩ := List.mem_iff_getElem?.mp z
    rw [List.getElem?_drop] at hj
    exact nodup_drop (n := n) w.nd hj (by omega) h
  · have hi : i < n := by
      have := (List.getElem?_eq_some_iff.mp h1).1
      rw [List.length_take] at this
      omega
    rw [List.getElem?_take_of_lt hi] at h1
    have q2 := okNs_get q h2
    rw [List.getElem?_take_of_lt hi] at h2
    exact (w.cells i a d h1 h2).cut (fun a h => h.1) q2
/-- dicts that are changed no more are held as they lie -/
def isDc : HO → Bool
  | .dK _ => true
  | .dT _ => true
  | _ => false
def gho : List Addr → Hp → (Hp → Prop) → Prop
  | [], H, Q => Q H
  | d :: r, H, Q => ∃ u, H d = some u ∧ isDc u = true ∧ ∀ o, gho r (L2.upd H d (.frz o u)) Q
theorem gho_run {X : Cx} {pins : List (Addr × Obj)} {sg : L2.St} {s : Shared} : ∀ {ds : List Addr} {H : Hp} {Q : Hp → Prop}, Inv X pins sg H s → gho ds H Q → ∃ H', Inv X pins sg H' s ∧ Q H' ∧ ∀ a, H a = none → H' a = none
  | [], H, Q, I, h => ⟨H, I, h, fun _ h => h⟩
  | d :: r, H, Q, I, ⟨u, hu, hd, h⟩ => by
    obtain ⟨o, I'⟩ := I.lock hu (by cases u <;> first | exact True.intro | cases hd)
    obtain ⟨H', I2, q, k⟩ := gho_run I' (h o)
    exact ⟨H', I2, q, fun a ha => k a (by rw [upd_ne (ne_of_none hu ha).symm]; exact ha)⟩
theorem gho_all : ∀ (ds : List Addr) (H : Hp) (Q : Hp → Prop), ds.Nodup → (∀ a ∈ ds, ∃ u, H a = some u ∧ isDc u = true) → (∀ H1 : Hp, (∀ a, a ∉ ds → H1 a = H a) → (∀ a u, a ∈ ds → H a = some u → ∃ o, H1 a = some (.frz o u)) → Q H1) → gho ds H Q
  | [], H, Q, _, _, k => k H (fun _ _ => rfl) (fun _ _ h => by cases h)
  | d :: r, H, Q, nd, h, k => by
    obtain ⟨u, hu, hd⟩ := h d List.mem_cons_self
    have nd' := List.nodup_cons.mp nd
    refine ⟨u, hu, hd, fun o => gho_all r _ Q nd'.2 (fun a ha => ?_) fun H1 k1 k2 => k H1 (fun a ha => ?_) fun a v ha hv => ?_⟩
    · obtain ⟨v, hv, hv'⟩ := h a (List.mem_cons_of_mem _ ha)
      have ne : a ≠ d := fun z => nd'.1 (z ▸ ha)
      exact ⟨v, by rw [upd_ne ne]; exact hv, hv'⟩
    · have ne : a ≠ d := fun z => ha (by rw [z]; exact List.mem_cons_self)
      rw [k1 a fun z => ha (List.mem_cons_of_mem _ z), upd_ne ne]
    · by_cases e : a = d
      · subst e
        rw [hu] at hv
        cases hv
        exact ⟨o, by rw [k1 a nd'.1, upd_same]⟩
      · rcases List.mem_cons.mp ha with z | z
        · exact absurd z e
        · exact k2 a v z (by rw [upd_ne e]; exact hv)
section
variable {X : Cx}
/-- at the end of a body dicts may be held -/
def tGho (t : TS) : TS := fun D sg H => t { nx := fun sg' H' => ∃ ds, gho ds H' (D.nx sg'), rt := fun v H' => ∃ ds, gho ds H' (D.rt v), bk := D.bk, ct := D.ct } sg H
theorem pss_gho {b : List Stmt} {t : TS} (h : PSs X b t) : PSs X b (tGho t) := ⟨fun pins s sg H D I q => wpAny_mono (h.run pins s sg H _ I q) (fun f s' q' => by
  cases f with
  | next => obtain ⟨sg', H', I', ds, q⟩ := q'; obtain ⟨H2, I2, q2, _⟩ := gho_run I' q; exact ⟨sg', H2, I2, q2⟩
  | brk => exact q'
  | cont => exact q'
  | ret u => obtain ⟨v, sg', H', I', r, ds, q⟩ := q'; obtain ⟨H2, I2, q2, _⟩ := gho_run I' q; exact ⟨v, sg', H2, I2, r, q2⟩) fun _ _ x => x⟩
theorem takes_gho {W : WX} (tk : Takes X W) : Takes X (fun c d sg H => ∃ ds, gho ds H (W c d sg)) := fun u s' ⟨a, B, sI, pins, sg, H, cls, d, e, I, nb, up, sky, na, os, ag, ds, q⟩ => by
  obtain ⟨H2, I2, q2, k⟩ := gho_run I q
  exact tk u s' ⟨a, B, sI, pins, sg, H2, cls, d, e, I2, nb, up, sky, k a na, os, ag, q2⟩
end
mutual
/-- H1: the heap in which the dicts among the forgotten cells are held -/
theorem Rep.fin {om : Om} {H1 : Hp} (w : WRel K T H ex rho om) (k1 : ∀ a o, H a = some o → a ∉ rho.drop n → H1 a = some o) (k2 : ∀ a u, a ∈ rho.drop n → H a = some u → if isDc u = true then ∃ o, H1 a = some (.frz o u) else H1 a = some u) :
    ∀ (k : Nat) {v : V} {d d' : Dat}, Rep K T H ex rho v d → fin1 n om k d = some d' → Rep K T H1 (fun a => ex a ∧ a ∉ rho.drop n) (rho.take n) v d'
  | k, v, d, d', r, h => by
    have old : ∀ {a : Addr} {o : HO}, H a = some o → ¬ ex a → H1 a = some o := fun {a o} e ne => k1 a o e fun z => ne (w.sub _ (List.mem_of_mem_drop z))
    cases r with
    | non => cases k <;> simp [fin1] at h <;> subst h <;> exact .non
    | bl => cases k <;> simp [fin1] at h <;> subst h <;> exact .bl
    | int => cases k <;> simp [fin1] at h <;> subst h <;> exact .int
    | str q => cases k <;> simp [fin1] at h <;> subst h <;> exact .str q
    | tup q r =>
      cases k with
      | zero => simp [fin1] at h
      | succ k =>
        simp only [fin1, Option.map_eq_some_iff] at h
        obtain ⟨ys, hy, rfl⟩ := h
        exact .tup ⟨old q.1 q.2, fun z => q.2 z.1⟩ (Reps.fin w k1 k2 k r hy)
    | wt q r =>
      cases k with
      | zero => simp [fin1] at h
      | succ k =>
        simp only [fin1, Option.map_eq_some_iff] at h
        obtain ⟨ys, hy, rfl⟩ := h
        exact .wt q (Reps.fin w k1 k2 k r hy)
    | lst q r =>
      cases k with
      | zero => simp [fin1] at h
      | succ k =>
        simp only [fin1, Option.map_eq_some_iff] at h
        obtain ⟨ys, hy, rfl⟩ := h
        exact .lst ⟨old q.1 q.2, fun z => q.2 z.1⟩ (Reps.fin w k1 k2 k r hy)
    | frl q ne r =>
      cases k with
      | zero => simp [fin1] at h
      | succ k =>
        simp only [fin1, Option.map_eq_some_iff] at h
        obtain ⟨ys, hy, rfl⟩ := h
        exact .frl (old q ne) (fun z => ne z.1) (Reps.fin w k1 k2 k r hy)
    | dctK q ne r e =>
      cases k with
      | zero => simp [fin1] at h
      | succ k =>
        simp only [fin1, Option.map_eq_some_iff] at h
        obtain ⟨ys, hy, rfl⟩ := h
        exact .dctK (old q ne) (fun z => ne z.1) (Reps.fin w k1 k2 k r hy) e
    | dctT q ne r e =>
      cases k with
      | zero => simp [fin1] at h
      | succ k =>
        simp only [fin1, Option.map_eq_some_iff] at h
        obtain ⟨ys, hy, rfl⟩ := h
        exact .dctT (old q ne) (fun z => ne z.1) (Reps.fin w k1 k2 k r hy) e
    | @ins a C dx c vs ds hc q ne hl r =>
      cases k with
      | zero => simp [fin1] at h
      | succ k =>
        simp only [fin1, Option.map_eq_some_iff] at h
        obtain ⟨ys, hy, rfl⟩ := h
        have hlen : ys.length ≤ (T.fs c).length := by
          have r2 := Reps.fin w k1 k2 k r hy
          rw [← r2.length, r.length]; exact hl
        exact .ins hc (old q ne) (fun z => ne z.1) hlen (Reps.fin w k1 k2 k r hy)
    | @cell a i hi =>
      by_cases hl : i < n
      · have e : d' = .cell i := by
          cases k <;> simp [fin1, hl] at h <;> exact h.symm
        subst e
        exact .cell (by rw [List.getElem?_take_of_lt hl]; exact hi)
      · cases k with
        | zero => simp [fin1, hl] at h
        | succ k =>
          have hm : a ∈ rho.drop n := by
            refine List.mem_iff_getElem?.mpr ⟨i - n, ?_⟩
            rw [List.getElem?_drop, show n + (i - n) = i by omega]
            exact hi
          have hout : ¬ (ex a ∧ a ∉ rho.drop n) := fun z => z.2 hm
          simp only [fin1, if_neg hl] at h
          split at h
          · rename_i xs hx
            simp only [Option.map_eq_some_iff] at h
            obtain ⟨ys, hy, rfl⟩ := h
            obtain ⟨vs, e, r⟩ := w.cells i a _ hi hx
            have e1 := k2 a _ hm e
            exact .lst ⟨e1, hout⟩ (Reps.fin w k1 k2 k r hy)
          · rename_i ks ds hx
            simp only [Option.map_eq_some_iff] at h
            obtain ⟨ys, hy, rfl⟩ := h
            rcases w.cells i a _ hi hx with ⟨kvs, e, r, z⟩ | ⟨kvs, e, r, z⟩
            · obtain ⟨o, e1⟩ := k2 a _ hm e
              exact .dctK e1 hout (Reps.fin w k1 k2 k r hy) z
            · obtain ⟨o, e1⟩ := k2 a _ hm e
              exact .dctT e1 hout (Reps.fin w k1 k2 k r hy) z
          · rename_i c fs hx
            simp only [Option.map_eq_some_iff] at h
            obtain ⟨ys, hy, rfl⟩ := h
            obtain ⟨C, dx, vs, h1, e, h3, r⟩ := w.cells i a _ hi hx
            have e1 := k2 a _ hm e
            have hlen : ys.length ≤ (T.fs c).length := by
              have r2 := Reps.fin w k1 k2 k r hy
              rw [← r2.length, r.length]; exact h3
            exact .ins h1 e1 hout hlen (Reps.fin w k1 k2 k r hy)
          · cases h
theorem Reps.fin {om : Om} {H1 : Hp} (w : WRel K T H ex rho om) (k1 : ∀ a o, H a = some o → a ∉ rho.drop n → H1 a = some o) (k2 : ∀ a u, a ∈ rho.drop n → H a = some u → if isDc u = true then ∃ o, H1 a = some (.frz o u) else H1 a = some u) :
    ∀ (k : Nat) {vs : List V} {ds ds' : List Dat}, Reps K T H ex rho vs ds → fins n om k ds = some ds' → Reps K T H1 (fun a => ex a ∧ a ∉ rho.drop n) (rho.take n) vs ds'
  | k, _, [], ds', r, h => by
    cases r
    have e : ds' = [] := by cases k <;> simp [fins, mapO] at h <;> exact h
    subst e
    exact .nil
  | k, _, d :: ds, ds', r, h => by
    cases r with
    | cons r t =>
      simp only [fins, mapO] at h
      split at h
      · rename_i d1 r1 h1 h2
        cases h
        exact .cons (Rep.fin w k1 k2 k r h1) (Reps.fin w k1 k2 k t h2)
      · cases h
end
/-- the state behind a call whose cells are forgotten -/
theorem cut_all {H' : Hp} {ex1 : Addr → Prop} {rho1 : List Addr} {om om' : Om} (st : Stp H ex rho H' ex1 rho1) (w : WRel K T H ex rho om) (w1 : WRel K T H' ex1 rho1 om') (q : okNs om.length (om'.take om.length) = true) {Q : Hp → Prop}
    (k : ∀ H1 : Hp, (∀ a o, H' a = some o → a ∉ rho1.drop om.length → H1 a = some o) → (∀ a u, a ∈ rho1.drop om.length → H' a = some u → if isDc u = true then ∃ o, H1 a = some (.frz o u) else H1 a = some u) →
      Stp H ex rho H1 (fun a => ex1 a ∧ a ∉ rho1.drop om.length) (rho1.take om.length) → WRel K T H1 (fun a => ex1 a ∧ a ∉ rho1.drop om.length) (rho1.take om.length) (om'.take om.length) → Q H1) : ∃ ds, gho ds H' Q := by
  obtain ⟨m, e, f⟩ := st.new
  have e1 : rho1.take om.length = rho := by rw [e, ← w.len, List.take_left']; rfl
  have e2 : rho1.drop om.length = m := by rw [e, ← w.len, List.drop_left']; rfl
  let isD : Addr → Bool := fun a => match H' a with
    | some u => isDc u
    | none => false
  refine ⟨(rho1.drop om.length).filter isD, gho_all _ _ _ ((w1.nd.sublist (List.drop_sublist _ _)).sublist List.filter_sublist) (fun a ha => ?_) fun H1 k1 k2 => ?_⟩
  · have hm := (List.mem_filter.mp ha).2
    cases hu : H' a with
    | none => simp [isD, hu] at hm
    | some u => exact ⟨u, rfl, by simpa [isD, hu] using hm⟩
  have g1 : ∀ a o, H' a = some o → a ∉ rho1.drop om.length → H1 a = some o := fun a o h hn => by
    rw [k1 a fun z => hn (List.mem_filter.mp z).1]; exact h
  have g2 : ∀ a u, a ∈ rho1.drop om.length → H' a = some u → if isDc u = true then ∃ o, H1 a = some (.frz o u) else H1 a = some u := fun a u hm hu => by
    by_cases hd : isDc u = true
    · rw [if_pos hd]
      exact k2 a u (List.mem_filter.mpr ⟨hm, by simpa [isD, hu] using hd⟩) hu
    · rw [if_neg hd, k1 a fun z => hd (by have := (List.mem_filter.mp z).2; simpa [isD, hu] using this)]
      exact hu
  have notm : ∀ a, (∃ o, H a = some o) → a ∉ rho1.drop om.length := fun a ⟨o, h⟩ z => by
    rw [e2] at z
    rw [f a z] at h; cases h
  refine k H1 g1 g2 ?_ ?_
  · refine ⟨⟨[], by rw [e1]; simp, by simp⟩, fun a h => ⟨st.up a h, notm a (let ⟨o, e, _⟩ := w.trk a h; ⟨o, e⟩)⟩, fun a h => st.fre a h.1, fun a o h hn => ?_⟩
    exact g1 a o (st.keep a o h hn) (notm a ⟨o, h⟩)
  · have w2 := w1.cut (n := om.length) q
    refine ⟨w2.len, w2.nd, w2.sub, fun a h => ?_, fun i a d h1 h2 => ?_⟩
    · obtain ⟨o, ho, nt⟩ := w2.trk a h
      exact ⟨o, g1 a o ho h.2, nt⟩
    · have ha : a ∈ rho1.take om.length := List.mem_of_getElem? h1
      have keep : ∀ o, H' a = some o → H1 a = some o := fun o h => g1 a o h (w2.sub a ha).2
      have hi : i < om.length := by
        have := (List.getElem?_eq_some_iff.mp h1).1
        rw [List.length_take] at this
        omega
      have q2 := okNs_get q h2
      rw [List.getElem?_take_of_lt hi] at h1 h2
      have st2 : Stp H' ex1 rho1 H1 ex1 rho1 := ⟨⟨[], by simp, by simp⟩, fun _ h => h, fun _ h => .inl h, fun a o h hn => g1 a o h fun z => hn (List.mem_of_mem_drop z)⟩
      exact ((w1.cells i a d h1 h2).step st2 w1.sub keep).cut (fun a h => h.1) q2
end

section
variable {P : Program} {w : World} {K : PySem.W.Frag} {mg : Str → Option Value} {base : Heap} {T : Ct}
/-- the body of a def -/
theorem fn_body {qual : Str} {scp : Scope} {f : Addr} {N : List Str} {n m : Nat} {keep : Bool} {b : SD} {cdv : Value} {A : Around} {outer : List Env} {s : Shared} {H : Hp} {vs : List V} {Q : VK} {E : XK} {bd : List Stmt} (hm : N.length = m)
    (hD : DSs (cxOf (L2.CX P w) P w K mg base N qual scp f cdv A outer s H E) T bd b) (hsp : spD K T n (fnD keep n m b) vs H Q E) :
    ∃ t, PSs (cxOf (L2.CX P w) P w K mg base N qual scp f cdv A outer s H E) bd t ∧ t { nx := fun _ H' => Q .non H', rt := Q } (L2.start N vs) H := by
  obtain ⟨ex, rho, om, ds, w1, r, l, o⟩ := hsp
  refine ⟨_, pss_gho (hD _ (takes_gho (takes_of rfl rfl rfl rfl)) (passes_of rfl)), ex, rho, om, ds.map some ++ List.replicate (m - n) none, w1, ?_, ?_⟩
  · unfold L2.start
    refine ⟨?_, fun i x hi => ?_⟩
    · rw [List.length_append, List.length_append, List.length_map, List.length_map, List.length_replicate, List.length_replicate, r.length, l, hm]
    · by_cases hl : i < ds.length
      · rw [List.getElem?_append_left (by rw [List.length_map]; exact hl), List.getElem?_map] at hi
        cases hd : ds[i]? with
        | none => rw [hd] at hi; cases hi
        | some d =>
          rw [hd] at hi
          have e : d = x := by simpa using hi
          subst e
          obtain ⟨v, hv, rv⟩ := r.get hd
          refine ⟨v, ?_, rv⟩
          rw [List.getElem?_append_left (by rw [List.length_map, r.length]; exact hl), List.getElem?_map, hv]
          rfl
      · rw [List.getElem?_append_right (by rw [List.length_map]; omega), List.getElem?_replicate] at hi
        split at hi <;> cases hi
  · have end1 : ∀ d om', Out K T (Rep K T) (fun c d _ H' => E c d H') [] H ex rho Q (finR keep om.length d om') → ∀ v H' ex' rho', Stp H ex rho H' ex' rho' → WRel K T H' ex' rho' om' → Rep K T H' ex' rho' v d → ∃ ds, gho ds H' (Q v) := fun d om' o v H' ex' rho' st w2 rv => by
      unfold finR at o
      split at o
      · exact ⟨[], o v H' ex' rho' st w2 rv⟩
      · split at o
        · rename_i d' hd'
          split at o
          · rename_i q
            exact cut_all st w1 w2 q fun H1 g1 g2 st1 w3 => o v H1 _ _ st1 w3 (Rep.fin w2 g1 g2 60 rv hd')
          · exact o.elim
        · exact o.elim
    unfold fnD at o
    cases hb : b (ds.map some ++ List.replicate (m - n) none) om with
    | nx env' om' => rw [hb] at o; exact fun sg' H' ex' rho' st w2 er => end1 _ _ o _ H' ex' rho' st w2 .non
    | ret d om' => rw [hb] at o; exact fun v H' ex' rho' st w2 rv => end1 _ _ o v H' ex' rho' st w2 rv
    | exc e env' om' =>
      rw [hb] at o
      intro cls dx sg' H' ex' rho' st w2 er re
      simp only at o
      unfold finE at o
      split at o
      · exact ⟨[], o cls dx H' ex' rho' st w2 re⟩
      · split at o
        · rename_i a ha
          split at o
          · rename_i q
            refine cut_all st w1 w2 q fun H1 g1 g2 st1 w3 => o cls dx H1 _ _ st1 w3 ?_
            obtain ⟨C, h1, h2, r⟩ := re
            refine ⟨C, h1, h2, ?_⟩
            cases q : e.arg with
            | none =>
              rw [q] at r ha
              cases ha
              exact r
            | some d =>
              rw [q] at r ha
              obtain ⟨x, f, v, e1, e2, e3, rv⟩ := r
              unfold finO at ha
              simp only at ha
              cases hd : fin1 om.length om' 60 d with
              | none => rw [hd] at ha; cases ha
              | some d' =>
                rw [hd] at ha
                cases ha
                by_cases hx : x ∈ rho'.drop om.length
                · exact ⟨x, f, v, e1, by have := g2 x _ hx e2; simpa [isDc] using this, e3, Rep.fin w2 g1 g2 60 rv hd⟩
                · exact ⟨x, f, v, e1, g1 x _ e2 hx, e3, Rep.fin w2 g1 g2 60 rv hd⟩
          · exact o.elim
        · exact o.elim
    | brk env' om' => rw [hb] at o; exact o.elim
    | cnt env' om' => rw [hb] at o; exact o.elim
    | no => rw [hb] at o; exact o.elim
theorem spD_len {n : Nat} {F : List Dat → Om → R Dat} {vs : List V} {H : Hp} {Q : VK} {E : XK} (h : spD K T n F vs H Q E) : vs.length = n := by
  obtain ⟨ex, rho, om, ds, w1, r, l, _⟩ := h
  rw [r.length, l]
/-- THE RULE for a def -/
theorem fn_ok {x qual : Str} {st : Stmt} {f : Addr} {fd : FuncData} {N ps : List Str} {k n m : Nat} {keep : Bool} {b : SD} (F : Fun K x qual st f fd) (S : FnScope N ps (defScope st)) (hn : ps.length = n) (hm : N.length = m)
    (h : ∀ (cdv : Value) (A : Around) (outer : List Env) (s : Shared) (H : Hp) (E : XK), Room k (A.deeper (envOfC qual (defScope st) s.heap.objs.size f cdv)) → DSs (cxOf (L2.CX P w) P w K mg base N qual (defScope st) f cdv A outer s H E) T (defBody st) b) :
    FnOk P w K mg base (L2.CX P w) (k + 1) f fd ps (spD K T n (fnD keep n m b)) :=
  F.okX S (fun vs H Q E q => by rw [spD_len q, hn]) fun cdv A outer s H vs Q E hr hsp => fn_body hm (h cdv A outer s H E hr) hsp
end
end DL
end Part_DL6
section Part_DL7
set_option maxRecDepth 100000
/-! equality of data -/
namespace DL
open PySem PySem.Spec PyProof.Rows L2

/-- a cell is looked into once -/
def der (om : Om) : Dat → Dat
  | .cell i => match om[i]? with
    | some (.lst xs) => .lst xs
    | some (.ins c fs) => .ins c fs
    | _ => .cell i
  | d => d
section
variable {K : PySem.W.Frag} {T : Ct} {H : Hp} {ex : Addr → Prop} {rho : List Addr} {om : Om} {v : V} {d : Dat}
theorem Rep.der (w : WRel K T H ex rho om) (r : Rep K T H ex rho v d) : Rep K T H (fun _ => False) rho v (der om d) := by
  have m : ∀ a, (fun _ : Addr => False) a → ex a := fun _ h => h.elim
  cases r with
  | @cell a i hi =>
    unfold DL.der
    simp only
    split
    · rename_i xs hx
      obtain ⟨vs, e, r⟩ := w.cells _ _ _ hi hx
      exact .lst ⟨e, fun h => h⟩ (r.weak m)
    · rename_i c fs hx
      obtain ⟨C, dx, vs, h1, e, h3, r⟩ := w.cells _ _ _ hi hx
      exact .ins h1 e (fun h => h) h3 (r.weak m)
    · exact .cell hi
  | non => exact .non
  | bl => exact .bl
  | int => exact .int
  | str q => exact .str q
  | tup q r => exact (Rep.tup q r).weak m
  | wt q r => exact (Rep.wt q r).weak m
  | lst q r => exact (Rep.lst q r).weak m
  | frl q nn r => exact (Rep.frl q nn r).weak m
  | dctK q nn r e => exact (Rep.dctK q nn r e).weak m
  | dctT q nn r e => exact (Rep.dctT q nn r e).weak m
  | ins hc q nn hl r => exact (Rep.ins hc q nn hl r).weak m
end

mutual
/-- == of data without dicts and instances, up to a depth -/
def eqA : Nat → Dat → Dat → Option Bool
  | _, .non, .non => some true
  | _, .non, .bl _ => some false
  | _, .non, .int _ => some false
  | _, .non, .str _ => some false
  | _, .bl _, .non => some false
  | _, .bl a, .bl b => some (a == b)
  | _, .bl a, .int j => some ((if a then 1 else 0) == j)
  | _, .bl _, .str _ => some false
  | _, .int _, .non => some false
  | _, .int i, .bl b => some (i == (if b then 1 else 0))
  | _, .int i, .int j => some (i == j)
  | _, .int _, .str _ => some false
  | _, .str _, .non => some false
  | _, .str _, .bl _ => some false
  | _, .str _, .int _ => some false
  | _, .str x, .str y => some (x == y)
  | _, .non, .lst _ => some false
  | _, .bl _, .lst _ => some false
  | _, .int _, .lst _ => some false
  | _, .str _, .lst _ => some false
  | _, .non, .tup _ => some false
  | _, .bl _, .tup _ => some false
  | _, .int _, .tup _ => some false
  | _, .str _, .tup _ => some false
  | _, .lst _, .non => some false
  | _, .lst _, .bl _ => some false
  | _, .lst _, .int _ => some false
  | _, .lst _, .str _ => some false
  | _, .tup _, .non => some false
  | _, .tup _, .bl _ => some false
  | _, .tup _, .int _ => some false
  | _, .tup _, .str _ => some false
  | _, .tup _, .lst _ => some false
  | _, .lst _, .tup _ => some false
  | n + 1, .lst xs, .lst ys => if xs.length = ys.length then eqAs n xs ys else some false
  | n + 1, .tup xs, .tup ys => (eqAs n xs ys).map fun b => b && xs.length == ys.length
  | _, _, _ => none
/-- all pairs, as far as both go -/
def eqAs : Nat → List Dat → List Dat → Option Bool
  | n, x :: xs, y :: ys => match eqA n x y, eqAs n xs ys with
    | some a, some b => some (a && b)
    | _, _ => none
  | _, _, _ => some true
end
theorem eqAs_get : ∀ {n : Nat} {xs ys : List Dat} {b : Bool}, eqAs n xs ys = some b → ∃ f : Nat → Bool, (∀ (j : Nat) (x y : Dat), xs[j]? = some x → ys[j]? = some y → eqA n x y = some (f j)) ∧ b = (List.range (min xs.length ys.length)).all f
  | n, [], ys, b, h => by
    rw [eqAs.eq_2 _ _ _ (by simp)] at h
    cases h
    exact ⟨fun _ => true, by simp, by simp⟩
  | n, x :: xs, [], b, h => by
    rw [eqAs.eq_2 _ _ _ (by simp)] at h
    cases h
    exact ⟨fun _ => true, by simp, by simp⟩
  | n, x :: xs, y :: ys, b, h => by
    rw [eqAs.eq_1] at h
    split at h
    · rename_i a c ha hc
      cases h
      obtain ⟨f, h1, h2⟩ := eqAs_get hc
      refine ⟨fun j => match j with | 0 => a | j + 1 => f j, fun j x' y' hx hy => ?_, ?_⟩
      · cases j with
        | zero => simp only [List.getElem?_cons_zero, Option.some.injEq] at hx hy; subst hx hy; exact ha
        | succ j => exact h1 j x' y' (by simpa using hx) (by simpa using hy)
      · rw [h2]
        simp only [List.length_cons]
        rw [show min (xs.length + 1) (ys.length + 1) = min xs.length ys.length + 1 by omega, List.range_succ_eq_map, List.all_cons, List.all_map]
        rfl
    · cases h
section
variable {X : Cx} {T : Ct} {pins : List (Addr × Obj)} {sg : L2.St} {H : Hp} {s : Shared}
/-- the same thing is equal to itself -/
theorem eqA_self (I : Inv X pins sg H s) : ∀ (n : Nat) {ex ex' : Addr → Prop} {rho rho' : List Addr} {v : V} {d e : Dat} {b : Bool}, Rep X.K T H ex rho v d → Rep X.K T H ex' rho' v e → eqA n d e = some b → b = true
  | n, ex, ex', rho, rho', v, d, e, b, rd, re, h => by
    have many : ∀ (n : Nat) (ih : ∀ {v : V} {d e : Dat} {b : Bool}, Rep X.K T H ex rho v d → Rep X.K T H ex' rho' v e → eqA n d e = some b → b = true) {vs : List V} {xs ys : List Dat} {b : Bool}, Reps X.K T H ex rho vs xs → Reps X.K T H ex' rho' vs ys → eqAs n xs ys = some b → b = true ∧ xs.length = ys.length := by
      intro n ih vs xs ys b r1 r2 h
      refine ⟨?_, r1.length.symm.trans r2.length⟩
      obtain ⟨f, hf, rfl⟩ := eqAs_get h
      rw [List.all_eq_true]
      intro j hj
      have hj : j < min xs.length ys.length := by simpa using hj
      have h1 : j < xs.length := by omega
      have h2 : j < ys.length := by omega
      obtain ⟨v1, hv1, q1⟩ := r1.get (List.getElem?_eq_getElem h1)
      obtain ⟨v2, hv2, q2⟩ := r2.get (List.getElem?_eq_getElem h2)
      rw [hv1] at hv2
      cases hv2
      exact ih q1 q2 (hf j _ _ (List.getElem?_eq_getElem h1) (List.getElem?_eq_getElem h2))
    cases rd with
    | non => cases re; simp [eqA] at h; exact h
    | bl => cases re; simp [eqA] at h; exact h
    | int => cases re; simp [eqA] at h; exact h
    | str q => cases re with | str q' => subst q q'; simp [eqA] at h; exact h
    | @tup a vs xs q r =>
      cases re with
      | @tup _ vs' ys q' r' =>
        cases n with
        | zero => simp [eqA] at h
        | succ n =>
          have e := I.tuple_inj q.sq q'.sq
          subst e
          simp only [eqA, Option.map_eq_some_iff] at h
          obtain ⟨c, hc, rfl⟩ := h
          obtain ⟨e1, e2⟩ := many n (fun a b c => eqA_self I n a b c) r r' hc
          simp [e1, e2]
      | @lst _ vs' ys q' r' =>
        obtain ⟨_, _, ⟨o1, ho1, hc1, _⟩, _⟩ := I.tuple q.sq
        obtain ⟨_, _, ⟨o2, n2, ho2, hc2, _⟩, _⟩ := I.list q'.sq
        rw [ho1] at ho2; cases ho2; rw [hc1] at hc2; simp at hc2
      | wt _ _ => simp [eqA] at h
      | frl _ _ _ => simp [eqA] at h
      | dctK _ _ _ _ => simp [eqA] at h
      | dctT _ _ _ _ => simp [eqA] at h
      | ins _ _ _ _ _ => simp [eqA] at h
      | cell _ => simp [eqA] at h
    | @lst a vs xs q r =>
      cases re with
      | @lst _ vs' ys q' r' =>
        cases n with
        | zero => simp [eqA] at h
        | succ n =>
          have e := I.list_inj q.sq q'.sq
          subst e
          have hl : xs.length = ys.length := r.length.symm.trans r'.length
          simp only [eqA, if_pos hl] at h
          exact (many n (fun a b c => eqA_self I n a b c) r r' h).1
      | @tup _ vs' ys q' r' =>
        obtain ⟨_, _, ⟨o1, ho1, hc1, _⟩, _⟩ := I.tuple q'.sq
        obtain ⟨_, _, ⟨o2, n2, ho2, hc2, _⟩, _⟩ := I.list q.sq
        rw [ho1] at ho2; cases ho2; rw [hc1] at hc2; simp at hc2
      | wt _ _ => simp [eqA] at h
      | frl _ _ _ => simp [eqA] at h
      | dctK _ _ _ _ => simp [eqA] at h
      | dctT _ _ _ _ => simp [eqA] at h
      | ins _ _ _ _ _ => simp [eqA] at h
      | cell _ => simp [eqA] at h
    | wt _ _ => cases re <;> simp [eqA] at h
    | frl _ _ _ => cases re <;> simp [eqA] at h
    | dctK _ _ _ _ => cases re <;> simp [eqA] at h
    | dctT _ _ _ _ => cases re <;> simp [eqA] at h
    | ins _ _ _ _ _ => cases re <;> simp [eqA] at h
    | cell _ => cases re <;> simp [eqA] at h
end
end DL
end Part_DL7
section Part_DL8
set_option maxRecDepth 100000
namespace DL
open PySem PySem.Spec PyProof.Rows L2
section
variable {X : Cx} {T : Ct} {pins : List (Addr × Obj)} {sg : L2.St} {H : Hp} {s : Shared}
theorem str_eq_of {x y : Str} {l m : List Nat} (h1 : x.cps.toList = l) (h2 : y.cps.toList = m) : (x == y) = (l == m) := by
  subst h1 h2
  obtain ⟨⟨x⟩⟩ := x
  obtain ⟨⟨y⟩⟩ := y
  rw [Bool.eq_iff_iff]
  simp
/-- what is asked of == where one stands -/
theorem eqA_at (I : Inv X pins sg H s) : ∀ (n : Nat) (A : Around), A.units + n < cLine → ∀ {ex ex' : Addr → Prop} {rho rho' : List Addr} {v u : V} {vv uu : Value} {d e : Dat} {b : Bool}, Rep X.K T H ex rho v d → Rep X.K T H ex' rho' u e → RelV v vv → RelV u uu → eqA n d e = some b →
    SeqAt.EqAt A s vv uu b ∧ SeqAt.RcAt A s vv uu b
  | n, A, hu, ex, ex', rho, rho', v, u, vv, uu, d, e, b, rd, re, rv, ru, h => by
    have hu0 : A.units < cLine := by omega
    cases rd with
    | non =>
      cases (show vv = Value.none from rv)
      cases re with
      | non => cases (show uu = Value.none from ru); simp [eqA] at h; subst h; exact ⟨.same _, .none_none⟩
      | bl => cases (show uu = Value.bool _ from ru); simp [eqA] at h; subst h; exact ⟨.none_bool _, .none_bool _⟩
      | int => obtain ⟨t, rfl⟩ := ru; simp [eqA] at h; subst h; exact ⟨.none_int _ _, .none_int _ _⟩
      | str q => obtain ⟨t, rfl⟩ := ru; simp [eqA] at h; subst h; exact ⟨.none_str _ _, .none_str _ _⟩
      | tup q r => cases (show uu = Value.ref _ from ru); obtain ⟨its, _, ht, _⟩ := I.tuple q.sq; simp [eqA] at h; subst h; exact ⟨.none_tuple ht hu0, .none_tuple ht hu0⟩
      | lst q r => cases (show uu = Value.ref _ from ru); obtain ⟨its, _, ht, _⟩ := I.list q.sq; simp [eqA] at h; subst h; exact ⟨.none_list ht.isList hu0, .none_list ht.isList hu0⟩
      | _ => simp [eqA] at h
    | @bl k =>
      cases (show vv = Value.bool _ from rv)
      cases re with
      | non => cases (show uu = Value.none from ru); simp [eqA] at h; subst h; exact ⟨.bool_none _, .bool_none _⟩
      | bl => cases (show uu = Value.bool _ from ru); simp only [eqA, Option.some.injEq] at h; subst h; exact ⟨.bool_bool _ _, .bool_bool _ _⟩
      | int => obtain ⟨t, rfl⟩ := ru; simp only [eqA, Option.some.injEq] at h; subst h; exact ⟨.bool_int _ _ _, .bool_int _ _ _⟩
      | str q => obtain ⟨t, rfl⟩ := ru; simp [eqA] at h; subst h; exact ⟨.bool_str _ _ _, .bool_str _ _ _⟩
      | tup q r => cases (show uu = Value.ref _ from ru); obtain ⟨its, _, ht, _⟩ := I.tuple q.sq; simp [eqA] at h; subst h; exact ⟨.bool_tuple _ ht hu0, .bool_tuple _ ht hu0⟩
      | lst q r => cases (show uu = Value.ref _ from ru); obtain ⟨its, _, ht, _⟩ := I.list q.sq; simp [eqA] at h; subst h; exact ⟨.bool_list _ ht.isList hu0, .bool_list _ ht.isList hu0⟩
      | _ => simp [eqA] at h
    | int =>
      obtain ⟨t0, rfl⟩ := rv
      cases re with
      | non => cases (show uu = Value.none from ru); simp [eqA] at h; subst h; exact ⟨.int_none _ _, .int_none _ _⟩
      | bl => cases (show uu = Value.bool _ from ru); simp only [eqA, Option.some.injEq] at h; subst h; exact ⟨.int_bool _ _ _, .int_bool _ _ _⟩
      | int => obtain ⟨t, rfl⟩ := ru; simp only [eqA, Option.some.injEq] at h; subst h; exact ⟨.int_int _ _ _ _, .int_int _ _ _ _⟩
      | str q => obtain ⟨t, rfl⟩ := ru; simp [eqA] at h; subst h; exact ⟨.int_str _ _ _ _, .int_str _ _ _ _⟩
      | tup q r => cases (show uu = Value.ref _ from ru); obtain ⟨its, _, ht, _⟩ := I.tuple q.sq; simp [eqA] at h; subst h; exact ⟨.int_tuple _ _ ht hu0, .int_tuple _ _ ht hu0⟩
      | lst q r => cases (show uu = Value.ref _ from ru); obtain ⟨its, _, ht, _⟩ := I.list q.sq; simp [eqA] at h; subst h; exact ⟨.int_list _ _ ht.isList hu0, .int_list _ _ ht.isList hu0⟩
      | _ => simp [eqA] at h
    | str q0 =>
      obtain ⟨t0, rfl⟩ := rv
      cases re with
      | non => cases (show uu = Value.none from ru); simp [eqA] at h; subst h; exact ⟨.str_none _ _, .str_none _ _⟩
      | bl => cases (show uu = Value.bool _ from ru); simp [eqA] at h; subst h; exact ⟨.str_bool _ _ _, .str_bool _ _ _⟩
      | int => obtain ⟨t, rfl⟩ := ru; simp [eqA] at h; subst h; exact ⟨.str_int _ _ _ _, .str_int _ _ _ _⟩
      | str q =>
        obtain ⟨t, rfl⟩ := ru
        simp only [eqA, Option.some.injEq] at h
        subst h
        rw [← str_eq_of q0 q]
        exact ⟨.str_str _ _ _ _, .str_str _ _ _ _⟩
      | tup q r => cases (show uu = Value.ref _ from ru); obtain ⟨its, _, ht, _⟩ := I.tuple q.sq; simp [eqA] at h; subst h; exact ⟨.str_tuple _ _ ht hu0, .str_tuple _ _ ht hu0⟩
      | lst q r => cases (show uu = Value.ref _ from ru); obtain ⟨its, _, ht, _⟩ := I.list q.sq; simp [eqA] at h; subst h; exact ⟨.str_list _ _ ht.isList hu0, .str_list _ _ ht.isList hu0⟩
      | _ => simp [eqA] at h
    | @tup a vs xs q0 r0 =>
      cases (show vv = Value.ref _ from rv)
      obtain ⟨its0, rv0, ht0, _⟩ := I.tuple q0.sq
      cases re with
      | non => cases (show uu = Value.none from ru); simp [eqA] at h; subst h; exact ⟨.tuple_none ht0 hu0, .tuple_none ht0 hu0⟩
      | bl => cases (show uu = Value.bool _ from ru); simp [eqA] at h; subst h; exact ⟨.tuple_bool _ ht0 hu0, .tuple_bool _ ht0 hu0⟩
      | int => obtain ⟨t, rfl⟩ := ru; simp [eqA] at h; subst h; exact ⟨.tuple_int _ _ ht0 hu0, .tuple_int _ _ ht0 hu0⟩
      | str q => obtain ⟨t, rfl⟩ := ru; simp [eqA] at h; subst h; exact ⟨.tuple_str _ _ ht0 hu0, .tuple_str _ _ ht0 hu0⟩
      | @tup a' vs' ys q r =>
        cases (show uu = Value.ref _ from ru)
        obtain ⟨its, rv1, ht, _⟩ := I.tuple q.sq
        cases n with
        | zero => simp [eqA] at h
        | succ n =>
          have hself := fun (e : a = a') => eqA_self I (n + 1) (Rep.tup q0 r0) (by subst e; exact Rep.tup q r) h
          simp only [eqA, Option.map_eq_some_iff] at h
          obtain ⟨c, hc, rfl⟩ := h
          obtain ⟨f, hf, rfl⟩ := eqAs_get hc
          have hs1 : its0.toArray.size = xs.length := by rw [List.size_toArray, ← rv0.length, r0.length]
          have hs2 : its.toArray.size = ys.length := by rw [List.size_toArray, ← rv1.length, r.length]
          have rc : SeqAt.RcAt A s (.ref a) (.ref a') ((List.range (min xs.length ys.length)).all f && xs.length == ys.length) := by
            rw [← hs1, ← hs2]
            refine .tuples ht0 ht hu0 fun j h1 h2 => ?_
            obtain ⟨x, hx, qx⟩ := r0.get' (i := j) (List.getElem?_eq_getElem (by rw [r0.length, ← hs1]; exact h1))
            obtain ⟨y, hy, qy⟩ := r.get' (i := j) (List.getElem?_eq_getElem (by rw [r.length, ← hs2]; exact h2))
            obtain ⟨w1, e1, k1⟩ := rv0.get (List.getElem?_eq_getElem (by rw [r0.length, ← hs1]; exact h1))
            obtain ⟨w2, e2, k2⟩ := rv1.get (List.getElem?_eq_getElem (by rw [r.length, ← hs2]; exact h2))
            have g1 : its0.toArray[j] = w1 := by
              rw [List.getElem_toArray]
              exact Option.some.inj ((List.getElem?_eq_getElem (by simpa using h1)).symm.trans e1)
            have g2 : its.toArray[j] = w2 := by
              rw [List.getElem_toArray]
              exact Option.some.inj ((List.getElem?_eq_getElem (by simpa using h2)).symm.trans e2)
            rw [g1, g2]
            exact (eqA_at I n A.in1 (by show A.units + 1 + n < cLine; omega) qx qy k1 k2 (hf j x y hx hy)).1
          refine ⟨?_, rc⟩
          by_cases e : a = a'
          · rw [hself e, e]; exact .same _
          · exact .of_refs e rc
      | lst q r => cases (show uu = Value.ref _ from ru); obtain ⟨its, _, ht, _⟩ := I.list q.sq; simp [eqA] at h; subst h; exact ⟨.tuple_list ht0 ht.isList hu0, .tuple_list ht0 ht.isList hu0⟩
      | _ => simp [eqA] at h
    | @lst a vs xs q0 r0 =>
      cases (show vv = Value.ref _ from rv)
      obtain ⟨its0, rv0, ht0, _⟩ := I.list q0.sq
      cases re with
      | non => cases (show uu = Value.none from ru); simp [eqA] at h; subst h; exact ⟨.list_none ht0.isList hu0, .list_none ht0.isList hu0⟩
      | bl => cases (show uu = Value.bool _ from ru); simp [eqA] at h; subst h; exact ⟨.list_bool _ ht0.isList hu0, .list_bool _ ht0.isList hu0⟩
      | int => obtain ⟨t, rfl⟩ := ru; simp [eqA] at h; subst h; exact ⟨.list_int _ _ ht0.isList hu0, .list_int _ _ ht0.isList hu0⟩
      | str q => obtain ⟨t, rfl⟩ := ru; simp [eqA] at h; subst h; exact ⟨.list_str _ _ ht0.isList hu0, .list_str _ _ ht0.isList hu0⟩
      | tup q r => cases (show uu = Value.ref _ from ru); obtain ⟨its, _, ht, _⟩ := I.tuple q.sq; simp [eqA] at h; subst h; exact ⟨.list_tuple ht0.isList ht hu0, .list_tuple ht0.isList ht hu0⟩
      | @lst a' vs' ys q r =>
        cases (show uu = Value.ref _ from ru)
        obtain ⟨its, rv1, ht, _⟩ := I.list q.sq
        cases n with
        | zero => simp [eqA] at h
        | succ n =>
          have hself := fun (e : a = a') => eqA_self I (n + 1) (Rep.lst q0 r0) (by subst e; exact Rep.lst q r) h
          have hs1 : its0.toArray.size = xs.length := by rw [List.size_toArray, ← rv0.length, r0.length]
          have hs2 : its.toArray.size = ys.length := by rw [List.size_toArray, ← rv1.length, r.length]
          have rc : SeqAt.RcAt A s (.ref a) (.ref a') b := by
            by_cases hl : xs.length = ys.length
            · simp only [eqA, if_pos hl] at h
              obtain ⟨f, hf, rfl⟩ := eqAs_get h
              rw [show min xs.length ys.length = its0.toArray.size by omega]
              refine .lists ht0.isList ht.isList (by omega) hu0 fun j h1 h2 => ?_
              obtain ⟨x, hx, qx⟩ := r0.get' (i := j) (List.getElem?_eq_getElem (by rw [r0.length, ← hs1]; exact h1))
              obtain ⟨y, hy, qy⟩ := r.get' (i := j) (List.getElem?_eq_getElem (by rw [r.length, ← hs2]; exact h2))
              obtain ⟨w1, e1, k1⟩ := rv0.get (List.getElem?_eq_getElem (by rw [r0.length, ← hs1]; exact h1))
              obtain ⟨w2, e2, k2⟩ := rv1.get (List.getElem?_eq_getElem (by rw [r.length, ← hs2]; exact h2))
              have g1 : its0.toArray[j] = w1 := by
                rw [List.getElem_toArray]
                exact Option.some.inj ((List.getElem?_eq_getElem (by simpa using h1)).symm.trans e1)
              have g2 : its.toArray[j] = w2 := by
                rw [List.getElem_toArray]
                exact Option.some.inj ((List.getElem?_eq_getElem (by simpa using h2)).symm.trans e2)
              rw [g1, g2]
              exact (eqA_at I n A.in1 (by show A.units + 1 + n < cLine; omega) qx qy k1 k2 (hf j x y hx hy)).1
            · simp only [eqA, if_neg hl, Option.some.injEq] at h
              subst h
              refine .lists_lengths ht0.isList ht.isList ?_ hu0
              rw [hs1, hs2]
              simpa using hl
          refine ⟨?_, rc⟩
          by_cases e : a = a'
          · rw [hself e, e]; exact .same _
          · exact .of_refs e rc
      | _ => simp [eqA] at h
    | wt _ _ => cases re <;> simp [eqA] at h
    | frl _ _ _ => cases re <;> simp [eqA] at h
    | dctK _ _ _ _ => cases re <;> simp [eqA] at h
    | dctT _ _ _ _ => cases re <;> simp [eqA] at h
    | ins _ _ _ _ _ => cases re <;> simp [eqA] at h
    | cell _ => cases re <;> simp [eqA] at h
end
end DL
end Part_DL8
section Part_DL9
set_option maxRecDepth 100000
/-! comparisons -/
namespace DL
open PySem PySem.Spec PyProof.Rows L2
mutual
def toPy : Dat → PyData
  | .non => .none
  | .bl b => .bool b
  | .int i => .int i
  | .str x => .str ⟨x.toArray⟩
  | .lst xs => .list (toPys xs)
  | .tup xs => .tuple (toPys xs)
  | _ => .none
def toPys : List Dat → List PyData
  | [] => []
  | x :: xs => toPy x :: toPys xs
end
mutual
def okP : Nat → Dat → Bool
  | _, .non => true
  | _, .bl _ => true
  | _, .int _ => true
  | _, .str x => x.all (· < 0x110000)
  | n + 1, .lst xs => okPs n xs
  | n + 1, .tup xs => okPs n xs
  | _, _ => false
def okPs : Nat → List Dat → Bool
  | _, [] => true
  | n, x :: xs => okP n x && okPs n xs
end
theorem toPys_len : ∀ xs : List Dat, (toPys xs).length = xs.length
  | [] => by simp [toPys]
  | x :: xs => by simp [toPys, toPys_len xs]
mutual
theorem okP_shape : ∀ (n : Nat) (d : Dat), okP n d = true → (toPy d).canLay0 = true ∧ (toPy d).depth ≤ n
  | n, .non, _ => by simp [toPy, PyData.canLay0, PyData.depth]
  | n, .bl b, _ => by simp [toPy, PyData.canLay0, PyData.depth]
  | n, .int i, _ => by simp [toPy, PyData.canLay0, PyData.depth]
  | n, .str x, h => by
    simp only [toPy, PyData.canLay0, PyData.depth]
    refine ⟨?_, Nat.zero_le _⟩
    have h' : x.all (· < 0x110000) = true := by simpa [okP] using h
    unfold PyData.strOk
    simpa using h'
  | 0, .lst xs, h => by simp [okP] at h
  | 0, .tup xs, h => by simp [okP] at h
  | n + 1, .lst xs, h => by
    obtain ⟨h1, h2⟩ := okPs_shape n xs (by simpa [okP] using h)
    simp only [toPy, PyData.canLay0, PyData.depth]
    exact ⟨h1, by omega⟩
  | n + 1, .tup xs, h => by
    obtain ⟨h1, h2⟩ := okPs_shape n xs (by simpa [okP] using h)
    simp only [toPy, PyData.canLay0, PyData.depth]
    exact ⟨h1, by omega⟩
  | 0, .frl _, h => by simp [okP] at h
  | 0, .wt _, h => by simp [okP] at h
  | 0, .dct _ _, h => by simp [okP] at h
  | 0, .ins _ _, h => by simp [okP] at h
  | 0, .cell _, h => by simp [okP] at h
  | n + 1, .frl _, h => by simp [okP] at h
  | n + 1, .wt _, h => by simp [okP] at h
  | n + 1, .dct _ _, h => by simp [okP] at h
  | n + 1, .ins _ _, h => by simp [okP] at h
  | n + 1, .cell _, h => by simp [okP] at h
theorem okPs_shape : ∀ (n : Nat) (ds : List Dat), okPs n ds = true → PyData.canLayAll0 (toPys ds) = true ∧ PyData.depthAll (toPys ds) ≤ n
  | n, [], _ => by simp [toPys, PyData.canLayAll0, PyData.depthAll]
  | n, d :: ds, h => by
    have h' : okP n d = true ∧ okPs n ds = true := by simpa [okPs] using h
    obtain ⟨a1, a2⟩ := okP_shape n d h'.1
    obtain ⟨b1, b2⟩ := okPs_shape n ds h'.2
    simp only [toPys, PyData.canLayAll0, PyData.depthAll, a1, b1, Bool.and_self, true_and]
    omega
end
theorem okP_shaped {d : Dat} (h : okP 60 d = true) : SeqAt.shaped (toPy d) = true := by
  obtain ⟨h1, h2⟩ := okP_shape 60 d h
  unfold SeqAt.shaped
  rw [h1]
  simp
  omega
section
variable {K : PySem.W.Frag} {T : Ct} {H : Hp} {ex : Addr → Prop} {rho : List Addr}
mutual
theorem Rep.dp : ∀ {n : Nat} {v : V} {d : Dat}, Rep K T H ex rho v d → okP n d = true → Dp K H v (toPy d)
  | _, _, _, .non, _ => .non
  | _, _, _, .bl, _ => by simp only [toPy]; exact .bl _
  | _, _, _, .int, _ => by simp only [toPy]; exact .int _
  | _, _, _, .str (x := x) h, _ => by
    subst h
    simp only [toPy]
    exact .str x
  | n, _, _, .tup h r, q => by
    cases n with
    | zero => simp [okP] at q
    | succ n => simp only [toPy]; exact .tup h.sq (Reps.dp r (by simpa [okP] using q))
  | n, _, _, .lst h r, q => by
    cases n with
    | zero => simp [okP] at q
    | succ n => simp only [toPy]; exact .lst h.sq (Reps.dp r (by simpa [okP] using q))
  | n, _, _, .frl _ _ _, q => by cases n <;> simp [okP] at q
  | n, _, _, .wt _ _, q => by cases n <;> simp [okP] at q
  | n, _, _, .dctK _ _ _ _, q => by cases n <;> simp [okP] at q
  | n, _, _, .dctT _ _ _ _, q => by cases n <;> simp [okP] at q
  | n, _, _, .ins _ _ _ _ _, q => by cases n <;> simp [okP] at q
  | n, _, _, .cell _, q => by cases n <;> simp [okP] at q
theorem Reps.dp : ∀ {n : Nat} {vs : List V} {ds : List Dat}, Reps K T H ex rho vs ds → okPs n ds = true → DpAll K H vs (toPys ds)
  | _, _, _, .nil, _ => by simp only [toPys]; exact .nil
  | n, _, _, .cons r t, q => by
    have q' := q
    simp only [okPs, Bool.and_eq_true] at q'
    simp only [toPys]
    exact .cons (Rep.dp r q'.1) (Reps.dp t q'.2)
end
end
theorem eqvAll_len : ∀ (n : Nat) (xs ys : List Dat) (ih : ∀ d e b, eqA n d e = some b → okP n d = true → okP n e = true → PyData.eqv (toPy d) (toPy e) = b) (b : Bool), eqAs n xs ys = some b → okPs n xs = true → okPs n ys = true → PyData.eqvAll (toPys xs) (toPys ys) = (b && xs.length == ys.length)
  | n, [], [], _, b, h, _, _ => by
    rw [eqAs.eq_2 _ _ _ (by simp)] at h
    cases h
    simp [toPys, PyData.eqvAll]
  | n, [], y :: ys, _, b, h, _, _ => by
    rw [eqAs.eq_2 _ _ _ (by simp)] at h
    cases h
    simp [toPys, PyData.eqvAll]
  | n, x :: xs, [], _, b, h, _, _ => by
    rw [eqAs.eq_2 _ _ _ (by simp)] at h
    cases h
    simp [toPys, PyData.eqvAll]
  | n, x :: xs, y :: ys, ih, b, h, h1, h2 => by
    rw [eqAs.eq_1] at h
    simp only [okPs, Bool.and_eq_true] at h1 h2
    split at h
    · rename_i a c ha hc
      cases h
      simp only [toPys, PyData.eqvAll]
      rw [ih _ _ _ ha h1.1 h2.1, eqvAll_len n xs ys ih _ hc h1.2 h2.2]
      rw [List.length_cons, List.length_cons, Bool.and_assoc]
      congr 2
      rw [Bool.eq_iff_iff]
      simp
    · cases h
theorem eqv_of : ∀ (n : Nat) (d e : Dat) (b : Bool), eqA n d e = some b → okP n d = true → okP n e = true → PyData.eqv (toPy d) (toPy e) = b
  | n, d, e, b, h, h1, h2 => by
    cases d <;> cases e <;> first
      | (simp only [eqA, Option.some.injEq] at h; subst h; simp only [toPy, PyData.eqv]; done)
      | (cases n <;> simp [okP] at h1; done)
      | (cases n <;> simp [okP] at h2; done)
      | skip
    · -- texts
      rename_i x y
      simp only [eqA, Option.some.injEq] at h
      subst h
      simp only [toPy, PyData.eqv]
      rw [Bool.eq_iff_iff]
      simp
    · rename_i xs ys
      cases n with
      | zero => simp [okP] at h1
      | succ n =>
        simp only [okP] at h1 h2
        simp only [eqA, Option.map_eq_some_iff] at h
        obtain ⟨c, hc, rfl⟩ := h
        simp only [toPy, PyData.eqv]
        exact eqvAll_len n xs ys (eqv_of n) c hc h1 h2
    · rename_i xs ys
      cases n with
      | zero => simp [okP] at h1
      | succ n =>
        simp only [okP] at h1 h2
        simp only [toPy, PyData.eqv]
        by_cases hl : xs.length = ys.length
        · simp only [eqA, if_pos hl] at h
          rw [eqvAll_len n xs ys (eqv_of n) b h h1 h2]
          simp [hl]
        · simp only [eqA, if_neg hl, Option.some.injEq] at h
          subst h
          have : ∀ (ps qs : List PyData), ps.length ≠ qs.length → PyData.eqvAll ps qs = false := by
            intro ps
            induction ps with
            | nil => intro qs hq; cases qs with
              | nil => exact absurd rfl hq
              | cons q qs => simp [PyData.eqvAll]
            | cons p ps ih => intro qs hq; cases qs with
              | nil => simp [PyData.eqvAll]
              | cons q qs =>
                simp only [PyData.eqvAll]
                rw [ih qs (fun z => hq (by simp [z]))]
                simp
          exact this _ _ (by rw [toPys_len, toPys_len]; exact hl)
/-! ### == and != -/
def kEq (x y : Dat) (om : Om) : R Dat := match eqA 60 (der om x) (der om y) with
  | some b => .ok (.bl b) om
  | none => .no
def isSc : Dat → Bool
  | .non => true
  | .bl _ => true
  | .int _ => true
  | .str _ => true
  | _ => false
def kNe (x y : Dat) (om : Om) : R Dat := match eqA 60 (der om x) (der om y) with
  | some b => if okP 60 (der om x) = true ∧ okP 60 (der om y) = true then .ok (.bl (!b)) om else .no
  | none => .no
/-- != of two texts -/
def rEqG (K : PySem.W.Frag) (T : Ct) : R2 := fun x y H Q => ∃ ex rho d e b, Rep K T H ex rho x d ∧ Rep K T H ex rho y e ∧ eqA 60 d e = some b ∧ Q (.bl b) H
section
variable {X : Cx} {T : Ct}
theorem op_eqG (hu : X.A.units + 64 < cLine) : OpR X (compareOp .Eq) (rEqG X.K T) := by
  intro pins s sg H x y v u Q I rx ry h
  obtain ⟨ex, rho, d, e, b, rd, re, hb, q⟩ := h
  exact (eqA_at I 60 X.A (by omega) rd re rx ry hb).2 _ _ _ _ ⟨.bl b, H, I, rfl, q⟩
theorem opd_eq {K : PySem.W.Frag} : OpD K T (rEqG K T) kEq := fun W sg H ex rho om Q x y v u w rx ry o => by
  unfold kEq at o
  split at o
  · rename_i b hb
    exact ⟨_, _, _, _, b, rx.der w, ry.der w, hb, o.here w .bl⟩
  · exact o.elim
theorem opd_ne {K : PySem.W.Frag} : OpD K T (rNeD K) kNe := fun W sg H ex rho om Q x y v u w rx ry o => by
  unfold kNe at o
  split at o
  · rename_i b hb
    split at o
    · rename_i hk
      refine ⟨_, _, (rx.der w).dp hk.1, (ry.der w).dp hk.2, okP_shaped hk.1, okP_shaped hk.2, ?_⟩
      rw [eqv_of 60 _ _ b hb hk.1 hk.2]
      exact o.here w .bl
    · exact o.elim
  · exact o.elim
/-- != of two texts of any signs -/
def kNeS (x y : Dat) (om : Om) : R Dat := match x, y with
  | .str a, .str b => .ok (.bl (!(a == b))) om
  | .int a, .int b => .ok (.bl (!(a == b))) om
  | .non, .str _ => .ok (.bl true) om
  | .str _, .non => .ok (.bl true) om
  | _, _ => .no
theorem opd_neS {K : PySem.W.Frag} : OpD K T rNe kNeS := fun W sg H ex rho om Q x y v u w rx ry o => by
  unfold kNeS at o
  split at o
  · cases rx with
    | str q1 => cases ry with
      | str q2 =>
        refine ⟨rfl, ?_⟩
        rw [dec_str, str_eq_of q1 q2]
        exact o.here w .bl
  · cases rx; cases ry
    refine ⟨rfl, ?_⟩
    rw [dec_int]
    exact o.here w .bl
  · cases rx; cases ry; exact ⟨rfl, o.here w .bl⟩
  · cases rx; cases ry; exact ⟨rfl, o.here w .bl⟩
  · exact o.elim
/-! ### order -/
def kLt (x y : Dat) (om : Om) : R Dat := match x, y with
  | .int a, .int b => .ok (.bl (decide (a < b))) om
  | .str a, .str b => .ok (.bl (decide (a < b))) om
  | _, _ => .no
def kLe (x y : Dat) (om : Om) : R Dat := match x, y with
  | .int a, .int b => .ok (.bl (decide (a ≤ b))) om
  | .str a, .str b => .ok (.bl (decide (a ≤ b))) om
  | _, _ => .no
def kGt (x y : Dat) (om : Om) : R Dat := match x, y with
  | .int a, .int b => .ok (.bl (decide (b < a))) om
  | .str a, .str b => .ok (.bl (decide (b < a))) om
  | _, _ => .no
def kGe (x y : Dat) (om : Om) : R Dat := match x, y with
  | .int a, .int b => .ok (.bl (decide (b ≤ a))) om
  | .str a, .str b => .ok (.bl (decide (b ≤ a))) om
  | _, _ => .no
def rCmpS (p : List Nat → List Nat → Bool) : R2 := fun x y H Q => ∃ i j, x = .str i ∧ y = .str j ∧ Q (.bl (p i.cps.toList j.cps.toList)) H
end
end DL
end Part_DL9
section Part_DL10
set_option maxRecDepth 100000
/-! operators and built-ins on data -/
namespace DL
open PySem PySem.Spec PyProof.Rows L2
section
variable {X : Cx} {T : Ct} {K : PySem.W.Frag}
theorem toList_lt_str {x y : Str} {l m : List Nat} (h1 : x.cps.toList = l) (h2 : y.cps.toList = m) : decide (x.cps.toList < y.cps.toList) = decide (l < m) := by rw [h1, h2]
/-- ints and texts by their order -/
def kCmp (pi : Int → Int → Bool) (ps : List Nat → List Nat → Bool) (x y : Dat) (om : Om) : R Dat := match x, y with
  | .int a, .int b => .ok (.bl (pi a b)) om
  | .str a, .str b => .ok (.bl (ps a b)) om
  | _, _ => .no
def kLt' : Dat → Dat → Om → R Dat := kCmp (fun a b => decide (a < b)) fun a b => decide (a < b)
def kLe' : Dat → Dat → Om → R Dat := kCmp (fun a b => decide (a ≤ b)) fun a b => !decide (b < a)
def kGt' : Dat → Dat → Om → R Dat := kCmp (fun a b => decide (b < a)) fun a b => decide (b < a)
def kGe' : Dat → Dat → Om → R Dat := kCmp (fun a b => decide (b ≤ a)) fun a b => !decide (a < b)
def rCmp (pi : Int → Int → Bool) (ps : List Nat → List Nat → Bool) : R2 := fun x y H Q => (∃ i j, x = .int i ∧ y = .int j ∧ Q (.bl (pi i j)) H) ∨ ∃ i j, x = .str i ∧ y = .str j ∧ Q (.bl (ps i.cps.toList j.cps.toList)) H
theorem opd_cmp {pi : Int → Int → Bool} {ps : List Nat → List Nat → Bool} : OpD K T (rCmp pi ps) (kCmp pi ps) := fun W sg H ex rho om Q x y v u w rx ry o => by
  unfold kCmp at o
  split at o
  · cases rx; cases ry; exact .inl ⟨_, _, rfl, rfl, o.here w .bl⟩
  · cases rx with
    | str q1 => cases ry with
      | str q2 => subst q1 q2; exact .inr ⟨_, _, rfl, rfl, o.here w .bl⟩
  · exact o.elim
theorem op_lt' : OpR X (compareOp .Lt) (rCmp (fun a b => decide (a < b)) fun a b => decide (a < b)) := op_lt.or op_lt_str
theorem op_le' : OpR X (compareOp .LtE) (rCmp (fun a b => decide (a ≤ b)) fun a b => !decide (b < a)) := op_le.or op_le_str
theorem op_gt' : OpR X (compareOp .Gt) (rCmp (fun a b => decide (b < a)) fun a b => decide (b < a)) := op_gt.or op_gt_str
theorem op_ge' : OpR X (compareOp .GtE) (rCmp (fun a b => decide (b ≤ a)) fun a b => !decide (a < b)) := op_ge.or op_ge_str
/-! ### in -/
/-- one sign in a text -/
def kInS (x y : Dat) (om : Om) : R Dat := match x, y with
  | .str [c], .str z => .ok (.bl (decide (c ∈ z))) om
  | _, _ => .no
def kNotInS (x y : Dat) (om : Om) : R Dat := match x, y with
  | .str [c], .str z => .ok (.bl (!decide (c ∈ z))) om
  | _, _ => .no
theorem str_one {x : Str} {c : Nat} (h : x.cps.toList = [c]) : x = ⟨#[c]⟩ := by
  obtain ⟨⟨l⟩⟩ := x
  simp only at h
  subst h
  rfl
theorem opd_inS : OpD K T (fun x y H Q => ∃ (c : Nat) (z : Str), x = .str ⟨#[c]⟩ ∧ y = .str z ∧ Q (.bl (decide (c ∈ z.cps.toList))) H) kInS := fun W sg H ex rho om Q x y v u w rx ry o => by
  unfold kInS at o
  split at o
  · cases rx with
    | str q1 => cases ry with
      | str q2 => subst q2; rw [str_one q1]; exact ⟨_, _, rfl, rfl, o.here w .bl⟩
  · exact o.elim
theorem opd_notInS : OpD K T (fun x y H Q => ∃ (c : Nat) (z : Str), x = .str ⟨#[c]⟩ ∧ y = .str z ∧ Q (.bl (!decide (c ∈ z.cps.toList))) H) kNotInS := fun W sg H ex rho om Q x y v u w rx ry o => by
  unfold kNotInS at o
  split at o
  · cases rx with
    | str q1 => cases ry with
      | str q2 => subst q2; rw [str_one q1]; exact ⟨_, _, rfl, rfl, o.here w .bl⟩
  · exact o.elim
/-- in a list or a tuple -/
def anyEq (d : Dat) : List Dat → Option Bool
  | [] => some false
  | e :: r => match eqA 58 e d, anyEq d r with
    | some a, some b => some (a || b)
    | _, _ => none
def inD (om : Om) (x y : Dat) : Option Bool := match itemsD om y with
  | some xs => if okP 58 (der om x) = true ∧ okPs 58 xs = true then anyEq (der om x) xs else none
  | none => none
def kIn (x y : Dat) (om : Om) : R Dat := match inD om x y with
  | some b => .ok (.bl b) om
  | none => .no
def kNotIn (x y : Dat) (om : Om) : R Dat := match inD om x y with
  | some b => .ok (.bl (!b)) om
  | none => .no
def rInG (K : PySem.W.Frag) (neg : Bool) : R2 := fun x y H Q => ∃ d ds, Dp K H x d ∧ (Dp K H y (.list ds) ∨ Dp K H y (.tuple ds)) ∧ d.canLay0 = true ∧ PyData.canLayAll0 ds = true ∧ d.depth ≤ 58 ∧ Q (.bl (if neg then !(ds.any fun z => PyData.eqv z d) else ds.any fun z => PyData.eqv z d)) H
theorem op_inG (hu : X.A.units + 64 < cLine) : OpR X (compareOp .In) (rInG X.K false) := by
  intro pins s sg H x y v u Q I rx ry h
  obtain ⟨d, ds, hd, he, h1, h2, h3, q⟩ := h
  obtain ⟨as, r1⟩ := Dp.reads I d x v hd rx
  have hr : X.A.units + 1 + min (PyData.depthAll ds) d.depth < cLine := by
    have : min (PyData.depthAll ds) d.depth ≤ d.depth := Nat.min_le_right _ _
    omega
  rcases he with he | he
  · obtain ⟨bs, r2⟩ := Dp.reads I _ y u he ry
    exact SeqAt.in_list_reads r2 r1 h2 h1 hr ⟨.bl _, H, I, rfl, q⟩
  · obtain ⟨bs, r2⟩ := Dp.reads I _ y u he ry
    exact SeqAt.in_tuple_reads r2 r1 h2 h1 hr ⟨.bl _, H, I, rfl, q⟩
theorem op_notInG (hu : X.A.units + 64 < cLine) : OpR X (compareOp .NotIn) (rInG X.K true) := by
  intro pins s sg H x y v u Q I rx ry h
  obtain ⟨d, ds, hd, he, h1, h2, h3, q⟩ := h
  obtain ⟨as, r1⟩ := Dp.reads I d x v hd rx
  have hr : X.A.units + 1 + min (PyData.depthAll ds) d.depth < cLine := by
    have : min (PyData.depthAll ds) d.depth ≤ d.depth := Nat.min_le_right _ _
    omega
  rcases he with he | he
  · obtain ⟨bs, r2⟩ := Dp.reads I _ y u he ry
    exact SeqAt.notIn_list_reads r2 r1 h2 h1 hr ⟨.bl _, H, I, rfl, q⟩
  · obtain ⟨bs, r2⟩ := Dp.reads I _ y u he ry
    exact SeqAt.notIn_tuple_reads r2 r1 h2 h1 hr ⟨.bl _, H, I, rfl, q⟩
theorem anyEq_eqv {d : Dat} (hd : okP 58 d = true) : ∀ {xs : List Dat} {b : Bool}, okPs 58 xs = true → anyEq d xs = some b → ((toPys xs).any fun z => PyData.eqv z (toPy d)) = b
  | [], b, _, h => by cases h; simp [toPys]
  | e :: r, b, ho, h => by
    simp only [okPs, Bool.and_eq_true] at ho
    unfold anyEq at h
    split at h
    · rename_i a c ha hc
      cases h
      simp only [toPys, List.any_cons]
      rw [anyEq_eqv hd ho.2 hc, eqv_of 58 e d a ha ho.1 hd]
    · cases h
theorem in_core {H : Hp} {ex : Addr → Prop} {rho : List Addr} {om : Om} {x y : Dat} {v u : V} {b : Bool} (w : WRel K T H ex rho om) (rx : Rep K T H ex rho v x) (ry : Rep K T H ex rho u y) (h : inD om x y = some b) :
    ∃ d ds, Dp K H v d ∧ (Dp K H u (.list ds) ∨ Dp K H u (.tuple ds)) ∧ d.canLay0 = true ∧ PyData.canLayAll0 ds = true ∧ d.depth ≤ 58 ∧ (ds.any fun z => PyData.eqv z d) = b := by
  unfold inD at h
  split at h
  · rename_i xs hx
    split at h
    · rename_i hk
      obtain ⟨p, vs, rfl, sq, rs⟩ := items_sq w ry hx
      obtain ⟨h1, h2⟩ := okP_shape 58 _ hk.1
      obtain ⟨h3, h4⟩ := okPs_shape 58 _ hk.2
      refine ⟨toPy (der om x), toPys xs, (rx.der w).dp hk.1, ?_, h1, h3, h2, anyEq_eqv hk.1 hk.2 h⟩
      rcases sq with sq | sq
      · exact .inr (.tup sq (rs.dp hk.2))
      · exact .inl (.lst sq (rs.dp hk.2))
    · cases h
  · cases h
theorem opd_in : OpD K T (rInG K false) kIn := fun W sg H ex rho om Q x y v u w rx ry o => by
  unfold kIn at o
  split at o
  · rename_i b hb
    obtain ⟨d, ds, h1, h2, h3, h4, h5, h6⟩ := in_core w rx ry hb
    refine ⟨d, ds, h1, h2, h3, h4, h5, ?_⟩
    rw [h6]
    exact o.here w .bl
  · exact o.elim
theorem opd_notIn : OpD K T (rInG K true) kNotIn := fun W sg H ex rho om Q x y v u w rx ry o => by
  unfold kNotIn at o
  split at o
  · rename_i b hb
    obtain ⟨d, ds, h1, h2, h3, h4, h5, h6⟩ := in_core w rx ry hb
    refine ⟨d, ds, h1, h2, h3, h4, h5, ?_⟩
    rw [h6]
    exact o.here w .bl
  · exact o.elim
/-! ### is None -/
def isNonD : Dat → Bool
  | .non => true
  | _ => false
def kIsN (x _y : Dat) (om : Om) : R Dat := .ok (.bl (isNonD x)) om
def kNotN (x _y : Dat) (om : Om) : R Dat := .ok (.bl (!isNonD x)) om
theorem isNon_rep {H : Hp} {ex : Addr → Prop} {rho : List Addr} {v : V} {x : Dat} (r : Rep K T H ex rho v x) : decide (v = .non) = isNonD x := by
  cases r <;> simp [isNonD]
theorem de_isN {a : Expr} {f : DV} {j p pos} (ha : DE X T a f) : DE X T (.Compare a [.Is] [.Constant .none j p] pos) (e1 (fun d om => .ok (.bl (isNonD d)) om) f) := fun W tk => pe_mono (pe_cmp (pc_isN (ha W tk)) rfl) fun sg H Q ⟨ex, rho, om, env, w, er, o⟩ => by
  refine ⟨ex, rho, om, env, w, er, (Out.bind (rel := Rep X.K T) o).mono ?_⟩
  rintro v H1 ⟨x, om1, ex1, rho1, _, st, w1, rx, o1⟩
  rw [isNon_rep rx]
  exact o1.here w1 .bl
theorem de_notN {a : Expr} {f : DV} {j p pos} (ha : DE X T a f) : DE X T (.Compare a [.IsNot] [.Constant .none j p] pos) (e1 (fun d om => .ok (.bl (!isNonD d)) om) f) := fun W tk => pe_mono (pe_cmp (pc_notN (ha W tk)) rfl) fun sg H Q ⟨ex, rho, om, env, w, er, o⟩ => by
  refine ⟨ex, rho, om, env, w, er, (Out.bind (rel := Rep X.K T) o).mono ?_⟩
  rintro v H1 ⟨x, om1, ex1, rho1, _, st, w1, rx, o1⟩
  rw [isNon_rep rx]
  exact o1.here w1 .bl
theorem dt_isN {a : Expr} {f : DV} {j p pos} (ha : DE X T a f) : DT X T (.Compare a [.Is] [.Constant .none j p] pos) (tst (e1 (fun d om => .ok (.bl (isNonD d)) om) f)) := fun W tk => pt_mono (pt_cmp (pc_isN (ha W tk)) rfl) fun sg H Q q => by
  obtain ⟨ex, rho, om, env, w, er, o⟩ := tD_tst q
  refine ⟨ex, rho, om, env, w, er, (Out.bind (rel := Rep X.K T) o).mono ?_⟩
  rintro v H1 ⟨x, om1, ex1, rho1, _, st, w1, rx, o1⟩
  rw [isNon_rep rx]
  exact o1.here w1 .bl
theorem dt_notN {a : Expr} {f : DV} {j p pos} (ha : DE X T a f) : DT X T (.Compare a [.IsNot] [.Constant .none j p] pos) (tst (e1 (fun d om => .ok (.bl (!isNonD d)) om) f)) := fun W tk => pt_mono (pt_cmp (pc_notN (ha W tk)) rfl) fun sg H Q q => by
  obtain ⟨ex, rho, om, env, w, er, o⟩ := tD_tst q
  refine ⟨ex, rho, om, env, w, er, (Out.bind (rel := Rep X.K T) o).mono ?_⟩
  rintro v H1 ⟨x, om1, ex1, rho1, _, st, w1, rx, o1⟩
  rw [isNon_rep rx]
  exact o1.here w1 .bl
/-! ### arithmetic -/
def kAdd (x y : Dat) (om : Om) : R Dat := match x, y with
  | .int a, .int b => .ok (.int (a + b)) om
  | .str a, .str b => if a.length + b.length ≤ 1000000 then .ok (.str (a ++ b)) om else .no
  | .tup a, .tup b => if a.length + b.length ≤ 1000000 then .ok (.tup (a ++ b)) om else .no
  | .lst a, .lst b => if a.length + b.length ≤ 1000000 then .ok (.lst (a ++ b)) om else .no
  | _, _ => .no
def rAddAll (K : PySem.W.Frag) : R2 := fun x y H Q => rI0 (fun i j => .int (i + j)) x y H Q ∨ (fun x y H Q => ∃ i j, x = V.str i ∧ y = V.str j ∧ i.length + j.length ≤ sizeLine ∧ Q (.str (i ++ j)) H) x y H Q ∨ rCatA K x y H Q ∨ rCat x y H Q
theorem op_addAll : OpR X (binaryOp .Add) (rAddAll X.K) := op_add.or (op_add_str.or (op_catA.or op_cat))
theorem str_len {x : Str} {l : List Nat} (h : x.cps.toList = l) : x.length = l.length := by
  subst h
  show x.cps.size = x.cps.toList.length
  simp
theorem str_app {x y : Str} {l m : List Nat} (h1 : x.cps.toList = l) (h2 : y.cps.toList = m) : (x ++ y).cps.toList = l ++ m := by
  subst h1 h2
  show (x.cps ++ y.cps).toList = _
  simp
theorem opd_add : OpD K T (rAddAll K) kAdd := fun W sg H ex rho om Q x y v u w rx ry o => by
  unfold kAdd at o
  split at o
  · cases rx; cases ry; exact .inl ⟨_, _, rfl, rfl, o.here w .int⟩
  · cases rx with
    | str q1 => cases ry with
      | str q2 =>
        split at o
        · rename_i hl
          exact .inr (.inl ⟨_, _, rfl, rfl, by rw [str_len q1, str_len q2]; exact million_line hl, o.here w (.str (str_app q1 q2))⟩)
        · exact o.elim
  · cases rx with
    | @tup a vs xs q1 r1 => cases ry with
      | @tup b us ys q2 r2 =>
        split at o
        · rename_i hl
          refine .inr (.inr (.inl ⟨_, _, vs, us, rfl, rfl, q1.sq, q2.sq, by rw [r1.length, r2.length]; exact million_line hl, fun e => ?_, fun _ e => ?_, fun _ _ p hp => ?_⟩))
          · subst e
            cases r1
            exact o.here w (.tup q2 (by simpa using r2))
          · subst e
            cases r2
            exact o.here w (.tup q1 (by simpa using r1))
          · exact o _ _ _ _ (lay_stp hp) (w.lay hp) (.tup (⟨upd_same, w.nex hp⟩) ((r1.append r2).step (lay_stp hp) w.sub))
        · exact o.elim
  · cases rx with
    | @lst a vs xs q1 r1 => cases ry with
      | @lst b us ys q2 r2 =>
        split at o
        · rename_i hl
          refine .inr (.inr (.inr ⟨_, _, vs, us, rfl, rfl, q1.1, q2.1, by rw [r1.length, r2.length]; exact million_line hl, fun p hp => ?_⟩))
          exact o _ _ _ _ (lay_stp hp) (w.lay hp) (.lst ⟨upd_same, w.nex hp⟩ ((r1.append r2).step (lay_stp hp) w.sub))
        · exact o.elim
  · exact o.elim
def kInt (f : Int → Int → Option Int) (x y : Dat) (om : Om) : R Dat := match x, y with
  | .int a, .int b => match f a b with
    | some c => .ok (.int c) om
    | none => .no
  | _, _ => .no
theorem opd_int0 {g : Int → Int → Int} : OpD K T (rI0 fun i j => .int (g i j)) (kInt fun a b => some (g a b)) := fun W sg H ex rho om Q x y v u w rx ry o => by
  unfold kInt at o
  split at o
  · cases rx; cases ry; exact ⟨_, _, rfl, rfl, o.here w .int⟩
  · exact o.elim
theorem opd_intC {C : Int → Int → Prop} {g : Int → Int → Int} {f : Int → Int → Option Int} (h : ∀ a b c, f a b = some c → C a b ∧ c = g a b) : OpD K T (rI C fun i j => .int (g i j)) (kInt f) := fun W sg H ex rho om Q x y v u w rx ry o => by
  unfold kInt at o
  split at o
  · rename_i a b
    cases rx; cases ry
    split at o
    · rename_i c hc
      obtain ⟨h1, rfl⟩ := h a b c hc
      exact ⟨_, _, rfl, rfl, h1, o.here w .int⟩
    · exact o.elim
  · exact o.elim
end
end DL
end Part_DL10
section Part_DL11
set_option maxRecDepth 100000
/-! built-in functions on data -/
namespace DL
open PySem PySem.Spec PyProof.Rows L2
def CallD (K : PySem.W.Frag) (T : Ct) (r : List V → Hp → VK → Prop) (k : List Dat → Om → R Dat) : Prop :=
  ∀ (W : WX) (sg : L2.St) (H : Hp) (ex : Addr → Prop) (rho : List Addr) (om : Om) (Q : VK) (ds : List Dat) (vs : List V), WRel K T H ex rho om → Reps K T H ex rho vs ds → Out K T (Rep K T) W sg H ex rho Q (k ds om) → r vs H Q
def eB (k : List Dat → Om → R Dat) (g : En → Om → R (List Dat)) : DV := fun env om => (g env om).bind k
theorem str_eta {x : Str} {l : List Nat} (h : x.cps.toList = l) : x = ⟨l.toArray⟩ := by
  subst h
  obtain ⟨⟨x⟩⟩ := x
  rfl
section
variable {X : Cx} {T : Ct} {K : PySem.W.Frag} {e : Expr} {es : List Expr} {as : En → Om → R (List Dat)} {x : Str} {p pos : Pos} {r r' : List V → Hp → VK → Prop} {k : List Dat → Om → R Dat}
theorem tD_cb {W : WX} {sg : L2.St} {H : Hp} {Q : VK} (hk : CallD K T r k) (h : tD K T (Rep K T) W (eB k as) sg H Q) : tCB r (tD K T (Reps K T) W as) sg H Q := by
  obtain ⟨ex, rho, om, env, w, er, o⟩ := h
  refine ⟨ex, rho, om, env, w, er, (Out.bind (rel := Reps K T) o).mono ?_⟩
  rintro vs H1 ⟨xs, om1, ex1, rho1, _, st, w1, rx, o1⟩
  exact hk W sg H1 ex1 rho1 om1 Q xs vs w1 rx o1
theorem de_b {id : String} (hc : CallR X (.builtin id) r) (hk : CallD X.K T r k) (hg : Gl X x) (hm : X.mg x = none) (hv : bootBuiltins x = some (.builtin id)) (ha : DA X T (e :: es) as) (hn : x ≠ "__name__" := by decide) (hdb : (x == ("__debug__" : Str)) = false := by decide)
    (he : starEach (e :: es) X.env = (false, eval e X.env) :: starEach es X.env := by rfl) (hpl : (backTo pos (starEach es X.env)).any (·.1) = false := by rfl) : DE X T (.Call (.Name x p) (e :: es) [] pos) (eB k as) := fun W tk =>
  pe_mono (pe_callB hc hg hm hv (ha W tk) hn hdb he hpl) fun _ _ _ h => tD_cb hk h
theorem de_ty {id : String} (hc : CallR X (.type id) r) (hk : CallD X.K T r k) (hg : Gl X x) (hm : X.mg x = none) (hv : bootBuiltins x = some (.type id)) (ha : DA X T (e :: es) as) (hn : x ≠ "__name__" := by decide) (hdb : (x == ("__debug__" : Str)) = false := by decide)
    (he : starEach (e :: es) X.env = (false, eval e X.env) :: starEach es X.env := by rfl) (hpl : (backTo pos (starEach es X.env)).any (·.1) = false := by rfl) : DE X T (.Call (.Name x p) (e :: es) [] pos) (eB k as) := fun W tk =>
  pe_mono (pe_callTy hc hg hm hv (ha W tk) hn hdb he hpl) fun _ _ _ h => tD_cb hk h
theorem callR_or {f : Value} (h : CallR X f r) (h' : CallR X f r') : CallR X f (fun vs H Q => r vs H Q ∨ r' vs H Q) := by
  intro pins s sg H vs us Q I rv q
  rcases q with q | q
  · exact h pins s sg H vs us Q I rv q
  · exact h' pins s sg H vs us Q I rv q

/-! ### isinstance -/
def isTy : String → Dat → Bool
  | "int", .int _ => true
  | "int", .bl _ => true
  | "bool", .bl _ => true
  | "str", .str _ => true
  | "tuple", .tup _ => true
  | "list", .lst _ => true
  | "list", .frl _ => true
  | "dict", .dct _ _ => true
  | _, _ => false
def tyOf : Dat → Option String
  | .non => some "NoneType"
  | .bl _ => some "bool"
  | .int _ => some "int"
  | .str _ => some "str"
  | .tup _ => some "tuple"
  | .lst _ => some "list"
  | .wt _ => some "tuple"
  | .frl _ => some "list"
  | .dct _ _ => some "dict"
  | _ => none
def kIsi (t : String) (d : Dat) (om : Om) : R Dat := match tyOf (der om d) with
  | some a => match kitB a t with
    | some b => .ok (.bl b) om
    | none => .no
  | none => .no
/-- a value's type, for isinstance -/
inductive TyD (K : PySem.W.Frag) (H : Hp) : V → Value → Prop where
  | base {x : V} {t : Value} (h : TyX K H x t) : TyD K H x t
  | fDictT {a : Addr} {o : Obj} {kvs : List (List Key × V)} (e : H a = some (.frz o (.dT kvs))) : TyD K H (.ref a) (.type "dict")
def rIsiD (K : PySem.W.Frag) : List V → Hp → VK → Prop := fun xs H Q => ∃ (x c : V) (t u : Value) (b : Bool), xs = [x, c] ∧ ClsV c u ∧ TyD K H x t ∧ PySem.W.kitOne K t u = some b ∧ Q (.bl b) H
theorem call_isiD : CallR X (.builtin "isinstance") (rIsiD X.K) := by
  intro pins s sg H xs us Q I r h
  obtain ⟨x, c, t, u, b, rfl, k, ty, e, q⟩ := h
  cases ty with
  | base ty => exact call_isi pins s sg H _ us Q I r ⟨x, c, t, u, b, rfl, k, ty, e, q⟩
  | @fDictT a ob kvs ea =>
    obtain ⟨u1, u2, rfl, r1, r2⟩ := vals2 r
    have e2 := k.eq r2
    subst e2
    cases (show u1 = Value.ref a from r1)
    obtain ⟨_, _, _, _, _, o, es, ep, h1, h2, _⟩ := (show ObjOk X.prog X.w H s.heap a (.frz ob (.dT kvs)) from I.hok a _ ea)
    exact PySem.W.kia_one PySem.W.kitx_dict I.kIn ⟨o, h1, h2.1⟩ e (fun z => nomatch z) fun tk => ⟨.bl b, H, I.tok tk, rfl, q⟩
theorem ty_of {H : Hp} {ex : Addr → Prop} {rho : List Addr} {v : V} {d : Dat} {a : String} (r : Rep K T H ex rho v d) (h : tyOf d = some a) : TyD K H v (.type a) := by
  cases r with
  | non => cases h; exact .base (.base .non)
  | bl => cases h; exact .base (.base (.bl _))
  | int => cases h; exact .base (.base (.int _))
  | str q => cases h; exact .base (.base (.str _))
  | tup q r =>
    cases h
    exact .base (.base (.tup q.1))
  | wt q r =>
    cases h
    obtain ⟨o, its, n, hk, hc, _⟩ := q
    exact .base (.kTuple hk hc)
  | lst q r => cases h; exact .base (.base (.lst q.1))
  | frl q _ r => cases h; exact .base (.base (.frz q))
  | dctK q _ r _ => cases h; exact .base (.fDict q)
  | dctT q _ r _ => cases h; exact .fDictT q
  | ins _ _ _ _ _ => cases h
  | cell _ => cases h
theorem de_isi {a : Expr} {f : DV} {y : Str} {t : String} {p2 : Pos} (hg : Gl X "isinstance") (hm : X.mg "isinstance" = none) (ha : DE X T a f) (hg2 : Gl X y) (hm2 : X.mg y = none) (hv2 : bootBuiltins y = some (.type t)) (hn2 : y ≠ "__name__" := by decide) (hd2 : (y == ("__debug__" : Str)) = false := by decide)
    (hv : bootBuiltins "isinstance" = some (.builtin "isinstance") := by decide +kernel)
    (he : starEach [a, .Name y p2] X.env = (false, eval a X.env) :: starEach [.Name y p2] X.env := by rfl) (he2 : starEach [.Name y p2] X.env = (false, eval (.Name y p2) X.env) :: starEach [] X.env := by rfl) (hpl : (backTo pos (starEach [.Name y p2] X.env)).any (·.1) = false := by rfl) :
    DE X T (.Call (.Name "isinstance" p) [a, .Name y p2] [] pos) (e1 (kIsi t) f) := fun W tk =>
  pe_mono (pe_callB call_isiD hg hm hv (pa_cons (ha W tk) (pa_cons (pe_bltn (v := .ty t) hg2 hm2 hv2 rfl hn2 hd2) pa_nil he2) he) (by decide) (by decide) he hpl) fun sg H Q ⟨ex, rho, om, env, w, er, o⟩ => by
  refine ⟨ex, rho, om, env, w, er, (Out.bind (rel := Rep X.K T) o).mono ?_⟩
  rintro v H1 ⟨x, om1, ex1, rho1, _, st, w1, rx, o1⟩
  unfold kIsi at o1
  split at o1
  · rename_i a hty
    split at o1
    · rename_i b hb
      exact ⟨v, .ty t, .type a, .type t, b, rfl, .ty t, ty_of (rx.der w1) hty, kit_ty hb, o1.here w1 .bl⟩
    · exact o1.elim
  · exact o1.elim

/-! ### len, all, any, list, tuple -/
def lenD (om : Om) (d : Dat) : Option Nat := match der om d with
  | .str l => if l.length ≤ 1000000 then some l.length else none
  | .tup xs => some xs.length
  | .lst xs => some xs.length
  | .frl xs => some xs.length
  | _ => none
def kLen (ds : List Dat) (om : Om) : R Dat := match ds with
  | [d] => match lenD om d with
    | some n => .ok (.int n) om
    | none => .no
  | _ => .no
theorem reps1 {H : Hp} {ex : Addr → Prop} {rho : List Addr} {vs : List V} {d : Dat} (r : Reps K T H ex rho vs [d]) : ∃ v, vs = [v] ∧ Rep K T H ex rho v d := by
  cases r with
  | cons r t => cases t; exact ⟨_, rfl, r⟩
theorem reps2 {H : Hp} {ex : Addr → Prop} {rho : List Addr} {vs : List V} {d d' : Dat} (r : Reps K T H ex rho vs [d, d']) : ∃ v v', vs = [v, v'] ∧ Rep K T H ex rho v d ∧ Rep K T H ex rho v' d' := by
  cases r with
  | cons r t => obtain ⟨v', rfl, r'⟩ := reps1 t; exact ⟨_, _, rfl, r, r'⟩
theorem opd_len : CallD K T (fun xs H Q => ∃ x n, xs = [x] ∧ LenV K x H n ∧ Q (.int n) H) kLen := fun W sg H ex rho om Q ds vs w r o => by
  unfold kLen at o
  split at o
  · rename_i d
    obtain ⟨v, rfl, rv⟩ := reps1 r
    split at o
    · rename_i n hn
      refine ⟨v, n, rfl, ?_, o.here w .int⟩
      unfold lenD at hn
      have rd := rv.der w
      split at hn
      · rename_i l hl
        rw [hl] at rd
        split at hn
        · rename_i hz
          cases hn
          cases rd with
          | str q => exact ⟨by rw [str_len q]; exact million_line hz, (str_len q).symm⟩
        · cases hn
      · rename_i xs hl
        rw [hl] at rd
        cases hn
        cases rd with
        | tup q r => exact .inr ⟨_, q.sq, r.length.symm⟩
      · rename_i xs hl
        rw [hl] at rd
        cases hn
        cases rd with
        | lst q r => exact .inl ⟨_, q.sq, r.length.symm⟩
      · rename_i xs hl
        rw [hl] at rd
        cases hn
        cases rd with
        | frl q _ r => exact .inl ⟨_, .inl (.inr ⟨_, q⟩), r.length.symm⟩
      · cases hn
    · exact o.elim
  · exact o.elim
def blsD : List Dat → Option (List Bool)
  | [] => some []
  | .bl b :: r => (blsD r).map (b :: ·)
  | _ => none
theorem bls_of {H : Hp} {ex : Addr → Prop} {rho : List Addr} : ∀ {vs : List V} {ds : List Dat} {bs : List Bool}, Reps K T H ex rho vs ds → blsD ds = some bs → vs = bs.map V.bl
  | _, [], bs, r, h => by cases r; cases h; rfl
  | _, d :: ds, bs, r, h => by
    cases r with
    | cons r t =>
      cases r with
      | bl =>
        simp only [blsD, Option.map_eq_some_iff] at h
        obtain ⟨cs, hc, rfl⟩ := h
        rw [bls_of t hc]; rfl
      | _ => simp [blsD] at h
def kAll (ds : List Dat) (om : Om) : R Dat := match ds with
  | [.lst xs] => match blsD xs with
    | some bs => .ok (.bl (bs.all id)) om
    | none => .no
  | _ => .no
def kAny (ds : List Dat) (om : Om) : R Dat := match ds with
  | [.lst xs] => match blsD xs with
    | some bs => .ok (.bl (bs.any id)) om
    | none => .no
  | _ => .no
theorem opd_all : CallD K T (rAll K) kAll := fun W sg H ex rho om Q ds vs w r o => by
  unfold kAll at o
  split at o
  · rename_i xs
    obtain ⟨v, rfl, rv⟩ := reps1 r
    split at o
    · rename_i bs hb
      cases rv with
      | lst q r =>
        have e := bls_of r hb
        subst e
        exact ⟨_, bs, rfl, q.sq, o.here w .bl⟩
    · exact o.elim
  · exact o.elim
theorem opd_any : CallD K T (rAny K) kAny := fun W sg H ex rho om Q ds vs w r o => by
  unfold kAny at o
  split at o
  · rename_i xs
    obtain ⟨v, rfl, rv⟩ := reps1 r
    split at o
    · rename_i bs hb
      cases rv with
      | lst q r =>
        have e := bls_of r hb
        subst e
        exact ⟨_, bs, rfl, q.sq, o.here w .bl⟩
    · exact o.elim
  · exact o.elim
/-- list(x), tuple(x) of a list or tuple -/
def kList (ds : List Dat) (om : Om) : R Dat := match ds with
  | [d] => match itemsD om d with
    | some xs => .ok (.lst xs) om
    | none => .no
  | _ => .no
def kTuple (ds : List Dat) (om : Om) : R Dat := match ds with
  | [.wt _] => .no
  | [d] => match itemsD om d with
    | some xs => .ok (.tup xs) om
    | none => .no
  | _ => .no
theorem opd_list : CallD K T (fun xs H Q => ∃ p ys, xs = [.ref p] ∧ (SqL K H p ys ∨ SqT K H p ys) ∧ ∀ l, H l = none → Q (.ref l) (upd H l (.lst ys))) kList := fun W sg H ex rho om Q ds vs w r o => by
  unfold kList at o
  split at o
  · rename_i d
    obtain ⟨v, rfl, rv⟩ := reps1 r
    split at o
    · rename_i xs hx
      obtain ⟨p, us, rfl, sq, rs⟩ := items_sq w rv hx
      refine ⟨p, us, rfl, sq.symm, fun l hl => ?_⟩
      exact o _ _ _ _ (lay_stp hl) (w.lay hl) (.lst ⟨upd_same, w.nex hl⟩ (rs.step (lay_stp hl) w.sub))
    · exact o.elim
  · exact o.elim
theorem opd_tuple : CallD K T (fun xs H Q => ∃ p ys, xs = [.ref p] ∧ ((SqL K H p ys ∧ ∀ l, H l = none → Q (.ref l) (upd H l (.tup ys))) ∨ (SqT K H p ys ∧ Q (.ref p) H))) kTuple := fun W sg H ex rho om Q ds vs w r o => by
  unfold kTuple at o
  split at o
  · exact o.elim
  · rename_i d hd
    obtain ⟨v, rfl, rv⟩ := reps1 r
    split at o
    · rename_i xs hx
      have lay : ∀ {p us}, SqL K H p us → Reps K T H ex rho us xs → ∃ p' ys, [V.ref p] = [.ref p'] ∧ ((SqL K H p' ys ∧ ∀ l, H l = none → Q (.ref l) (upd H l (.tup ys))) ∨ (SqT K H p' ys ∧ Q (.ref p') H)) := fun {p us} sq rs =>
        ⟨p, us, rfl, .inl ⟨sq, fun l hl => o _ _ _ _ (lay_stp hl) (w.lay hl) (.tup (⟨upd_same, w.nex hl⟩) (rs.step (lay_stp hl) w.sub))⟩⟩
      cases rv with
      | tup q rr => cases hx; exact ⟨_, _, rfl, .inr ⟨q.sq, o.here w (.tup q rr)⟩⟩
      | wt _ _ => exact absurd rfl (hd _)
      | lst q rr => cases hx; exact lay q.sq rr
      | @cell a i hi =>
        unfold itemsD at hx
        simp only at hx
        split at hx
        · rename_i ys hy
          cases hx
          obtain ⟨vs, e, r⟩ := w.cells _ _ _ hi hy
          exact lay (.of e) r
        · cases hx
      | _ => cases hx
    · exact o.elim
  · exact o.elim
/-! ### numbers and texts -/
def digs (i : Int) : List Nat := (toString i).toList.map Char.toNat
theorem digs_str (i : Int) : ((toString i : String) : Str).cps.toList = digs i := by
  show (Str.ofString (toString i)).cps.toList = _
  rw [Str.ofString_eq_toList]
  rfl
def kStr (ds : List Dat) (om : Om) : R Dat := match ds with
  | [.int i] => if i.natAbs.log2 < 1920 then .ok (.str (digs i)) om else .no
  | _ => .no
theorem opd_str : CallD K T (fun xs H Q => ∃ i, xs = [.int i] ∧ i.natAbs.log2 < 1920 ∧ Q (.str (toString i)) H) kStr := fun W sg H ex rho om Q ds vs w r o => by
  unfold kStr at o
  split at o
  · rename_i i
    obtain ⟨v, rfl, rv⟩ := reps1 r
    cases rv
    split at o
    · rename_i h
      exact ⟨i, rfl, h, o.here w (.str (digs_str i))⟩
    · exact o.elim
  · exact o.elim
def kIntOf (ds : List Dat) (om : Om) : R Dat := match ds with
  | [.int i] => .ok (.int i) om
  | [.bl b] => .ok (.int (if b then 1 else 0)) om
  | [.str l] => match PySem.intText? ⟨l.toArray⟩ with
    | some n => if l.length ≤ 640 then .ok (.int n) om else .no
    | none => .no
  | _ => .no
theorem opd_intOf : CallD K T (fun xs H Q => ((∃ i, xs = [.int i] ∧ Q (.int i) H) ∨ ∃ k, xs = [.bl k] ∧ Q (.int (if k then 1 else 0)) H) ∨ ∃ a n, xs = [.str a] ∧ PySem.intText? a = some n ∧ a.length ≤ 640 ∧ Q (.int n) H) kIntOf := fun W sg H ex rho om Q ds vs w r o => by
  unfold kIntOf at o
  split at o
  · obtain ⟨v, rfl, rv⟩ := reps1 r
    cases rv
    exact .inl (.inl ⟨_, rfl, o.here w .int⟩)
  · obtain ⟨v, rfl, rv⟩ := reps1 r
    cases rv
    exact .inl (.inr ⟨_, rfl, o.here w .int⟩)
  · rename_i l
    obtain ⟨v, rfl, rv⟩ := reps1 r
    cases rv with
    | str q =>
      split at o
      · rename_i n hn
        split at o
        · rename_i hl
          rw [← str_eta q] at hn
          exact .inr ⟨_, n, rfl, hn, by rw [str_len q]; exact hl, o.here w .int⟩
        · exact o.elim
      · exact o.elim
  · exact o.elim
theorem call_intOf : CallR X (.type "int") (fun xs H Q => ((∃ i, xs = [.int i] ∧ Q (.int i) H) ∨ ∃ k, xs = [.bl k] ∧ Q (.int (if k then 1 else 0)) H) ∨ ∃ a n, xs = [.str a] ∧ PySem.intText? a = some n ∧ a.length ≤ 640 ∧ Q (.int n) H) := callR_or call_int1 call_int_str
def kAbs (ds : List Dat) (om : Om) : R Dat := match ds with
  | [.int i] => .ok (.int (if i < 0 then -i else i)) om
  | _ => .no
theorem opd_abs : CallD K T (fun xs H Q => ∃ i, xs = [.int i] ∧ Q (.int (if i < 0 then -i else i)) H) kAbs := fun W sg H ex rho om Q ds vs w r o => by
  unfold kAbs at o
  split at o
  · obtain ⟨v, rfl, rv⟩ := reps1 r
    cases rv
    exact ⟨_, rfl, o.here w .int⟩
  · exact o.elim
def kMax2 (ds : List Dat) (om : Om) : R Dat := match ds with
  | [.int i, .int j] => .ok (.int (if j > i then j else i)) om
  | _ => .no
def kMin2 (ds : List Dat) (om : Om) : R Dat := match ds with
  | [.int i, .int j] => .ok (.int (if j < i then j else i)) om
  | _ => .no
theorem opd_max2 : CallD K T (fun xs H Q => ∃ i j, xs = [.int i, .int j] ∧ Q (.int (if j > i then j else i)) H) kMax2 := fun W sg H ex rho om Q ds vs w r o => by
  unfold kMax2 at o
  split at o
  · obtain ⟨v, u, rfl, rv, ru⟩ := reps2 r
    cases rv; cases ru
    exact ⟨_, _, rfl, o.here w .int⟩
  · exact o.elim
theorem opd_min2 : CallD K T (fun xs H Q => ∃ i j, xs = [.int i, .int j] ∧ Q (.int (if j < i then j else i)) H) kMin2 := fun W sg H ex rho om Q ds vs w r o => by
  unfold kMin2 at o
  split at o
  · obtain ⟨v, u, rfl, rv, ru⟩ := reps2 r
    cases rv; cases ru
    exact ⟨_, _, rfl, o.here w .int⟩
  · exact o.elim
end
end DL
end Part_DL11
section Part_DL12
set_option maxRecDepth 100000
/-! subscripts, slices, texts -/
namespace DL
open PySem PySem.Spec PyProof.Rows L2
section
variable {X : Cx} {T : Ct} {K : PySem.W.Frag} {a b : Expr} {f g : DV} {pos : Pos}
/-- xs[i] -/
def atD {α : Type} (xs : List α) (i : Int) : Option α := if 0 ≤ i then (if i < xs.length then xs[i.toNat]? else none) else if -(xs.length : Int) ≤ i then xs[(i + xs.length).toNat]? else none
def kIx (x y : Dat) (om : Om) : R Dat := match der om x, y with
  | .tup xs, .int i => match atD xs i with
    | some d => .ok d om
    | none => .no
  | .lst xs, .int i => match atD xs i with
    | some d => .ok d om
    | none => .no
  | .frl xs, .int i => match atD xs i with
    | some d => .ok d om
    | none => .no
  | .str l, .int i => match atD l i with
    | some c => if l.length ≤ 1000000 then .ok (.str [c]) om else .no
    | none => .no
  | _, _ => .no
theorem atD_rep {H : Hp} {ex : Addr → Prop} {rho : List Addr} {vs : List V} {xs : List Dat} {i : Int} {d : Dat} (r : Reps K T H ex rho vs xs) (h : atD xs i = some d) : ∃ v, atI vs i = some v ∧ Rep K T H ex rho v d := by
  unfold atD at h
  unfold atI ixN
  rw [← r.length] at h
  split at h
  · split at h
    · rename_i h1 h2
      obtain ⟨v, e, q⟩ := r.get h
      exact ⟨v, by rw [if_pos h1, if_pos h2]; exact e, q⟩
    · cases h
  · split at h
    · rename_i h1 h2
      obtain ⟨v, e, q⟩ := r.get h
      exact ⟨v, by rw [if_neg h1, if_pos h2]; exact e, q⟩
    · cases h
theorem atD_I {α : Type} (xs : List α) (i : Int) : atI xs i = atD xs i := by
  unfold atD atI ixN
  split
  · split <;> rfl
  · split <;> rfl
/-- the items of what a value is, as they are held with all exclusions -/
theorem items_rep {H : Hp} {ex : Addr → Prop} {rho : List Addr} {om : Om} {v : V} {x : Dat} (w : WRel K T H ex rho om) (r : Rep K T H ex rho v x) {xs : List Dat} (h : der om x = .tup xs ∨ der om x = .lst xs ∨ der om x = .frl xs) :
    ∃ p vs, v = .ref p ∧ Reps K T H ex rho vs xs ∧ ((∃ o, der om x = .tup xs ∧ SqT K H p vs ∧ o = ()) ∨ (SqL K H p vs ∧ (der om x = .lst xs ∨ der om x = .frl xs))) := by
  cases r with
  | @cell p i hi =>
    unfold der at h ⊢
    simp only at h ⊢
    split at h
    · rename_i ys hy
      rcases h with h | h | h
      · cases h
      · cases h
        obtain ⟨vs, e, r⟩ := w.cells _ _ _ hi hy
        exact ⟨p, vs, rfl, r, .inr ⟨.of e, .inl rfl⟩⟩
      · cases h
    · rename_i ys hy; rcases h with h | h | h <;> cases h
    · rcases h with h | h | h <;> cases h
  | tup q r => rcases h with h | h | h <;> cases h; exact ⟨_, _, rfl, r, .inl ⟨(), rfl, q.sq, rfl⟩⟩
  | lst q r => rcases h with h | h | h <;> cases h; exact ⟨_, _, rfl, r, .inr ⟨q.sq, .inl rfl⟩⟩
  | frl q nn r => rcases h with h | h | h <;> cases h; exact ⟨_, _, rfl, r, .inr ⟨.inl (.inr ⟨_, q⟩), .inr rfl⟩⟩
  | _ => rcases h with h | h | h <;> cases h
theorem opd_ix : OpD K T (rIx K) kIx := fun W sg H ex rho om Q x y v u w rx ry o => by
  unfold kIx at o
  split at o
  · rename_i xs i hx
    cases ry
    split at o
    · rename_i d hd
      obtain ⟨p, vs, rfl, rs, h | ⟨_, h⟩⟩ := items_rep w rx (.inl hx)
      · obtain ⟨_, _, sq, _⟩ := h
        obtain ⟨z, e, q⟩ := atD_rep rs hd
        exact .inr (.inl ⟨p, vs, i, z, rfl, rfl, sq, e, o.here w q⟩)
      · rw [hx] at h; rcases h with h | h <;> cases h
    · exact o.elim
  · rename_i xs i hx
    cases ry
    split at o
    · rename_i d hd
      obtain ⟨p, vs, rfl, rs, ⟨_, h, _⟩ | ⟨sq, _⟩⟩ := items_rep w rx (.inr (.inl hx))
      · rw [hx] at h; cases h
      · obtain ⟨z, e, q⟩ := atD_rep rs hd
        exact .inl ⟨p, vs, i, z, rfl, rfl, sq, e, o.here w q⟩
    · exact o.elim
  · rename_i xs i hx
    cases ry
    split at o
    · rename_i d hd
      obtain ⟨p, vs, rfl, rs, ⟨_, h, _⟩ | ⟨sq, _⟩⟩ := items_rep w rx (.inr (.inr hx))
      · rw [hx] at h; cases h
      · obtain ⟨z, e, q⟩ := atD_rep rs hd
        exact .inl ⟨p, vs, i, z, rfl, rfl, sq, e, o.here w q⟩
    · exact o.elim
  · rename_i l i hx
    cases ry
    have rd := rx.der w
    rw [hx] at rd
    split at o
    · rename_i c hc
      split at o
      · rename_i hl
        cases rd with
        | @str z _ q =>
          refine .inr (.inr ⟨z, i, c, rfl, rfl, by rw [str_len q]; exact million_line hl, ?_, o.here w (.str rfl)⟩)
          rw [q, atD_I]
          exact hc
      · exact o.elim
    · exact o.elim
  · exact o.elim
theorem de_ix (ha : DE X T a f) (hb : DE X T b g) (hs : PlainIx b := by exact fun _ _ => rfl) : DE X T (.Subscript a b pos) (e2 kIx f g) := fun W tk => pe_mono (pe_ix ix_seq (ha W tk) (hb W tk) hs) fun _ _ _ h => tD_op opd_ix h

/-! ### slices -/
def DO (X : Cx) (T : Ct) (e : Option Expr) (f : En → Om → R (Option Int)) : Prop := ∀ W, Takes X W → PO X e (tD X.K T (fun _ _ _ (b : Option Int) a => b = a) W f)
def oNone : En → Om → R (Option Int) := fun _ om => .ok none om
def oSome (f : DV) : En → Om → R (Option Int) := fun env om => (f env om).bind fun d om => match d with
  | .int i => .ok (some i) om
  | _ => .no
theorem do_none : DO X T none oNone := fun W tk => ⟨fun pins s sg H Q I ⟨ex, rho, om, env, w, er, o⟩ => po_none.run pins s sg H Q I (o.here w rfl)⟩
theorem do_some (ha : DE X T a f) : DO X T (some a) (oSome f) := fun W tk => ⟨fun pins s sg H Q I ⟨ex, rho, om, env, w, er, o⟩ => (po_some (ha W tk)).run pins s sg H Q I (by
  refine ⟨ex, rho, om, env, w, er, (Out.bind (rel := Rep X.K T) o).mono ?_⟩
  rintro v H1 ⟨x, om1, ex1, rho1, _, st, w1, rx, o1⟩
  cases rx with
  | int => exact ⟨_, rfl, o1.here w1 rfl⟩
  | _ => exact o1.elim)⟩
def sIxD (n d : Nat) : Option Int → Nat
  | none => d
  | some v => if v < 0 then (v + (n : Int)).toNat else min v.toNat n
def cutD {α : Type} (xs : List α) (lo hi : Option Int) : List α := (xs.drop (sIxD xs.length 0 lo)).take (sIxD xs.length xs.length hi - sIxD xs.length 0 lo)
def kSl (x : Dat) (lo hi : Option Int) (om : Om) : R Dat := match der om x with
  | .tup xs => .ok (.tup (cutD xs lo hi)) om
  | .lst xs => .ok (.lst (cutD xs lo hi)) om
  | .str l => if l.length ≤ 1000000 then .ok (.str (cutD l lo hi)) om else .no
  | _ => .no
def eSl (f : DV) (lo hi : En → Om → R (Option Int)) : DV := fun env om => (f env om).bind fun d om => (lo env om).bind fun l om => (hi env om).bind fun h om => kSl d l h om
def rSlAll (K : PySem.W.Frag) : V → Option Int → Option Int → Hp → VK → Prop := fun x lo hi H Q => rSlL K x lo hi H Q ∨ rSlA K x lo hi H Q ∨ rSlS x lo hi H Q
theorem sl_all : SlR X (rSlAll X.K) := sl_list.or (sl_tupA.or sl_str)
theorem sIx_eq (n d : Nat) (o : Option Int) : HT.sIx n d o = sIxD n d o := by cases o <;> rfl
theorem reps_cut {H : Hp} {ex : Addr → Prop} {rho : List Addr} {vs : List V} {xs : List Dat} (r : Reps K T H ex rho vs xs) (lo hi : Option Int) : Reps K T H ex rho (cutV vs lo hi) (cutD xs lo hi) := by
  unfold cutV cutD
  rw [sIx_eq, sIx_eq, r.length]
  exact (r.drop _).take _
theorem cutS_eq {z : Str} {l : List Nat} (q : z.cps.toList = l) (lo hi : Option Int) : (cutS z lo hi).cps.toList = cutD l lo hi := by
  have hl : z.length = l.length := str_len q
  subst q
  show List.take _ _ = List.take _ _
  rw [sIx_eq, sIx_eq, hl]
theorem opd_sl {W : WX} {sg : L2.St} {H : Hp} {ex : Addr → Prop} {rho : List Addr} {om : Om} {Q : VK} {x : Dat} {v : V} {lo hi : Option Int} (w : WRel K T H ex rho om) (rx : Rep K T H ex rho v x) (o : Out K T (Rep K T) W sg H ex rho Q (kSl x lo hi om)) : rSlAll K v lo hi H Q := by
  unfold kSl at o
  split at o
  · rename_i xs hx
    obtain ⟨p, vs, rfl, rs, h | ⟨_, h⟩⟩ := items_rep w rx (.inl hx)
    · obtain ⟨_, _, sq, _⟩ := h
      refine .inr (.inl ⟨p, vs, rfl, sq, fun hw => ?_, fun hw l hl => ?_⟩)
      · -- the whole
        have e : cutD xs lo hi = xs := by
          unfold cutD
          rw [← sIx_eq, ← sIx_eq, ← rs.length, hw.1, hw.2, List.drop_zero]
          exact List.take_of_length_le (by rw [rs.length]; omega)
        rw [e] at o
        cases rx with
        | tup q r => cases hx; exact o.here w (.tup q r)
        | @cell _ i hi =>
          unfold der at hx
          simp only at hx
          split at hx <;> cases hx
        | _ => cases hx
      · exact o _ _ _ _ (lay_stp hl) (w.lay hl) (.tup (⟨upd_same, w.nex hl⟩) ((reps_cut rs lo hi).step (lay_stp hl) w.sub))
    · rw [hx] at h; rcases h with h | h <;> cases h
  · rename_i xs hx
    obtain ⟨p, vs, rfl, rs, ⟨_, h, _⟩ | ⟨sq, _⟩⟩ := items_rep w rx (.inr (.inl hx))
    · rw [hx] at h; cases h
    · exact .inl ⟨p, vs, rfl, sq, fun l hl => o _ _ _ _ (lay_stp hl) (w.lay hl) (.lst ⟨upd_same, w.nex hl⟩ ((reps_cut rs lo hi).step (lay_stp hl) w.sub))⟩
  · rename_i l hx
    have rd := rx.der w
    rw [hx] at rd
    split at o
    · rename_i hl
      cases rd with
      | @str z _ q => exact .inr (.inr ⟨z, rfl, by rw [str_len q]; exact million_line hl, o.here w (.str (cutS_eq q lo hi))⟩)
    · exact o.elim
  · exact o.elim
theorem de_sl {lo hi : Option Expr} {fl fh : En → Om → R (Option Int)} {p2 : Pos} (ha : DE X T a f) (hl : DO X T lo fl) (hh : DO X T hi fh) : DE X T (.Subscript a (.Slice lo hi none p2) pos) (eSl f fl fh) := fun W tk => pe_mono (pe_slice sl_all (ha W tk) (hl W tk) (hh W tk)) fun sg H Q ⟨ex, rho, om, env, w, er, o⟩ => by
  refine ⟨ex, rho, om, env, w, er, (Out.bind (rel := Rep X.K T) o).mono ?_⟩
  rintro v H1 ⟨x, om1, ex1, rho1, _, st, w1, rx, o1⟩
  refine ⟨ex1, rho1, om1, env, w1, er.step st w.sub, (Out.bind (rel := fun _ _ _ (b : Option Int) a => b = a) o1).mono ?_⟩
  rintro l H2 ⟨l', om2, ex2, rho2, _, st2, w2, rfl, o2⟩
  refine ⟨ex2, rho2, om2, env, w2, (er.step st w.sub).step st2 w1.sub, (Out.bind (rel := fun _ _ _ (b : Option Int) a => b = a) o2).mono ?_⟩
  rintro h H3 ⟨h', om3, ex3, rho3, _, st3, w3, rfl, o3⟩
  exact opd_sl w3 ((rx.step st2 w1.sub).step st3 w2.sub) o3

/-! ### f-strings -/
def fmtD (om : Om) : Dat → R Dat
  | .str l => if l.length ≤ 1000000 then .ok (.str l) om else .no
  | .int i => if i.natAbs.log2 < 1920 then .ok (.str (digs i)) om else .no
  | _ => .no
def eFmt (f : DV) : DV := fun env om => (f env om).bind fun d om => fmtD om d
theorem de_fmt (ha : DE X T a f) : DE X T (.FormattedValue a (-1) none pos) (eFmt f) := fun W tk => pe_mono (pe_fmt (ha W tk)) fun sg H Q ⟨ex, rho, om, env, w, er, o⟩ => by
  refine ⟨ex, rho, om, env, w, er, (Out.bind (rel := Rep X.K T) o).mono ?_⟩
  rintro v H1 ⟨x, om1, ex1, rho1, _, st, w1, rx, o1⟩
  cases rx with
  | str q =>
    unfold fmtD at o1
    simp only at o1
    split at o1
    · rename_i hl
      exact .inl ⟨_, rfl, by rw [str_len q]; exact million_line hl, o1.here w1 (.str q)⟩
    · exact o1.elim
  | int =>
    unfold fmtD at o1
    simp only at o1
    split at o1
    · rename_i hl
      exact .inr ⟨_, rfl, hl, o1.here w1 (.str (digs_str _))⟩
    · exact o1.elim
  | _ => exact o1.elim
inductive DJ (X : Cx) (T : Ct) : List Expr → List DV → Prop where
  | nil : DJ X T [] []
  | cons {e : Expr} {f : DV} {es : List Expr} {fs : List DV} (h : DE X T e f) (r : DJ X T es fs) : DJ X T (e :: es) (f :: fs)
def joinF : List DV → List Nat → En → Om → R Dat
  | [], acc, _, om => .ok (.str acc) om
  | f :: fs, acc, env, om => (f env om).bind fun d om => match d with
    | .str l => if acc.length + l.length ≤ 1000000 then joinF fs (acc ++ l) env om else .no
    | _ => .no
theorem dj_tjs {W : WX} (tk : Takes X W) : ∀ {es : List Expr} {fs : List DV}, DJ X T es fs → ∃ ts, PJ X es ts ∧ ∀ (acc : Str) (l : List Nat) (sg : L2.St) (H : Hp) (Q : VK), acc.cps.toList = l → tD X.K T (Rep X.K T) W (joinF fs l) sg H Q → tJs ts acc sg H fun out H1 => Q (.str out) H1
  | _, _, .nil => ⟨[], .nil, fun acc l sg H Q e ⟨ex, rho, om, env, w, er, o⟩ => o.here w (.str e)⟩
  | _, _, .cons (f := f) (fs := fs) h r => by
    obtain ⟨ts, hp, hq⟩ := dj_tjs tk r
    refine ⟨_ :: ts, .cons (h W tk) hp, fun acc l sg H Q e ⟨ex, rho, om, env, w, er, o⟩ => ?_⟩
    refine ⟨ex, rho, om, env, w, er, (Out.bind (rel := Rep X.K T) o).mono ?_⟩
    rintro v H1 ⟨x, om1, ex1, rho1, _, st, w1, rx, o1⟩
    cases rx with
    | @str z m q =>
      simp only at o1
      split at o1
      · rename_i hl
        refine ⟨z, rfl, ?_, hq _ _ _ _ _ (str_app e q) ⟨ex1, rho1, om1, env, w1, er.step st w.sub, o1⟩⟩
        rw [str_len (str_app e q), List.length_append]
        exact million_line hl
      · exact o1.elim
    | _ => exact o1.elim
theorem de_join {v1 v2 : Expr} {rest : List Expr} {fs : List DV} (h : DJ X T (v1 :: v2 :: rest) fs) : DE X T (.JoinedStr (v1 :: v2 :: rest) pos) (joinF fs []) := fun W tk => by
  obtain ⟨ts, hp, hq⟩ := dj_tjs tk h
  exact pe_mono (pe_joined hp) fun sg H Q q => hq _ _ _ _ _ rfl q

/-! ### methods of texts -/
theorem tD_m1 {r : V → List V → Hp → VK → Prop} {W : WX} {k : Dat → Dat → Om → R Dat} {sg : L2.St} {H : Hp} {Q : VK}
    (hk : ∀ (W : WX) (sg : L2.St) (H : Hp) (ex : Addr → Prop) (rho : List Addr) (om : Om) (Q : VK) (l : List Nat) (z : Str) (y : Dat) (u : V), WRel K T H ex rho om → z.cps.toList = l → Rep K T H ex rho u y → Out K T (Rep K T) W sg H ex rho Q (k (.str l) y om) → r (.str z) [u] H Q)
    (h : tD K T (Rep K T) W (fun env om => (f env om).bind fun x om => match x with | .str l => (g env om).bind fun y om => k (.str l) y om | _ => .no) sg H Q) : tM1 r (tD K T (Rep K T) W f) (tD K T (Rep K T) W g) sg H Q := by
  obtain ⟨ex, rho, om, env, w, er, o⟩ := h
  refine ⟨ex, rho, om, env, w, er, (Out.bind (rel := Rep K T) o).mono ?_⟩
  rintro v H1 ⟨x, om1, ex1, rho1, _, st, w1, rx, o1⟩
  cases rx with
  | @str z l q =>
    refine ⟨⟨z, rfl⟩, ex1, rho1, om1, env, w1, er.step st w.sub, (Out.bind (rel := Rep K T) o1).mono ?_⟩
    rintro u H2 ⟨y, om2, ex2, rho2, _, st2, w2, ry, o2⟩
    exact hk W sg H2 ex2 rho2 om2 Q l z y u w2 q ry o2
  | _ => exact o1.elim
def eM1 (k : Dat → Dat → Om → R Dat) (f g : DV) : DV := fun env om => (f env om).bind fun x om => match x with | .str l => (g env om).bind fun y om => k (.str l) y om | _ => .no
def kSplit (x y : Dat) (om : Om) : R Dat := match x, y with
  | .str a, .str b => if b ≠ [] ∧ b.all (· < 256) = true ∧ a.length + 2 ≤ 1000000 then .ok (.lst ((TL.spl b 0 [] a).map .str)) om else .no
  | _, _ => .no
theorem reps_strs {H : Hp} {ex : Addr → Prop} {rho : List Addr} : ∀ (ys : List Str), Reps K T H ex rho (ys.map V.str) ((ys.map fun z => z.cps.toList).map .str)
  | [] => .nil
  | y :: ys => .cons (.str rfl) (reps_strs ys)
theorem de_split {apos : Pos} (ho : DE X T a f) (he : DE X T b g) (hs : starEach [b] X.env = [(false, eval b X.env)] := by rfl) (hbase : attributeBase a "split" X.env (eval a X.env) = eval a X.env := by rfl) (hline : (apos.endLine == pos.line) = true := by rfl) :
    DE X T (.Call (.Attribute a "split" apos) [b] [] pos) (eM1 kSplit f g) := fun W tk => pe_mono (pe_split (ho W tk) (he W tk) hs hbase hline) fun sg H Q q => tD_m1 (fun W sg H ex rho om Q l z y u w hz ry o => by
  cases ry with
  | @str z2 m q2 =>
    unfold kSplit at o
    simp only at o
    split at o
    · rename_i h
      refine ⟨z, z2, rfl, rfl, ?_, ?_, fun p hp => ?_⟩
      · rw [str_len q2]
        have : m.length ≠ 0 := fun e => h.1 (List.eq_nil_of_length_eq_zero e)
        simpa using this
      · rw [str_len hz]; exact million_line h.2.2
      · have e : TL.spl m 0 [] l = (Txt.split z z2).map fun z => z.cps.toList := by
          have hm : TL.tl z2 = m := q2
          have hl : TL.tl z = l := hz
          rw [← hm, ← hl]
          refine (TL.split_spl z z2 (by rw [hm]; exact h.1) (TL.kind_ok ?_)).symm
          rw [← Array.all_toList, q2]
          exact h.2.1
        refine o _ _ _ _ (lay_stp hp) (w.lay hp) (.lst ⟨upd_same, w.nex hp⟩ ?_)
        rw [e]
        exact reps_strs _
    · exact o.elim
  | _ => exact o.elim) q
def strsD : List Dat → Option (List (List Nat))
  | [] => some []
  | .str l :: r => (strsD r).map (l :: ·)
  | _ => none
theorem strs_of {H : Hp} {ex : Addr → Prop} {rho : List Addr} : ∀ {vs : List V} {ds : List Dat} {ls : List (List Nat)}, Reps K T H ex rho vs ds → strsD ds = some ls → ∃ ys : List Str, vs = ys.map V.str ∧ ys.map (fun z => z.cps.toList) = ls
  | _, [], ls, r, h => by cases r; cases h; exact ⟨[], rfl, rfl⟩
  | _, d :: ds, ls, r, h => by
    cases r with
    | cons r t =>
      cases r with
      | @str x l q =>
        simp only [strsD, Option.map_eq_some_iff] at h
        obtain ⟨ms, hm, rfl⟩ := h
        obtain ⟨ys, rfl, rfl⟩ := strs_of t hm
        exact ⟨x :: ys, rfl, by rw [List.map_cons, q]⟩
      | _ => simp [strsD] at h
def kJoin (x y : Dat) (om : Om) : R Dat := match x with
  | .str a => match itemsD om y with
    | some xs => match strsD xs with
      | some ls => if (ls.map (·.length)).sum + ls.length * a.length ≤ 1000000 then .ok (.str (TL.joinL a ls)) om else .no
      | none => .no
    | none => .no
  | _ => .no
theorem de_strjoin {apos : Pos} (ho : DE X T a f) (he : DE X T b g) (hs : starEach [b] X.env = [(false, eval b X.env)] := by rfl) (hbase : attributeBase a "join" X.env (eval a X.env) = eval a X.env := by rfl) (hline : (apos.endLine == pos.line) = true := by rfl) :
    DE X T (.Call (.Attribute a "join" apos) [b] [] pos) (eM1 kJoin f g) := fun W tk => pe_mono (L2.pe_join (ho W tk) (he W tk) hs hbase hline) fun sg H Q q => tD_m1 (fun W sg H ex rho om Q l z y u w hz ry o => by
  unfold kJoin at o
  simp only at o
  split at o
  · rename_i xs hx
    split at o
    · rename_i ls hl
      split at o
      · rename_i hn
        obtain ⟨p, vs, rfl, sq, rs⟩ := items_sq w ry hx
        obtain ⟨ys, rfl, rfl⟩ := strs_of rs hl
        refine ⟨z, p, ys, rfl, rfl, sq.symm, ?_, o.here w (.str ?_)⟩
        · have e : ys.map (·.length) = (ys.map fun z => z.cps.toList).map (·.length) := by
            rw [List.map_map]
            exact List.map_congr_left fun y _ => str_len rfl
          rw [e, str_len hz]
          rw [List.length_map] at hn
          omega
        · rw [TL.join_eq]
          have := TL.tl_join z ys
          have hz' : TL.tl z = l := hz
          rw [hz'] at this
          exact this
      · exact o.elim
    · exact o.elim
  · exact o.elim) q
end
end DL
end Part_DL12
section Part_DL13
set_option maxRecDepth 100000
/-! what is walked; cells that are changed -/
namespace DL
open PySem PySem.Spec PyProof.Rows L2
section
variable {X : Cx} {T : Ct} {K : PySem.W.Frag} {a b tg : Expr} {f g : DV} {pos p : Pos} {es : List Expr} {as : En → Om → R (List Dat)}
theorem pi_or {wi wi' : TI} (h : PI X tg a wi) (h' : PI X tg a wi') : PI X tg a (fun sg H R => wi sg H R ∨ wi' sg H R) := ⟨fun pins s sg H R I q => q.elim (h.run pins s sg H R I) (h'.run pins s sg H R I)⟩
theorem walkD_at {H : Hp} {ex : Addr → Prop} {rho : List Addr} {J : It} {vs : List V} {xs : List Dat} {G : Hp → Prop} (wk : Walk J vs.length G (YAt vs)) (hG : ∀ H' ex' rho', Stp H ex rho H' ex' rho' → G H') (sub : ∀ x ∈ rho, ex x) (r : Reps K T H ex rho vs xs) : WalkD K T H ex rho J xs := by
  refine ⟨G, YAt vs, by rw [← r.length]; exact wk, hG, fun i H' x H2 ex' rho' om hi st w y => ?_⟩
  obtain ⟨rfl, hx⟩ := y
  obtain ⟨d, hd, rd⟩ := r.get' hx
  exact ⟨fun _ _ h => h, d, hd, rd.step st sub⟩
/-- a list or a tuple that is data -/
def iSeq (f : DV) : En → Om → R (List Dat) := fun env om => (f env om).bind fun d om => match d with
  | .tup xs => .ok xs om
  | .lst xs => .ok xs om
  | _ => .no
theorem di_seq (h : DE X T a f) : DI X T tg a (iSeq f) := fun W tk => pi_mono (pi_or (pi_tup (h W tk)) (pi_list (h W tk))) fun sg H R ⟨ex, rho, om, env, w, er, o⟩ => by
  have key : ∀ d om1, f env om = .ok d om1 → (∃ xs, d = .tup xs) → iTup X.K (tD X.K T (Rep X.K T) W f) sg H R := fun d om1 hf ⟨xs, e⟩ => by
    refine ⟨ex, rho, om, env, w, er, (Out.bind (rel := Rep X.K T) o).mono ?_⟩
    rintro v H1 ⟨x, om1', ex1, rho1, he, st, w1, rx, o1⟩
    rw [hf] at he
    cases he
    subst e
    cases rx with
    | @tup p vs _ q r => exact ⟨p, rfl, ⟨vs, q.sq⟩, o1.here w1 (walkD_at walk_tup (fun H' ex' rho' st' => (st'.tup w1.sub q).sq) w1.sub r)⟩
  cases hf : f env om with
  | ok d om1 =>
    cases d with
    | tup xs => exact .inl (key _ _ hf ⟨xs, rfl⟩)
    | lst xs =>
      refine .inr ⟨ex, rho, om, env, w, er, (Out.bind (rel := Rep X.K T) o).mono ?_⟩
      rintro v H1 ⟨x, om1', ex1, rho1, he, st, w1, rx, o1⟩
      rw [hf] at he
      cases he
      cases rx with
      | @lst p vs _ q r => exact ⟨p, rfl, ⟨vs, q.sq⟩, o1.here w1 (walkD_at walk_list (fun H' ex' rho' st' => .inl (.inl (st'.at w1.sub q.1 q.2).1)) w1.sub r)⟩
    | _ => unfold iSeq at o; rw [hf] at o; exact o.elim
  | exc e om1 =>
    refine .inl ⟨ex, rho, om, env, w, er, (Out.bind (rel := Rep X.K T) o).mono ?_⟩
    rintro v H1 ⟨x, om1', ex1, rho1, he, _⟩
    rw [hf] at he; cases he
  | no => unfold iSeq at o; rw [hf] at o; exact o.elim
/-- a text, sign by sign -/
def iText (f : DV) : En → Om → R (List Dat) := fun env om => (f env om).bind fun d om => match d with
  | .str l => .ok (l.map fun c => .str [c]) om
  | _ => .no
theorem di_text (h : DE X T a f) : DI X T tg a (iText f) := fun W tk => pi_mono (pi_str (h W tk)) fun sg H R ⟨ex, rho, om, env, w, er, o⟩ => by
  refine ⟨ex, rho, om, env, w, er, (Out.bind (rel := Rep X.K T) o).mono ?_⟩
  rintro v H1 ⟨x, om1, ex1, rho1, he, st, w1, rx, o1⟩
  cases rx with
  | @str z l q =>
    refine ⟨z, rfl, o1.here w1 ⟨fun _ => True, fun i H v H' => H' = H ∧ ∃ c, z.cps[i]? = some c ∧ v = .str ⟨#[c]⟩, ?_, fun _ _ _ _ => trivial, fun i H' x H2 ex' rho' om hi st w y => ?_⟩⟩
    · have e : (l.map fun c => Dat.str [c]).length = z.cps.size := by rw [List.length_map, ← q, Array.length_toList]
      rw [e]
      exact walk_str
    · obtain ⟨rfl, c, hc, rfl⟩ := y
      refine ⟨fun _ _ h => h, .str [c], ?_, .str rfl⟩
      rw [List.getElem?_map, ← q, Array.getElem?_toList, hc]
      rfl
  | _ => exact o1.elim
/-- range(n) -/
def iRange1 (f : DV) : En → Om → R (List Dat) := fun env om => (f env om).bind fun d om => match d with
  | .int n => if -1000000 ≤ n ∧ n ≤ 1000000 then .ok ((List.range n.toNat).map fun (i : Nat) => .int (i : Int)) om else .no
  | _ => .no
theorem di_range1 (hg : Gl X "range") (hm : X.mg "range" = none) (h : DE X T a f) (hs : starEach [a] X.env = [(false, eval a X.env)] := by rfl) (hs2 : starEach [a] X.env = (false, eval a X.env) :: starEach [] X.env := by rfl) : DI X T tg (.Call (.Name "range" p) [a] [] pos) (iRange1 f) := fun W tk => pi_mono (pi_range1 hg hm (pa_cons (h W tk) pa_nil hs2) hs) fun sg H R ⟨ex, rho, om, env, w, er, o⟩ => by
  refine ⟨ex, rho, om, env, w, er, (Out.bind (rel := Rep X.K T) o).mono ?_⟩
  rintro v H1 ⟨x, om1, ex1, rho1, he, st, w1, rx, o1⟩
  cases rx with
  | @int n =>
    simp only at o1
    split at o1
    · rename_i hn
      refine ⟨n, rfl, by omega, by omega, o1.here w1 ⟨fun _ => True, YFn fun i => .int (0 + i), ?_, fun _ _ _ _ => trivial, fun i H' x H2 ex' rho' om hi st w y => ?_⟩⟩
      · rw [List.length_map, List.length_range]
        exact walk_range
      · obtain ⟨rfl, rfl⟩ := y
        refine ⟨fun _ _ h => h, .int i, ?_, by simpa using Rep.int⟩
        rw [List.length_map, List.length_range] at hi
        rw [List.getElem?_map, List.getElem?_range hi]
        rfl
    · exact o1.elim
  | _ => exact o1.elim
/-- enumerate of a list -/
def enumD (n : Nat) : List Dat → List Dat
  | [] => []
  | d :: r => .tup [.int (n : Int), d] :: enumD (n + 1) r
theorem enumD_get : ∀ {n : Nat} {xs : List Dat} {i : Nat} {d : Dat}, xs[i]? = some d → (enumD n xs)[i]? = some (.tup [.int ((n + i : Nat) : Int), d])
  | n, [], i, d, h => by simp at h
  | n, x :: xs, 0, d, h => by cases h; rfl
  | n, x :: xs, i + 1, d, h => by
    have e := enumD_get (n := n + 1) (xs := xs) (i := i) (d := d) (by simpa using h)
    rw [show n + (i + 1) = n + 1 + i by omega]
    simpa [enumD] using e
theorem enumD_len : ∀ (n : Nat) (xs : List Dat), (enumD n xs).length = xs.length
  | _, [] => rfl
  | n, _ :: xs => by simp [enumD, enumD_len (n + 1) xs]
def iEnumD (f : DV) : En → Om → R (List Dat) := fun env om => (f env om).bind fun d om => match d with
  | .lst xs => .ok (enumD 0 xs) om
  | _ => .no
theorem di_enum {elts : List Expr} {kk : Nat} {tpos : Pos} (hg : Gl X "enumerate") (hm : X.mg "enumerate" = none) (h : DE X T a f) (hs : starEach [a] X.env = [(false, eval a X.env)] := by rfl) (hs2 : starEach [a] X.env = (false, eval a X.env) :: starEach [] X.env := by rfl) :
    DI X T (.Tuple elts kk tpos) (.Call (.Name "enumerate" p) [a] [] pos) (iEnumD f) := fun W tk => pi_mono (pi_enum hg hm (pa_cons (h W tk) pa_nil hs2) hs) fun sg H R ⟨ex, rho, om, env, w, er, o⟩ => by
  refine ⟨ex, rho, om, env, w, er, (Out.bind (rel := Rep X.K T) o).mono ?_⟩
  rintro v H1 ⟨x, om1, ex1, rho1, he, st, w1, rx, o1⟩
  cases rx with
  | @lst l vs xs q r =>
    refine ⟨l, vs, rfl, q.sq, o1.here w1 ⟨fun H => SqL X.K H l vs, YPair (fun i => some (.int (i : Nat))) (fun i => vs[i]?), ?_, fun H' ex' rho' st' => .inl (.inl (st'.at w1.sub q.1 q.2).1), fun i H' x H2 ex' rho' om hi st w y => ?_⟩⟩
    · rw [enumD_len, ← r.length]
      exact walk_enum
    · obtain ⟨T', x1, y1, rfl, hn, rfl, e1, e2⟩ := y
      cases e1
      obtain ⟨d, hd, rd⟩ := r.get' e2
      refine ⟨fun a o h => by rw [upd_ne (ne_of_none h hn)]; exact h, _, enumD_get hd, ?_⟩
      refine .tup (⟨upd_same, w.nex hn⟩) (.cons (by simpa using Rep.int) (.cons ?_ .nil))
      exact (rd.step st w1.sub).step (lay_stp hn) w.sub
  | _ => exact o1.elim

/-! ### cells -/
/-- a list at a cell is stored anew -/
theorem cell_lst {H : Hp} {ex : Addr → Prop} {rho : List Addr} {om : Om} {i : Nat} {a : Addr} {vs : List V} {xs : List Dat} (w : WRel K T H ex rho om) (hi : rho[i]? = some a) (r : Reps K T H ex rho vs xs) :
    WRel K T (upd H a (.lst vs)) ex rho (om.set i (.lst xs)) ∧ Stp H ex rho (upd H a (.lst vs)) ex rho := by
  have ha : a ∈ rho := List.mem_of_getElem? hi
  have hx : ex a := w.sub a ha
  refine ⟨⟨by rw [List.length_set]; exact w.len, w.nd, w.sub, fun b h => ?_, fun j b d h1 h2 => ?_⟩, ⟨⟨[], by simp, by simp⟩, fun _ h => h, fun _ h => .inl h, fun b o h hn => ?_⟩⟩
  · by_cases e : b = a
    · subst e; exact ⟨_, upd_same, fun _ z => nomatch z⟩
    · rw [upd_ne e]; exact w.trk b h
  · by_cases e : j = i
    · subst e
      rw [hi] at h1
      cases h1
      have hl : j < om.length := by rw [← w.len]; exact (List.getElem?_eq_some_iff.mp hi).1
      rw [List.getElem?_set_self hl] at h2
      cases h2
      exact ⟨vs, upd_same, r.upd hx⟩
    · rw [List.getElem?_set_ne (Ne.symm e)] at h2
      have ne : b ≠ a := fun z => by
        subst z
        exact e (nd_ix w.nd h1 hi)
      exact (w.cells j b d h1 h2).upd hx ne
  · have ne : b ≠ a := fun z => hn (by rw [z]; exact ha)
    rw [upd_ne ne]; exact h
/-- a new list as a cell -/
theorem new_cell {H : Hp} {ex : Addr → Prop} {rho : List Addr} {om : Om} {p : Addr} {vs : List V} {xs : List Dat} (w : WRel K T H ex rho om) (hp : H p = none) (r : Reps K T H ex rho vs xs) :
    WRel K T (upd H p (.lst vs)) (fun a => ex a ∨ a = p) (rho ++ [p]) (om ++ [.lst xs]) ∧ Stp H ex rho (upd H p (.lst vs)) (fun a => ex a ∨ a = p) (rho ++ [p]) ∧ Rep K T (upd H p (.lst vs)) (fun a => ex a ∨ a = p) (rho ++ [p]) (.ref p) (.cell om.length) := by
  have np : p ∉ rho := fun z => by
    obtain ⟨o, e⟩ := w.there p z
    rw [hp] at e; cases e
  have st : Stp H ex rho (upd H p (.lst vs)) (fun a => ex a ∨ a = p) (rho ++ [p]) := ⟨⟨[p], rfl, fun a h => by rw [List.mem_singleton.mp h]; exact hp⟩, fun _ h => .inl h, fun a h => h.elim .inl fun e => .inr (e ▸ hp), fun a o h _ => by rw [upd_ne (ne_of_none h hp)]; exact h⟩
  refine ⟨⟨by simp [w.len], List.nodup_append.mpr ⟨w.nd, by simp, fun x hx y hy => by rw [List.mem_singleton.mp hy]; exact fun z => np (z ▸ hx)⟩, fun a h => ?_, fun a h => ?_, fun i a d h1 h2 => ?_⟩, st, .cell ?_⟩
  · rcases List.mem_append.mp h with h | h
    · exact .inl (w.sub a h)
    · exact .inr (List.mem_singleton.mp h)
  · by_cases e : a = p
    · subst e; exact ⟨_, upd_same, fun _ z => nomatch z⟩
    · rw [upd_ne e]; exact w.trk a (h.resolve_right e)
  · by_cases hi : i < rho.length
    · rw [List.getElem?_append_left hi] at h1
      rw [List.getElem?_append_left (by rw [← w.len]; exact hi)] at h2
      exact (w.cells i a d h1 h2).step st w.sub fun o h => by rw [upd_ne (ne_of_none h hp)]; exact h
    · rw [List.getElem?_append_right (by omega)] at h1
      rw [List.getElem?_append_right (by rw [← w.len]; omega)] at h2
      have e0 : i - rho.length = 0 := by
        have := (List.getElem?_eq_some_iff.mp h1).1
        simp at this
        omega
      rw [e0] at h1
      rw [← w.len, e0] at h2
      cases h1
      cases h2
      exact ⟨vs, upd_same, r.step st w.sub⟩
  · rw [← w.len, List.getElem?_append_right (Nat.le_refl _), Nat.sub_self]
    rfl
theorem de_lstC (h : DA X T es as) : DE X T (.List es pos) (eLstC as) := fun W tk => pe_mono (pe_lst (h W tk)) fun sg H Q q => by
  obtain ⟨ex, rho, om, env, w, er, o⟩ := q
  refine ⟨ex, rho, om, env, w, er, (Out.bind (rel := Reps X.K T) o).mono ?_⟩
  rintro vs H1 ⟨xs, om1, ex1, rho1, _, st, w1, rx, o1⟩
  by_cases hl : xs.length ≤ 1000000
  · rw [if_pos hl] at o1
    refine ⟨by rw [rx.length]; exact million_line hl, fun p hp => ?_⟩
    obtain ⟨w2, st2, r2⟩ := new_cell w1 hp rx
    exact o1 _ _ _ _ st2 w2 r2
  · rw [if_neg hl] at o1; exact o1.elim
/-- a list that a call made anew becomes a cell: list(..), a slice, a sum, sorted(..), a comprehension -/
def toC (f : DV) : DV := fun env om => (f env om).bind fun d om => match d with
  | .lst xs => .ok (.cell om.length) (om ++ [.lst xs])
  | _ => .no
/-- a method of a list at a cell, one argument -/
def eCellM (k : Nat → List Dat → Dat → Om → R Dat) (f g : DV) : DV := fun env om => (f env om).bind fun c om => match c with
  | .cell i => match om[i]? with
    | some (.lst _) => (g env om).bind fun d om => match om[i]? with
      | some (.lst xs) => k i xs d om
      | _ => .no
    | _ => .no
  | _ => .no
theorem tD_cellM {W : WX} {r : V → List V → Hp → VK → Prop} {k : Nat → List Dat → Dat → Om → R Dat} {sg : L2.St} {H : Hp} {Q : VK}
    (hk : ∀ (H : Hp) (ex : Addr → Prop) (rho : List Addr) (om : Om) (Q : VK) (i : Nat) (a : Addr) (vs : List V) (xs : List Dat) (d : Dat) (u : V), WRel K T H ex rho om → rho[i]? = some a → om[i]? = some (.lst xs) → H a = some (.lst vs) → Reps K T H ex rho vs xs → Rep K T H ex rho u d → Out K T (Rep K T) W sg H ex rho Q (k i xs d om) → r (.ref a) [u] H Q)
    (h : tD K T (Rep K T) W (eCellM k f g) sg H Q) : tBM K "list" r (tD K T (Rep K T) W f) (tCons (tD K T (Rep K T) W g) tNil) sg H Q := by
  obtain ⟨ex, rho, om, env, w, er, o⟩ := h
  refine ⟨ex, rho, om, env, w, er, (Out.bind (rel := Rep K T) o).mono ?_⟩
  rintro v H1 ⟨c, om1, ex1, rho1, _, st, w1, rc, o1⟩
  cases rc with
  | @cell a i hi =>
    simp only at o1
    split at o1
    · rename_i xs0 hx0
      obtain ⟨vs0, e0, r0⟩ := w1.cells _ _ _ hi hx0
      refine ⟨.inl ⟨rfl, vs0, .of e0⟩, ex1, rho1, om1, env, w1, er.step st w.sub, (Out.bind (rel := Rep K T) o1).mono ?_⟩
      rintro u H2 ⟨d, om2, ex2, rho2, _, st2, w2, rd, o2⟩
      split at o2
      · rename_i xs hx
        obtain ⟨vs, e, r⟩ := w2.cells _ _ _ (st2.cell hi) hx
        exact hk H2 ex2 rho2 om2 Q i a vs xs d u w2 (st2.cell hi) hx e r rd o2
      · exact o2.elim
    · exact o1.elim
  | _ => exact o1.elim
theorem reps_erase {H : Hp} {ex : Addr → Prop} {rho : List Addr} : ∀ {vs : List V} {xs : List Dat} (j : Nat), Reps K T H ex rho vs xs → Reps K T H ex rho (vs.eraseIdx j) (xs.eraseIdx j)
  | _, _, _, .nil => .nil
  | _, _, 0, .cons r t => t
  | _, _, j + 1, .cons r t => .cons r (reps_erase j t)
/-- xs.append(e) -/
def kAppend (i : Nat) (xs : List Dat) (d : Dat) (om : Om) : R Dat := if xs.length < 1000000 then .ok .non (om.set i (.lst (xs ++ [d]))) else .no
/-- xs.pop(i) -/
def kPop (i : Nat) (xs : List Dat) (d : Dat) (om : Om) : R Dat := match d with
  | .int j => if 0 ≤ j ∧ j < 1000000 then match xs[j.toNat]? with
    | some y => .ok y (om.set i (.lst (xs.eraseIdx j.toNat)))
    | none => .no
    else .no
  | _ => .no
section
variable {apos : Pos} (ho : DE X T a f) (he : DE X T b g)
    (hfew : ((backTo pos (starEach [b] X.env)).all (fun x => !x.1) && (backToKw pos (keywordEach [] X.env)).all (fun x => x.1.isSome) && decide ([b].length + ([] : List Keyword).length + (if ([] : List Keyword).isEmpty then 0 else 1) < 30)) = true)
    (hline : (apos.endLine == pos.line) = true) (hs : starEach [b] X.env = (false, eval b X.env) :: starEach [] X.env) (hplain : (backTo pos (starEach [] X.env)).any (·.1) = false)
include ho he hfew hline hs hplain
theorem de_append0 (hbase : attributeBase a "append" X.env (eval a X.env) = eval a X.env) : DE X T (.Call (.Attribute a "append" apos) [b] [] pos) (eCellM kAppend f g) := fun W tk =>
  pe_mono (pe_bm PySem.F.plainAttrs_list PySem.F.slot_list_append PySem.F.type_list_append mt_append (ho W tk) (pa_cons (he W tk) pa_nil hs) hbase hfew hline hs hplain) fun sg H Q q => tD_cellM (fun H ex rho om Q i a vs xs d u w hi hx e r rd o => by
    unfold kAppend at o
    split at o
    · rename_i hl
      refine ⟨a, vs, u, rfl, rfl, e, by rw [r.length]; exact million_lt hl, ?_⟩
      obtain ⟨w2, st2⟩ := cell_lst w hi (r.append (.cons rd .nil))
      exact o _ _ _ _ st2 w2 .non
    · exact o.elim) q
theorem de_pop0 (hbase : attributeBase a "pop" X.env (eval a X.env) = eval a X.env) : DE X T (.Call (.Attribute a "pop" apos) [b] [] pos) (eCellM kPop f g) := fun W tk =>
  pe_mono (pe_bm PySem.F.plainAttrs_list PySem.F.slot_list_pop PySem.F.type_list_pop mt_popAt (ho W tk) (pa_cons (he W tk) pa_nil hs) hbase hfew hline hs hplain) fun sg H Q q => tD_cellM (fun H ex rho om Q i a vs xs d u w hi hx e r rd o => by
    unfold kPop at o
    split at o
    · rename_i j
      cases rd
      split at o
      · rename_i hj
        split at o
        · rename_i y hy
          obtain ⟨v, hv, rv⟩ := r.get hy
          have hl : j.toNat < vs.length := (List.getElem?_eq_some_iff.mp hv).1
          refine ⟨a, vs, j, j.toNat, v, rfl, rfl, e, by omega, by omega, ?_, hv, ?_⟩
          · have h1 : ¬ j < 0 := by omega
            have h2 : 0 ≤ j ∧ j < (vs.length : Int) := by omega
            unfold seqIndex?
            simp [h1, h2]
          · obtain ⟨w2, st2⟩ := cell_lst w hi (reps_erase j.toNat r)
            exact o _ _ _ _ st2 w2 (rv.upd (w.sub _ (List.mem_of_getElem? hi)))
        · exact o.elim
      · exact o.elim
    · exact o.elim) q
end
theorem de_append {apos : Pos} (ho : DE X T a f) (he : DE X T b g) (hbase : attributeBase a "append" X.env (eval a X.env) = eval a X.env := by rfl)
    (hfew : ((backTo pos (starEach [b] X.env)).all (fun x => !x.1) && (backToKw pos (keywordEach [] X.env)).all (fun x => x.1.isSome) && decide ([b].length + ([] : List Keyword).length + (if ([] : List Keyword).isEmpty then 0 else 1) < 30)) = true := by rfl)
    (hline : (apos.endLine == pos.line) = true := by rfl) (hs : starEach [b] X.env = (false, eval b X.env) :: starEach [] X.env := by rfl) (hplain : (backTo pos (starEach [] X.env)).any (·.1) = false := by rfl) :
    DE X T (.Call (.Attribute a "append" apos) [b] [] pos) (eCellM kAppend f g) := de_append0 ho he hfew hline hs hplain hbase
theorem de_pop {apos : Pos} (ho : DE X T a f) (he : DE X T b g) (hbase : attributeBase a "pop" X.env (eval a X.env) = eval a X.env := by rfl)
    (hfew : ((backTo pos (starEach [b] X.env)).all (fun x => !x.1) && (backToKw pos (keywordEach [] X.env)).all (fun x => x.1.isSome) && decide ([b].length + ([] : List Keyword).length + (if ([] : List Keyword).isEmpty then 0 else 1) < 30)) = true := by rfl)
    (hline : (apos.endLine == pos.line) = true := by rfl) (hs : starEach [b] X.env = (false, eval b X.env) :: starEach [] X.env := by rfl) (hplain : (backTo pos (starEach [] X.env)).any (·.1) = false := by rfl) :
    DE X T (.Call (.Attribute a "pop" apos) [b] [] pos) (eCellM kPop f g) := de_pop0 ho he hfew hline hs hplain hbase
/-- xs[i] = e of a list at a cell -/
def gSet (f g : DV) : GD := fun d env om => match f env om with
  | .ok (.cell j) om => match g env om with
    | .ok (.int k) om => match om[j]? with
      | some (.lst xs) => if 0 ≤ k ∧ k < xs.length then .ok env (om.set j (.lst (xs.set k.toNat d))) else .no
      | _ => .no
    | _ => .no
  | _ => .no
theorem reps_set {H : Hp} {ex : Addr → Prop} {rho : List Addr} {v : V} {d : Dat} (q : Rep K T H ex rho v d) : ∀ {vs : List V} {xs : List Dat} (j : Nat), Reps K T H ex rho vs xs → Reps K T H ex rho (vs.set j v) (xs.set j d)
  | _, _, _, .nil => .nil
  | _, _, 0, .cons r t => .cons q t
  | _, _, j + 1, .cons r t => .cons r (reps_set q j t)
theorem dg_set {ws : List Nat} (ha : DE X T a f) (hb : DE X T b g)
    (hq : ∀ v, assign (.Subscript a b pos) X.env v = (do
      let ov ← holding [v] (eval a X.env)
      let iv ← holding [v, ov] (eval b X.env)
      standAt pos
      holding [v, ov, iv] (setItem ov iv v)
      release [v, ov, iv] []) := by intro _; rfl) : DG X T ws (.Subscript a b pos) (gSet f g) := fun W tk => pg_mono (pg_sub (ha W tk) (hb W tk) set_list hq) fun v sg H Q ⟨ex, rho, om, env, d, w, er, rd, o⟩ => by
  refine ⟨ex, rho, om, env, w, er, ?_⟩
  unfold gSet at o
  cases hf : f env om with
  | ok c om1 =>
    rw [hf] at o
    intro cv H1 ex1 rho1 st w1 rc
    cases rc with
    | @cell l j hj =>
      simp only at o
      refine ⟨ex1, rho1, om1, env, w1, er.step st w.sub, ?_⟩
      cases hg : g env om1 with
      | ok i om2 =>
        rw [hg] at o
        intro iv H2 ex2 rho2 st2 w2 ri
        cases ri with
        | @int k =>
          simp only at o
          split at o
          · rename_i xs hx
            split at o
            · rename_i hk
              obtain ⟨vs, e, r⟩ := w2.cells _ _ _ (st2.cell hj) hx
              refine ⟨l, vs, k, k.toNat, rfl, rfl, e, ?_, ?_⟩
              · unfold ixN
                rw [if_pos hk.1, if_pos (by rw [r.length]; exact hk.2)]
              · have rd2 := (rd.step st w.sub).step st2 w1.sub
                obtain ⟨w3, st3⟩ := cell_lst w2 (st2.cell hj) (reps_set rd2 k.toNat r)
                have st12 := st.trans st2 (st.there w1)
                exact o _ _ _ _ rfl (st12.trans st3 (st12.there w2)) w3 (((er.step st w.sub).step st2 w1.sub).step st3 w2.sub)
            · exact o.elim
          · exact o.elim
        | _ => exact o.elim
      | _ => rw [hg] at o; exact o.elim
    | _ => exact o.elim
  | _ => rw [hf] at o; exact o.elim
end
end DL
end Part_DL13
section Part_DL14
set_option maxRecDepth 100000
set_option maxHeartbeats 2000000
/-! an own error that carries one thing (turned from the worked proof of such an error), raise, try -/
namespace PySem
namespace LineX
open PySem.W PySem.Calls PyProof.Rows PySem.HandSPX
/-! ### the text of __init__ -/
def iA (p1 p2 : Pos) : Arguments := { posonlyargs := [], args := [{ arg := "self", annotation := none, pos := p1 }, { arg := "line", annotation := none, pos := p2 }], vararg := none, kwonlyargs := [], kw_defaults := [], kwarg := none, defaults := [] }
def iB (q1 q2 q3 q4 : Pos) : List Stmt := [.Assign [.Attribute (.Name "self" q1) "line" q2] (.Name "line" q3) q4]
def iS : Scope := { kind := .function, names := [(PySem.Str.ofString "self", .local), (PySem.Str.ofString "line", .local)], isGenerator := false, isCoroutine := false, more := [] }
/-- what the written part says of ParseError, at C, and of its __init__, at fI -/
structure LineTxt (K : Frag) (mg : Str → Option Value) (C fI : Addr) : Prop where
  gC : mg "ParseError" = some (.ref C)
  cls : ∃ nm q N bs bm sn sub ab col dd k0 k1 k2 k3 k5, K.lookup C = some (excClassObj nm q C N bs bm true sn sub ab col dd k0 k1 k2 k3 k5 "ValueError.__new__") ∧ refsVE bm = true
  sa : findIn K (.ref C) "__setattr__" = some (some (.builtin "object.__setattr__"))
  ga : findIn K (.ref C) "__getattribute__" = some (some (.builtin "BaseException.__getattribute__"))
  gg : findIn K (.ref C) "__getattr__" = some none
  noN : findIn K (.ref C) "line" = some none
  iC : findIn K (.ref C) "__init__" = some (some (.ref fI))
  tC : typeIn K (.ref fI) = some (.type "function")
  kC : keepIn K (.ref C) = true
  exC : subIn K (.ref C) (.type "BaseException") = some true
  tyC : typeIn K (.ref C) = some (.type "type")
  hdC : hasDictIn K C = true
  te : exmOne K (.ref C) (.ref C) = some true
  fn : ∃ (oc : Value) (od : Option Addr) (doc pm : Value) (an : Option Addr) (cdv ct : Value) (osl : Array (Option Value)) (p1 p2 q1 q2 q3 q4 : Pos),
    K.lookup fI = some ⟨oc, od, .func (fnOf "__init__" "ParseError.__init__" (iA p1 p2) (iB q1 q2 q3 q4) iS .none .none doc pm an cdv ct), osl⟩ ∧ codeIn K cdv "ParseError.__init__" = true
theorem one_size (v : Value) : [v].length ≤ sizeLine := by
  rw [sizeLine_eq]
  exact (by decide : 1 ≤ 16777216)
theorem kept_but {K : Frag} {h h' : Heap} {x : Addr} (X : K.In h) (hx : K.lookup x = none) (k : ∀ b o, b ≠ x → h.get? b = some o → h'.get? b = some o) : K.In h' := fun a o e =>
  k a o (fun z => by rw [z, hx] at e; cases e) (X a o e)
theorem ldC {M : Model} {s : Shared} {name : Str} {scope : Scope} {L a : Addr} {cd : Value} {m : Str → Option Value} {x : Str} {pos : Pos} {v : Value} {Q : Value → Shared → Prop} {A : Around} {E : Value → Shared → Prop} (hn : s.heap.Ns L m) (hv : m x = some v) (h : Q v s)
    (hk : scope.kind = .function := by rfl) (hl : (envOfC name scope L a cd).kindOf x = some .local := by rfl) (hd : (x == ("__debug__" : Str)) = false := by decide) :
    wpAny M A (eval (.Name x pos) (envOfC name scope L a cd)) Q E s := wpAny_Name (wpAny_loadName_local hk hl hn hv h) hd
/-- what __init__ leaves of a fresh exception at x -/
structure InitEnd (h h' : Heap) (x C dx t1 : Addr) (v : Value) : Prop where
  keep : ∀ b o, b ≠ x → h.get? b = some o → h'.get? b = some o
  obj : h'.get? x = some { cls := .ref C, dict := some dx, data := .fields #[.ref t1, .none, .none, .none, .bool false, .none] }
  dbig : h.objs.size ≤ dx
  dne : dx ≠ x
  ns : h'.Ns1 dx (fun y => if y = "line" then some v else none)
/-- a made ParseError -/
structure OwnMade (h h' : Heap) (e C d : Addr) (v : Value) : Prop where
  keep : ∀ b o, h.get? b = some o → h'.get? b = some o
  new : h.objs.size ≤ e
  obj : ∃ oe vs, h'.get? e = some oe ∧ oe.cls = .ref C ∧ oe.dict = some d ∧ oe.data = .fields vs ∧ vs[1]? = some .none
  dbig : h.objs.size ≤ d
  dne : d ≠ e
  ns : h'.Ns1 d (fun y => if y = "line" then some v else none)
section
variable {prog : Program} {w : World} {A : Around} {E : Value → Shared → Prop} {R : Result → Shared → Prop} {s : Shared} {K : Frag} {mg : Str → Option Value} {C fI : Addr}
theorem line_init (T : LineTxt K mg C fI) {x t0 : Addr} {v : Value} (X : K.In s.heap) (hlim : s.heap.NoLimit) (hx : s.heap.get? x = some (excO C t0)) (hnx : K.lookup x = none) (hroom : A.depth < recursionLimit)
    (hq : ∀ h' tk dx, InitEnd s.heap h' x C dx t0 v → R (.ok (.ret .none)) { s with heap := h', toks := tk }) :
    codeAny (model prog w) A (.call (.ref fI) ⟨[.ref x, v], []⟩) R s := by
  obtain ⟨oc, od, doc, pm, an, cdv, ct, osl, p1, p2, q1, q2, q3, q4, ho, hcd⟩ := T.fn
  obtain ⟨nm, q, N, bs, bm, sn, sub, ab, col, dd, k0, k1, k2, k3, k5, hC, hbm⟩ := T.cls
  have hcl : clsIn K C = some { name := nm, bases := bs, mro := .ref C :: bm, ns := N, qualname := q, hasDict := true, slotNames := sn, subclasses := sub, abstract := ab, collection := col, hasDel := false } := by unfold clsIn; rw [hC] <;> rfl
  refine Att.call_fn (binds := [("self", .ref x), ("line", v)]) X hlim ho hcd hroom (BindsTo.of_eq (by first | rfl | with_unfolding_all rfl)) (by first | rfl | decide | with_unfolding_all rfl) (fun s₁ IC => ?_) rfl rfl rfl
  obtain ⟨h₁, tk₁, rfl⟩ := IC.toInCall.same
  have k : ∀ b o, s.heap.get? b = some o → h₁.get? b = some o := IC.toInCall.keep
  have hn := IC.toInCall.ns
  have hxL : s.heap.objs.size ≠ x := Nat.ne_of_gt (Heap.lt_size hx)
  have X₁ : K.In h₁ := X.keeps k
  have hx₁ := k _ _ hx
  -- self.line = line
  show wpAny _ _ (execs _ _) _ _ _
  refine wpAny_execs_cons (plainObj_wpAny_Assign_Attribute ?_)
  refine ldC (v := v) hn (by first | rfl | with_unfolding_all rfl | kernel_rfl) (ldC (v := .ref x) hn (by first | rfl | with_unfolding_all rfl | kernel_rfl) ?_)
  refine set_plain X₁ (ox := excO C t0) (od := none) ⟨hx₁, rfl, rfl, trivial⟩ T.sa ?_
  refine exc_osa X₁ hx₁ hcl (show refsVE (.ref C :: bm) = true from hbm) rfl T.noN (fun h₃ tk₃ dx k₃ dn dne hx₃ hn₃ => ?_)
  show wpAny _ _ (execs _ _) _ _ _
  have z : s.heap.objs.size < h₁.objs.size := hn.lt
  exact wpAny_execs_nil (hq h₃ tk₃ dx ⟨fun b o hb e => k₃ b o hb (k b o e), hx₃, Nat.le_of_lt (Nat.lt_of_lt_of_le z dn), dne, hn₃⟩)
theorem line_made (T : LineTxt K mg C fI) {v : Value} (X : K.In s.heap) (hlim : s.heap.NoLimit) (hroom : A.depth + 1 < recursionLimit)
    (hq : ∀ h' tk e d, OwnMade s.heap h' e C d v → R (.ok (.ret (.ref e))) { s with heap := h', toks := tk }) :
    codeAny (model prog w) A (.call (.ref C) ⟨[v], []⟩) R s := by
  obtain ⟨nm, q, N, bs, bm, sn, sub, ab, col, dd, k0, k1, k2, k3, k5, hC, hbm⟩ := T.cls
  obtain ⟨hp, g, dr, tk, os⟩ := s
  have k : ∀ b o, hp.get? b = some o → ((hp.push (kdv_tup [v])).push (excO C hp.objs.size)).get? b = some o := fun b o e => Heap.get?_push_of_some _ (Heap.get?_push_of_some _ e)
  have hget : ((hp.push (kdv_tup [v])).push (excO C hp.objs.size)).get? (hp.objs.size + 1) = some (excO C hp.objs.size) := by heap_get
  have hnx : K.lookup (hp.objs.size + 1) = none := by
    cases e : K.lookup (hp.objs.size + 1) with
    | none => rfl
    | some o =>
      have z : hp.get? (hp.objs.size + 1) = some o := X _ _ e
      exact absurd (Nat.lt_of_succ_lt (Heap.lt_size z)) (Nat.lt_irrefl _)
  refine call_own F.excBase_ValueError (fun X => refsVE_contains X bm hbm) (X _ _ hC) (looks_findIn X T.iC) (fun self => bind_fn X self T.tC) (one_size v) ?_
  refine line_init (s := ⟨(hp.push (kdv_tup [v])).push (excO C hp.objs.size), g, dr, tk, os⟩) T (X.keeps k) (hlim.keeps k) hget hnx ?_ fun h' tk' dx ⟨k', hx, dn, dne, hns⟩ => ?_
  · show A.depth + 1 < recursionLimit
    exact hroom
  · have old : ∀ b o, hp.get? b = some o → h'.get? b = some o := fun b o e => k' b o (Nat.ne_of_lt (Nat.lt_succ_of_lt (Heap.lt_size e))) (k b o e)
    have z : hp.objs.size + 1 + 1 ≤ dx := by
      first
        | (simpa only [Heap.size_push] using dn)
        | exact dn
        | (have q := dn; rw [Heap.size_push, Heap.size_push] at q; exact q)
    exact ⟨rfl, hq h' tk' (hp.objs.size + 1) dx ⟨old, Nat.le_succ _, ⟨_, _, hx, rfl, rfl, rfl, rfl⟩, Nat.le_trans (Nat.le_trans (Nat.le_succ _) (Nat.le_succ _)) z, dne, hns⟩⟩
end
end LineX
end PySem
namespace L2
open PySem PySem.Spec PyProof.Rows
theorem relO_line {v : V} {v' : Value} (r : RelV v v') (f : Str) : RelO (List.lookup f [(("line" : Str), v)]) (if f = "line" then some v' else none) := by
  by_cases hw : f = "line"
  · subst hw
    rw [if_pos rfl]
    have q : List.lookup ("line" : Str) [(("line" : Str), v)] = some v := by simp [List.lookup]
    rw [q]
    exact r
  · rw [if_neg hw]
    have qw : (f == ("line" : Str)) = false := by simpa using hw
    have q2 : List.lookup f [(("line" : Str), v)] = none := by simp [List.lookup, qw]
    rw [q2]
    trivial
section
variable {X : Cx} {C fI : Addr}
/-- ParseError(e) -/
def tMkLine (C : Addr) (ta : TA) : St → Hp → XK → Prop := fun σ H Q => ta σ H fun vs H1 => ∃ v, vs = [v] ∧ ∀ d, H1 d = none → Q (.ref C) (some d) (upd H1 d (.xd [(("line" : Str), v)]))
theorem pmk_line {a : Expr} {ta : TA} {p pos : Pos} {k : Nat} (T : PySem.LineX.LineTxt X.K X.mg C fI) (hr : Room k X.A) (ha : PA X [a] ta) (hg : Gl X "ParseError" := by rfl)
    (he : starEach (a :: []) X.env = (false, eval a X.env) :: starEach [] X.env := by rfl) (hpl : (backTo pos (starEach [] X.env)).any (·.1) = false := by rfl) :
    PMk X (.Call (.Name "ParseError" p) [a] [] pos) (tMkLine C ta) := by
  intro pins s σ H Q I h
  refine wpAny_Call_Name_kw (ld_glob I hg T.gC ?_)
  refine PySem.W.callWith_K (h₀ := X.base) I.ok.mod.kin T.kC (thn (ha.run pos pins s σ H _ I h) fun us s1 hh => ?_) he hpl
  obtain ⟨vs, H1, I1, r1, v, ev, q1⟩ := hh
  subst ev
  refine ⟨I1.kIn, ?_⟩
  cases r1 with
  | cons rv rn =>
    rename_i v' us'
    cases rn
    show wpAny _ _ (call (.ref C) [v']) _ _ _
    have hlim := I1.nolimit
    obtain ⟨hp, g, dr, tk, os⟩ := s1
    refine wpAny_call (PySem.LineX.line_made T I1.kIn hlim (by have := hr.dp; omega) fun h' tk' e d M => ?_)
    show MkP X pins σ Q (.ref e) ⟨h', g, dr, tk', os⟩
    obtain ⟨oe, fv, hoe, hc, hd, hdat, h1⟩ := M.obj
    have hns := M.ns
    obtain ⟨G', g1, g2⟩ := restrict h' fun b => decide (b ≠ e)
    have gk : ∀ b, b ≠ e → G'.get? b = h'.get? b := fun b hb => g1 b (decide_eq_true hb)
    have ge : G'.get? e = none := g2 e (by simp)
    have old : ∀ b o, hp.get? b = some o → G'.get? b = some o := fun b o q => (gk b (Nat.ne_of_lt (Nat.lt_of_lt_of_le (Heap.lt_size q) M.new))).trans (M.keep b o q)
    have ob : ObjOk X.prog X.w (upd H1 d (.xd [(("line" : Str), v)])) G' d (.xd [(("line" : Str), v)]) :=
      ⟨_, hns.at (fun o q => (gk d M.dne).trans q), fun f => relO_line rv f⟩
    have J : Inv X pins σ (upd H1 d (.xd [(("line" : Str), v)])) ⟨G', g, dr, tk', os⟩ := I1.laid (t' := tk') old M.dbig ob
    refine ⟨e, oe, fv, ⟨G', g, dr, tk', os⟩, _, .ref C, some d, rfl, J, fun b o q => ?_, ge, hoe, ⟨hc, hd⟩, hdat, h1, ?_, rfl, I1.bare, raises_own T.exC T.tyC, q1 d (I1.hok.fresh M.dbig)⟩
    · by_cases hb : b = e
      · have q' : G'.get? b = some o := q
        rw [hb, ge] at q'; cases q'
      · exact (gk b hb).symm.trans q
    · rw [upd_ne (Ne.symm M.dne)]
      exact I1.hok.fresh M.new
/-- raise ParseError(e) -/
def tRaiseLine (C : Addr) (W : WX) (ta : TA) : TS := fun _ σ H => tMkLine C ta σ H fun cls d H' => W cls d σ H'
theorem ps_raiseLine {a : Expr} {ta : TA} {W : WX} {p pos pos2 : Pos} {k : Nat} (hc : X.calm = true) (T : PySem.LineX.LineTxt X.K X.mg C fI) (hr : Room k X.A) (tk : Takes X W) (ha : PA X [a] ta) (hg : Gl X "ParseError" := by rfl)
    (he : starEach (a :: []) X.env = (false, eval a X.env) :: starEach [] X.env := by rfl) (hpl : (backTo pos (starEach [] X.env)).any (·.1) = false := by rfl) :
    PS X (.Raise (some (.Call (.Name "ParseError" p) [a] [] pos)) none pos2) (tRaiseLine C W ta) := ps_raise hc tk (pmk_line T hr ha hg he hpl)
/-- error.line, error the exception that the suite holds (at a; its class cls, its dict d) -/
def tByLine (C : Addr) (a : Addr) (cls : Value) (d : Option Addr) (te : TE) : TE := fun σ H Q => te σ H fun x H1 => x = .ref a ∧ cls = .ref C ∧ ∃ (dd : Addr) (v : V), d = some dd ∧ H1 dd = some (.xd [(("line" : Str), v)]) ∧ Q v H1
theorem pe_byLine {a : Addr} {oe : Obj} {cls : Value} {d : Option Addr} {pn : List (Addr × Obj)} {e : Expr} {te : TE} {pos : Pos} (T : PySem.LineX.LineTxt X.K X.mg C fI) (hz : Zc cls d oe) (hf : ∃ vs, oe.data = .fields vs) (he : PE (X.suite a ((a, oe) :: pn)) e te)
    (hb : attributeBase e "line" X.env (eval e X.env) = eval e X.env := by rfl) :
    PE (X.suite a ((a, oe) :: pn)) (.Attribute e "line" pos) (tByLine C a cls d te) := by
  refine ⟨fun pins s σ H Q I h => ?_⟩
  refine attr_of hb (thn (he.run pins s σ H _ I h) fun u s1 hh => ?_)
  obtain ⟨x, H1, I1, rx, ex, ec, dd, v, ed, ea, q⟩ := hh
  subst ex
  obtain rfl : u = Value.ref a := rx
  subst ec
  subst ed
  obtain ⟨ha, _⟩ := I1.pin (a, oe) (List.mem_append_left _ List.mem_cons_self)
  obtain ⟨vs, hd⟩ := hf
  have hx : ObjOk X.prog X.w H1 s1.heap dd (.xd [(("line" : Str), v)]) := I1.hok dd _ ea
  obtain ⟨mA, hns, hr⟩ := hx
  obtain ⟨od, ho, hl⟩ := lookIn_ns hns
  have l : List.lookup ("line" : Str) [(("line" : Str), v)] = some v := by simp [List.lookup]
  obtain ⟨u, hu, ru⟩ := RelO.some_of (v := v) (o := mA "line") (by rw [← l]; exact hr "line")
  have J : PySem.W.InstAt s1.heap a oe C (some od) := ⟨ha, hz.1, by unfold PySem.W.notCls; rw [hd] <;> rfl, by rw [hz.2]; exact ho⟩
  exact HandSPX.exc_get I1.kIn J T.ga T.gg T.exC (PySem.W.findObj_own T.hdC T.noN rfl (by rw [hl, hu])) (handed_of ru) ⟨v, H1, I1.tok _, ru, q⟩
end
end L2
end Part_DL14
section Part_DL15
set_option maxRecDepth 100000
/-! raise, try, two names at once, global constants -/
namespace DL
open PySem PySem.Spec PyProof.Rows L2
def sRaiseN (c : String) : SD := fun env om => .exc ⟨c, none⟩ env om
def sRaise1 (c : String) (f : DV) : SD := fun env om => rs (fun d om => .exc ⟨c, some d⟩ env om) env (f env om)
/-- try: sb except X: ss; ex tells of each class whether X names it; the suite raises nothing -/
def sTry (ex : String → Option Bool) (sb ss : SD) : SD := fun env om => match sb env om with
  | .exc e env om => match ex e.c with
    | some true => match ss env om with
      | .exc _ _ _ => .no
      | r => r
    | some false => .exc e env om
    | none => .no
  | r => r
def sPar (i j : Nat) (g : En → Om → R (List Dat)) : SD := fun env om => match g env om with
  | .ok [d, e] om => .nx ((env.set i (some d)).set j (some e)) om
  | .ok _ _ => .no
  | .exc e om => .exc e env om
  | .no => .no
section
variable {X : Cx} {T : Ct} {K : PySem.W.Frag}
theorem ds_raiseN {C : Addr} {bmB : List Value} {B newId initId : String} {x m : Str} {j : Nat} {p p2 pos pos2 : Pos} {c : String} (hc : X.calm = true) (F : ExcBaseFacts B newId initId bmB) (q : PySem.W.excIn X.K C bmB newId = true) (gC : X.mg x = some (.ref C)) (kC : PySem.W.keepIn X.K (.ref C) = true) (r : Raises X (.ref C)) (hT : T.cl c = some C) (hg : Gl X x)
    (hdb : (x == ("__debug__" : Str)) = false := by decide) : DS X T (.Raise (some (.Call (.Name x p) [.Constant (.str m) j p2] [] pos)) none pos2) (sRaiseN c) := fun W tk po =>
  ps_mono (ps_raise hc tk (pmk_own F q gC kC r hg hdb)) fun D sg H ⟨ex, rho, om, env, w, er, o⟩ => o (.ref C) none sg H ex rho .refl w er ⟨C, hT, rfl, rfl⟩
theorem ds_raiseLine {C fI : Addr} {a : Expr} {f : DV} {p pos pos2 : Pos} {k : Nat} (hc : X.calm = true) (L : PySem.LineX.LineTxt X.K X.mg C fI) (hr : Room k X.A) (hT : T.cl "ParseError" = some C) (hF : T.fs "ParseError" = [("line" : Str)]) (ha : DE X T a f) (hg : Gl X "ParseError")
    (he : starEach (a :: []) X.env = (false, eval a X.env) :: starEach [] X.env := by rfl) (hpl : (backTo pos (starEach [] X.env)).any (·.1) = false := by rfl) :
    DS X T (.Raise (some (.Call (.Name "ParseError" p) [a] [] pos)) none pos2) (sRaise1 "ParseError" f) := fun W tk po =>
  ps_mono (ps_raiseLine hc L hr tk (pa_cons (ha W tk) pa_nil he) hg he hpl) fun D sg H ⟨ex, rho, om, env, w, er, o⟩ => by
  refine ⟨ex, rho, om, env, w, er, tD_rs er w.sub o fun d om v H1 ex1 rho1 _ st w1 rv o1 => ?_⟩
  refine ⟨v, rfl, fun dx hd => ?_⟩
  have st2 : Stp H1 ex1 rho1 (upd H1 dx (.xd [(("line" : Str), v)])) ex1 rho1 := lay_stp hd
  exact o1 _ _ sg _ _ _ st2 (w1.lay hd) ((er.step st w.sub).step st2 w1.sub) ⟨C, hT, rfl, dx, "line", v, rfl, upd_same, hF, rv.step st2 w1.sub⟩
theorem ds_tryOnly {x : Str} {c : Value} {body suite : List Stmt} {b0 : Stmt} {np pos pos' : Pos} {sb ss : SD} {exf : String → Option Bool} (hs : X.stack = X.env :: X.outer) (hf : X.env.frame = some X.env.locals) (hc : Names X x c)
    (hx : ∀ cn C b, T.cl cn = some C → exf cn = some b → PySem.W.exmOne X.K (.ref C) c = some b) (hb : ∀ pn xe, DSs (X.tr pn xe) T body sb) (hsu : ∀ a pn, DSs (X.suite a pn) T (b0 :: suite) ss) :
    DS X T (.Try body [.ExceptHandler (some (.Name x np)) none (b0 :: suite) pos'] [] [] pos) (sTry exf sb ss) := fun W tk po =>
  ps_mono (ps_try_only (tb := fun W => tSD X.K T W sb) (ts := fun _ _ _ => tSD X.K T (fun _ _ _ _ => False) ss) hs hf hc tk (fun W pn xe tk po => hb pn xe W tk po) (fun a oe cls d pn _ _ => hsu a _ _ takes0 PassesOwn.never)) fun D sg H ⟨ex, rho, om, env, w, er, o⟩ => by
  refine ⟨ex, rho, om, env, w, er, ?_⟩
  unfold sTry at o
  cases hr : sb env om with
  | exc e env1 om1 =>
    rw [hr] at o
    simp only at o
    intro cls dx sg' H' ex' rho' st w1 er1 re
    obtain ⟨C, h1, h2, h3⟩ := re
    cases hb : exf e.c with
    | none => rw [hb] at o; exact o.elim
    | some b =>
      rw [hb] at o
      refine ⟨b, by rw [h2]; exact hx _ _ _ h1 hb, fun hbt a _ => ?_, fun hbf => ?_⟩
      · subst hbt
        simp only at o
        refine ⟨ex', rho', om1, env1, w1, er1, ?_⟩
        cases hq : ss env1 om1 with
        | exc _ _ _ => rw [hq] at o; exact o.elim
        | nx _ _ => rw [hq] at o; exact OutS.step (r := .nx _ _) (W := fun _ _ _ _ => False) st w1 o
        | brk _ _ => rw [hq] at o; exact OutS.step (r := .brk _ _) (W := fun _ _ _ _ => False) st w1 o
        | cnt _ _ => rw [hq] at o; exact OutS.step (r := .cnt _ _) (W := fun _ _ _ _ => False) st w1 o
        | ret _ _ => rw [hq] at o; exact OutS.step (r := .ret _ _) (W := fun _ _ _ _ => False) st w1 o
        | no => rw [hq] at o; exact o.elim
      · subst hbf
        exact o _ _ _ _ _ _ st w1 er1 ⟨C, h1, h2, h3⟩
  | nx _ _ => rw [hr] at o; exact o
  | brk _ _ => rw [hr] at o; exact o
  | cnt _ _ => rw [hr] at o; exact o
  | ret _ _ => rw [hr] at o; exact o
  | no => rw [hr] at o; exact o.elim
theorem ds_par {i j : Nat} {x y : Str} {a b : Expr} {as : En → Om → R (List Dat)} {px py pt pos : Pos} {kt k2 pt2} (hc : X.calm = true) (hN : X.N.Nodup) (hi : X.N[i]? = some x) (hj : X.N[j]? = some y) (hij : i ≠ j)
    (hx : X.env.scope.names.lookup x = some .local) (hy : X.env.scope.names.lookup y = some .local) (ha : DA X T [a, b] as)
    (hw : swappedStores [.Tuple [.Name x px, .Name y py] kt pt] (.Tuple [a, b] k2 pt2) X.env = pure (some [x, y]))
    (hs : swapsWithSole [.Tuple [.Name x px, .Name y py] kt pt] (.Tuple [a, b] k2 pt2) pos.line X.env = pure false := by rfl) :
    DS X T (.Assign [.Tuple [.Name x px, .Name y py] kt pt] (.Tuple [a, b] k2 pt2) pos) (sPar i j as) := fun W tk po =>
  ps_mono (ps_par hc hN hi hj hij hx hy (ha W tk) hw hs) fun D sg H ⟨ex, rho, om, env, w, er, o⟩ => by
  refine ⟨ex, rho, om, env, w, er, ?_⟩
  unfold sPar at o
  cases hr : as env om with
  | exc e om1 => rw [hr] at o; exact fun c dx H1 ex1 rho1 st w1 re => o c dx sg H1 ex1 rho1 st w1 (er.step st w.sub) re
  | no => rw [hr] at o; exact o.elim
  | ok ds om1 =>
    rw [hr] at o
    intro vs H1 ex1 rho1 st w1 rv
    match ds, rv, o with
    | [d, e], .cons r1 (.cons r2 .nil), o => exact ⟨_, _, rfl, o _ _ _ _ st w1 (((er.step st w.sub).set i r1).set j r2)⟩
    | [], _, o => exact o.elim
    | [_], _, o => exact o.elim
    | _ :: _ :: _ :: _, _, o => exact o.elim
/-- a constant of a module -/
theorem de_glob {x : Str} {v : V} {u : Value} {d : Dat} {pos : Pos} (hg : Gl X x) (hm : X.mg x = some u) (r : RelV v u) (hr : ∀ H ex rho, Rep X.K T H ex rho v d) (hd : (x == ("__debug__" : Str)) = false := by decide) : DE X T (.Name x pos) (eC d) := de_c (pe_glob hg hm r hd) hr
/-- a tuple of the written part -/
theorem rep_wr {a : Addr} {vs : List V} {ds : List Dat} {H : Hp} {ex : Addr → Prop} {rho : List Addr} (h : WrT K a vs) (hr : ∀ H ex rho, Reps K T H ex rho vs ds) : Rep K T H ex rho (.ref a) (.wt ds) := .wt h (hr _ _ _)
end
end DL
end Part_DL15
section Part_DL16
set_option maxRecDepth 100000
/-! dicts: keys as data, displays -/
namespace DL
open PySem PySem.Spec PyProof.Rows L2
/-! ### keys -/
def keyD : Dat → Option Key
  | .int i => some (.inl i)
  | .str l => some (.inr ⟨l.toArray⟩)
  | _ => none
def keysD : List Dat → Option (List Key)
  | [] => some []
  | d :: r => match keyD d, keysD r with
    | some k, some ks => some (k :: ks)
    | _, _ => none
def keyT : Dat → Option (List Key)
  | .tup xs => keysD xs
  | _ => none
def k0 : Dat → Dat → Bool
  | .int a, .int b => a == b
  | .str a, .str b => a == b
  | _, _ => false
def k0s : List Dat → List Dat → Bool
  | [], [] => true
  | x :: xs, y :: ys => k0 x y && k0s xs ys
  | _, _ => false
/-- two keys are one -/
def k1 : Dat → Dat → Bool
  | .tup xs, .tup ys => k0s xs ys
  | .int a, .int b => a == b
  | .str a, .str b => a == b
  | _, _ => false
theorem str_ext {x y : Str} (h : x.cps.toList = y.cps.toList) : x = y := by
  obtain ⟨⟨x⟩⟩ := x
  obtain ⟨⟨y⟩⟩ := y
  simp only at h
  subst h
  rfl
theorem k0_dK (a b : Key) : k0 (dK a) (dK b) = decide (a = b) := by
  cases a with
  | inl i => cases b with
    | inl j => by_cases h : i = j <;> simp [k0, dK, h]
    | inr y => simp [k0, dK]
  | inr x => cases b with
    | inl j => simp [k0, dK]
    | inr y =>
      by_cases h : x = y
      · subst h; simp [k0, dK]
      · have : ¬ x.cps.toList = y.cps.toList := fun z => h (str_ext z)
        simp only [k0, dK, Sum.inr.injEq, h, decide_false]
        simpa using this
theorem k1_dK (a b : Key) : k1 (dK a) (dK b) = decide (a = b) := by
  rw [← k0_dK]
  cases a <;> cases b <;> rfl
theorem k0s_dT : ∀ a b : List Key, k0s (a.map dK) (b.map dK) = decide (a = b)
  | [], [] => by simp [k0s]
  | [], _ :: _ => by simp [k0s]
  | _ :: _, [] => by simp [k0s]
  | a :: as, b :: bs => by
    simp only [List.map_cons, k0s, k0_dK, k0s_dT as bs, List.cons.injEq]
    by_cases h1 : a = b <;> by_cases h2 : as = bs <;> simp [h1, h2]
theorem k1_dT (a b : List Key) : k1 (dT a) (dT b) = decide (a = b) := k0s_dT a b
section
variable {K : PySem.W.Frag} {T : Ct} {H : Hp} {ex : Addr → Prop} {rho : List Addr}
theorem keyD_rep {v : V} {d : Dat} {k : Key} (r : Rep K T H ex rho v d) (h : keyD d = some k) : v = kV k ∧ d = dK k := by
  cases r with
  | int => cases h; exact ⟨rfl, rfl⟩
  | str q => subst q; cases h; exact ⟨rfl, rfl⟩
  | _ => cases h
theorem keysD_rep : ∀ {vs : List V} {ds : List Dat} {ks : List Key}, Reps K T H ex rho vs ds → keysD ds = some ks → vs = ks.map kV ∧ ds = ks.map dK
  | _, [], ks, r, h => by cases r; cases h; exact ⟨rfl, rfl⟩
  | _, d :: ds, ks, r, h => by
    cases r with
    | cons r t =>
      unfold keysD at h
      split at h
      · rename_i k ks' h1 h2
        cases h
        obtain ⟨e1, e2⟩ := keyD_rep r h1
        obtain ⟨e3, e4⟩ := keysD_rep t h2
        subst e1 e2 e3 e4
        exact ⟨rfl, rfl⟩
      · cases h
theorem keyT_rep {v : V} {d : Dat} {ks : List Key} (r : Rep K T H ex rho v d) (h : keyT d = some ks) : ∃ b, v = .ref b ∧ H b = some (.tup (ks.map kV)) ∧ ¬ ex b ∧ d = dT ks := by
  cases r with
  | tup q r =>
    obtain ⟨e1, e2⟩ := keysD_rep r h
    subst e1 e2
    exact ⟨_, rfl, q.1, q.2, rfl⟩
  | _ => cases h
end
/-! ### what a dict does -/
def lookD : List Dat → List Dat → Dat → Option Dat
  | k :: ks, v :: vs, x => if k1 k x = true then some v else lookD ks vs x
  | _, _, _ => none
def replD : List Dat → List Dat → Dat → Dat → List Dat
  | k :: ks, v :: vs, x, y => (if k1 k x = true then y else v) :: replD ks vs x y
  | _, _, _, _ => []
def putD (p : List Dat × List Dat) (x y : Dat) : List Dat × List Dat := if (p.1.any fun k => k1 k x) = true then (p.1, replD p.1 p.2 x y) else (p.1 ++ [x], p.2 ++ [y])
def mkD (ps : List (Dat × Dat)) : List Dat × List Dat := ps.foldl (fun acc p => putD acc p.1 p.2) ([], [])
section
variable {K : PySem.W.Frag} {T : Ct} {H : Hp} {ex : Addr → Prop} {rho : List Addr} {κ : Type} [DecidableEq κ] {f : κ → Dat} (hf : ∀ a b, k1 (f a) (f b) = decide (a = b))
include hf
theorem look_rep : ∀ {kvs : List (κ × V)} {ds : List Dat} {k : κ}, Reps K T H ex rho (kvs.map (·.2)) ds → match lookD (kvs.map fun p => f p.1) ds (f k) with
    | some d => ∃ v, valV kvs k = some v ∧ Rep K T H ex rho v d
    | none => valV kvs k = none
  | [], ds, k, r => by cases r; simp [lookD, valV]
  | p :: kvs, ds, k, r => by
    cases r with
    | cons r t =>
      simp only [List.map_cons, lookD]
      by_cases h : p.1 = k
      · rw [if_pos (by rw [hf]; simp [h])]
        exact ⟨p.2, valV_pos h, r⟩
      · rw [if_neg (by rw [hf]; simp [h]), valV_neg h]
        exact look_rep t
theorem put_rep {kvs : List (κ × V)} {ds : List Dat} {k : κ} {v : V} {d : Dat} (r : Reps K T H ex rho (kvs.map (·.2)) ds) (q : Rep K T H ex rho v d) :
    Reps K T H ex rho ((putK kvs k v).map (·.2)) (putD (kvs.map fun p => f p.1, ds) (f k) d).2 ∧ (putD (kvs.map fun p => f p.1, ds) (f k) d).1 = (putK kvs k v).map fun p => f p.1 := by
  have ha : ((kvs.map fun p => f p.1).any fun x => k1 x (f k)) = kvs.any fun kv => decide (kv.1 = k) := by
    rw [List.any_map]
    congr 1
    funext p
    exact hf _ _
  unfold putD putK
  simp only [ha]
  by_cases h : (kvs.any fun kv => decide (kv.1 = k)) = true
  · rw [if_pos h, if_pos h]
    refine ⟨?_, by
      rw [List.map_map]
      refine List.map_congr_left fun p _ => ?_
      simp only [Function.comp]
      split <;> rfl⟩
    clear h ha
    induction kvs generalizing ds with
    | nil => cases r; exact .nil
    | cons p kvs ih =>
      cases r with
      | cons r t =>
        simp only [List.map_cons, replD]
        by_cases e : p.1 = k
        · rw [if_pos e, if_pos (by rw [hf]; simp [e])]
          exact .cons q (ih t)
        · rw [if_neg e, if_neg (by rw [hf]; simp [e])]
          exact .cons r (ih t)
  · rw [if_neg h, if_neg h]
    refine ⟨?_, by rw [List.map_append]; rfl⟩
    rw [List.map_append]
    exact r.append (.cons q .nil)
theorem merge_rep : ∀ {more : List (κ × V)} {md : List Dat} {kvs : List (κ × V)} {ds : List Dat}, Reps K T H ex rho (more.map (·.2)) md → Reps K T H ex rho (kvs.map (·.2)) ds →
    Reps K T H ex rho ((more.foldl (fun acc kv => putK acc kv.1 kv.2) kvs).map (·.2)) (((more.map fun p => f p.1).zip md).foldl (fun acc p => putD acc p.1 p.2) (kvs.map fun p => f p.1, ds)).2 ∧
      (((more.map fun p => f p.1).zip md).foldl (fun acc p => putD acc p.1 p.2) (kvs.map fun p => f p.1, ds)).1 = (more.foldl (fun acc kv => putK acc kv.1 kv.2) kvs).map fun p => f p.1
  | [], md, kvs, ds, r, q => by cases r; exact ⟨q, rfl⟩
  | p :: more, md, kvs, ds, r, q => by
    cases r with
    | @cons _ d _ ds' r t =>
      obtain ⟨h1, h2⟩ := put_rep hf (k := p.1) q r
      simp only [List.map_cons, List.zip_cons_cons, List.foldl_cons]
      have e : putD (kvs.map fun p => f p.1, ds) (f p.1) d = ((putK kvs p.1 p.2).map fun p => f p.1, (putD (kvs.map fun p => f p.1, ds) (f p.1) d).2) := by
        rw [← h2]
      rw [e]
      exact merge_rep t h1
end
/-! ### displays -/
structure PQs (X : Cx) (pos : Pos) (keys : List (Option Expr)) (values : List Expr) (t : L2.St → Hp → (List (V × V) → Hp → Prop) → Prop) : Prop where
  run : ∀ (pins : List (Addr × Obj)) (s : Shared) (sg : L2.St) (H : Hp) (Q : List (V × V) → Hp → Prop), Inv X pins sg H s → t sg H Q →
    wpAny (model X.prog X.w) X.A (evalPairs (pairTrees keys values X.env pos)) (fun vs s' => ∃ ps H', Inv X pins sg H' s' ∧ VV ps vs ∧ Q ps H') X.xe s
def RepP (K : PySem.W.Frag) (T : Ct) : Hp → (Addr → Prop) → List Addr → List (V × V) → List (Dat × Dat) → Prop := fun H ex rho ps ds => Reps K T H ex rho (ps.map (·.1)) (ds.map (·.1)) ∧ Reps K T H ex rho (ps.map (·.2)) (ds.map (·.2))
def DPs (X : Cx) (T : Ct) (pos : Pos) (keys : List (Option Expr)) (values : List Expr) (g : En → Om → R (List (Dat × Dat))) : Prop := ∀ W, Takes X W → PQs X pos keys values (tD X.K T (RepP X.K T) W g)
def pNil : En → Om → R (List (Dat × Dat)) := fun _ om => .ok [] om
def pCons (f g : DV) (h : En → Om → R (List (Dat × Dat))) : En → Om → R (List (Dat × Dat)) := fun env om => (f env om).bind fun x om => (g env om).bind fun y om => (h env om).bind fun ps om => .ok ((x, y) :: ps) om
def eDispK (g : En → Om → R (List (Dat × Dat))) : DV := fun env om => (g env om).bind fun ps om => match keysD (ps.map (·.1)) with
  | some _ => if ps.length ≤ 15 then .ok (.dct (mkD ps).1 (mkD ps).2) om else .no
  | none => .no
def keysT : List Dat → Option (List (List Key))
  | [] => some []
  | d :: r => match keyT d, keysT r with
    | some k, some ks => some (k :: ks)
    | _, _ => none
def eDispT (g : En → Om → R (List (Dat × Dat))) : DV := fun env om => (g env om).bind fun ps om => match keysT (ps.map (·.1)) with
  | some _ => if ps.length ≤ 15 then .ok (.dct (mkD ps).1 (mkD ps).2) om else .no
  | none => .no
section
variable {X : Cx} {T : Ct} {K : PySem.W.Frag} {pos : Pos}
theorem dps_nil : DPs X T pos [] [] pNil := fun W tk => ⟨fun pins s sg H Q I ⟨ex, rho, om, env, w, er, o⟩ => pairTrees_nil_walk ⟨[], H, I, .nil, o.here w ⟨.nil, .nil⟩⟩⟩
theorem dps_cons {k v : Expr} {ks : List (Option Expr)} {vs : List Expr} {f g : DV} {h : En → Om → R (List (Dat × Dat))} (hk : DE X T k f) (hv : DE X T v g) (hr : DPs X T pos ks vs h) : DPs X T pos (some k :: ks) (v :: vs) (pCons f g h) := fun W tk => ⟨fun pins s sg H Q I ⟨ex, rho, om, env, w, er, o⟩ => by
  refine pairTrees_cons_walk (thn ((hk W tk).run pins s sg H _ I ⟨ex, rho, om, env, w, er, Out.bind (rel := Rep X.K T) o⟩) fun u s1 ⟨x, H1, I1, rx, q1⟩ => ?_)
  obtain ⟨d, om1, ex1, rho1, _, st, w1, rd, o1⟩ := q1
  refine thn ((hv W tk).run pins s1 sg H1 _ I1 ⟨ex1, rho1, om1, env, w1, er.step st w.sub, Out.bind (rel := Rep X.K T) o1⟩) fun u2 s2 ⟨y, H2, I2, ry, q2⟩ => ?_
  obtain ⟨e, om2, ex2, rho2, _, st2, w2, re, o2⟩ := q2
  refine thn ((hr W tk).run pins s2 sg H2 _ I2 ⟨ex2, rho2, om2, env, w2, (er.step st w.sub).step st2 w1.sub, Out.bind (rel := RepP X.K T) o2⟩) fun ws s3 ⟨ps, H3, I3, rel, q3⟩ => ?_
  obtain ⟨es, om3, ex3, rho3, _, st3, w3, rp, o3⟩ := q3
  exact ⟨(x, y) :: ps, H3, I3, .cons ⟨rx, ry⟩ rel, o3.here w3 ⟨.cons ((rd.step st2 w1.sub).step st3 w2.sub) rp.1, .cons (re.step st3 w2.sub) rp.2⟩⟩⟩
/-- a new thing is laid, and kept out of the data -/
theorem out_stp {H : Hp} {ex : Addr → Prop} {rho : List Addr} {p : Addr} {o : HO} (hp : H p = none) : Stp H ex rho (upd H p o) (fun a => ex a ∨ a = p) rho :=
  ⟨⟨[], by simp, by simp⟩, fun _ h => .inl h, fun a h => h.elim .inl fun e => .inr (e ▸ hp), fun a ob h _ => by rw [upd_ne (ne_of_none h hp)]; exact h⟩
theorem WRel.out {H : Hp} {ex : Addr → Prop} {rho : List Addr} {om : Om} {p : Addr} {o : HO} (w : WRel K T H ex rho om) (hp : H p = none) (ho : NoTup o := by exact fun _ z => nomatch z) : WRel K T (upd H p o) (fun a => ex a ∨ a = p) rho om :=
  ⟨w.len, w.nd, fun a h => .inl (w.sub a h), fun a h => by
    by_cases e : a = p
    · subst e; exact ⟨_, upd_same, ho⟩
    · rw [upd_ne e]; exact w.trk a (h.resolve_right e), fun i a d h1 h2 => (w.cells i a d h1 h2).step (out_stp hp) w.sub fun ob h => by rw [upd_ne (ne_of_none h hp)]; exact h⟩
/-- what was kept out comes in, stored anew, and is held from then on -/
theorem in_stp {H H2 : Hp} {ex ex2 : Addr → Prop} {rho rho2 : List Addr} {om : Om} {p : Addr} {o u : HO} (hp : H p = none) (w : WRel K T H ex rho om) (st : Stp (upd H p o) (fun a => ex a ∨ a = p) rho H2 ex2 rho2) : Stp H ex rho (upd H2 p u) (fun a => ex2 a ∧ a ≠ p) rho2 := by
  have ne : ∀ a o', H a = some o' → a ≠ p := fun a o' h => ne_of_none h hp
  refine ⟨?_, fun a h => ⟨st.up a (.inl h), ?_⟩, fun a h => ?_, fun a ob h hn => ?_⟩
  · obtain ⟨n, e, hn⟩ := st.new
    refine ⟨n, e, fun a ha => ?_⟩
    have q := hn a ha
    by_cases z : a = p
    · rw [z]; exact hp
    · rw [upd_ne z] at q; exact q
  · obtain ⟨o', h', _⟩ := w.trk a h
    exact ne a o' h'
  · rcases st.fre a h.1 with q | q
    · exact .inl (q.resolve_right h.2)
    · rw [upd_ne h.2] at q; exact .inr q
  · rw [upd_ne (ne a ob h)]
    exact st.keep a ob (by rw [upd_ne (ne a ob h)]; exact h) hn
theorem notcell {H H2 : Hp} {ex ex2 : Addr → Prop} {rho rho2 : List Addr} {om : Om} {p : Addr} {o : HO} (hp : H p = none) (w : WRel K T H ex rho om) (st : Stp (upd H p o) (fun a => ex a ∨ a = p) rho H2 ex2 rho2) : p ∉ rho2 := fun z => by
  obtain ⟨n, e, hn⟩ := st.new
  rw [e] at z
  rcases List.mem_append.mp z with z | z
  · obtain ⟨o', h'⟩ := w.there p z
    rw [hp] at h'; cases h'
  · have := hn p z
    rw [upd_same] at this; cases this
theorem WRel.inn {H2 : Hp} {ex2 : Addr → Prop} {rho2 : List Addr} {om : Om} {p : Addr} {u : HO} (w : WRel K T H2 ex2 rho2 om) (hx : ex2 p) (hn : p ∉ rho2) (hu : NoTup u := by exact fun _ z => nomatch z) : WRel K T (upd H2 p u) (fun a => ex2 a ∧ a ≠ p) rho2 om :=
  (w.updEx hx hn hu).weak (fun a h => h.1) fun a h => ⟨w.sub a h, fun z => hn (z ▸ h)⟩
theorem zip_fst_snd {ps : List (V × V)} {f : Key → V} : ∀ {ks : List Key}, ps.map (·.1) = ks.map kV → ∃ kvs : List (Key × V), ps = kvs.map (fun kv => (kV kv.1, kv.2)) ∧ kvs.map (·.1) = ks := by
  induction ps with
  | nil => intro ks h; cases ks with
    | nil => exact ⟨[], rfl, rfl⟩
    | cons _ _ => simp at h
  | cons p ps ih => intro ks h; cases ks with
    | nil => simp at h
    | cons k ks =>
      simp only [List.map_cons, List.cons.injEq] at h
      obtain ⟨kvs, e1, e2⟩ := ih h.2
      refine ⟨(k, p.2) :: kvs, ?_, ?_⟩
      · simp [← e1, ← h.1]
      · simp [e2]
theorem dat_zip : ∀ {ds : List (Dat × Dat)} {l : List Dat}, ds.map (·.1) = l → ds = l.zip (ds.map (·.2))
  | [], _, h => by subst h; rfl
  | (a, b) :: ds, _, h => by
    subst h
    simp only [List.map_cons, List.zip_cons_cons, List.cons.injEq, true_and]
    exact dat_zip rfl
/-- a dict that was made: kept out while its parts were told, now held -/
theorem held_ok {W : WX} {sg : L2.St} {H H2 : Hp} {ex ex2 : Addr → Prop} {rho rho2 : List Addr} {om om2 : Om} {p : Addr} {u0 u : HO} {ob : Obj} {Q : VK} {d : Dat} (hn : H p = none) (w : WRel K T H ex rho om) (st2 : Stp (upd H p u0) (fun a => ex a ∨ a = p) rho H2 ex2 rho2) (w2 : WRel K T H2 ex2 rho2 om2)
    (hr : Rep K T (upd H2 p (.frz ob u)) (fun a => ex2 a ∧ a ≠ p) rho2 (.ref p) d) (ho : Out K T (Rep K T) W sg H ex rho Q (.ok d om2)) : Q (.ref p) (upd H2 p (.frz ob u)) := by
  have hx2 : ex2 p := st2.up _ (.inr rfl)
  exact ho (.ref p) _ _ rho2 (in_stp hn w st2) (w2.inn hx2 (notcell hn w st2)) hr
theorem de_dispK {keys : List (Option Expr)} {values : List Expr} {g : En → Om → R (List (Dat × Dat))} (h : DPs X T pos keys values g) (h0 : keys ≠ []) (hall : keys.all (·.isSome) = true := by rfl) (hl : keys.length = values.length := by rfl)
    (h15 : keys.length ≤ 15 := by decide) : DE X T (.Dict keys values pos) (eDispK g) := fun W tk => ⟨fun pins s sg H Q I ⟨ex, rho, om, env, w, er, o⟩ => by
  have hn := I.hok.fresh (Nat.le_refl s.heap.objs.size)
  have I1 := I.laid (a := s.heap.objs.size) (o := .dK []) (h' := s.heap.push { cls := .type "dict", data := .dict #[] }) (t' := s.toks) (fun _ _ q => Heap.get?_push_of_some _ q) (Nat.le_refl _) (dk_empty s.heap I.big)
  have st1 : Stp H ex rho (upd H s.heap.objs.size (.dK [])) (fun a => ex a ∨ a = s.heap.objs.size) rho := out_stp hn
  have w1 : WRel X.K T (upd H s.heap.objs.size (.dK [])) (fun a => ex a ∨ a = s.heap.objs.size) rho om := w.out hn
  refine wpAny_Dict_walk (knd := mixKind X.prog X.w) hall hl h0 h15 (thn ((h W tk).run pins _ sg _ (fun ps H2 => ∃ ds om2 ex2 rho2, g env om = .ok ds om2 ∧ Stp (upd H s.heap.objs.size (.dK [])) (fun a => ex a ∨ a = s.heap.objs.size) rho H2 ex2 rho2 ∧ WRel X.K T H2 ex2 rho2 om2 ∧ RepP X.K T H2 ex2 rho2 ps ds) I1 ⟨_, rho, om, env, w1, er.step st1 w.sub, ?_⟩) fun ws s2 ⟨ps, H2, I2, rel, q⟩ => ?_)
  · refine (Out.bind (rel := RepP X.K T) (Out.step st1 w1 o)).mono ?_
    rintro ps H2 ⟨ds, om2, ex2, rho2, e, st2, w2, rp, _⟩
    exact ⟨ds, om2, ex2, rho2, e, st2, w2, rp⟩
  obtain ⟨ds, om2, ex2, rho2, e, st2, w2, rp⟩ := q
  unfold eDispK at o
  rw [e, R.bind_ok] at o
  split at o
  case h_2 => exact o.elim
  rename_i ks hks
  split at o
  case isFalse => exact o.elim
  rename_i hlen
  have hp : H2 s.heap.objs.size = some (.dK []) := st2.keep _ _ upd_same fun z => by
    obtain ⟨o', h'⟩ := w.there _ z
    rw [hn] at h'; cases h'
  obtain ⟨e1, e2⟩ := keysD_rep rp.1 hks
  obtain ⟨kvs, ep, ek⟩ := zip_fst_snd (f := kV) e1
  subst ep
  obtain ⟨rs, c, rk⟩ := carries_of (P := X.prog) (w := X.w) rel
  obtain ⟨z, hd, vs0, r0, dd⟩ := dk_of I2.hok hp
  cases r0
  refine ⟨rs, c, dd, fun h' dd' hs => ?_⟩
  have hl2 : kvs.length ≤ 15 := by
    have l1 := rp.1.length
    simp only [List.length_map] at l1
    omega
  have hz : (mergeK [] kvs).length ≤ sizeLine := by
    have h1 := length_mergeK kvs []
    rw [List.length_nil] at h1
    rw [sizeLine_eq]; omega
  have he : ∃ q, h'.get? s.heap.objs.size = some q := let ⟨q, _, _, hq, _⟩ := dd'; ⟨q, hq⟩
  have I3 : Inv X pins sg (upd H2 s.heap.objs.size (.dK (mergeK [] kvs))) { s2 with heap := h' } := d_write I2 (by rw [hp]; exact True.intro) hs he (dk_new hz hd (rk.merge .nil) dd')
  obtain ⟨ob, I4⟩ := I3.lock upd_same trivial
  rw [upd_upd] at I4
  refine ⟨.ref s.heap.objs.size, _, I4.tok _, rfl, held_ok hn w st2 w2 ?_ o⟩
  have hx2 : ex2 s.heap.objs.size := st2.up _ (.inr rfl)
  have m := merge_rep (K := X.K) (T := T) (H := H2) (ex := ex2) (rho := rho2) k1_dK (more := kvs) (md := ds.map (·.2)) (kvs := []) (ds := []) (by have := rp.2; rw [List.map_map] at this; exact this) .nil
  have e3 : ds = (kvs.map fun p => dK p.1).zip (ds.map (·.2)) := by
    refine dat_zip ?_
    rw [e2, ← ek, List.map_map]
    rfl
  have e4 : mkD ds = ((kvs.map fun p => dK p.1).zip (ds.map (·.2))).foldl (fun acc p => putD acc p.1 p.2) ([], []) := by
    conv => lhs; rw [e3]
    rfl
  rw [e4]
  exact .dctK upd_same (fun z => z.2 rfl) ((m.1.upd hx2).weak fun a h => h.1) m.2⟩
/-! the same with tuples as keys -/
theorem keysT_rep {H : Hp} {ex : Addr → Prop} {rho : List Addr} : ∀ {vs : List V} {ds : List Dat} {ks : List (List Key)}, Reps K T H ex rho vs ds → keysT ds = some ks → ∃ bs : List Addr, vs = bs.map V.ref ∧ Paired (fun (b : Addr) (k : List Key) => H b = some (.tup (k.map kV))) bs ks ∧ ds = ks.map dT
  | _, [], ks, r, h => by cases r; cases h; exact ⟨[], rfl, .nil, rfl⟩
  | _, d :: ds, ks, r, h => by
    cases r with
    | cons r t =>
      unfold keysT at h
      split at h
      · rename_i k ks' h1 h2
        cases h
        obtain ⟨b, e1, e2, _, e3⟩ := keyT_rep r h1
        obtain ⟨bs, e4, e5, e6⟩ := keysT_rep t h2
        subst e1 e3 e4 e6
        exact ⟨b :: bs, rfl, .cons e2 e5, rfl⟩
      · cases h
/-- pairs of keys and values, told apart -/
theorem carriesT {H : Hp} {h : Heap} {P : Program} {w : World} (ok : HOk P w H h) : ∀ {ps : List (V × V)} {ws : List (Value × Value)} {bs : List Addr} {ks : List (List Key)}, VV ps ws → ps.map (·.1) = bs.map V.ref → Paired (fun (b : Addr) (k : List Key) => H b = some (.tup (k.map kV))) bs ks →
    ∃ (kvs : List (List Key × V)) (qs : List (List Key × Addr × Value)), CarriesH (tupleKind (mixKind P w)) h ws qs ∧ KT H kvs qs ∧ kvs.map (·.1) = ks ∧ kvs.map (·.2) = ps.map (·.2)
  | [], _, bs, ks, r, e, q => by
    cases r
    cases bs with
    | nil => cases q; exact ⟨[], [], trivial, .nil, rfl, rfl⟩
    | cons _ _ => simp at e
  | p :: ps, _, bs, ks, r, e, q => by
    cases r with
    | @cons _ u _ us r t =>
      cases bs with
      | nil => simp at e
      | cons b bs =>
        cases q with
        | @cons _ k _ ks q qt =>
          simp only [List.map_cons, List.cons.injEq] at e
          obtain ⟨kvs, qs, c, kt, e1, e2⟩ := carriesT ok t e.2 qt
          obtain ⟨p1, p2⟩ := p
          obtain ⟨u1, u2⟩ := u
          have e0 : p1 = V.ref b := e.1
          subst e0
          cases (show u1 = Value.ref b from r.1)
          exact ⟨(k, p2) :: kvs, (k, b, u2) :: qs, ⟨rfl, rfl, key_of ok q, c⟩, .cons ⟨rfl, q, r.2⟩ kt, by simp [e1], by simp [e2]⟩
theorem kt_all {H : Hp} : ∀ {more : List (List Key × V)} {qs : List (List Key × Addr × Value)} {kvs : List (List Key × V)} {xs : List (List Key × Addr × Value)}, KT H more qs → KT H kvs xs → KT H (more.foldl (fun acc kv => putK acc kv.1 kv.2) kvs) (storedAllH xs qs)
  | _, _, _, _, .nil, r => r
  | _, _, _, _, .cons (a := p) (b := q) h t, r => by
    obtain ⟨h1, h2, h3⟩ := h
    have e := r.put p.1 h2 h3
    rw [List.foldl_cons]
    rw [h1] at e ⊢
    exact kt_all (xs := storedH _ q.1 q.2.1 q.2.2) t e
theorem len_foldput : ∀ (more kvs : List (List Key × V)), (more.foldl (fun acc kv => putK acc kv.1 kv.2) kvs).length ≤ kvs.length + more.length
  | [], kvs => Nat.le_refl _
  | p :: r, kvs => by
    have h1 := len_foldput r (putK kvs p.1 p.2)
    have h2 := length_putK kvs p.1 p.2
    rw [List.foldl_cons, List.length_cons]
    omega
theorem de_dispT {keys : List (Option Expr)} {values : List Expr} {g : En → Om → R (List (Dat × Dat))} (hu : X.A.units + 64 < cLine) (h : DPs X T pos keys values g) (h0 : keys ≠ []) (hall : keys.all (·.isSome) = true := by rfl) (hl : keys.length = values.length := by rfl)
    (h15 : keys.length ≤ 15 := by decide) : DE X T (.Dict keys values pos) (eDispT g) := fun W tk => ⟨fun pins s sg H Q I ⟨ex, rho, om, env, w, er, o⟩ => by
  have hn := I.hok.fresh (Nat.le_refl s.heap.objs.size)
  have I1 := I.laid (a := s.heap.objs.size) (o := .dT []) (h' := s.heap.push { cls := .type "dict", data := .dict #[] }) (t' := s.toks) (fun _ _ q => Heap.get?_push_of_some _ q) (Nat.le_refl _) (dt_empty s.heap I.big)
  have st1 : Stp H ex rho (upd H s.heap.objs.size (.dT [])) (fun a => ex a ∨ a = s.heap.objs.size) rho := out_stp hn
  have w1 : WRel X.K T (upd H s.heap.objs.size (.dT [])) (fun a => ex a ∨ a = s.heap.objs.size) rho om := w.out hn
  have hpl := pairTrees_length keys values X.env pos hall hl
  have hp0 : pairTrees keys values X.env pos ≠ [] := fun z => by
    rw [z] at hpl
    exact h0 (List.length_eq_zero_iff.mp hpl.symm)
  rw [arm_eval_Dict, zip_pairTrees keys values X.env pos hall hl, dictDisplay_pairs _ hp0 (by rw [hpl]; omega)]
  refine wpAny_bind (wpAny_standAt (wpAny_bind (wpAny_subDictH (knd := tupleKind (mixKind X.prog X.w)) (by show X.A.units < cLine; omega) (by rw [hpl]; exact h15)
    (thn ((h W tk).run pins _ sg _ (fun ps H2 => ∃ ds om2 ex2 rho2, g env om = .ok ds om2 ∧ Stp (upd H s.heap.objs.size (.dT [])) (fun a => ex a ∨ a = s.heap.objs.size) rho H2 ex2 rho2 ∧ WRel X.K T H2 ex2 rho2 om2 ∧ RepP X.K T H2 ex2 rho2 ps ds) I1 ⟨_, rho, om, env, w1, er.step st1 w.sub, ?_⟩) fun ws s2 ⟨ps, H2, I2, rel, q⟩ => ?_))))
  · refine (Out.bind (rel := RepP X.K T) (Out.step st1 w1 o)).mono ?_
    rintro ps H2 ⟨ds, om2, ex2, rho2, e, st2, w2, rp, _⟩
    exact ⟨ds, om2, ex2, rho2, e, st2, w2, rp⟩
  obtain ⟨ds, om2, ex2, rho2, e, st2, w2, rp⟩ := q
  unfold eDispT at o
  rw [e, R.bind_ok] at o
  split at o
  case h_2 => exact o.elim
  rename_i ks hks
  split at o
  case isFalse => exact o.elim
  rename_i hlen
  have hp : H2 s.heap.objs.size = some (.dT []) := st2.keep _ _ upd_same fun z => by
    obtain ⟨o', h'⟩ := w.there _ z
    rw [hn] at h'; cases h'
  obtain ⟨bs, e1, e2, e3⟩ := keysT_rep rp.1 hks
  obtain ⟨kvs, qs, c, kt, ek, ev⟩ := carriesT I2.hok rel e1 e2
  obtain ⟨z, hd, xs0, r0, dd⟩ := L2.dt_of I2.hok hp
  cases r0
  refine ⟨qs, c, dd, fun h' tk dd' hs => ?_⟩
  have hl2 : kvs.length ≤ 15 := by
    have l1 := congrArg List.length ev
    have l2 := rp.1.length
    simp only [List.length_map] at l1 l2
    omega
  have hz : (kvs.foldl (fun acc kv => putK acc kv.1 kv.2) []).length ≤ sizeLine := by
    have h1 := len_foldput kvs []
    rw [List.length_nil] at h1
    rw [sizeLine_eq]; omega
  obtain ⟨q0, es, ep, hq, h2, h3, h4, _, h5⟩ := dd'
  have I3 : Inv X pins sg (upd H2 s.heap.objs.size (.dT (kvs.foldl (fun acc kv => putK acc kv.1 kv.2) []))) { s2 with heap := h', toks := tk } :=
    d_write I2 (by rw [hp]; exact True.intro) hs ⟨q0, hq⟩ ⟨hz, hd, _, (kt_all kt .nil).keeps fun c ys ec => by
      rw [upd_ne (ne_of ec hp (fun z => nomatch z))]
      exact ec, q0, es, ep, hq, h2, h3, h4, h5⟩
  obtain ⟨ob, I4⟩ := I3.lock upd_same trivial
  rw [upd_upd] at I4
  refine wpAny_pure ⟨.ref s.heap.objs.size, _, I4.tok _, rfl, held_ok hn w st2 w2 ?_ o⟩
  have hx2 : ex2 s.heap.objs.size := st2.up _ (.inr rfl)
  have m := merge_rep (K := X.K) (T := T) (H := H2) (ex := ex2) (rho := rho2) k1_dT (more := kvs) (md := ds.map (·.2)) (kvs := []) (ds := []) (by rw [ev]; exact rp.2) .nil
  have e5 : ds = (kvs.map fun p => dT p.1).zip (ds.map (·.2)) := by
    refine dat_zip ?_
    rw [e3, ← ek, List.map_map]
    rfl
  have e4 : mkD ds = ((kvs.map fun p => dT p.1).zip (ds.map (·.2))).foldl (fun acc p => putD acc p.1 p.2) ([], []) := by
    conv => lhs; rw [e5]
    rfl
  rw [e4]
  exact .dctT upd_same (fun z => z.2 rfl) ((m.1.upd hx2).weak fun a h => h.1) m.2⟩
/-- {} -/
theorem de_disp0 : DE X T (.Dict [] [] pos) (eC (.dct [] [])) := fun W tk => ⟨fun pins s sg H Q I ⟨ex, rho, om, env, w, er, o⟩ => by
  have hn := I.hok.fresh (Nat.le_refl s.heap.objs.size)
  have I1 := I.laid (a := s.heap.objs.size) (o := .dK []) (h' := s.heap.push { cls := .type "dict", data := .dict #[] }) (t' := s.toks) (fun _ _ q => Heap.get?_push_of_some _ q) (Nat.le_refl _) (dk_empty s.heap I.big)
  obtain ⟨ob, I4⟩ := I1.lock upd_same trivial
  rw [upd_upd] at I4
  exact wpAny_Dict_empty ⟨.ref s.heap.objs.size, _, I4, rfl, o (.ref s.heap.objs.size) _ _ _ (lay_stp hn) (w.lay hn) (.dctK upd_same (w.nex hn) .nil rfl)⟩⟩
end
end DL
end Part_DL16
section Part_DL17
set_option maxRecDepth 100000
/-! held dicts: their entries, walks, list(d), d[k] -/
namespace DL
open PySem PySem.Spec PyProof.Rows L2
theorem pairs_at {P : Program} {w : World} : ∀ {es : List DictEntry} {kvs : List (Key × Value)} {i : Nat} {en : DictEntry}, Pairs (mixKind P w) es kvs → es[i]? = some en → ∃ kv, kvs[i]? = some kv ∧ keyIs kv.1 en.key = true ∧ en.val = kv.2
  | _, _, i, en, .nil, h => by simp at h
  | _, _, 0, en, .cons (kv := kv) h1 h2 _, h => by
    cases h
    exact ⟨kv, rfl, h1, h2⟩
  | _, _, i + 1, en, .cons _ _ t, h => by
    obtain ⟨kv, a, b⟩ := pairs_at (i := i) t (by simpa using h)
    exact ⟨kv, by simpa using a, b⟩
theorem paired_ix2 {α β : Type} {F : α → β → Prop} : ∀ {l : List α} {m : List β} {i : Nat} {b : β}, Paired F l m → m[i]? = some b → ∃ a, l[i]? = some a ∧ F a b
  | _, _, i, b, .nil, h => by simp at h
  | _, _, 0, b, .cons h _, e => by cases e; exact ⟨_, rfl, h⟩
  | _, _, i + 1, b, .cons _ t, e => by
    obtain ⟨a, h1, h2⟩ := paired_ix2 (i := i) t (by simpa using e)
    exact ⟨a, by simpa using h1, h2⟩
section
variable {X : Cx} {T : Ct} {K : PySem.W.Frag} {pins : List (Addr × Obj)} {sg : L2.St} {H : Hp} {s : Shared} {ex : Addr → Prop} {rho : List Addr} {om : Om}
theorem rep_key {H : Hp} {ex : Addr → Prop} {rho : List Addr} (k : Key) : Rep K T H ex rho (kV k) (dK k) := by
  cases k with
  | inl i => exact .int
  | inr x => exact .str rfl
theorem reps_key {H : Hp} {ex : Addr → Prop} {rho : List Addr} : ∀ ks : List Key, Reps K T H ex rho (ks.map kV) (ks.map dK)
  | [] => .nil
  | k :: ks => .cons (rep_key k) (reps_key ks)
theorem rep_tkey {b : Addr} {k : List Key} (w : WRel K T H ex rho om) (h : H b = some (.tup (k.map kV))) : Rep K T H ex rho (.ref b) (dT k) := .tup ⟨h, fun z => by
  obtain ⟨o, e, n⟩ := w.trk b z
  rw [h] at e
  cases e
  exact n _ rfl⟩ (reps_key k)
/-- the entries of a held dict -/
structure RawD (X : Cx) (T : Ct) (H : Hp) (s : Shared) (ex : Addr → Prop) (rho : List Addr) (d : Addr) (ks vs : List Dat) (o : Obj) (es : Array DictEntry) (ep : Nat) : Prop where
  sys : (d == sysModules) = false
  get : s.heap.get? d = some o
  exact_ : o.ExactDict
  data : o.data = .dict es ep
  size : es.size = ks.length
  len : vs.length = ks.length
  line : ks.length ≤ sizeLine
  ent : ∀ (i : Nat) (en : DictEntry), es[i]? = some en → ∃ kd vd kv vv, ks[i]? = some kd ∧ vs[i]? = some vd ∧ RelV kv en.key ∧ Rep X.K T H ex rho kv kd ∧ RelV vv en.val ∧ Rep X.K T H ex rho vv vd
theorem raw_of {d : Addr} {ks vs : List Dat} (I : Inv X pins sg H s) (w : WRel X.K T H ex rho om) (r : Rep X.K T H ex rho (.ref d) (.dct ks vs)) : ∃ o es ep, RawD X T H s ex rho d ks vs o es ep := by
  cases r with
  | @dctK _ o kvs _ _ q ne r e =>
    subst e
    obtain ⟨hs, hgd, hx, es, ep, us, hdt, hsz, kv, o', es', hg', hx', hdt', hk, hp, hnd⟩ := I.frzK q
    rw [hgd] at hg'; cases hg'
    rw [hdt] at hdt'; cases hdt'
    have hl : kvs.length = vs.length := by have := r.length; simpa using this
    obtain ⟨_, z, _⟩ := (show ObjOk X.prog X.w H s.heap d (.frz o (.dK kvs)) from I.hok d _ q)
    refine ⟨o, es, ep, hs, hgd, hx, hdt, by simpa using hsz, by simp [hl], by simpa using z, fun i en hi => ?_⟩
    obtain ⟨kv1, h1, h2, h3⟩ := pairs_at hp (by rw [Array.getElem?_toList]; exact hi)
    obtain ⟨p, h4, h5, h6⟩ := paired_ix2 kv h1
    have h7 : (kvs.map (·.2))[i]? = some p.2 := by rw [List.getElem?_map, h4]; rfl
    obtain ⟨vd, h8, h9⟩ := r.get' h7
    refine ⟨dK p.1, vd, kV p.1, p.2, by rw [List.getElem?_map, h4]; rfl, h8, ?_, rep_key _, ?_, h9⟩
    · rw [h5]; exact relV_key h2
    · rw [h3]; exact h6
  | @dctT _ o kvs _ _ q ne r e =>
    subst e
    obtain ⟨hd, z, hs, xs, pr, o', es, ep, ho, hx, hdt, he, hnd⟩ := (show ObjOk X.prog X.w H s.heap d (.frz o (.dT kvs)) from I.hok d _ q)
    rw [hd] at ho; cases ho
    have hl : kvs.length = vs.length := by have := r.length; simpa using this
    have l1 : es.size = xs.length := size_of_entries he
    have l2 : kvs.length = xs.length := Paired.length pr
    refine ⟨o, es, ep, hs, hd, hx, hdt, by simp; omega, by simp [hl], by simpa using z, fun i en hi => ?_⟩
    have qe := entry_at he i
    rw [hi] at qe
    cases hb : xs[i]? with
    | none => rw [hb] at qe; exact nomatch (show some en = none from qe)
    | some b =>
      rw [hb] at qe
      have e2 : en = entryOfKey (tupleKind (mixKind X.prog X.w)) b := Option.some.inj qe
      obtain ⟨p, h4, h5, h6, h7⟩ := paired_ix2 pr hb
      have h8 : (kvs.map (·.2))[i]? = some p.2 := by rw [List.getElem?_map, h4]; rfl
      obtain ⟨vd, h9, h10⟩ := r.get' h8
      refine ⟨dT p.1, vd, .ref b.2.1, p.2, by rw [List.getElem?_map, h4]; rfl, h9, by rw [e2]; rfl, rep_tkey w h6, by rw [e2]; exact h7, h10⟩
theorem RawD.raw {d : Addr} {ks vs : List Dat} {o : Obj} {es : Array DictEntry} {ep : Nat} (r : RawD X T H s ex rho d ks vs o es ep) : s.heap.DictRaw d es ep := ⟨o, r.get, r.exact_, r.data⟩
theorem vals_each {K : PySem.W.Frag} {T : Ct} {H : Hp} {ex : Addr → Prop} {rho : List Addr} : ∀ {us : List Value} {ds : List Dat}, us.length = ds.length → (∀ (i : Nat) (u : Value), us[i]? = some u → ∃ d v, ds[i]? = some d ∧ RelV v u ∧ Rep K T H ex rho v d) → ∃ vs : List V, Vals vs us ∧ Reps K T H ex rho vs ds
  | [], [], _, _ => ⟨[], .nil, .nil⟩
  | [], _ :: _, h, _ => by simp at h
  | _ :: _, [], h, _ => by simp at h
  | u :: us, d :: ds, h, f => by
    obtain ⟨d', v, h1, h2, h3⟩ := f 0 u rfl
    cases h1
    obtain ⟨vs, h4, h5⟩ := vals_each (us := us) (ds := ds) (by simpa using h) fun i u e => by simpa using f (i + 1) u (by simpa using e)
    exact ⟨v :: vs, .cons h2 h4, .cons h3 h5⟩
/-- list(d) -/
def rListDc (K : PySem.W.Frag) (T : Ct) : List V → Hp → VK → Prop := fun xs H Q => ∃ d ex rho om ks vs, WRel K T H ex rho om ∧ xs = [.ref d] ∧ Rep K T H ex rho (.ref d) (.dct ks vs) ∧ ∀ p us, H p = none → Reps K T H ex rho us ks → Q (.ref p) (upd H p (.lst us))
theorem call_list_dc (hc : X.calm = true) : CallR X (.type "list") (rListDc X.K T) := by
  intro pins s sg H xs us Q I r h
  obtain ⟨d, ex, rho, om, ks, vs, w, rfl, rd, q⟩ := h
  obtain ⟨u, rfl, rx⟩ := r.one
  cases rx
  obtain ⟨o, es, ep, R⟩ := raw_of I w rd
  refine PySem.W.kdl_call (kdl_raw R.sys R.exact_ R.data) (I.ok.hd hc) R.get (by rw [R.size]; exact R.line) fun h' tk acc' c' kp e it => ?_
  obtain ⟨ws, h1, h2⟩ := vals_each (K := X.K) (T := T) (H := H) (ex := ex) (rho := rho) (us := acc'.toList) (ds := ks) (by rw [Array.length_toList, it.1, R.size]) fun i u hu => by
    obtain ⟨en, hen, hv⟩ := it.2 i u (by rw [← Array.getElem?_toList]; exact hu)
    obtain ⟨kd, vd, kv, vv, a1, a2, a3, a4, a5, a6⟩ := R.ent i en hen
    exact ⟨kd, kv, a1, by rw [hv]; exact a3, a4⟩
  refine ⟨.ref s.heap.objs.size, _, I.laid (t' := tk) (o := .lst ws) kp (Nat.le_refl _) ⟨?_, acc'.toList, c', h1, by rw [Array.toArray_toList]; exact e⟩, rfl, q _ ws (I.hok.fresh (Nat.le_refl _)) h2⟩
  rw [h2.length]
  exact R.line
def kListDc (ds : List Dat) (om : Om) : R Dat := match ds with
  | [.dct ks _] => .ok (.lst ks) om
  | _ => .no
theorem opd_listDc : CallD K T (rListDc K T) kListDc := fun W sg H ex rho om Q ds vs w r o => by
  unfold kListDc at o
  split at o
  · rename_i ks vs
    obtain ⟨v, rfl, rv⟩ := reps1 r
    obtain ⟨d, rfl⟩ : ∃ d, v = .ref d := by cases rv <;> exact ⟨_, rfl⟩
    exact ⟨d, ex, rho, om, ks, vs, w, rfl, rv, fun p us hp ru => o _ _ _ _ (lay_stp hp) (w.lay hp) (.lst ⟨upd_same, w.nex hp⟩ (ru.step (lay_stp hp) w.sub))⟩
  · exact o.elim
/-! ### walks -/
def Itdt (d : Addr) (o : Obj) (kvs : List (List Key × V)) : It :=
  ⟨fun i H => H d = some (.frz o (.dT kvs)) ∧ i < kvs.length, fun i H x H' => H' = H ∧ ∃ k, kvs[i]? = some (k, x), fun i H => H d = some (.frz o (.dT kvs)) ∧ kvs.length ≤ i⟩
theorem frzT_ent {d : Addr} {o : Obj} {kvs : List (List Key × V)} (I : Inv X pins sg H s) (h : H d = some (.frz o (.dT kvs))) :
    (d == sysModules) = false ∧ ∃ es ep, s.heap.DictRaw d es ep ∧ o.data = .dict es ep ∧ es.size = kvs.length ∧ ∀ (i : Nat) (k : List Key) (v : V) (hi : i < es.size), kvs[i]? = some (k, v) → RelV v es[i].val := by
  obtain ⟨hd, z, hs, xs, pr, o', es, ep, ho, hx, hdt, he, hnd⟩ := (show ObjOk X.prog X.w H s.heap d (.frz o (.dT kvs)) from I.hok d _ h)
  rw [hd] at ho; cases ho
  have l1 : es.size = xs.length := size_of_entries he
  have l2 : kvs.length = xs.length := Paired.length pr
  refine ⟨hs, es, ep, ⟨o, hd, hx, hdt⟩, hdt, by omega, fun i k v hi hk => ?_⟩
  obtain ⟨b, hb, e1, e2, e3⟩ := paired_get pr hk
  have q := entry_at he i
  rw [hb, Array.getElem?_eq_getElem hi] at q
  have e4 : es[i] = entryOfKey (tupleKind (mixKind X.prog X.w)) b := Option.some.inj q
  rw [e4]
  exact e3
theorem turn_valsT {P : Program} {w : World} {K : PySem.W.Frag} {tg : Expr} {d : Addr} {o : Obj} {kvs : List (List Key × V)} {es0 : Array DictEntry} {ep0 : Nat} (it : Addr) (hod : o.data = .dict es0 ep0) (hz0 : es0.size = kvs.length) : Turn P w K tg (Itdt d o kvs) [it] it (fun i h => h.IsValIter it d i es0.size ep0) where
  mem := by simp
  obj := fun i h st b hb => by
    obtain rfl : b = it := by simpa using hb
    obtain ⟨oi, e, _, dd⟩ := st
    exact ⟨oi, e, fun v z => by rw [dd] at z; cases z⟩
  keep := fun i h h' st k => let ⟨oi, e, r⟩ := st; ⟨oi, k it (by simp) oi e, r⟩
  item := by
    intro X hP hw hK hc i pins s sg H E I hf st hg
    subst hP hw hK
    obtain ⟨hd, hi⟩ := hg
    obtain ⟨f0, f1, f2, f3, f4, f5⟩ := hf it (by simp)
    obtain ⟨_, es, ep, raw, hdt, hsz, ent⟩ := frzT_ent I hd
    rw [hod] at hdt
    cases hdt
    have hl : i < es0.size := by omega
    refine wpAny_pyNext_values_item_raw st raw hl fun h' st' sb => ?_
    have I1 : Inv X pins sg H { s with heap := h' } := I.turned (t' := s.toks) (fun b ob hb e => (sb.2 b hb).trans e) f0 f1 f3 f4 f5
    obtain ⟨oi, e, c, dd⟩ := id st'
    obtain ⟨⟨k, v⟩, hkv⟩ : ∃ p, kvs[i]? = some p := ⟨kvs[i], List.getElem?_eq_getElem hi⟩
    exact ⟨es0[i].val, rfl, go_of (s := { s with heap := h' }) e c dd (by decide) ⟨v, H, I1, ent i k v hl hkv, ⟨rfl, k, hkv⟩, st', fun b hb => (hf b hb).1⟩⟩
  done := by
    intro X hP hw hK hc i pins s sg H E I hf st hg
    subst hP hw hK
    obtain ⟨hd, hi⟩ := hg
    obtain ⟨f0, f1, f2, f3, f4, f5⟩ := hf it (by simp)
    obtain ⟨_, es, ep, raw, hdt, hsz, ent⟩ := frzT_ent I hd
    rw [hod] at hdt
    cases hdt
    exact wpAny_pyNext_values_end_raw (I.ok.hd hc) st raw (by omega) fun h' eb => ⟨rfl, I.turned (t' := s.toks) (fun b ob hb e => eb b ob hb e) f0 f1 f3 f4 f5⟩
  self := fun A i s Q E st h => wpAny_pyIter_valiter st h
def iValsT (td : TE) : TI := fun sg H R => td sg H fun x H1 => ∃ d o kvs, x = .ref d ∧ H1 d = some (.frz o (.dT kvs)) ∧ R (Itdt d o kvs) H1
theorem pi_valuesT {tg e : Expr} {td : TE} {apos cpos : Pos} (he : PE X e td) (hbase : attributeBase e "values" X.env (eval e X.env) = eval e X.env := by rfl) (hline : (apos.endLine == cpos.line) = true := by rfl) : PI X tg (.Call (.Attribute e "values" apos) [] [] cpos) (iValsT td) := by
  refine ⟨fun pins s sg H R I h => ?_⟩
  refine wpAny_Call_method (T := "dict") (id := "dict.values") hbase rfl hline F.plainAttrs_dict F.slot_dict_values F.type_dict_values (thn (he.run pins s sg H _ I h) fun u s1 ⟨x, H1, I1, rx, d, o, kvs, ex, hd, q⟩ => ?_)
  subst ex
  obtain rfl : u = Value.ref d := rx
  obtain ⟨hs, es, ep, raw, hdt, hsz, ent⟩ := frzT_ent I1 hd
  have hT : s1.TypeIs (.ref d) "dict" := raw.typeIs
  have nd : ∀ b, Value.ref d = .ref b → ∃ ob, s1.heap.get? b = some ob ∧ ob.dict = none := fun b z => by
    cases z
    obtain ⟨ob, h1, h2, _⟩ := raw
    exact ⟨ob, h1, h2.2.1⟩
  refine ⟨hT, nd, ?_⟩
  have I2 : Inv X pins sg H1 { s1 with heap := s1.heap.push { cls := .type "dict_values", data := .fields #[.ref d] } } := I1.kept (t' := s1.toks) fun b ob q => Heap.get?_push_of_some _ q
  have fin : wpAny (model X.prog X.w) X.A (pyIter (.ref s1.heap.objs.size)) (PIE X pins sg tg R) X.xe { s1 with heap := s1.heap.push { cls := .type "dict_values", data := .fields #[.ref d] } } :=
    wpAny_pyIter_values_raw (d := d) ⟨_, Heap.get?_push_size _ rfl, rfl, rfl⟩ (raw.at fun o e => Heap.get?_push_of_some _ e) (pi_one (tk := s1.toks) I2 _ (turn_valsT _ hdt hsz) ⟨_, Heap.get?_push_size _ rfl, rfl, rfl⟩ q)
  show wpAny _ _ (callWith cpos (.builtin "dict.values") [.ref d] [] []) _ X.xe s1
  exact method_meetsIn F.slot_dict_values F.entry_dict_values rfl (PySem.evalArgs_none ⟨rfl, hT, F.args_dict_values_1 _, _, meets_dict_values_raw d hs, ⟨es, ep, raw⟩, fin⟩)
/-! ### as data -/
/-- for k in d -/
def iKeysD (f : DV) : En → Om → R (List Dat) := fun env om => (f env om).bind fun d om => match d with
  | .dct ks _ => .ok ks om
  | _ => .no
def iValsD (f : DV) : En → Om → R (List Dat) := fun env om => (f env om).bind fun d om => match d with
  | .dct _ vs => .ok vs om
  | _ => .no
theorem walkD_keys {H : Hp} {ex : Addr → Prop} {rho : List Addr} {d : Addr} {o : Obj} {kvs : List (Key × V)} {ks : List Dat} (sub : ∀ x ∈ rho, ex x) (h : H d = some (.frz o (.dK kvs))) (ne : ¬ ex d) (e : ks = kvs.map fun p => dK p.1) : WalkD K T H ex rho (Itk d o kvs) ks := by
  subst e
  refine ⟨_, _, by rw [List.length_map]; exact walk_keys, fun H' ex' rho' st => (st.at sub h ne).1, fun i H' x H2 ex' rho' om hi st w y => ?_⟩
  obtain ⟨rfl, k, v, h1, rfl⟩ := y
  exact ⟨fun _ _ z => z, dK k, by rw [List.getElem?_map, h1]; rfl, rep_key k⟩
theorem walkD_keysT {H : Hp} {ex : Addr → Prop} {rho : List Addr} {d : Addr} {o : Obj} {kvs : List (List Key × V)} {ks : List Dat} (sub : ∀ x ∈ rho, ex x) (h : H d = some (.frz o (.dT kvs))) (ne : ¬ ex d) (e : ks = kvs.map fun p => dT p.1) : WalkD K T H ex rho (Itkt d o kvs) ks := by
  subst e
  refine ⟨_, _, by rw [List.length_map]; exact walk_keysT, fun H' ex' rho' st => (st.at sub h ne).1, fun i H' x H2 ex' rho' om hi st w y => ?_⟩
  obtain ⟨rfl, k, v, q, h1, rfl, h2⟩ := y
  exact ⟨fun _ _ z => z, dT k, by rw [List.getElem?_map, h1]; rfl, rep_tkey w h2⟩
theorem di_keys {tg a : Expr} {f : DV} (h : DE X T a f) : DI X T tg a (iKeysD f) := fun W tk => pi_mono (pi_keys (h W tk)) fun sg H R ⟨ex, rho, om, env, w, er, o⟩ => by
  refine ⟨ex, rho, om, env, w, er, (Out.bind (rel := Rep X.K T) o).mono ?_⟩
  rintro v H1 ⟨x, om1, ex1, rho1, he, st, w1, rx, o1⟩
  cases rx with
  | @dctK d ob kvs ks vs q ne r e => exact ⟨d, ob, rfl, .inl ⟨kvs, q, o1.here w1 (walkD_keys w1.sub q ne e)⟩⟩
  | @dctT d ob kvs ks vs q ne r e => exact ⟨d, ob, rfl, .inr ⟨kvs, q, o1.here w1 (walkD_keysT w1.sub q ne e)⟩⟩
  | _ => exact o1.elim
theorem walkD_vals {H : Hp} {ex : Addr → Prop} {rho : List Addr} {d : Addr} {o : Obj} {kvs : List (Key × V)} {vs : List Dat} (sub : ∀ x ∈ rho, ex x) (h : H d = some (.frz o (.dK kvs))) (ne : ¬ ex d) (r : Reps K T H ex rho (kvs.map (·.2)) vs) : WalkD K T H ex rho (Itd d o kvs) vs := by
  refine ⟨_, _, by rw [← r.length, List.length_map]; exact walk_values, fun H' ex' rho' st => (st.at sub h ne).1, fun i H' x H2 ex' rho' om hi st w y => ?_⟩
  obtain ⟨rfl, k, h1⟩ := y
  obtain ⟨d, h2, h3⟩ := r.get' (v := x) (i := i) (by rw [List.getElem?_map, h1]; rfl)
  exact ⟨fun _ _ z => z, d, h2, h3.step st sub⟩
theorem walk_valuesT {d : Addr} {o : Obj} {kvs : List (List Key × V)} : Walk (Itdt d o kvs) kvs.length (fun H => H d = some (.frz o (.dT kvs))) (fun i H x H' => H' = H ∧ ∃ k, kvs[i]? = some (k, x)) :=
  ⟨fun _ _ hi q => ⟨q, hi⟩, fun _ q => ⟨q, Nat.le_refl _⟩, fun _ _ _ _ _ _ y => y⟩
theorem walkD_valsT {H : Hp} {ex : Addr → Prop} {rho : List Addr} {d : Addr} {o : Obj} {kvs : List (List Key × V)} {vs : List Dat} (sub : ∀ x ∈ rho, ex x) (h : H d = some (.frz o (.dT kvs))) (ne : ¬ ex d) (r : Reps K T H ex rho (kvs.map (·.2)) vs) : WalkD K T H ex rho (Itdt d o kvs) vs := by
  refine ⟨_, _, by rw [← r.length, List.length_map]; exact walk_valuesT, fun H' ex' rho' st => (st.at sub h ne).1, fun i H' x H2 ex' rho' om hi st w y => ?_⟩
  obtain ⟨rfl, k, h1⟩ := y
  obtain ⟨d, h2, h3⟩ := r.get' (v := x) (i := i) (by rw [List.getElem?_map, h1]; rfl)
  exact ⟨fun _ _ z => z, d, h2, h3.step st sub⟩
/-- which kind of dict comes is told only when it has come: the judgement of a walk, by its value -/
def iEither (td : TE) : TI := fun sg H R => td sg H fun x H1 => ∃ d o, x = .ref d ∧ ((∃ kvs, H1 d = some (.frz o (.dK kvs)) ∧ R (Itd d o kvs) H1) ∨ ∃ kvs, H1 d = some (.frz o (.dT kvs)) ∧ R (Itdt d o kvs) H1)
theorem pi_valuesE {tg e : Expr} {td : TE} {apos cpos : Pos} (he : PE X e td) (hbase : attributeBase e "values" X.env (eval e X.env) = eval e X.env := by rfl) (hline : (apos.endLine == cpos.line) = true := by rfl) : PI X tg (.Call (.Attribute e "values" apos) [] [] cpos) (iEither td) := by
  refine ⟨fun pins s sg H R I h => ?_⟩
  refine wpAny_Call_method (T := "dict") (id := "dict.values") hbase rfl hline F.plainAttrs_dict F.slot_dict_values F.type_dict_values (thn (he.run pins s sg H _ I h) fun u s1 ⟨x, H1, I1, rx, d, o, ex, hd⟩ => ?_)
  subst ex
  obtain rfl : u = Value.ref d := rx
  have core : ∀ (es : Array DictEntry) (ep : Nat) (J : It), s1.heap.DictRaw d es ep → (d == sysModules) = false → (∀ it, Turn X.prog X.w X.K tg J [it] it (fun i h => h.IsValIter it d i es.size ep)) → R J H1 →
      s1.TypeIs (.ref d) "dict" ∧ (∀ b, Value.ref d = .ref b → ∃ ob, s1.heap.get? b = some ob ∧ ob.dict = none) ∧ wpAny (model X.prog X.w) X.A (callWith cpos (.builtin "dict.values") [.ref d] [] []) (fun v s1 => wpAny (model X.prog X.w) X.A (pyIter v) (PIE X pins sg tg R) X.xe s1) X.xe s1 := by
    intro es ep J raw hs turn q
    refine ⟨raw.typeIs, fun b z => ?_, ?_⟩
    · cases z
      obtain ⟨ob, h1, h2, _⟩ := raw
      exact ⟨ob, h1, h2.2.1⟩
    · have I2 : Inv X pins sg H1 { s1 with heap := s1.heap.push { cls := .type "dict_values", data := .fields #[.ref d] } } := I1.kept (t' := s1.toks) fun b ob q => Heap.get?_push_of_some _ q
      have fin : wpAny (model X.prog X.w) X.A (pyIter (.ref s1.heap.objs.size)) (PIE X pins sg tg R) X.xe { s1 with heap := s1.heap.push { cls := .type "dict_values", data := .fields #[.ref d] } } :=
        wpAny_pyIter_values_raw (d := d) ⟨_, Heap.get?_push_size _ rfl, rfl, rfl⟩ (raw.at fun o e => Heap.get?_push_of_some _ e) (pi_one (tk := s1.toks) I2 _ (turn _) ⟨_, Heap.get?_push_size _ rfl, rfl, rfl⟩ q)
      exact method_meetsIn F.slot_dict_values F.entry_dict_values rfl (PySem.evalArgs_none ⟨rfl, raw.typeIs, F.args_dict_values_1 _, _, meets_dict_values_raw d hs, ⟨es, ep, raw⟩, fin⟩)
  rcases hd with ⟨kvs, hd, q⟩ | ⟨kvs, hd, q⟩
  · obtain ⟨hs, hgd, hx, es, ep, vs, hdt, hsz, kv, hm⟩ := I1.frzK hd
    obtain ⟨a1, a2, a3⟩ := core es ep _ ⟨o, hgd, hx, hdt⟩ hs (fun it => by rw [hsz]; exact turn_vals it hdt) q
    exact ⟨a1, a2, a3⟩
  · obtain ⟨hs, es, ep, raw, hdt, hsz, ent⟩ := frzT_ent I1 hd
    obtain ⟨a1, a2, a3⟩ := core es ep _ raw hs (fun it => turn_valsT it hdt hsz) q
    exact ⟨a1, a2, a3⟩
theorem di_vals {tg a : Expr} {f : DV} {apos cpos : Pos} (h : DE X T a f) (hbase : attributeBase a "values" X.env (eval a X.env) = eval a X.env := by rfl) (hline : (apos.endLine == cpos.line) = true := by rfl) : DI X T tg (.Call (.Attribute a "values" apos) [] [] cpos) (iValsD f) := fun W tk => pi_mono (pi_valuesE (h W tk) hbase hline) fun sg H R ⟨ex, rho, om, env, w, er, o⟩ => by
  refine ⟨ex, rho, om, env, w, er, (Out.bind (rel := Rep X.K T) o).mono ?_⟩
  rintro v H1 ⟨x, om1, ex1, rho1, he, st, w1, rx, o1⟩
  cases rx with
  | @dctK d ob kvs ks vs q ne r e => exact ⟨d, ob, rfl, .inl ⟨kvs, q, o1.here w1 (walkD_vals w1.sub q ne r)⟩⟩
  | @dctT d ob kvs ks vs q ne r e => exact ⟨d, ob, rfl, .inr ⟨kvs, q, o1.here w1 (walkD_valsT w1.sub q ne r)⟩⟩
  | _ => exact o1.elim
/-- d[k], there -/
def kDGet (x y : Dat) (om : Om) : R Dat := match x with
  | .dct ks vs => match lookD ks vs y with
    | some d => .ok d om
    | none => .no
  | _ => .no
theorem look_kind {f : Dat → Prop} : ∀ {ks vs : List Dat} {y d : Dat}, lookD ks vs y = some d → ∃ k ∈ ks, k1 k y = true
  | [], _, _, _, h => by simp [lookD] at h
  | _ :: _, [], _, _, h => by simp [lookD] at h
  | k :: ks, v :: vs, y, d, h => by
    unfold lookD at h
    split at h
    · rename_i e; exact ⟨k, List.mem_cons_self, e⟩
    · obtain ⟨k', h1, h2⟩ := look_kind (f := f) h
      exact ⟨k', List.mem_cons_of_mem _ h1, h2⟩
theorem k0s_keys : ∀ {l : List Key} {ys : List Dat}, k0s (l.map dK) ys = true → ∃ k, keysD ys = some k
  | [], [], _ => ⟨[], rfl⟩
  | [], _ :: _, h => by simp [k0s] at h
  | _ :: _, [], h => by simp [k0s] at h
  | k :: l, y :: ys, h => by
    simp only [List.map_cons, k0s, Bool.and_eq_true] at h
    obtain ⟨ks, e⟩ := k0s_keys h.2
    have : ∃ k', keyD y = some k' := by
      cases k <;> cases y <;> simp [k0, dK, keyD] at h ⊢
    obtain ⟨k', e'⟩ := this
    exact ⟨k' :: ks, by simp [keysD, e', e]⟩
theorem de_dget {a b : Expr} {f g : DV} {pos : Pos} (hu : X.A.units + 64 < cLine) (ha : DE X T a f) (hb : DE X T b g) (hs : NoSl b) : DE X T (.Subscript a b pos) (e2 kDGet f g) := fun W tk => pe_mono (L2.pe_dget (by omega) (ha W tk) (hb W tk) hs) fun sg H Q ⟨ex, rho, om, env, w, er, o⟩ => by
  refine ⟨ex, rho, om, env, w, er, (Out.bind (rel := Rep X.K T) o).mono ?_⟩
  rintro v H1 ⟨x, om1, ex1, rho1, _, st, w1, rx, o1⟩
  refine ⟨ex1, rho1, om1, env, w1, er.step st w.sub, (Out.bind (rel := Rep X.K T) o1).mono ?_⟩
  rintro u H2 ⟨y, om2, ex2, rho2, _, st2, w2, ry, o2⟩
  have rx2 := rx.step st2 w1.sub
  unfold kDGet at o2
  split at o2
  · rename_i ks vs
    split at o2
    · rename_i d hd
      obtain ⟨kk, hm, hk⟩ := look_kind (f := fun _ => True) hd
      cases rx2 with
      | @dctK p ob kvs _ _ q ne r e =>
        subst e
        obtain ⟨z, _, rfl⟩ := List.mem_map.mp hm
        have : ∃ k, keyD y = some k := by
          cases hz : z.1 <;> rw [hz] at hk <;> cases y <;> simp [k1, dK, keyD] at hk ⊢
        obtain ⟨k, hk'⟩ := this
        obtain ⟨e1, e2⟩ := keyD_rep ry hk'
        subst e1 e2
        have l := look_rep k1_dK (k := k) r
        rw [hd] at l
        obtain ⟨v, h1, h2⟩ := l
        exact ⟨p, v, rfl, .inl ⟨kvs, k, .inr ⟨ob, q⟩, rfl, h1.symm⟩, o2.here w2 h2⟩
      | @dctT p ob kvs _ _ q ne r e =>
        subst e
        obtain ⟨z, _, rfl⟩ := List.mem_map.mp hm
        have : ∃ k, keyT y = some k := by
          cases y with
          | tup ys => exact k0s_keys (l := z.1) (by simpa [k1, dT] using hk)
          | _ => simp [k1, dT] at hk
        obtain ⟨k, hk'⟩ := this
        obtain ⟨b, e1, e2, _, e3⟩ := keyT_rep ry hk'
        subst e1 e3
        have l := look_rep k1_dT (k := k) r
        rw [hd] at l
        obtain ⟨v, h1, h2⟩ := l
        exact ⟨p, v, rfl, .inr ⟨kvs, k, b, .inr ⟨ob, q⟩, rfl, e2, h1.symm⟩, o2.here w2 h2⟩
    · exact o2.elim
  · exact o2.elim
end
end DL
end Part_DL17
section Part_DL18
set_option maxRecDepth 100000
/-! sorted -/
namespace DL
open PySem PySem.Spec PyProof.Rows L2
open PySem.W (EachIs)
def isStr : Dat → Bool
  | .str _ => true
  | _ => false
def isInt : Dat → Bool
  | .int _ => true
  | _ => false
def isTupS : Dat → Bool
  | .tup (x :: xs) => isStr x && xs.all isStr
  | _ => false
def dLt0 : Dat → Dat → Bool
  | .str a, .str b => decide (a < b)
  | .int a, .int b => decide (a < b)
  | _, _ => false
def dLts : List Dat → List Dat → Bool
  | x :: xs, y :: ys => if k0 x y = true then dLts xs ys else dLt0 x y
  | [], _ :: _ => true
  | _, _ => false
def dLt : Dat → Dat → Bool
  | .tup xs, .tup ys => dLts xs ys
  | .str a, .str b => decide (a < b)
  | .int a, .int b => decide (a < b)
  | _, _ => false
def dLe (a b : Dat) : Bool := !dLt b a
def srtOk (ds : List Dat) : Bool := ds.all isStr || ds.all isInt || ds.all isTupS
def sortD (ds : List Dat) : List Dat := ds.mergeSort dLe
theorem isStr_of {d : Dat} (h : isStr d = true) : ∃ l, d = .str l := by cases d <;> simp [isStr] at h ⊢
theorem isInt_of {d : Dat} (h : isInt d = true) : ∃ l, d = .int l := by cases d <;> simp [isInt] at h ⊢
theorem isTupS_of {d : Dat} (h : isTupS d = true) : ∃ x xs, d = .tup (x :: xs) ∧ (x :: xs).all isStr = true := by
  cases d with
  | tup l => cases l with
    | nil => simp [isTupS] at h
    | cons x xs => exact ⟨x, xs, rfl, by simpa [isTupS] using h⟩
  | _ => simp [isTupS] at h
theorem lt_str (a b : List Nat) : PySem.W.dataLt (toPy (.str a)) (toPy (.str b)) = decide (a < b) := by
  simp only [toPy]
  rw [PySem.W.dataLt_str]
theorem eqv_str (a b : List Nat) : PyData.eqv (toPy (.str a)) (toPy (.str b)) = (a == b) := by
  simp only [toPy, PyData.eqv]
  rw [Bool.eq_iff_iff]
  simp
theorem lts_strs : ∀ (xs ys : List Dat), xs.all isStr = true → ys.all isStr = true → PySem.W.rowLt (toPys xs) (toPys ys) = dLts xs ys
  | [], [], _, _ => by
    simp only [toPys, dLts]
    exact lex_irrefl _
  | [], y :: ys, _, hy => by
    simp only [toPys, dLts]
    unfold PySem.W.rowLt
    rw [PySem.W.toks_all_cons]
    simp only [PySem.W.keyToksAll]
    first | decide | (rw [lex_diff (by simp)]; rfl) | rfl
  | x :: xs, [], _, _ => by
    simp only [toPys, dLts]
    unfold PySem.W.rowLt
    rw [PySem.W.toks_all_cons]
    simp only [PySem.W.keyToksAll]
    first | decide | (rw [lex_diff (by simp)]; rfl) | rfl
  | x :: xs, y :: ys, hx, hy => by
    simp only [List.all_cons, Bool.and_eq_true] at hx hy
    obtain ⟨a, rfl⟩ := isStr_of hx.1
    obtain ⟨b, rfl⟩ := isStr_of hy.1
    have ih := lts_strs xs ys hx.2 hy.2
    unfold PySem.W.rowLt at ih ⊢
    simp only [toPys, dLts, k0]
    rw [PySem.W.dataLt_cons (by simp [toPy, PySem.W.alike]), eqv_str, lt_str, ih]
    rfl
theorem lt_dat {x y : Dat} (h : (isStr x = true ∧ isStr y = true) ∨ (isInt x = true ∧ isInt y = true) ∨ (isTupS x = true ∧ isTupS y = true)) : PySem.W.dataLt (toPy x) (toPy y) = dLt x y := by
  rcases h with ⟨h1, h2⟩ | ⟨h1, h2⟩ | ⟨h1, h2⟩
  · obtain ⟨a, rfl⟩ := isStr_of h1
    obtain ⟨b, rfl⟩ := isStr_of h2
    exact lt_str a b
  · obtain ⟨a, rfl⟩ := isInt_of h1
    obtain ⟨b, rfl⟩ := isInt_of h2
    simp only [toPy, dLt]
    exact PySem.W.dataLt_int a b
  · obtain ⟨a, as, rfl, h3⟩ := isTupS_of h1
    obtain ⟨b, bs, rfl, h4⟩ := isTupS_of h2
    show PySem.W.dataLt (.tuple (toPys (a :: as))) (.tuple (toPys (b :: bs))) = dLts _ _
    rw [PySem.W.dataLt_tuple]
    exact lts_strs _ _ h3 h4
theorem srt_two {ds : List Dat} (h : srtOk ds = true) {x y : Dat} (hx : x ∈ ds) (hy : y ∈ ds) : (isStr x = true ∧ isStr y = true) ∨ (isInt x = true ∧ isInt y = true) ∨ (isTupS x = true ∧ isTupS y = true) := by
  simp only [srtOk, Bool.or_eq_true, List.all_eq_true] at h
  rcases h with (h | h) | h
  · exact .inl ⟨h x hx, h y hy⟩
  · exact .inr (.inl ⟨h x hx, h y hy⟩)
  · exact .inr (.inr ⟨h x hx, h y hy⟩)
theorem alikes : ∀ (xs ys : List Dat), xs.all isStr = true → ys.all isStr = true → PySem.W.alikeAll (toPys xs) (toPys ys) = true
  | [], ys, _, _ => by simp [toPys, PySem.W.alikeAll]
  | _ :: _, [], _, _ => by simp [toPys, PySem.W.alikeAll]
  | x :: xs, y :: ys, hx, hy => by
    simp only [List.all_cons, Bool.and_eq_true] at hx hy
    obtain ⟨a, rfl⟩ := isStr_of hx.1
    obtain ⟨b, rfl⟩ := isStr_of hy.1
    simp only [toPys, PySem.W.alikeAll, toPy, PySem.W.alike, alikes xs ys hx.2 hy.2, Bool.and_self]
theorem srt_alike {ds : List Dat} (h : srtOk ds = true) : PySem.W.AllAlike (ds.map toPy) := by
  intro d hd d' hd'
  obtain ⟨x, hx, rfl⟩ := List.mem_map.mp hd
  obtain ⟨y, hy, rfl⟩ := List.mem_map.mp hd'
  rcases srt_two h hx hy with ⟨h1, h2⟩ | ⟨h1, h2⟩ | ⟨h1, h2⟩
  · obtain ⟨a, rfl⟩ := isStr_of h1
    obtain ⟨b, rfl⟩ := isStr_of h2
    simp [toPy, PySem.W.alike]
  · obtain ⟨a, rfl⟩ := isInt_of h1
    obtain ⟨b, rfl⟩ := isInt_of h2
    simp [toPy, PySem.W.alike]
  · obtain ⟨a, as, rfl, h3⟩ := isTupS_of h1
    obtain ⟨b, bs, rfl, h4⟩ := isTupS_of h2
    simp only [toPy, PySem.W.alike]
    exact alikes _ _ h3 h4
theorem srt_able {ds : List Dat} (h : srtOk ds = true) : PySem.W.Sortable (ds.map toPy) := by
  simp only [srtOk, Bool.or_eq_true, List.all_eq_true] at h
  rcases h with (h | h) | h
  · refine .inr fun d hd => ?_
    obtain ⟨x, hx, rfl⟩ := List.mem_map.mp hd
    obtain ⟨a, rfl⟩ := isStr_of (h x hx)
    simp [toPy]
  · refine .inr fun d hd => ?_
    obtain ⟨x, hx, rfl⟩ := List.mem_map.mp hd
    obtain ⟨a, rfl⟩ := isInt_of (h x hx)
    simp [toPy]
  · refine .inl fun d hd => ?_
    obtain ⟨x, hx, rfl⟩ := List.mem_map.mp hd
    obtain ⟨a, as, rfl, _⟩ := isTupS_of (h x hx)
    exact ⟨toPy a, toPys as, by simp [toPy, toPys]⟩
theorem depth_strs : ∀ xs : List Dat, xs.all isStr = true → PyData.depthAll (toPys xs) = 0
  | [], _ => by simp [toPys, PyData.depthAll]
  | x :: xs, h => by
    simp only [List.all_cons, Bool.and_eq_true] at h
    obtain ⟨a, rfl⟩ := isStr_of h.1
    simp [toPys, toPy, PyData.depthAll, PyData.depth, depth_strs xs h.2]
theorem srt_depth {ds : List Dat} (h : srtOk ds = true) {x : Dat} (hx : x ∈ ds) : (toPy x).depth ≤ 1 := by
  rcases srt_two h hx hx with ⟨h1, _⟩ | ⟨h1, _⟩ | ⟨h1, _⟩
  · obtain ⟨a, rfl⟩ := isStr_of h1
    simp [toPy, PyData.depth]
  · obtain ⟨a, rfl⟩ := isInt_of h1
    simp [toPy, PyData.depth]
  · obtain ⟨a, as, rfl, h3⟩ := isTupS_of h1
    simp only [toPy, PyData.depth, depth_strs _ h3]
    omega
theorem sort_is {ds : List Dat} (h : srtOk ds = true) : ds.mergeSort (PySem.W.dataLe false toPy) = sortD ds := by
  refine PySem.W.sort_congr fun a ha b hb => ?_
  rw [PySem.W.dataLe_eq]
  show (!PySem.W.dataLt (toPy b) (toPy a)) = !dLt b a
  rw [lt_dat (srt_two h hb ha)]
section
variable {K : PySem.W.Frag} {T : Ct} {H : Hp} {ex : Addr → Prop} {rho : List Addr}
theorem dp_strs : ∀ {vs : List V} {xs : List Dat}, Reps K T H ex rho vs xs → xs.all isStr = true → DpAll K H vs (toPys xs)
  | _, [], r, _ => by cases r; simp only [toPys]; exact .nil
  | _, x :: xs, r, h => by
    simp only [List.all_cons, Bool.and_eq_true] at h
    obtain ⟨a, rfl⟩ := isStr_of h.1
    cases r with
    | cons r t =>
      cases r with
      | str q =>
        subst q
        simp only [toPys, toPy]
        exact .cons (.str _) (dp_strs t h.2)
theorem dp_srt {v : V} {x : Dat} (r : Rep K T H ex rho v x) (h : isStr x = true ∨ isInt x = true ∨ isTupS x = true) : Dp K H v (toPy x) := by
  rcases h with h | h | h
  · obtain ⟨a, rfl⟩ := isStr_of h
    cases r with
    | str q => subst q; simp only [toPy]; exact .str _
  · obtain ⟨a, rfl⟩ := isInt_of h
    cases r
    simp only [toPy]
    exact .int _
  · obtain ⟨a, as, rfl, h3⟩ := isTupS_of h
    cases r with
    | tup q r => simp only [toPy]; exact .tup q.sq (dp_strs r h3)
theorem each_of {R : Value → Dat → Prop} : ∀ {vs : List V} {us : List Value} {ds : List Dat}, Vals vs us → Reps K T H ex rho vs ds → (∀ v u d, d ∈ ds → RelV v u → Rep K T H ex rho v d → R u d) → EachIs R us ds
  | _, _, _, .nil, r, _ => by cases r; exact .nil
  | _, _, _, .cons h t, r, f => by
    cases r with
    | cons r rt => exact .cons (f _ _ _ List.mem_cons_self h r) (each_of t rt fun v u d hd => f v u d (List.mem_cons_of_mem _ hd))
theorem of_each : ∀ {us : List Value} {ds : List Dat}, EachIs (fun u d => ∃ v, RelV v u ∧ Rep K T H ex rho v d) us ds → ∃ vs, Vals vs us ∧ Reps K T H ex rho vs ds
  | _, _, .nil => ⟨[], .nil, .nil⟩
  | _, _, .cons ⟨v, h1, h2⟩ t => let ⟨vs, h3, h4⟩ := of_each t; ⟨v :: vs, .cons h1 h3, .cons h2 h4⟩
end
section
variable {X : Cx} {T : Ct} {K : PySem.W.Frag}
def rSortedD (K : PySem.W.Frag) (T : Ct) : List V → Hp → VK → Prop := fun xs H Q => ∃ a us ex rho ds, xs = [.ref a] ∧ SqL K H a us ∧ Reps K T H ex rho us ds ∧ srtOk ds = true ∧ ds.length ≤ sizeLine ∧
  ∀ p ws, H p = none → Reps K T H ex rho ws (sortD ds) → Q (.ref p) (upd H p (.lst ws))
theorem call_sortedD (hu : X.A.units + 64 < cLine) : CallR X (.builtin "sorted") (rSortedD X.K T) := by
  intro pins s sg H xs us Q I r h
  obtain ⟨a, vs, ex, rho, ds, rfl, hs, rd, ok, hl, q⟩ := h
  obtain ⟨its, rv, pl, _⟩ := I.list hs
  obtain ⟨u, rfl, rx⟩ := r.one
  cases rx
  have hk : ∀ d ∈ ds, isStr d = true ∨ isInt d = true ∨ isTupS d = true := fun d hd => (srt_two ok hd hd).elim (fun h => .inl h.1) fun h => .inr (h.elim (fun h => .inl h.1) fun h => .inr h.1)
  refine PySem.W.sorted_data (R := fun u d => ∃ v, RelV v u ∧ Rep X.K T H ex rho v d) (enc := toPy) (bs := ds) (vs := its) pl.isList (each_of rv rd fun v u d _ h1 h2 => ⟨v, h1, h2⟩)
    (each_of rv rd fun v u d hd h1 h2 => Dp.reads I _ v u (dp_srt h2 (hk d hd)) h1) (srt_alike ok) (srt_able ok) hl (fun b hb => by have := srt_depth ok hb; omega) fun out hlen he => ?_
  rw [sort_is ok] at he
  obtain ⟨ws, h1, h2⟩ := of_each he
  obtain ⟨ep, he'⟩ := PyProof.Rows.sortedAll_at s.heap its out.toArray
  refine ⟨.ref _, upd H (s.heap.objs.size + 1) (.lst ws), I.laid (t' := s.toks) (fun _ _ => PyProof.Rows.sortedAll_old) (Nat.le_succ _) ⟨?_, out, ep, h1, he'⟩, rfl, q _ ws (I.hok.fresh (Nat.le_succ _)) h2⟩
  rw [h1.length, hlen]
  exact hl
/-- a list, as it stands -/
def lstD (om : Om) : Dat → Option (List Dat)
  | .lst xs => some xs
  | .cell i => match om[i]? with
    | some (.lst xs) => some xs
    | _ => none
  | _ => none
theorem lst_sq {H : Hp} {ex : Addr → Prop} {rho : List Addr} {om : Om} {v : V} {d : Dat} {xs : List Dat} (w : WRel K T H ex rho om) (r : Rep K T H ex rho v d) (h : lstD om d = some xs) : ∃ a vs, v = .ref a ∧ SqL K H a vs ∧ Reps K T H ex rho vs xs := by
  cases r with
  | lst q r => cases h; exact ⟨_, _, rfl, q.sq, r⟩
  | @cell a i hi =>
    unfold lstD at h
    simp only at h
    split at h
    · rename_i ys hy
      cases h
      obtain ⟨vs, e, r⟩ := w.cells _ _ _ hi hy
      exact ⟨_, vs, rfl, .of e, r⟩
    · cases h
  | _ => cases h
def kSorted (ds : List Dat) (om : Om) : R Dat := match ds with
  | [d] => match lstD om d with
    | some xs => if srtOk xs = true ∧ xs.length ≤ 1000000 then .ok (.lst (sortD xs)) om else .no
    | none => .no
  | _ => .no
theorem opd_sorted : CallD K T (rSortedD K T) kSorted := fun W sg H ex rho om Q ds vs w r o => by
  unfold kSorted at o
  split at o
  · rename_i d
    obtain ⟨v, rfl, rv⟩ := reps1 r
    split at o
    · rename_i xs hx
      obtain ⟨a, us, rfl, sq, rs⟩ := lst_sq w rv hx
      split at o
      · rename_i hk
        exact ⟨a, us, ex, rho, xs, rfl, sq, rs, hk.1, million_line hk.2, fun p ws hp rw' => o _ _ _ _ (lay_stp hp) (w.lay hp) (.lst ⟨upd_same, w.nex hp⟩ (rw'.step (lay_stp hp) w.sub))⟩
      · exact o.elim
    · exact o.elim
  · exact o.elim
end
end DL
end Part_DL18
section Part_DL19
set_option maxRecDepth 100000
/-! sorted of what is gathered: a dict, (later) a set -/
namespace DL
open PySem PySem.Spec PyProof.Rows L2
open PySem.W (EachIs)
theorem reads_strs {h : Heap} : ∀ {xs : List Dat} {us : List Value} {as : List Addr}, xs.all isStr = true → ReadsAll h us (toPys xs) as → as = []
  | [], _, _, _, r => by
    simp only [toPys] at r
    cases r
    rfl
  | x :: xs, _, _, hx, r => by
    simp only [List.all_cons, Bool.and_eq_true] at hx
    obtain ⟨a, rfl⟩ := isStr_of hx.1
    simp only [toPys, toPy] at r
    cases r with
    | cons r t =>
      cases r
      simpa using reads_strs hx.2 t
theorem reads_nil {h : Heap} {x : Dat} {u : Value} {as : List Addr} (hk : isStr x = true ∨ isInt x = true ∨ isTupS x = true) (r : Reads h u (toPy x) as) : as = [] := by
  rcases hk with h | h | h
  · obtain ⟨a, rfl⟩ := isStr_of h
    simp only [toPy] at r
    cases r
    rfl
  · obtain ⟨a, rfl⟩ := isInt_of h
    simp only [toPy] at r
    cases r
    rfl
  · obtain ⟨a, as, rfl, h3⟩ := isTupS_of h
    simp only [toPy] at r
    cases r with
    | tuple h1 h2 h3' h4 => exact reads_strs h3 h4
theorem srt_kind {ds : List Dat} (ok : srtOk ds = true) {d : Dat} (hd : d ∈ ds) : isStr d = true ∨ isInt d = true ∨ isTupS d = true := (srt_two ok hd hd).elim (fun h => .inl h.1) fun h => .inr (h.elim (fun h => .inl h.1) fun h => .inr h.1)
section
variable {X : Cx} {T : Ct} {pins : List (Addr × Obj)} {sg : L2.St} {H : Hp} {s : Shared} {ex : Addr → Prop} {rho : List Addr}
theorem sorted_vs {r : Addr} {C : List Dat → Prop} {Q : VK} (hu : X.A.units + 64 < cLine) (I : Inv X pins sg H s)
    (hc : ∀ R : List Value → Shared → Prop, (∀ s1 vs cs, (∀ b o, s.heap.get? b = some o → s1.heap.get? b = some o) → s.heap.objs.size ≤ s1.heap.objs.size → s1.gens = s.gens → s1.os = s.os →
      EachIs (fun u d => ∃ v, RelV v u ∧ Rep X.K T H ex rho v d) vs cs → srtOk cs = true → cs.length ≤ sizeLine → C cs → R vs s1) → wpAny (model X.prog X.w) X.A.in1 (collect (.ref r)) R X.xe s)
    (q : ∀ p ws cs, C cs → H p = none → Reps X.K T H ex rho ws (sortD cs) → Q (.ref p) (upd H p (.lst ws))) : wpAny (model X.prog X.w) X.A (call (.builtin "sorted") [.ref r]) (EP X pins sg Q) X.xe s := by
  refine Calls.call_function_entry kind_sorted plain_sorted entry_sorted (args_sorted1 _) ?_
  unfold Builtin.«sorted»
  refine wpAny_bind (m := checkCount "sorted" 1 1 _) (wpAny_pure ?_)
  refine wpAny_bind (hc _ fun s1 vs cs k hz g os e ok hl hC => ?_)
  have hlv : vs.length = cs.length := e.length
  refine wpAny_bind (wpAny_newList ?_ (by rw [hlv]; exact hl))
  have ho : (s1.heap.push { cls := .type "list", data := .seq vs.toArray }).get? s1.heap.objs.size = some (seqObj "list" vs.toArray 0) := Heap.get?_push_size _ rfl
  refine wpAny_bind (wpAny_holding ?_)
  have er : EachIs (fun u d => ∃ as, Reads (s1.heap.push { cls := .type "list", data := .seq vs.toArray }) u (toPy d) as ∧ s1.heap.objs.size ∉ as) vs cs := (PySem.W.each_mem e).mono fun u d hh => by
    obtain ⟨⟨v, h1, h2⟩, hd⟩ := hh
    obtain ⟨as, hr⟩ := Dp.reads I _ v u (dp_srt h2 (srt_kind ok hd)) h1
    have := reads_nil (srt_kind ok hd) hr
    subst this
    exact ⟨[], PyProof.Rows.Reads.keeps (fun b o q => Heap.get?_push_of_some _ (k b o q)) hr, by simp⟩
  refine PySem.W.list_sort_data (s := { s1 with heap := s1.heap.push { cls := .type "list", data := .seq vs.toArray } }) (R := fun u d => ∃ v, RelV v u ∧ Rep X.K T H ex rho v d) (enc := toPy) (bs := cs) ho e er (srt_alike ok) (srt_able ok) hl
    (fun b hb => by have := srt_depth ok hb; show X.A.units + 1 + 1 + _ < _; omega) fun out hlen he => ?_
  rw [sort_is ok] at he
  obtain ⟨ws, h1, h2⟩ := of_each he
  obtain ⟨c, hc'⟩ := sortedHeap_at (vs := vs) (out := out.toArray) ho
  have hw : ws.length ≤ sizeLine := by rw [h1.length, hlen]; exact hl
  have old : ∀ b o, s.heap.get? b = some o → (sortedHeap (s1.heap.push { cls := .type "list", data := .seq vs.toArray }) s1.heap.objs.size vs out.toArray).get? b = some o := fun b o q => by
    have q1 := k b o q
    have hb := Heap.lt_size q1
    rw [sortedHeap_old (Nat.ne_of_lt hb) (by rw [size_push']; exact Nat.lt_succ_of_lt hb)]
    exact Heap.get?_push_of_some _ q1
  have J := I.laid (a := s1.heap.objs.size) (o := .lst ws) (t' := s1.toks) old hz ⟨hw, out, c, h1, hc'⟩
  have J2 : Inv X pins sg (upd H s1.heap.objs.size (.lst ws)) { s1 with heap := sortedHeap (s1.heap.push { cls := .type "list", data := .seq vs.toArray }) s1.heap.objs.size vs out.toArray } :=
    ⟨J.ok, by rw [← J.os]; exact os, by have := J.bare; simp only at this ⊢; rw [g]; exact this, J.base, J.loc, J.cell, J.free, J.freeC, J.pin, J.hok, J.len⟩
  exact wpAny_pure ⟨_, rfl, .ref s1.heap.objs.size, _, J2, rfl, q _ ws cs hC (I.hok.fresh hz) h2⟩
/-- what gathering a source leaves: the items in a new list, all else as it was, the heap larger -/
def GotSrc (n : Nat) (P : Nat → Value → Prop) (s : Shared) (q : Result) (s' : Shared) : Prop := ∃ h' tk acc c, q = .ok (.ret (.ref s.heap.objs.size)) ∧ s' = { s with heap := h', toks := tk } ∧ (∀ b o, s.heap.get? b = some o → h'.get? b = some o) ∧
  h'.get? s.heap.objs.size = some { cls := .type "list", dict := none, data := .seq acc c, slots := #[] } ∧ ItemsOf P acc n
theorem collect_src {prog : Program} {w : World} {A : Around} {E : Value → Shared → Prop} {s : Shared} {T : String} {r d : Addr} {n : Nat} {P : Nat → Value → Prop} {OK : Heap → Prop} {R : List Value → Shared → Prop} (K : PySem.W.KdlSrc prog w T r d n P OK) (hh : A.handled = none) (hok : OK s.heap) (hn : n ≤ sizeLine)
    (h : ∀ (h' : Heap) (tk : Nat) (acc : Array Value), (∀ b o, s.heap.get? b = some o → h'.get? b = some o) → s.heap.objs.size < h'.objs.size → ItemsOf P acc n → R acc.toList { s with heap := h', toks := tk }) : wpAny (model prog w) A (collect (.ref r)) R E s := by
  obtain ⟨l1, l2⟩ := K.there _ hok
  have fin : ∀ q s', GotSrc n P s q s' → ∃ acc, q = .ok (.ret (.ref s.heap.objs.size)) ∧ (∃ c, s'.heap.get? s.heap.objs.size = some { cls := .type "list", dict := none, data := .seq acc c, slots := #[] }) ∧ R acc.toList s' := by
    rintro q s' ⟨h', tk, acc, c, e, rfl, k, hS, it⟩
    exact ⟨acc, e, ⟨c, hS⟩, h h' tk acc k (Heap.lt_size hS) it⟩
  unfold collect
  refine wpAny_bind (wpAny_runValue (codeAny_builtin PySem.F.entry_proto_collect ?_))
  rw [Around.under_plainId PySem.F.plain_proto_collect _]
  refine wpAny_bind (m := newList []) (wpAny_newObj_type (wpAny_pure ⟨plainId_quiet PySem.F.plain_list_iadd _, codeAny_builtin PySem.F.entry_list_iadd ?_⟩))
  rw [Around.under_plainId PySem.F.plain_list_iadd _]
  have run := PySem.W.kdl_extend (A := A) (s := { s with heap := s.heap.push { cls := .type "list", data := .seq ([] : List Value).toArray } }) (R := GotSrc n P s) K hh (K.keep _ _ hok fun b _ o e => Heap.get?_push_of_some _ e) s.heap.objs.size (Nat.ne_of_gt l1) (Nat.ne_of_gt l2) (.ref s.heap.objs.size) 0 (Heap.get?_push_size _ rfl)
    (fun h' tk acc c k hS it => ⟨h', tk, acc, c, rfl, rfl, fun b o e => k b o (Nat.ne_of_lt (Heap.lt_size e)) (Heap.get?_push_of_some _ e), hS, it⟩) hn
  refine wpAny_mono run (fun f s' x => ?_) fun e s' x => ?_
  · cases f with
    | done f =>
      obtain ⟨acc, e, ⟨c, hS⟩, hR⟩ := fin _ _ x
      cases e
      exact wpAny_bind (m := load s.heap.objs.size) (wpAny_load hS (wpAny_pure hR))
    | again c' =>
      refine ⟨x.1, codeAny_mono x.2 fun q s2 y => ?_⟩
      obtain ⟨acc, e, ⟨c, hS⟩, hR⟩ := fin _ _ y
      subst e
      exact wpAny_bind (m := load s.heap.objs.size) (wpAny_load hS (wpAny_pure hR))
  · obtain ⟨acc, e', _⟩ := fin _ _ x
    cases e'
/-- sorted(d) -/
def rSortedDc (K : PySem.W.Frag) (T : Ct) : List V → Hp → VK → Prop := fun xs H Q => ∃ d ex rho om ks vs, WRel K T H ex rho om ∧ xs = [.ref d] ∧ Rep K T H ex rho (.ref d) (.dct ks vs) ∧ srtOk ks = true ∧ ∀ p ws, H p = none → Reps K T H ex rho ws (sortD ks) → Q (.ref p) (upd H p (.lst ws))
theorem each_at {R : Value → Dat → Prop} : ∀ {us : List Value} {ds : List Dat}, us.length = ds.length → (∀ (i : Nat) (u : Value), us[i]? = some u → ∃ d, ds[i]? = some d ∧ R u d) → EachIs R us ds
  | [], [], _, _ => .nil
  | [], _ :: _, h, _ => by simp at h
  | _ :: _, [], h, _ => by simp at h
  | u :: us, d :: ds, h, f => by
    obtain ⟨d', h1, h2⟩ := f 0 u rfl
    cases h1
    exact .cons h2 (each_at (by simpa using h) fun i u e => by simpa using f (i + 1) u (by simpa using e))
theorem call_sortedDc (hc : X.calm = true) (hu : X.A.units + 64 < cLine) : CallR X (.builtin "sorted") (rSortedDc X.K T) := by
  intro pins s sg H xs us Q I r h
  obtain ⟨d, ex, rho, om, ks, vs, w, rfl, rd, ok, q⟩ := h
  obtain ⟨u, rfl, rx⟩ := r.one
  cases rx
  obtain ⟨o, es, ep, R⟩ := raw_of I w rd
  refine sorted_vs (C := fun cs => cs = ks) (ex := ex) (rho := rho) hu I (fun RR hR => ?_) fun p ws cs hC hp rw' => q p ws hp (by rw [← hC]; exact rw')
  refine collect_src (kdl_raw R.sys R.exact_ R.data) (I.ok.hd hc) R.get (by rw [R.size]; exact R.line) fun h' tk acc kp hz it => ?_
  refine hR { s with heap := h', toks := tk } acc.toList ks kp (Nat.le_of_lt hz) rfl rfl (each_at (by rw [Array.length_toList, it.1, R.size]) fun i u hi => ?_) ok R.line rfl
  obtain ⟨en, hen, hv⟩ := it.2 i u (by rw [← Array.getElem?_toList]; exact hi)
  obtain ⟨kd, vd, kv, vv, a1, a2, a3, a4, a5, a6⟩ := R.ent i en hen
  exact ⟨kd, a1, kv, by rw [hv]; exact a3, a4⟩
def kSortedDc (ds : List Dat) (om : Om) : R Dat := match ds with
  | [.dct ks _] => if srtOk ks = true then .ok (.lst (sortD ks)) om else .no
  | _ => .no
theorem opd_sortedDc {K : PySem.W.Frag} : CallD K T (rSortedDc K T) kSortedDc := fun W sg H ex rho om Q ds vs w r o => by
  unfold kSortedDc at o
  split at o
  · rename_i ks vs
    split at o
    · rename_i ok
      obtain ⟨v, rfl, rv⟩ := reps1 r
      obtain ⟨d, rfl⟩ : ∃ d, v = .ref d := by cases rv <;> exact ⟨_, rfl⟩
      exact ⟨d, ex, rho, om, ks, vs, w, rfl, rv, ok, fun p us hp ru => o _ _ _ _ (lay_stp hp) (w.lay hp) (.lst ⟨upd_same, w.nex hp⟩ (ru.step (lay_stp hp) w.sub))⟩
    · exact o.elim
  · exact o.elim
end
end DL
end Part_DL19
section Part_DL20
set_option maxRecDepth 100000
/-! sets: whatever can be put into one -/
namespace DL
open PySem PySem.Spec PyProof.Rows L2
abbrev set0 (w : World) : Obj := { cls := .type "set", dict := none, data := .set #[] 0 (.fresh 0 0 (!w.params.followText "set-order")) }
/-- a kind of keys and what is known of a set that holds such, at a: the keys L, in some order -/
structure Bag (P : Program) (w : World) (κ : Type) where
  SP : Heap → Heap → Addr → List κ → Prop
  is : Heap → κ → Value → Prop
  most : Nat
  keep : ∀ {h0 h h' : Heap} {a : Addr} {L : List κ}, SP h0 h a L → (∀ o, h.get? a = some o → h'.get? a = some o) → SP h0 h' a L
  fresh : ∀ {h0 h : Heap} {a : Addr}, h.get? a = some (set0 w) → SP h0 h a []
  add : ∀ {h0 : Heap} {A : Around} {E : Value → Shared → Prop} {s : Shared} {a : Addr} {L : List κ} {k : κ} {v : Value} {Q : Bool → Shared → Prop}, A.units < cLine → (∀ b o, h0.get? b = some o → s.heap.get? b = some o) → h0.get? a = none → SP h0 s.heap a L → is h0 k v → L.length + 1 < most →
    (∀ b h' tk L', Heap.SameBut a s.heap h' → s.toks ≤ tk → SP h0 h' a L' → (k ∈ L → L' = L) → (k ∉ L → L'.Perm (k :: L)) → Q b { s with heap := h', toks := tk }) → wpAny (model P w) A (setAdd a v) Q E s
  sat : ∀ {h0 h : Heap} {a : Addr} {L : List κ}, SP h0 h a L → ∃ es ep t, (∃ o, h.get? a = some o ∧ o.ExactSet ∧ o.data = .set es ep t) ∧ t.fits es.size = true ∧ es.size < scanBound ∧ Ris t.place.toList ∧ (w.params.followText "set-order" = true ∨ t.led = true) ∧ es.size = L.length ∧
    ∃ zs : List (κ × Value), es.toList.map (·.2) = zs.map (·.2) ∧ zs.map (·.1) = L ∧ ∀ z ∈ zs, is h0 z.1 z.2
/-- the keys seen so far -/
structure Seen {κ : Type} (ks L : List κ) : Prop where
  nd : L.Nodup
  sub : ∀ k ∈ L, k ∈ ks
  all : ∀ k ∈ ks, k ∈ L
theorem nodup_len {κ : Type} : ∀ {L ks : List κ}, L.Nodup → (∀ k ∈ L, k ∈ ks) → L.length ≤ ks.length
  | [], _, _, _ => Nat.zero_le _
  | a :: L, ks, nd, h => by
    obtain ⟨h1, h2⟩ := List.nodup_cons.mp nd
    obtain ⟨l1, l2, e⟩ := List.append_of_mem (h a List.mem_cons_self)
    subst e
    have := nodup_len (L := L) (ks := l1 ++ l2) h2 fun k hk => by
      have q := h k (List.mem_cons_of_mem _ hk)
      rw [List.mem_append, List.mem_cons] at q
      rcases q with q | q | q
      · exact List.mem_append_left _ q
      · subst q; exact absurd hk h1
      · exact List.mem_append_right _ q
    simp only [List.length_append, List.length_cons] at this ⊢
    omega
section
variable {P : Program} {w : World} {κ : Type} (B : Bag P w κ) {A : Around} {E : Value → Shared → Prop}
theorem seen_step {ks L L' : List κ} {i : Nat} {k : κ} (s : Seen (ks.take i) L) (h : ks[i]? = some k) (h1 : k ∈ L → L' = L) (h2 : k ∉ L → L'.Perm (k :: L)) : Seen (ks.take (i + 1)) L' := by
  have e : ks.take (i + 1) = ks.take i ++ [k] := by rw [List.take_add_one, h]; rfl
  rw [e]
  rcases Classical.em (k ∈ L) with c | c
  · rw [h1 c]
    exact ⟨s.nd, fun x hx => List.mem_append_left _ (s.sub x hx), fun x hx => (List.mem_append.mp hx).elim (s.all x) fun z => by rw [List.mem_singleton.mp z]; exact c⟩
  · have p := h2 c
    refine ⟨p.nodup_iff.mpr (List.nodup_cons.mpr ⟨c, s.nd⟩), fun x hx => ?_, fun x hx => ?_⟩
    · rcases List.mem_cons.mp (p.mem_iff.mp hx) with z | z
      · exact List.mem_append_right _ (by rw [z]; simp)
      · exact List.mem_append_left _ (s.sub x z)
    · refine p.mem_iff.mpr ?_
      rcases List.mem_append.mp hx with z | z
      · exact List.mem_cons_of_mem _ (s.all x z)
      · rw [List.mem_singleton.mp z]; exact List.mem_cons_self
/-- the loop of set.update over any source whose items are keys -/
theorem bag_loop {I : Addr} {fp wr : List Addr} {G : Array GenState → Array GenState → Prop} {n : Nat} {Pv : Nat → Value → Prop} {St : Nat → Shared → Prop} {R : Result → Shared → Prop} (W : WalksS P w A.in1 I fp wr G n Pv St) (S : Addr) (hS : S ∉ fp) (ks : List κ) (hn : n = ks.length) (hm : ks.length + 1 < B.most)
    (h0 : Heap) (hv : ∀ i v, Pv i v → ∃ k, ks[i]? = some k ∧ B.is h0 k v) (hS0 : h0.get? S = none) (hw0 : ∀ b ∈ wr, h0.get? b = none) (hu : A.units + 1 < cLine) :
    ∀ (m i : Nat) (s : Shared), n - i = m → i ≤ n → St i s → (∀ b o, h0.get? b = some o → s.heap.get? b = some o) → (∃ L, B.SP h0 s.heap S L ∧ Seen (ks.take i) L) →
      (∀ s' L, Moved (S :: wr) G s s' → B.SP h0 s'.heap S L → Seen ks L → (∀ b o, h0.get? b = some o → s'.heap.get? b = some o) → R (.ok (.ret .none)) s') →
      codeAny (model P w) A (.builtin "set.update.loop" ⟨[.ref S, .ref I], []⟩) R s := by
  have hSw : S ∉ wr := fun h => hS (W.sub _ h)
  have kept : ∀ {s s' : Shared}, Moved wr G s s' → (∀ b o, h0.get? b = some o → s.heap.get? b = some o) → ∀ b o, h0.get? b = some o → s'.heap.get? b = some o := fun hm hk b o e =>
    hm.heap b o (fun z => by rw [hw0 b z] at e; cases e) (hk b o e)
  have wider : ∀ {s s' : Shared}, Moved wr G s s' → Moved (S :: wr) G s s' := fun mv => ⟨fun b o hb => mv.heap b o fun z => hb (List.mem_cons_of_mem _ z), mv.gens, mv.drawn, mv.os, mv.toks⟩
  intro m
  induction m with
  | zero =>
    intro i s hm' hi hst hk ⟨L, hL, sn⟩ hR
    obtain rfl : i = n := by omega
    refine codeAny_builtin F.entry_set_update_loop ?_
    rw [Around.under_plainId F.plain_set_update_loop _]
    refine wpAny_bind (m := pyNext (.ref I)) (W.done s _ _ hst fun s' mv => ?_)
    rw [hn, List.take_length] at sn
    exact wpAny_pure (hR s' L (wider mv) (B.keep hL fun o e => mv.heap S o hSw e) sn (kept mv hk))
  | succ m ih =>
    intro i s hm' hi hst hk ⟨L, hL, sn⟩ hR
    have hlt : i < n := by omega
    refine codeAny_builtin F.entry_set_update_loop ?_
    rw [Around.under_plainId F.plain_set_update_loop _]
    refine wpAny_bind (m := pyNext (.ref I)) (W.item i s _ _ hlt hst fun v s' hP hst' mv => ?_)
    obtain ⟨k, hki, hkv⟩ := hv i v hP
    have hk' := kept mv hk
    have hL' : B.SP h0 s'.heap S L := B.keep hL fun o e => mv.heap S o hSw e
    have hlen : L.length + 1 < B.most := by
      have h1 := nodup_len sn.nd sn.sub
      rw [List.length_take] at h1
      omega
    refine wpAny_bind (m := holding [v] (setAdd S v)) (wpAny_holding (B.add (by show A.units + 1 < cLine; exact hu) hk' hS0 hL' hkv hlen fun b h' tk L' sb tkl hL2 c1 c2 => ?_))
    have hk2 : ∀ b o, h0.get? b = some o → h'.get? b = some o := fun b o e => (sb.2 b fun z => by rw [z, hS0] at e; cases e).trans (hk' b o e)
    refine wpAny_pure ⟨plainId_quiet F.plain_set_update_loop _, ih (i + 1) _ (by omega) hlt (W.frame _ s' _ _ hst' tkl fun b hb o e => ?_) hk2 ⟨L', hL2, seen_step sn hki c1 c2⟩ fun s2 L2 mv2 g1 g2 g3 => hR s2 L2 ?_ g1 g2 g3⟩
    · rw [sb.2 b fun z => hS (z ▸ hb)]; exact e
    · refine ⟨fun b o hb e => mv2.heap b o hb ?_, W.gtrans _ _ _ mv.gens mv2.gens, mv2.drawn.trans mv.drawn, mv2.os.trans mv.os, Nat.le_trans mv.toks (Nat.le_trans tkl mv2.toks)⟩
      rw [sb.2 b fun z => hb (z ▸ List.mem_cons_self)]
      exact mv.heap b o (fun z => hb (List.mem_cons_of_mem _ z)) e
end
end DL
end Part_DL20
section Part_DL21
set_option maxRecDepth 100000
set_option maxHeartbeats 3200000
/-! set(xs) -/
namespace DL
open PySem PySem.Spec PyProof.Rows L2
section
variable {P : Program} {w : World} {κ : Type} (B : Bag P w κ) {A : Around} {E : Value → Shared → Prop} {s : Shared}
/-- what stands when set(xs) ends -/
def SetEnd (ks : List κ) (s : Shared) (s' : Shared) : Prop := ∃ h' tk L, s' = { s with heap := h', toks := tk } ∧ B.SP s.heap h' s.heap.objs.size L ∧ Seen ks L ∧ ∀ b o, s.heap.get? b = some o → h'.get? b = some o
theorem none_above {h : Heap} {b : Addr} (hb : h.objs.size ≤ b) : h.get? b = none := by
  cases q : h.get? b with
  | none => rfl
  | some o => exact absurd (Nat.lt_of_lt_of_le (Heap.lt_size q) hb) (Nat.lt_irrefl _)
/-- set(x), up to what x is: cont runs set.__init__ -/
theorem set_call {l : Addr} {ks : List κ} {Q : Value → Shared → Prop} (h : ∀ s', SetEnd B ks s s' → Q (.ref s.heap.objs.size) s')
    (init : wpAny (model P w) A.in1.in1 (Builtin.«set.__init__» ⟨[.ref s.heap.objs.size, .ref l], []⟩)
      (fun f s' => match f with
        | .done f => wants (fun r s2 => r = .none ∧ SetEnd B ks s s2) E (.ok f) s'
        | .again c => c.quiet = true ∧ codeAny (model P w) A.in1 c (wants (fun r s2 => r = .none ∧ SetEnd B ks s s2) E) s')
      (fun e s' => wants (fun r s2 => r = .none ∧ SetEnd B ks s s2) E (.error e) s') { s with heap := s.heap.push (set0 w) }) : wpAny (model P w) A (call (.type "set") [.ref l]) Q E s := by
  obtain ⟨c, tl, hmro⟩ := F.called_set.mro
  have hmade := F.called_set.made
  have hsub := F.called_set.sub
  refine wpAny_call (codeAny_of_tree ?_)
  show wpAny _ _ (callAny (.type "set") _) _ _ _
  refine wpAny_pure ⟨Code.quiet_builtin _ (by decide +kernel), codeAny_builtin F.entry_type_call ?_⟩
  rw [Around.under_plain (weight_type_call_type "set" [.ref l] []) rfl]
  have h1 := F.called_set.notType
  have h2 := F.called_set.canCreate
  have hct := F.typeCall_set_1 (.ref l)
  repeat (any_goals (first | assumption | wp_step))
  refine codeAny_mono (code_set_led1 (.ref l) (E := E) (Q₁ := fun obj s1 => obj = .ref s.heap.objs.size ∧ s1 = { s with heap := s.heap.push (set0 w) }) ⟨rfl, rfl⟩) fun r s1 hr => ?_
  cases r with
  | error e => exact hr
  | ok fl => cases fl with
    | ret obj =>
      obtain ⟨rfl, rfl⟩ := hr
      have hS : (s.heap.push (set0 w)).get? s.heap.objs.size = some (set0 w) := Heap.get?_push_size _ rfl
      have hT : Shared.TypeIs { s with heap := s.heap.push (set0 w) } (.ref s.heap.objs.size) "set" := ⟨_, hS, rfl⟩
      have hli := F.called_set.init.lookup
      have hbi := F.called_set.init.bind (.ref s.heap.objs.size)
      repeat (any_goals (first | assumption | wp_step))
      refine codeAny_mono (codeAny_call_builtin (R := wants (fun r s2 => r = .none ∧ SetEnd B ks s s2) E) F.called_set.init.plain F.entry_set_init (check_set_init_1 hT init)) fun r2 s2 hr2 => ?_
      cases r2 with
      | error e => exact hr2
      | ok f2 => cases f2 with
        | ret r =>
          obtain ⟨rfl, he⟩ := hr2
          repeat (any_goals (first | assumption | wp_step))
          exact h _ he
        | _ => exact hr2.elim
    | _ => exact hr.elim
end
end DL
end Part_DL21
section Part_DL22
set_option maxRecDepth 100000
set_option maxHeartbeats 3200000
/-! set(xs) of a list, of a tuple -/
namespace DL
open PySem PySem.Spec PyProof.Rows L2
section
variable {P : Program} {w : World} {κ : Type} (B : Bag P w κ) {A : Around} {E : Value → Shared → Prop} {s : Shared}
/-- the end of the loop, as set.__init__ hands it on -/
theorem bag_end {I l : Addr} {o : Obj} {n : Nat} {Pv : Nat → Value → Prop} {St : Nat → Heap → Prop} {ks : List κ} (W : Walks P w A.in1 I [I, l] [I] n Pv St) (hI : I = s.heap.objs.size + 1) (hl : l < s.heap.objs.size) (hn : n = ks.length) (hm : ks.length + 1 < B.most) (hu : A.units + 1 < cLine)
    (hv : ∀ (i : Nat) (v : Value), Pv i v → ∃ k, ks[i]? = some k ∧ B.is s.heap k v) (st : St 0 ((s.heap.push (set0 w)).push o)) {R : Result → Shared → Prop} (hR : ∀ s', SetEnd B ks s s' → R (.ok (.ret .none)) s') :
    codeAny (model P w) A (.builtin "set.update.loop" ⟨[.ref s.heap.objs.size, .ref I], []⟩) R { s with heap := (s.heap.push (set0 w)).push o } := by
  subst hI
  have old : ∀ b u, s.heap.get? b = some u → ((s.heap.push (set0 w)).push o).get? b = some u := fun b u e => Heap.get?_push_of_some _ (Heap.get?_push_of_some _ e)
  have hS : s.heap.objs.size ∉ [s.heap.objs.size + 1, l] := by
    simp only [List.mem_cons, List.not_mem_nil, or_false, not_or]
    exact ⟨Nat.ne_of_lt (Nat.lt_succ_self _), Nat.ne_of_gt hl⟩
  refine bag_loop B W.toS s.heap.objs.size hS ks hn hm s.heap hv (none_above (Nat.le_refl _)) (fun b hb => none_above (by rw [List.mem_singleton.mp hb]; exact Nat.le_succ _)) hu (n - 0) 0 _ rfl (Nat.zero_le _) st old
    ⟨[], B.fresh (Heap.get?_push_of_some _ (Heap.get?_push_size _ rfl)), ⟨List.nodup_nil, fun k hk => (by cases hk), fun k hk => (by cases hk)⟩⟩ fun s' L mv h1 h2 h3 => hR s' ?_
  obtain ⟨h', g, d, tk, os⟩ := s'
  obtain rfl : g = s.gens := mv.gens
  obtain rfl : d = s.drawn := mv.drawn
  obtain rfl : os = s.os := mv.os
  exact ⟨h', tk, L, rfl, h1, h2, h3⟩
theorem set_list {l : Addr} {items : Array Value} {ks : List κ} {Q : Value → Shared → Prop} (hh : A.handled = none) (hl : s.heap.IsList l items) (hn : items.size = ks.length) (hm : ks.length + 1 < B.most) (hu : A.units + 3 < cLine) (hv : ∀ (i : Nat) (v : Value), items[i]? = some v → ∃ k, ks[i]? = some k ∧ B.is s.heap k v)
    (h : ∀ s', SetEnd B ks s s' → Q (.ref s.heap.objs.size) s') : wpAny (model P w) A (call (.type "set") [.ref l]) Q E s := by
  refine set_call B h ?_
  obtain ⟨ol, hol, hcl, nl, hdl⟩ := id hl
  obtain ⟨ocls, odict, odata, oslots⟩ := ol
  simp only at hcl hdl
  subst hcl; subst hdl
  have hol' : (s.heap.push (set0 w)).get? l = some { cls := .type "list", dict := odict, data := .seq items nl, slots := oslots } := Heap.get?_push_of_some _ hol
  have hsls := F.sub_list_set
  have hslf := F.sub_list_frozenset
  have hne : (Value.type "list" == Value.type "dict") = false := by decide
  have hl1 : (s.heap.push (set0 w)).IsList l items := ⟨_, hol', rfl, nl, rfl⟩
  have hlt : l < s.heap.objs.size := Heap.lt_size hol
  have hz : (s.heap.push (set0 w)).objs.size = s.heap.objs.size + 1 := Heap.size_push ..
  unfold Builtin.«set.__init__» noKeywords Builtin.Frozenset.updateFrom
  generalize hPI : pyIter = PI
  wp_walk
  subst hPI
  refine wpAny_pyIter_list hl1 ?_
  refine wpAny_bind (wpAny_runValue ?_)
  rw [hz]
  have hneI : l ≠ s.heap.objs.size + 1 := Nat.ne_of_lt (Nat.lt_succ_of_lt hlt)
  refine bag_end B (o := { cls := .type "list_iterator", data := .fields #[.ref l, .int 0 0] }) (Walks.list (by simp [hh]) _ l hneI items) rfl hlt hn hm (by show A.units + 1 + 1 + 1 < cLine; exact hu) hv ⟨⟨_, by rw [← hz]; exact Heap.get?_push_size _ rfl, rfl, rfl⟩, hl1.push _⟩ fun s' he => ?_
  refine wpAny_pure ?_
  show wpAny _ _ (ret Value.none) _ _ _
  exact wpAny_pure ⟨rfl, he⟩
theorem set_tuple {l : Addr} {items : Array Value} {ks : List κ} {Q : Value → Shared → Prop} (hh : A.handled = none) (hl : s.heap.IsTuple l items) (hn : items.size = ks.length) (hm : ks.length + 1 < B.most) (hu : A.units + 3 < cLine) (hv : ∀ (i : Nat) (v : Value), items[i]? = some v → ∃ k, ks[i]? = some k ∧ B.is s.heap k v)
    (h : ∀ s', SetEnd B ks s s' → Q (.ref s.heap.objs.size) s') : wpAny (model P w) A (call (.type "set") [.ref l]) Q E s := by
  refine set_call B h ?_
  obtain ⟨ol, hol, hcl, nl, hdl⟩ := id hl
  obtain ⟨ocls, odict, odata, oslots⟩ := ol
  simp only at hcl hdl
  subst hcl; subst hdl
  have hol' : (s.heap.push (set0 w)).get? l = some { cls := .type "tuple", dict := odict, data := .seq items nl, slots := oslots } := Heap.get?_push_of_some _ hol
  have hsls := F.sub_tuple_set
  have hslf := F.sub_tuple_frozenset
  have hne : (Value.type "tuple" == Value.type "dict") = false := by decide
  have hl1 : (s.heap.push (set0 w)).IsTuple l items := ⟨_, hol', rfl, nl, rfl⟩
  have hlt : l < s.heap.objs.size := Heap.lt_size hol
  have hz : (s.heap.push (set0 w)).objs.size = s.heap.objs.size + 1 := Heap.size_push ..
  unfold Builtin.«set.__init__» noKeywords Builtin.Frozenset.updateFrom
  generalize hPI : pyIter = PI
  wp_walk
  subst hPI
  refine wpAny_pyIter_tuple hl1 ?_
  refine wpAny_bind (wpAny_runValue ?_)
  rw [hz]
  have hneI : l ≠ s.heap.objs.size + 1 := Nat.ne_of_lt (Nat.lt_succ_of_lt hlt)
  refine bag_end B (o := { cls := .type "tuple_iterator", data := .fields #[.ref l, .int 0 0] }) (Walks.tuple (by simp [hh]) _ l hneI items) rfl hlt hn hm (by show A.units + 1 + 1 + 1 < cLine; exact hu) hv ⟨⟨_, by rw [← hz]; exact Heap.get?_push_size _ rfl, rfl, rfl⟩, hl1.push _⟩ fun s' he => ?_
  refine wpAny_pure ?_
  show wpAny _ _ (ret Value.none) _ _ _
  exact wpAny_pure ⟨rfl, he⟩
end
end DL
end Part_DL22
section Part_DL23
set_option maxRecDepth 100000
set_option maxHeartbeats 1600000
/-! sets of ints and texts -/
namespace DL
open PySem PySem.Spec PyProof.Rows L2
section
variable {P : Program} {w : World} {κ : Type} [DecidableEq κ] {knd : KeyKind P w κ}
theorem items_perm {ks : List κ} {vs vs' : List Value} (h : ItemsAre knd ks vs) (p : vs'.Perm vs) : ∃ ks', ItemsAre knd ks' vs' ∧ ks'.Perm ks := by
  induction p generalizing ks with
  | nil => cases h; exact ⟨[], .nil, .refl _⟩
  | cons x _ ih =>
    cases h with
    | cons h t =>
      obtain ⟨ks', h1, h2⟩ := ih t
      exact ⟨_ :: ks', .cons h h1, h2.cons _⟩
  | swap x y l =>
    cases h with
    | cons h t => cases t with
      | cons h' t => exact ⟨_, .cons h' (.cons h t), .swap _ _ _⟩
  | trans _ _ ih1 ih2 =>
    obtain ⟨k1, h1, p1⟩ := ih2 h
    obtain ⟨k2, h2, p2⟩ := ih1 h1
    exact ⟨k2, h2, p2.trans p1⟩
theorem items_mem {ks : List κ} {es : List (Int × Value)} (h : ItemsAre knd ks (es.map (·.2))) (k : κ) : k ∈ ks ↔ ∃ e ∈ es, knd.is k e.2 = true := by
  induction es generalizing ks with
  | nil => cases h; simp
  | cons e es ih =>
    cases h with
    | @cons k0 _ ks _ h t =>
      rw [List.mem_cons, ih t]
      constructor
      · rintro (z | ⟨e', m, q⟩)
        · subst z; exact ⟨e, List.mem_cons_self, h⟩
        · exact ⟨e', List.mem_cons_of_mem _ m, q⟩
      · rintro ⟨e', m, q⟩
        rcases List.mem_cons.mp m with z | z
        · subst z; exact .inl (knd.inj _ _ _ q h)
        · exact .inr ⟨e', z, q⟩
variable (knd)
/-- the set at a: ints or texts, its table in order -/
def ScanSet (h : Heap) (a : Addr) (L : List κ) : Prop := ∃ o es ep t, h.get? a = some o ∧ o.ExactSet ∧ o.data = .set es ep t ∧ ElemsOf knd es.toList ∧ ItemsAre knd L (es.toList.map (·.2)) ∧ L.Nodup ∧ es.size < scanBound ∧ t.fits es.size = true ∧ Ris t.place.toList ∧
  (w.params.followText "set-order" = true ∨ t.led = true)
variable {knd} {A : Around} {E : Value → Shared → Prop} {s : Shared} {a : Addr}
theorem ScanSet.len {h : Heap} {L : List κ} {es : Array (Int × Value)} (hi : ItemsAre knd L (es.toList.map (·.2))) : L.length = es.size := by
  have := hi.length
  simpa using this
/-- the entries are stored, the table perhaps laid anew -/
theorem scan_store {g : Bool → Sem Unit} (hg : ∀ (b : Bool) (s1 : Shared) (Q' : Unit → Shared → Prop), Q' () s1 → wpAny (model P w) A (g b) Q' E s1) {o : Obj} {es es1 : Array (Int × Value)} {ep : Nat} {t t1 : SetTable} {L1 : List κ} {wd : Bool} {R : Option Bool → Shared → Prop}
    (ho : s.heap.get? a = some o) (hex : o.ExactSet) (hd : o.data = .set es ep t) (hel : ElemsOf knd es1.toList) (hi : ItemsAre knd L1 (es1.toList.map (·.2))) (nd : L1.Nodup) (hb : es1.size < scanBound) (hf : t1.fits es1.size = true) (hr : Ris t1.place.toList) (hl : w.params.followText "set-order" = true ∨ t1.led = true)
    (hR : ∀ h' L', Heap.SameBut a s.heap h' → ScanSet knd h' a L' → L'.Perm L1 → R (some true) { s with heap := h' }) :
    wpAny (model P w) A (do
      storeSet a es1 t1
      if (!wd && t1.tooFull) = true then do
          g (relayAll t1 es1 (SetTable.grown es1.size)).2.2
          storeSet a (relayAll t1 es1 (SetTable.grown es1.size)).1 (relayAll t1 es1 (SetTable.grown es1.size)).2.1
          pure (some true)
        else pure (some true)) R E s := by
  refine wpAny_bind (wpAny_storeSet_of ho hd ?_ (fits_of_scanBound hb))
  have h1 := store_at (es' := es1) (t' := t1) ho hd
  have b1 := Heap.SameBut.update s.heap a (Obj.putSet es1 t1)
  by_cases c : (!wd && t1.tooFull) = true
  · rw [if_pos c]
    have pm := relayAll_perm t1 es1 (SetTable.grown es1.size)
    have f2 := relayAll_fits t1 es1 (SetTable.grown es1.size)
    have r2 := relayAll_ris t1 es1 (SetTable.grown es1.size)
    have l2 := relayAll_led t1 es1 (SetTable.grown es1.size)
    generalize relayAll t1 es1 (SetTable.grown es1.size) = Z at pm f2 r2 l2 ⊢
    obtain ⟨es2, t2, gv⟩ := Z
    simp only at pm f2 r2 l2 ⊢
    have hz : es2.size = es1.size := by rw [← Array.length_toList, pm.length_eq, Array.length_toList]
    obtain ⟨L2, i2, p2⟩ := items_perm hi (pm.map (·.2))
    refine wpAny_bind (hg _ _ _ (wpAny_bind (wpAny_storeSet_of h1 rfl ?_ (fits_of_scanBound (by rw [hz]; exact hb)))))
    have h2 := store_at (es' := es2) (t' := t2) h1 rfl
    exact wpAny_pure (hR _ L2 (b1.trans (Heap.SameBut.update _ a _)) ⟨_, es2, _, t2, h2, hex, rfl, fun e he => hel e (pm.mem_iff.mp he), i2, p2.nodup_iff.mpr nd, by rw [hz]; exact hb, f2, r2, hl.imp id fun z => by rw [l2]; exact z⟩ p2)
  · rw [if_neg c]
    exact wpAny_pure (hR _ L1 b1 ⟨_, es1, _, t1, h1, hex, rfl, hel, hi, nd, hb, hf, hr, hl⟩ (.refl _))
theorem scan_add {L : List κ} {k : κ} {x : Value} {Q : Bool → Shared → Prop} (R : ScanSet knd s.heap a L) (hk : knd.is k x = true) (hsc : x.scannable = true) (room : L.length + 1 < scanBound)
    (hQ : ∀ b h' L', Heap.SameBut a s.heap h' → ScanSet knd h' a L' → (k ∈ L → L' = L) → (k ∉ L → L'.Perm (k :: L)) → Q b { s with heap := h' }) : wpAny (model P w) A (setAddHashed a x (knd.hash k)) Q E s := by
  obtain ⟨o, es, ep, t, ho, hex, hd, hel, hi, nd, hb, hf, hr, hl⟩ := id R
  have hz := ScanSet.len (h := s.heap) hi
  have quiet : ∀ (b : Bool) {s1 : Shared} {Q' : Unit → Shared → Prop}, Q' () s1 → wpAny (model P w) A (match b with | true => rule "set.scan.the-table-gave-way" | false => pure ()) Q' E s1 := fun b s1 Q' q => by
    cases b
    · exact wpAny_pure q
    · exact wpAny_rule q
  unfold setAddHashed setAddHashedIn
  refine wpAny_holding (wpAny_bind (wpAny_setState_of ho hd hf ?_))
  dsimp only
  rw [byScan_of hsc hb hel]
  simp only [↓reduceIte]
  unfold setAddByScan
  refine wpAny_bind (wpAny_bind (wpAny_rule (wpAny_bind (wpAny_setScan_of hk ho hd hf hel ?_))))
  cases hfi : List.findIdx? (fun e => knd.is k e.2) es.toList with
  | some j =>
    dsimp only
    obtain ⟨hj, pj, _⟩ := List.findIdx?_eq_some_iff_getElem.mp hfi
    have hm : k ∈ L := (items_mem hi k).mpr ⟨es.toList[j], List.getElem_mem hj, pj⟩
    exact wpAny_pure (wpAny_pure (hQ false s.heap L (Heap.SameBut.refl a s.heap) R (fun _ => rfl) fun z => absurd hm z))
  | none =>
    dsimp only
    have hm : k ∉ L := fun z => by
      obtain ⟨e, he, q⟩ := (items_mem hi k).mp z
      have c := List.findIdx?_eq_none_iff.mp hfi e he
      rw [q] at c
      cases c
    have pm := layNew_perm t es (knd.hash k) x
    have f1 := layNew_fits t es (knd.hash k) x
    have r1 := layNew_ris t es (knd.hash k) x hr
    have l1 := layNew_led t es (knd.hash k) x
    generalize layNew t es (knd.hash k) x = Z at pm f1 r1 l1 ⊢
    obtain ⟨es1, t1, wd, gv⟩ := Z
    dsimp only at pm f1 r1 l1 ⊢
    rw [Array.toList_push] at pm
    have pc : es1.toList.Perm ((knd.hash k, x) :: es.toList) := pm.trans (List.perm_append_singleton _ _)
    have el1 : ElemsOf knd es1.toList := (hel.push hk hsc).perm pm
    have hi0 : ItemsAre knd (k :: L) (((knd.hash k, x) :: es.toList).map (·.2)) := .cons hk hi
    obtain ⟨L1, hi1, p1⟩ := items_perm hi0 (pc.map (·.2))
    have nd1 : L1.Nodup := p1.nodup_iff.mpr (List.nodup_cons.mpr ⟨hm, nd⟩)
    have hz1 : es1.size = L.length + 1 := by rw [← Array.length_toList, pc.length_eq, List.length_cons, Array.length_toList, hz]
    have hb1 : es1.size < scanBound := by rw [hz1]; exact room
    have led1 : w.params.followText "set-order" = true ∨ t1.led = true := hl.imp id fun z => by rw [l1]; exact z
    have fin : ∀ h' L', Heap.SameBut a s.heap h' → ScanSet knd h' a L' → L'.Perm L1 → Q true { s with heap := h' } := fun h' L' sb q p => hQ true h' L' sb q (fun z => absurd z hm) fun _ => p.trans p1
    refine wpAny_bind (quiet _ ?_)
    split
    · refine wpAny_bind ?_
      rw [hashByValue_scannable 8 hsc]
      refine wpAny_pure (scan_store (knd := knd) (L1 := L1) (fun b s1 Q' q => ?_) ho hex hd el1 hi1 nd1 hb1 ?_ ?_ ?_ fun h' L' sb q p => ?_)
      · cases b
        · exact wpAny_pure q
        · exact wpAny_rule q
      · split
        · exact f1
        · exact SetTable.fits_plain_off f1
      · split <;> exact r1
      · split <;> exact led1
      · dsimp only
        exact wpAny_pure (fin h' L' sb q p)
    · refine wpAny_bind (wpAny_pure ?_)
      simp only [↓reduceIte]
      refine scan_store (knd := knd) (L1 := L1) (fun b s1 Q' q => ?_) ho hex hd el1 hi1 nd1 hb1 f1 r1 led1 fun h' L' sb q p => ?_
      · cases b
        · exact wpAny_pure q
        · exact wpAny_rule q
      · dsimp only
        exact wpAny_pure (fin h' L' sb q p)
theorem items_zip {L : List κ} {vs : List Value} (h : ItemsAre knd L vs) (hs : ∀ v ∈ vs, v.scannable = true) : ∃ zs : List (κ × Value), vs = zs.map (·.2) ∧ zs.map (·.1) = L ∧ ∀ z ∈ zs, knd.is z.1 z.2 = true ∧ z.2.scannable = true := by
  induction h with
  | nil => exact ⟨[], rfl, rfl, fun z hz => nomatch hz⟩
  | @cons k v ks vs h t ih =>
    obtain ⟨zs, e1, e2, e3⟩ := ih fun v hv => hs v (List.mem_cons_of_mem _ hv)
    refine ⟨(k, v) :: zs, by rw [List.map_cons, ← e1], by rw [List.map_cons, e2], fun z hz => ?_⟩
    rcases List.mem_cons.mp hz with q | q
    · subst q; exact ⟨h, hs v List.mem_cons_self⟩
    · exact e3 z q
variable (knd)
def scanBag : Bag P w κ where
  SP := fun _ h a L => ScanSet knd h a L
  is := fun _ k v => knd.is k v = true ∧ v.scannable = true
  most := scanBound
  keep := fun ⟨o, es, ep, t, ho, r⟩ k => ⟨o, es, ep, t, k o ho, r⟩
  fresh := fun {h0 h a} ho => ⟨_, #[], 0, _, ho, ⟨rfl, rfl, rfl⟩, rfl, fun e he => (by cases he), .nil, List.nodup_nil, (by unfold scanBound; decide), rfl, List.Pairwise.nil, (by
    show _ ∨ (!w.params.followText "set-order") = true
    cases w.params.followText "set-order"
    · exact .inr rfl
    · exact .inl rfl)⟩
  add := fun {h0 A E s a L k v Q} hu hk h0a R hv hm hQ => by
    unfold setAdd
    refine wpAny_holding (wpAny_bind (knd.pyHash hv.1 ?_))
    exact scan_add (s := { s with toks := s.toks + 1 }) R hv.1 hv.2 hm fun b h' L' sb q c1 c2 => hQ b h' _ L' sb (Nat.le_succ _) q c1 c2
  sat := fun {h0 h a L} ⟨o, es, ep, t, ho, hex, hd, hel, hi, nd, hb, hf, hr, hl⟩ => by
    have hs : ∀ v ∈ es.toList.map (·.2), v.scannable = true := fun v hv => by
      obtain ⟨e, he, rfl⟩ := List.mem_map.mp hv
      exact (hel e he).2
    obtain ⟨zs, e1, e2, e3⟩ := items_zip hi hs
    exact ⟨es, ep, t, ⟨o, ho, hex, hd⟩, hf, hb, hr, hl, (ScanSet.len (h := h) hi).symm, zs, e1, e2, e3⟩
end
end DL
end Part_DL23
section Part_DL24
set_option maxRecDepth 100000
set_option maxHeartbeats 1600000
/-! sets of tuples of ints and texts -/
namespace DL
open PySem PySem.Spec PyProof.Rows L2
section
variable {P : Program} {w : World} {A : Around} {E : Value → Shared → Prop} {s : Shared}
abbrev MK (P : Program) (w : World) := mixKind P w
abbrev th (P : Program) (w : World) (k : List Key) : Int := tupleKeyHash (mixKind P w) k
abbrev IsM (P : Program) (w : World) (h : Heap) (k : List Key) (a : Addr) : Prop := IsTupleKey (mixKind P w) h k a
/-- ints and texts -/
def Flat (v : Value) : Prop := (∃ i t, v = .int i t) ∨ ∃ x t, v = .str x t
theorem items_flat {k : List Key} {vs : List Value} (h : ItemsAre (mixKind P w) k vs) : ∀ v ∈ vs, Flat v := by
  induction h with
  | nil => intro v hv; cases hv
  | @cons k0 v' ks vs h1 _ ih =>
    intro v hv
    rcases List.mem_cons.mp hv with e | hv
    · subst e
      rcases keyIs_shape h1 with ⟨i, t, _, e⟩ | ⟨x, t, _, e⟩
      · exact .inl ⟨i, t, e⟩
      · exact .inr ⟨x, t, e⟩
    · exact ih v hv
theorem flat_class (n : Nat) {v : Value} (h : Flat v) : ofAClassStatement n v = pure false := by
  rcases h with ⟨i, t, rfl⟩ | ⟨x, t, rfl⟩ <;> cases n <;> rfl
theorem flat_hash (n : Nat) {v : Value} (h : Flat v) : ∃ b, hashByValue n v = pure b := by
  rcases h with ⟨i, t, rfl⟩ | ⟨x, t, rfl⟩
  · exact ⟨true, by cases n <;> rfl⟩
  · exact ⟨false, by cases n <;> rfl⟩
theorem ism_class {k : List Key} {b : Addr} {Q : Bool → Shared → Prop} (hk : IsM P w s.heap k b) (h : Q false s) : wpAny (model P w) A (ofAClassStatement 8 (.ref b)) Q E s := by
  have hT := hk.typeIs
  obtain ⟨o, items, n, ho, _, hd, hi⟩ := hk
  unfold ofAClassStatement
  refine wpAny_bind (wpAny_typeOf hT ?_)
  dsimp only
  have e : (("tuple" : String) == "tuple") = true := by decide
  simp only [e, if_true, Bool.not_true, Bool.false_eq_true, if_false]
  try refine wpAny_bind (wpAny_pure ?_)
  try simp only [Bool.not_true, Bool.false_eq_true, if_false]
  refine wpAny_bind (m := seqItems? (.ref b)) (wpAny_seqItems ho hd ?_)
  dsimp only
  refine wpAny_bind ?_
  show wpAny _ _ (forIn items _ _) _ _ s
  rw [← Array.forIn_toList]
  refine wpAny_forIn_list _ (fun rest r s' => r.1 = none ∧ s' = s ∧ ∀ v ∈ rest, Flat v) _ ?_ ?_ _ _ ⟨rfl, rfl, items_flat hi⟩
  · rintro v rest r s' ⟨hr, rfl, all⟩
    rw [flat_class 7 (all v List.mem_cons_self)]
    refine wpAny_bind (wpAny_pure ?_)
    simp only [Bool.false_eq_true, if_false]
    exact wpAny_pure ⟨rfl, rfl, fun u hu => all u (List.mem_cons_of_mem _ hu)⟩
  · rintro ⟨r1, r2⟩ s' ⟨hr, rfl, _⟩
    simp only at hr
    subst hr
    exact wpAny_pure h
theorem ism_hash {k : List Key} {b : Addr} {Q : Bool → Shared → Prop} (hk : IsM P w s.heap k b) (h : ∀ v, Q v s) : wpAny (model P w) A (hashByValue 8 (.ref b)) Q E s := by
  have hT := hk.typeIs
  obtain ⟨o, items, n, ho, _, hd, hi⟩ := hk
  unfold hashByValue
  refine wpAny_bind (wpAny_specialOf hT F.slot_tuple_hash.lookup ?_)
  refine wpAny_bind (m := seqItems? (.ref b)) (wpAny_seqItems ho hd ?_)
  refine wpAny_bind ?_
  show wpAny _ _ (forIn items _ _) _ _ s
  rw [← Array.forIn_toList]
  refine wpAny_forIn_list _ (fun rest r s' => s' = s ∧ (r.1 = none ∨ ∃ b, r.1 = some b) ∧ ∀ v ∈ rest, Flat v) _ ?_ ?_ _ _ ⟨rfl, .inl rfl, items_flat hi⟩
  · rintro v rest r s' ⟨rfl, hr, all⟩
    obtain ⟨c, hc⟩ := flat_hash 7 (all v List.mem_cons_self)
    rw [hc]
    refine wpAny_bind (wpAny_pure ?_)
    cases c with
    | true =>
      simp only [Bool.not_true, Bool.false_eq_true, if_false]
      exact wpAny_pure ⟨rfl, .inl rfl, fun u hu => all u (List.mem_cons_of_mem _ hu)⟩
    | false =>
      simp only [Bool.not_false, if_true]
      exact wpAny_pure (wpAny_pure (h _))
  · rintro ⟨r1, r2⟩ s' ⟨rfl, hr, _⟩
    simp only at hr
    rcases hr with hr | ⟨c, hr⟩
    · subst hr; exact wpAny_pure (h _)
    · subst hr; exact wpAny_pure (h _)
theorem ism_seen {k : List Key} {b : Addr} {Q : Bool → Shared → Prop} (hk : IsM P w s.heap k b) {ys : List Value} (hy : ∀ y ∈ ys, ∃ k' c, y = Value.ref c ∧ IsM P w s.heap k' c) (h : Q false s) : wpAny (model P w) A (searchCouldBeSeen (.ref b) ys) Q E s := by
  unfold searchCouldBeSeen
  refine wpAny_bind (wpAny_forIn_list _ (fun rest r s' => r.1 = none ∧ s' = s ∧ ∀ y ∈ rest, ∃ k' c, y = Value.ref c ∧ IsM P w s.heap k' c) _ ?_ ?_ _ _ ⟨rfl, rfl, hy⟩)
  · rintro v rest r s' ⟨hr, rfl, all⟩
    obtain ⟨k', c, rfl, hc⟩ := all v List.mem_cons_self
    have more : ∀ y ∈ rest, ∃ k' c, y = Value.ref c ∧ IsM P w s'.heap k' c := fun u hu => all u (List.mem_cons_of_mem _ hu)
    dsimp only
    by_cases hv : (b == c || (carriedByValue (.ref b) && carriedByValue (.ref c))) = true
    · exact L2.wp_if_pos hv (wpAny_pure ⟨rfl, rfl, more⟩)
    · refine L2.wp_if_neg hv (wpAny_bind (wpAny_eqIsQuiet_tuple hk ?_))
      simp only [Bool.not_true, Bool.false_eq_true, if_false]
      refine wpAny_bind (wpAny_eqIsQuiet_tuple hc ?_)
      simp only [Bool.not_true, Bool.false_eq_true, if_false]
      refine wpAny_bind (ism_class hk ?_)
      simp only [Bool.false_eq_true, if_false]
      refine wpAny_bind (ism_class hc ?_)
      simp only [Bool.false_eq_true, if_false]
      exact wpAny_pure ⟨rfl, rfl, more⟩
  · rintro ⟨r1, r2⟩ s' ⟨hr, rfl, _⟩
    simp only at hr
    subst hr
    exact wpAny_pure h
/-! ### the set -/
def rowsM (P : Program) (w : World) (zs : List (Addr × List Key)) : List (Int × Value) := zs.map fun z => (th P w z.2, Value.ref z.1)
structure TupSet (P : Program) (w : World) (h0 h : Heap) (a : Addr) (zs : List (Addr × List Key)) (es : Array (Int × Value)) (ep : Nat) (t : SetTable) : Prop where
  ob : ∃ o, h.get? a = some o ∧ o.ExactSet ∧ o.data = .set es ep t
  rows : es.toList = rowsM P w zs
  tab : TabOk t (zs.map fun z => th P w z.2)
  nd : (zs.map (·.2)).Nodup
  keys : ∀ z ∈ zs, IsM P w h0 z.2 z.1
  led : w.params.followText "set-order" = true ∨ t.led = true
  room : zs.length * 5 < t.mask * 3
  few : zs.length < 64
variable {h0 : Heap} {a : Addr} {zs : List (Addr × List Key)} {es : Array (Int × Value)} {ep : Nat} {t : SetTable}
theorem rowsM_size (hr : es.toList = rowsM P w zs) : es.size = zs.length := by
  have h := congrArg List.length hr
  simpa [rowsM] using h
theorem TupSet.fits (R : TupSet P w h0 s.heap a zs es ep t) : t.fits es.size = true := by
  have h1 := R.tab.sz
  rw [List.length_map] at h1
  have h2 := rowsM_size R.rows
  have h3 := R.room
  unfold SetTable.fits SetTable.fill
  rw [R.tab.dm, Bool.and_eq_true, beq_iff_eq, decide_eq_true_eq]
  refine ⟨by rw [h1, h2], ?_⟩
  show t.place.size + 0 ≤ t.mask
  omega
theorem TupSet.entry (R : TupSet P w h0 s.heap a zs es ep t) {i : Nat} {z : Addr × List Key} (h : zs[i]? = some z) : es[i]? = some (th P w z.2, Value.ref z.1) := by
  rw [← Array.getElem?_toList, R.rows]
  unfold rowsM
  rw [List.getElem?_map, h]
  rfl
theorem ism_keep {h h' : Heap} {k : List Key} {b : Addr} (x : IsM P w h k b) (hk : ∀ c o, h.get? c = some o → h'.get? c = some o) : IsM P w h' k b := by
  obtain ⟨o, items, n, ho, r⟩ := x
  exact ⟨o, items, n, hk b o ho, r⟩
/-- the probe's place after c steps -/
abbrev stp (m : Nat) (h : Int) (c : Nat) : SetTable.Probe := nth m (runAt m (SetTable.bits h % (m + 1)) (SetTable.bits h)) c
theorem nth_dummy (m : Nat) : ∀ (n : Nat) (p : SetTable.Probe), p.dummy = none → (nth m p n).dummy = none
  | 0, p, h => h
  | n + 1, p, h => nth_dummy m n (adv m p) (by unfold adv; split <;> exact h)
/-- the search, from the c-th step on; K is the first empty step -/
theorem tup_search (R : TupSet P w h0 s.heap a zs es ep t) (hk0 : ∀ b o, h0.get? b = some o → s.heap.get? b = some o) {x : Addr} {k : List Key} (hx : IsM P w s.heap k x) (hu : A.units < cLine) {K : Nat} (hKf : K < 10 * SetTable.turns t.mask) (hK : way t.mask (th P w k) K ∉ t.place.toList) (hKb : ∀ c, c < K → way t.mask (th P w k) c ∈ t.place.toList)
    {Q : SetFound → Shared → Prop} (hin : k ∈ zs.map (·.2) → Q (.there none) s) (hout : k ∉ zs.map (·.2) → Q (.free (way t.mask (th P w k) K) false) s) :
    ∀ (f c : Nat) (stand : Option SetTable.Probe), stand.getD (t.probeStart (th P w k)) = stp t.mask (th P w k) c → c ≤ K → K - c < f → (∀ (i : Nat) z, zs[i]? = some z → z.2 = k → ∃ c', c ≤ c' ∧ c' < K ∧ t.place.toList[i]? = some (way t.mask (th P w k) c')) →
      wpAny (model P w) A (setSearchFrom a (.ref x) (th P w k) true f stand) Q E s
  | 0, c, stand, _, _, hf, _ => absurd hf (Nat.not_lt_zero _)
  | f + 1, c, stand, hst, hc, hf, here => by
    obtain ⟨o, ho, hex, hd⟩ := R.ob
    have gw : ¬ t.gaveWay = true := by
      unfold SetTable.gaveWay
      rw [mask_odd R.tab.mok]
      decide
    have shift : ∀ q, nth t.mask (stp t.mask (th P w k) c) q = stp t.mask (th P w k) (c + q) := fun q => (nth_add t.mask c _ q).symm
    have wy : ∀ q, (nth t.mask (stp t.mask (th P w k) c) q).j = way t.mask (th P w k) (c + q) := fun q => congrArg SetTable.Probe.j (shift q)
    have hashes : ∀ (i : Nat) z, zs[i]? = some z → (es[i]?.map (·.1)).getD 0 = th P w z.2 := fun i z hz => by rw [R.entry hz]; rfl
    have spec := go_spec t R.tab.ris R.tab.dm (fun i => (es[i]?.map (·.1)).getD 0) (th P w k) (10 * SetTable.turns t.mask) (K - c) (stp t.mask (th P w k) c) (nth_dummy _ _ _ rfl) (by omega) (fun q hq => by rw [wy]; exact hKb (c + q) (by omega)) (by rw [wy, show c + (K - c) = K by omega]; exact hK)
    rw [setSearchFrom_succ]
    refine wpAny_bind (wpAny_setState_of ho hd R.fits ?_)
    dsimp only
    refine L2.wp_if_neg gw ?_
    try refine wpAny_bind (wpAny_pure ?_)
    rcases spec with ⟨q, i, hq, hi, hh, hno, hpr⟩ | ⟨hno, hpr⟩
    · -- something of that hash stands there
      have pr : t.probe (fun i => (es[i]?.map (·.1)).getD 0) (th P w k) (stand.getD (t.probeStart (th P w k))) = some (.candidate (way t.mask (th P w k) (c + q)) i (stp t.mask (th P w k) (c + (q + 1)))) := by
        rw [hst, ← wy, ← shift]
        exact hpr
      rw [pr]
      dsimp only
      rw [wy] at hi
      have hil : i < zs.length := by
        have h1 : i < t.place.toList.length := (List.getElem?_eq_some_iff.mp hi).1
        have h2 := R.tab.sz
        rw [List.length_map] at h2
        rw [Array.length_toList] at h1
        omega
      obtain ⟨z, hz⟩ : ∃ z, zs[i]? = some z := ⟨_, List.getElem?_eq_getElem hil⟩
      have hmem : z ∈ zs := List.mem_of_getElem? hz
      have hzt : IsM P w s.heap z.2 z.1 := ism_keep (R.keys z hmem) hk0
      have rest : wpAny (model P w) A (searchRest a (.ref x) (th P w k) true f es t (way t.mask (th P w k) (c + q)) i (stp t.mask (th P w k) (c + (q + 1)))) Q E s := by
        unfold searchRest
        rw [R.entry hz]
        dsimp only
        refine wpAny_bind (wpAny_holding (wpAny_eqBool_tuple hu hzt hx (wpAny_bind (wpAny_setState_of ho hd R.fits ?_))))
        dsimp only
        by_cases hkk : z.2 = k
        · exact L2.wp_if_pos (by simp [hkk]) (wpAny_pure (hin (List.mem_map.mpr ⟨z, hmem, hkk⟩)))
        · refine L2.wp_if_neg (by simp [hkk]) ?_
          try refine wpAny_bind (wpAny_pure ?_)
          have same : t.sameMemory t.moves t.mask = some true := by
            unfold SetTable.sameMemory
            rw [if_pos (beq_self_eq_true _)]
          rw [same]
          dsimp only
          have hsl : t.slot (way t.mask (th P w k) (c + q)) = .live i := slot_live R.tab.ris hi
          simp only [if_true, hsl, R.entry hz]
          refine wpAny_bind (wpAny_isSame_ref_self (wpAny_bind (wpAny_pure ?_)))
          simp only [if_true]
          refine L2.wp_if_neg (by simp [hkk]) (tup_search R hk0 hx hu hKf hK hKb hin hout f (c + (q + 1)) _ rfl (by omega) (by omega) fun i2 z2 h2 k2 => ?_)
          obtain ⟨c', a1, a2, a3⟩ := here i2 z2 h2 k2
          refine ⟨c', ?_, a2, a3⟩
          rcases Nat.lt_trichotomy c' (c + q) with y | y | y
          · exfalso
            refine hno (c' - c) i2 (by omega) (by rw [wy, show c + (c' - c) = c' by omega]; exact a3) ?_
            exact (hashes i2 z2 h2).trans (congrArg (th P w) k2)
          · exfalso
            subst y
            have e1 := slot_live R.tab.ris a3
            rw [hsl] at e1
            injection e1 with e1
            subst e1
            rw [hz] at h2
            cases h2
            exact hkk k2
          · omega
      by_cases hl : (!t.led) = true
      · refine L2.wp_if_pos hl (wpAny_bind (ism_seen hx (fun y hy => ?_) ?_))
        · obtain ⟨e, he, rfl⟩ := List.mem_map.mp hy
          have he' : e ∈ es.toList := by
            rw [Array.toList_filter] at he
            exact (List.mem_filter.mp he).1
          rw [R.rows] at he'
          obtain ⟨z, hz, rfl⟩ := List.mem_map.mp he'
          exact ⟨z.2, z.1, rfl, ism_keep (R.keys z hz) hk0⟩
        · simp only [Bool.false_eq_true, if_false]
          exact rest
      · refine L2.wp_if_neg hl ?_
        try refine wpAny_bind (wpAny_pure ?_)
        exact rest
    · -- the first empty slot
      have pr : t.probe (fun i => (es[i]?.map (·.1)).getD 0) (th P w k) (stand.getD (t.probeStart (th P w k))) = some (.empty (way t.mask (th P w k) K) none) := by
        rw [hst]
        have e := wy (K - c)
        rw [show c + (K - c) = K by omega] at e
        rw [← e]
        exact hpr
      rw [pr]
      dsimp only
      refine wpAny_pure (hout fun hm => ?_)
      obtain ⟨z, hz, hk⟩ := List.mem_map.mp hm
      obtain ⟨i, hi⟩ := List.mem_iff_getElem?.mp hz
      obtain ⟨c', a1, a2, a3⟩ := here i z hi hk
      refine hno (c' - c) i (by omega) (by rw [wy, show c + (c' - c) = c' by omega]; exact a3) ?_
      exact (hashes i z hi).trans (congrArg (th P w) hk)
end
end DL
end Part_DL24
section Part_DL25
set_option maxRecDepth 100000
set_option maxHeartbeats 1600000
/-! adding a tuple to a set -/
namespace DL
open PySem PySem.Spec PyProof.Rows L2
section
variable {P : Program} {w : World} {A : Around} {E : Value → Shared → Prop} {s : Shared} {h0 : Heap} {a : Addr} {zs : List (Addr × List Key)} {es : Array (Int × Value)} {ep : Nat} {t : SetTable}
theorem tup_find (R : TupSet P w h0 s.heap a zs es ep t) (hk0 : ∀ b o, h0.get? b = some o → s.heap.get? b = some o) {x : Addr} {k : List Key} (hx : IsM P w s.heap k x) (hu : A.units < cLine) {Q : SetFound → Shared → Prop} (hin : k ∈ zs.map (·.2) → Q (.there none) s)
    (hout : ∀ K, k ∉ zs.map (·.2) → way t.mask (th P w k) K ∉ t.place.toList → (∀ c, c < K → way t.mask (th P w k) c ∈ t.place.toList) → Q (.free (way t.mask (th P w k) K) false) s) : wpAny (model P w) A (setSearch a (.ref x) (th P w k) true) Q E s := by
  have room := R.room
  obtain ⟨K, hKf, hK, hKb⟩ := R.tab.first (by rw [List.length_map]; omega) (th P w k)
  have big : K < 100000 := by
    have : 10 * SetTable.turns t.mask ≤ 1420 := by
      unfold SetTable.turns
      rcases R.tab.mok with e | e | e <;> omega
    omega
  unfold setSearch
  refine tup_search R hk0 hx hu hKf hK hKb hin (fun hn => hout K hn hK hKb) 100000 0 none rfl (Nat.zero_le _) (by omega) fun i z hz hk => ?_
  have hi : (zs.map fun z => th P w z.2)[i]? = some (th P w k) := by rw [List.getElem?_map, hz, ← hk]; rfl
  have hil : i < t.place.toList.length := by
    have h1 : i < zs.length := (List.getElem?_eq_some_iff.mp hz).1
    have h2 := R.tab.sz
    rw [List.length_map] at h2
    rw [Array.length_toList]
    omega
  have hj := List.getElem?_eq_getElem hil
  obtain ⟨c, hc, e⟩ := R.tab.before hK hi hj
  exact ⟨c, Nat.zero_le _, hc, by rw [hj, e]⟩
theorem put_in {α : Type} (l : List α) (p : Nat) (x : α) : (l.take p ++ x :: l.drop p).Perm (x :: l) := by
  refine List.perm_middle.trans ?_
  rw [List.take_append_drop]
/-- the rows in another order -/
theorem rows_order (order : Array Nat) (hr : es.toList = rowsM P w zs) (hp : order.toList.Perm (List.range zs.length)) :
    ∃ ys, (order.filterMap (es[·]?)).toList = rowsM P w ys ∧ ys.Perm zs ∧ (ys.map fun z => th P w z.2) = order.toList.map fun i => (es.map (·.1)).getD i 0 := by
  have at_ : ∀ i : Nat, es[i]? = (zs[i]?).map fun z => (th P w z.2, Value.ref z.1) := fun i => by
    rw [← Array.getElem?_toList, hr]
    unfold rowsM
    rw [List.getElem?_map]
  have e0 : (order.filterMap (es[·]?)).toList = order.toList.filterMap fun i => es[i]? := by simp
  refine ⟨order.toList.filterMap fun i => zs[i]?, ?_, ?_, ?_⟩
  · rw [e0]
    unfold rowsM
    rw [List.map_filterMap]
    congr 1
    funext i
    exact at_ i
  · refine (hp.filterMap _).trans (.of_eq ?_)
    apply List.ext_getElem?
    intro i
    have key : ∀ (l : List (Addr × List Key)), (List.range l.length).filterMap (fun i => l[i]?) = l := by
      intro l
      induction l with
      | nil => rfl
      | cons x l ih =>
        rw [List.length_cons, List.range_succ_eq_map, List.filterMap_cons]
        simp only [List.getElem?_cons_zero, List.filterMap_map]
        congr 1
    rw [key]
  · have all : ∀ i ∈ order.toList, i < zs.length := fun i hi => List.mem_range.mp (hp.mem_iff.mp hi)
    generalize order.toList = l at all
    induction l with
    | nil => rfl
    | cons i l ih =>
      have hi := all i List.mem_cons_self
      have h1 : zs[i]? = some zs[i] := List.getElem?_eq_getElem hi
      rw [List.filterMap_cons_some h1, List.map_cons, List.map_cons, ih fun j hj => all j (List.mem_cons_of_mem _ hj)]
      congr 1
      have h2 : (es.map (·.1))[i]? = some (th P w (zs[i]).2) := by rw [Array.getElem?_map, at_ i, h1]; rfl
      rw [Array.getD_eq_getD_getElem?, h2]
      rfl
theorem ism_other {h h' : Heap} {k : List Key} {b : Addr} (x : IsM P w h k b) (hk : ∀ c o, h.get? c = some o → h'.get? c = some o) : IsM P w h' k b := ism_keep x hk
/-- the table laid anew, larger -/
theorem tup_relay {o : Obj} (ho : s.heap.get? a = some o) (hex : o.ExactSet) (hd : o.data = .set es ep t) (rows : es.toList = rowsM P w zs) (tab : TabOk t (zs.map fun z => th P w z.2)) (hfl : zs.length ≤ t.mask) (nd : (zs.map (·.2)).Nodup) (keys : ∀ z ∈ zs, IsM P w h0 z.2 z.1) (led : w.params.followText "set-order" = true ∨ t.led = true) (few : zs.length < 64)
    {wanted M : Nat} (hw : SetTable.sizeAbove wanted - 1 = M) (hM : MaskOk M) (hw2 : SetTable.sizeAbove wanted ≤ 128) (hn : zs.length * 5 < M * 3) {Q : Unit → Shared → Prop}
    (hQ : ∀ h' ys es' ep' t', Heap.SameBut a s.heap h' → TupSet P w h0 h' a ys es' ep' t' → ys.Perm zs → Q () { s with heap := h' }) : wpAny (model P w) A (setRelay a wanted) Q E s := by
  have hz := rowsM_size rows
  have h1 := tab.sz
  rw [List.length_map] at h1
  have fits : t.fits es.size = true := by
    unfold SetTable.fits SetTable.fill
    rw [tab.dm, Bool.and_eq_true, beq_iff_eq, decide_eq_true_eq]
    refine ⟨by rw [h1, hz], ?_⟩
    show t.place.size + 0 ≤ t.mask
    omega
  obtain ⟨t', order, e, hp, T', em, el, _, _⟩ := relaid_ok t (hs := es.map (·.1)) (wanted := wanted) hw hM (by rw [Array.size_map, hz]; omega)
  rw [Array.size_map, hz] at hp
  obtain ⟨ys, r1, r2, r3⟩ := rows_order order rows hp
  rw [← r3] at T'
  have hs : (order.filterMap (es[·]?)).size = es.size := by
    have h := rowsM_size r1
    rw [h, hz, r2.length_eq]
  rw [setRelay_eq]
  refine wpAny_bind (wpAny_setState_of ho hd fits ?_)
  dsimp only
  refine L2.wp_if_neg (by rw [sizeLine_eq]; omega) ?_
  try refine wpAny_bind (wpAny_pure ?_)
  rw [e]
  dsimp only
  refine wpAny_bind (L2.wp_if_neg (by rw [hs]; simp) ?_)
  try refine wpAny_bind (wpAny_pure ?_)
  refine wpAny_pure ?_
  dsimp only
  refine wpAny_storeSet_of ho hd ?_ (by rw [hs, hz, sizeLine_eq]; omega)
  refine hQ _ ys (order.filterMap (es[·]?)) (ep + 1) t' (Heap.SameBut.update ..) ⟨⟨_, store_at ho hd, hex, rfl⟩, r1, T', (r2.map (·.2)).nodup_iff.mpr nd, fun z hm => keys z (r2.mem_iff.mp hm), by rw [el]; exact led, ?_, by rw [r2.length_eq]; exact few⟩ r2
  rw [r2.length_eq, em]
  exact hn
theorem tup_add (R : TupSet P w h0 s.heap a zs es ep t) (hk0 : ∀ b o, h0.get? b = some o → s.heap.get? b = some o) {x : Addr} {k : List Key} (hx : IsM P w h0 k x) (hu : A.units < cLine) (hfew : zs.length + 1 < 64) {Q : Bool → Shared → Prop}
    (hQ : ∀ b h' ys es' ep' t', Heap.SameBut a s.heap h' → TupSet P w h0 h' a ys es' ep' t' → (k ∈ zs.map (·.2) → ys = zs) → (k ∉ zs.map (·.2) → ys.Perm ((x, k) :: zs)) → Q b { s with heap := h' }) : wpAny (model P w) A (setAddHashed a (.ref x) (th P w k)) Q E s := by
  obtain ⟨o, ho, hex, hd⟩ := R.ob
  have hz := rowsM_size R.rows
  have room := R.room
  have hxs : IsM P w s.heap k x := ism_keep hx hk0
  unfold setAddHashed
  refine wpAny_holding ?_
  rw [show (100000 : Nat) = 99999 + 1 from rfl, setAddHashedIn_succ]
  refine wpAny_bind (wpAny_setState_of ho hd R.fits ?_)
  dsimp only
  refine L2.wp_if_neg (by simp [byScan, Value.scannable]) ?_
  try refine wpAny_bind (wpAny_pure ?_)
  refine wpAny_bind (tup_find R hk0 hxs hu (fun hm => ?_) fun K hm hK hb => ?_)
  · dsimp only
    exact wpAny_pure (hQ false s.heap zs es ep t (Heap.SameBut.refl a s.heap) R (fun _ => rfl) fun z => absurd hm z)
  dsimp only
  refine wpAny_bind (wpAny_setState_of ho hd R.fits ?_)
  dsimp only
  obtain ⟨q1, q2, q3, q4, q5, q6, q7, q8, q9⟩ := R.tab.put hK hb
  generalize hpt : t.put (way t.mask (th P w k) K) = pt at q1 q3 q4 q5 q6 q7 q8 q9 ⊢
  obtain ⟨t1, p⟩ := pt
  dsimp only at q1 q3 q4 q5 q6 q7 q8 q9 ⊢
  subst q1
  have hin : (SetTable.insertAt es (SetTable.below t.place (way t.mask (th P w k) K)) (th P w k, Value.ref x)).toList = rowsM P w (zs.take (SetTable.below t.place (way t.mask (th P w k) K)) ++ (x, k) :: zs.drop (SetTable.below t.place (way t.mask (th P w k) K))) := by
    rw [SetTable.toList_insertAt, R.rows]
    unfold rowsM
    rw [List.map_append, List.map_cons, List.map_take, List.map_drop]
  generalize SetTable.below t.place (way t.mask (th P w k) K) = p at q2 q3 hin ⊢
  have pm := put_in zs p (x, k)
  have hhs : (zs.take p ++ (x, k) :: zs.drop p).map (fun z => th P w z.2) = (zs.map fun z => th P w z.2).take p ++ th P w k :: (zs.map fun z => th P w z.2).drop p := by
    rw [List.map_append, List.map_cons, List.map_take, List.map_drop]
  rw [← hhs] at q3
  generalize zs.take p ++ (x, k) :: zs.drop p = ys at pm q3 hin
  generalize SetTable.insertAt es p (th P w k, Value.ref x) = es1 at hin ⊢
  have hl1 : ys.length = zs.length + 1 := pm.length_eq
  have hz1 : es1.size = zs.length + 1 := by rw [rowsM_size hin, hl1]
  have nd1 : (ys.map (·.2)).Nodup := (pm.map (·.2)).nodup_iff.mpr (by rw [List.map_cons]; exact List.nodup_cons.mpr ⟨hm, R.nd⟩)
  have keys1 : ∀ z ∈ ys, IsM P w h0 z.2 z.1 := fun z hz => by
    rcases List.mem_cons.mp (pm.mem_iff.mp hz) with e | e
    · subst e; exact hx
    · exact R.keys z e
  -- whatever the table is told of its items' hashes
  have go : ∀ t2 : SetTable, TabOk t2 (ys.map fun z => th P w z.2) → t2.mask = t.mask → t2.led = t.led → t2.fill = zs.length + 1 → t2.tooFull = t1.tooFull →
      wpAny (model P w) A (do
        storeSet a es1 t2
        if (!false && t2.tooFull) = true then setRelay a (SetTable.grown (es.size + 1))
        return true) Q E s := by
    intro t2 T2 m2 l2 f2 _
    refine wpAny_bind (wpAny_storeSet_of ho hd ?_ (by rw [hz1, sizeLine_eq]; omega))
    have sb : Heap.SameBut a s.heap (s.heap.update a (Obj.putSet es1 t2)) := Heap.SameBut.update ..
    have ho1 := store_at (es' := es1) (t' := t2) ho hd
    have led2 : w.params.followText "set-order" = true ∨ t2.led = true := by rw [l2]; exact R.led
    by_cases hf : t2.tooFull = true
    · have full : (zs.length + 1) * 5 ≥ t2.mask * 3 := by
        have h := hf
        unfold SetTable.tooFull at h
        rw [decide_eq_true_eq, f2] at h
        exact h
      have two : (t.mask = 7 ∧ zs.length = 4) ∨ (t.mask = 31 ∧ zs.length = 18) := by
        rcases R.tab.mok with e | e | e
        · left; rw [m2, e] at full; rw [e] at room; exact ⟨e, by omega⟩
        · right; rw [m2, e] at full; rw [e] at room; exact ⟨e, by omega⟩
        · exfalso; rw [m2, e] at full; omega
      have relay : ∀ M, SetTable.sizeAbove (SetTable.grown (zs.length + 1)) - 1 = M → MaskOk M → SetTable.sizeAbove (SetTable.grown (zs.length + 1)) ≤ 128 → (zs.length + 1) * 5 < M * 3 →
          wpAny (model P w) A (setRelay a (SetTable.grown (zs.length + 1))) (fun _ s' => wpAny (model P w) A (pure true) Q E s') E { s with heap := s.heap.update a (Obj.putSet es1 t2) } := fun M a1 a2 a3 a4 => by
        refine tup_relay (s := { s with heap := s.heap.update a (Obj.putSet es1 t2) }) (h0 := h0) ho1 hex rfl hin T2 (by rw [hl1, m2]; rcases two with ⟨e, e2⟩ | ⟨e, e2⟩ <;> omega) nd1 keys1 led2 (by rw [hl1]; exact hfew) a1 a2 a3 (by rw [hl1]; exact a4) fun h2 ys2 es2 ep2 t3 sb2 R2 p2 => ?_
        exact wpAny_pure (hQ true h2 ys2 es2 ep2 t3 (sb.trans sb2) R2 (fun z => absurd z hm) fun _ => p2.trans pm)
      rw [hz]
      first
        | (refine wpAny_bind ?_; refine L2.wp_if_pos (by simp [hf]) ?_)
        | (refine L2.wp_if_pos (by simp [hf]) ?_; refine wpAny_bind ?_)
      rcases two with ⟨_, e2⟩ | ⟨_, e2⟩
      · exact relay 31 (by rw [e2, size_20]) (.inr (.inl rfl)) (by rw [e2, size_20]; decide) (by omega)
      · exact relay 127 (by rw [e2, size_76]) (.inr (.inr rfl)) (by rw [e2, size_76]; decide) (by omega)
    · first
        | refine L2.wp_if_neg (by simp [hf]) ?_
        | (refine wpAny_bind ?_; refine L2.wp_if_neg (by simp [hf]) ?_; refine wpAny_pure ?_)
      refine wpAny_pure (hQ true _ ys es1 (ep + 1) t2 sb ⟨⟨_, ho1, hex, rfl⟩, hin, T2, nd1, keys1, led2, ?_, by rw [hl1]; exact hfew⟩ (fun z => absurd z hm) fun _ => pm)
      have h := hf
      unfold SetTable.tooFull at h
      rw [decide_eq_true_eq, f2] at h
      rw [hl1]
      omega
  rw [List.length_map] at q9
  have fin : ∀ b : Bool, wpAny (model P w) A (do
        storeSet a es1 (if b = true then t1 else { t1 with plain := false })
        if (!false && (if b = true then t1 else { t1 with plain := false }).tooFull) = true then setRelay a (SetTable.grown (es.size + 1))
        return true) Q E s := fun b => by
    cases b with
    | true => exact go t1 q3 q4 q5 q9 rfl
    | false => exact go { t1 with plain := false } ⟨q3.ris, q3.dm, q3.sz, q3.mok, q3.bd, q3.reach⟩ q4 q5 q9 rfl
  by_cases hpl : t1.plain = true
  · first
      | (refine wpAny_bind ?_; refine L2.wp_if_pos hpl ?_; exact ism_hash hxs fun v => fin v)
      | exact L2.wp_if_pos hpl (wpAny_bind (ism_hash hxs fun v => fin v))
  · first
      | (refine wpAny_bind ?_; refine L2.wp_if_neg hpl ?_; exact wpAny_pure (fin true))
      | exact L2.wp_if_neg hpl (wpAny_bind (wpAny_pure (fin true)))
end
end DL
end Part_DL25
section Part_DL26
set_option maxRecDepth 100000
set_option maxHeartbeats 800000
/-! len(set(xs)), sorted(set(xs)) -/
namespace DL
open PySem PySem.Spec PyProof.Rows L2
open PySem.W (EachIs)
section
variable {P : Program} {w : World}
def tupBag (P : Program) (w : World) (S : List Key → Value → Prop) : Bag P w (List Key) where
  SP := fun h0 h a L => ∃ zs es ep t, TupSet P w h0 h a zs es ep t ∧ zs.map (·.2) = L ∧ ∀ z ∈ zs, S z.2 (.ref z.1)
  is := fun h0 k v => S k v ∧ ∃ b, v = .ref b ∧ IsM P w h0 k b
  most := 64
  keep := fun {h0 h h' a L} ⟨zs, es, ep, t, R, e, hs⟩ k => ⟨zs, es, ep, t, ⟨let ⟨o, ho, r⟩ := R.ob; ⟨o, k o ho, r⟩, R.rows, R.tab, R.nd, R.keys, R.led, R.room, R.few⟩, e, hs⟩
  fresh := fun {h0 h a} ho => ⟨[], #[], 0, _, ⟨⟨_, ho, ⟨rfl, rfl, rfl⟩, rfl⟩, rfl, ⟨List.Pairwise.nil, rfl, rfl, .inl rfl, fun x hx => (by cases hx), fun i h j hi => (by simp at hi)⟩, List.nodup_nil, fun z hz => (by cases hz), (by
    show _ ∨ (!w.params.followText "set-order") = true
    cases w.params.followText "set-order"
    · exact .inr rfl
    · exact .inl rfl), (by show 0 * 5 < 7 * 3; decide), (by show 0 < 64; decide)⟩, rfl, fun z hz => (by cases hz)⟩
  add := fun {h0 A E s a L k v Q} hu hk h0a ⟨zs, es, ep, t, R, e, hs⟩ hv hm hQ => by
    obtain ⟨hS, b, rfl, hb⟩ := hv
    subst e
    rw [List.length_map] at hm
    unfold setAdd
    refine wpAny_holding (wpAny_bind (wpAny_pyHash_tuple hu (ism_keep hb hk) ?_))
    refine tup_add (s := { s with toks := s.toks + (k.length + 1) }) R hk hb hu hm fun c h' ys es' ep' t' sb R' c1 c2 => hQ c h' _ (ys.map (·.2)) sb (Nat.le_add_right _ _) ⟨ys, es', ep', t', R', rfl, fun z hz => ?_⟩ (fun q => by rw [c1 q]) fun q => (c2 q).map (·.2)
    rcases Classical.em (k ∈ zs.map (·.2)) with q | q
    · rw [c1 q] at hz; exact hs z hz
    · rcases List.mem_cons.mp ((c2 q).mem_iff.mp hz) with z1 | z1
      · subst z1; exact hS
      · exact hs z z1
  sat := fun {h0 h a L} ⟨zs, es, ep, t, R, e, hs⟩ => by
    obtain ⟨o, ho, hex, hd⟩ := R.ob
    have hz := rowsM_size R.rows
    have few := R.few
    refine ⟨es, ep, t, ⟨o, ho, hex, hd⟩, TupSet.fits (s := { heap := h }) R, by unfold scanBound; omega, R.tab.ris, R.led, by rw [hz, ← e, List.length_map], zs.map fun z => (z.2, Value.ref z.1), ?_, ?_, ?_⟩
    · rw [R.rows]; simp [rowsM]
    · rw [← e]; simp
    · intro z hz
      obtain ⟨y, hy, rfl⟩ := List.mem_map.mp hz
      exact ⟨hs y hy, y.1, rfl, R.keys y hy⟩
end
/-! ### the keys of data, each once -/
def nubD : List Dat → List Dat
  | [] => []
  | x :: xs => if ((nubD xs).any fun y => k1 y x) = true then nubD xs else x :: nubD xs
def nubK {κ : Type} [DecidableEq κ] : List κ → List κ
  | [] => []
  | x :: xs => if x ∈ nubK xs then nubK xs else x :: nubK xs
section
variable {κ : Type} [DecidableEq κ]
theorem nubK_mem : ∀ {xs : List κ} {x : κ}, x ∈ nubK xs ↔ x ∈ xs
  | [], x => by simp [nubK]
  | y :: ys, x => by
    unfold nubK
    split
    · rename_i h
      rw [nubK_mem, List.mem_cons]
      exact ⟨.inr, fun q => q.elim (fun e => by subst e; exact nubK_mem.mp h) id⟩
    · rw [List.mem_cons, List.mem_cons, nubK_mem]
theorem nubK_nodup : ∀ xs : List κ, (nubK xs).Nodup
  | [] => List.nodup_nil
  | y :: ys => by
    unfold nubK
    split
    · exact nubK_nodup ys
    · rename_i h; exact List.nodup_cons.mpr ⟨h, nubK_nodup ys⟩
theorem seen_perm {ks L : List κ} (s : Seen ks L) : L.Perm (nubK ks) :=
  (List.perm_ext_iff_of_nodup s.nd (nubK_nodup ks)).mpr fun k => ⟨fun h => nubK_mem.mpr (s.sub k h), fun h => s.all k (nubK_mem.mp h)⟩
theorem nub_map {f : κ → Dat} (hf : ∀ a b, k1 (f a) (f b) = decide (a = b)) : ∀ ks : List κ, nubD (ks.map f) = (nubK ks).map f
  | [] => rfl
  | k :: ks => by
    rw [List.map_cons]
    unfold nubD nubK
    rw [nub_map hf ks, List.any_map]
    by_cases h : k ∈ nubK ks
    · rw [if_pos h, if_pos (by rw [List.any_eq_true]; exact ⟨k, h, by simp [hf]⟩)]
    · rw [if_neg h, if_neg (fun z => by
        rw [List.any_eq_true] at z
        obtain ⟨y, hy, e⟩ := z
        simp only [Function.comp, hf, decide_eq_true_eq] at e
        subst e
        exact h hy), List.map_cons]
end
/-! ### sorting what is the same but for its order -/
theorem dLe_anti {ds : List Dat} (ok : srtOk ds = true) {x y : Dat} (hx : x ∈ ds) (hy : y ∈ ds) (h1 : dLt x y = false) (h2 : dLt y x = false) : x = y := by
  have str : ∀ a b : List Nat, ¬ a < b → ¬ b < a → a = b := fun a b h1 h2 => List.le_antisymm (List.not_lt.mp h2) (List.not_lt.mp h1)
  have strL : ∀ xs ys : List Dat, xs.all isStr = true → ys.all isStr = true → dLts xs ys = false → dLts ys xs = false → xs = ys := by
    intro xs
    induction xs with
    | nil => intro ys _ _ a b; cases ys with
      | nil => rfl
      | cons y ys => simp [dLts] at a
    | cons x xs ih => intro ys hx hy a b; cases ys with
      | nil => simp [dLts] at b
      | cons y ys =>
        simp only [List.all_cons, Bool.and_eq_true] at hx hy
        obtain ⟨p, rfl⟩ := isStr_of hx.1
        obtain ⟨q, rfl⟩ := isStr_of hy.1
        by_cases e : p = q
        · subst e
          simp only [dLts, k0, beq_self_eq_true, if_true] at a b
          rw [ih ys hx.2 hy.2 a b]
        · have e1 : (p == q) = false := by simpa using e
          have e2 : (q == p) = false := by simpa using fun z => e z.symm
          simp only [dLts, k0, e1, e2, Bool.false_eq_true, if_false, dLt0, decide_eq_false_iff_not] at a b
          exact absurd (str p q a b) e
  rcases srt_two ok hx hy with ⟨a, b⟩ | ⟨a, b⟩ | ⟨a, b⟩
  · obtain ⟨p, rfl⟩ := isStr_of a
    obtain ⟨q, rfl⟩ := isStr_of b
    simp only [dLt, decide_eq_false_iff_not] at h1 h2
    rw [str p q h1 h2]
  · obtain ⟨p, rfl⟩ := isInt_of a
    obtain ⟨q, rfl⟩ := isInt_of b
    simp only [dLt, decide_eq_false_iff_not] at h1 h2
    rw [show p = q by omega]
  · obtain ⟨p, ps, rfl, a'⟩ := isTupS_of a
    obtain ⟨q, qs, rfl, b'⟩ := isTupS_of b
    simp only [dLt] at h1 h2
    rw [strL _ _ a' b' h1 h2]
theorem srtOk_perm {xs ys : List Dat} (p : xs.Perm ys) (ok : srtOk xs = true) : srtOk ys = true := by
  simp only [srtOk, Bool.or_eq_true, List.all_eq_true] at ok ⊢
  exact ok.imp (fun h => h.imp (fun h x hx => h x (p.mem_iff.mpr hx)) fun h x hx => h x (p.mem_iff.mpr hx)) fun h x hx => h x (p.mem_iff.mpr hx)
theorem sortD_pair {ds : List Dat} (ok : srtOk ds = true) : (sortD ds).Pairwise fun a b => dLe a b = true := by
  have h := PySem.W.sort_pairwise (PySem.W.sortLe_total (listOrd itemOrd) false fun d => PySem.W.keyToks (toPy d)) ds
  have e : ds.mergeSort (PySem.W.sortLe (listOrd itemOrd) false fun d => PySem.W.keyToks (toPy d)) = sortD ds := sort_is ok
  rw [e] at h
  refine List.Pairwise.imp_of_mem (fun {a b} ha hb q => ?_) h
  have ha' : a ∈ ds := (List.mergeSort_perm ds dLe).mem_iff.mp ha
  have hb' : b ∈ ds := (List.mergeSort_perm ds dLe).mem_iff.mp hb
  have q' : (!PySem.W.dataLt (toPy b) (toPy a)) = true := q
  rw [lt_dat (srt_two ok hb' ha')] at q'
  exact q'
theorem sortD_perm {xs ys : List Dat} (p : xs.Perm ys) (ok : srtOk xs = true) : sortD xs = sortD ys := by
  have p2 : (sortD xs).Perm (sortD ys) := ((List.mergeSort_perm xs dLe).trans p).trans (List.mergeSort_perm ys dLe).symm
  refine List.Perm.eq_of_pairwise (le := fun a b => dLe a b = true) (fun a b ha hb h1 h2 => ?_) (sortD_pair ok) (sortD_pair (srtOk_perm p ok)) p2
  have ha' : a ∈ xs := (List.mergeSort_perm xs dLe).mem_iff.mp ha
  have hb' : b ∈ xs := p.mem_iff.mpr ((List.mergeSort_perm ys dLe).mem_iff.mp hb)
  exact dLe_anti ok ha' hb' (by simpa [dLe] using h2) (by simpa [dLe] using h1)
theorem each_perm {α β : Type} {R : α → β → Prop} {as as' : List α} {bs : List β} (h : EachIs R as bs) (p : as'.Perm as) : ∃ bs', EachIs R as' bs' ∧ bs'.Perm bs := by
  induction p generalizing bs with
  | nil => cases h; exact ⟨[], .nil, .refl _⟩
  | cons x _ ih =>
    cases h with
    | cons h t =>
      obtain ⟨bs', h1, h2⟩ := ih t
      exact ⟨_ :: bs', .cons h h1, h2.cons _⟩
  | swap x y l =>
    cases h with
    | cons h t => cases t with
      | cons h' t => exact ⟨_, .cons h' (.cons h t), .swap _ _ _⟩
  | trans _ _ ih1 ih2 =>
    obtain ⟨k1, h1, p1⟩ := ih2 h
    obtain ⟨k2, h2, p2⟩ := ih1 h1
    exact ⟨k2, h2, p2.trans p1⟩
end DL
end Part_DL26
section Part_DL27
set_option maxRecDepth 100000
set_option maxHeartbeats 800000
/-! len(set(xs)), sorted(set(xs)) as rules -/
namespace DL
open PySem PySem.Spec PyProof.Rows L2
open PySem.W (EachIs)
def keyable (xs : List Dat) : Bool := ((keysD xs).isSome && decide (xs.length + 1 < 4096)) || ((keysT xs).isSome && decide (xs.length + 1 < 64))
section
variable {X : Cx} {T : Ct} {pins : List (Addr × Obj)} {sg : L2.St} {H : Hp} {s : Shared} {ex : Addr → Prop} {rho : List Addr} {om : Om} {A : Around} {E : Value → Shared → Prop}
/-- what stands when set(xs) was made: at a, a set whose members stand for xs, each once -/
structure MadeSet (X : Cx) (T : Ct) (H : Hp) (ex : Addr → Prop) (rho : List Addr) (s s2 : Shared) (a : Addr) (xs : List Dat) : Prop where
  old : ∀ b o, s.heap.get? b = some o → s2.heap.get? b = some o
  new : a = s.heap.objs.size
  same : ∃ h' tk, s2 = { s with heap := h', toks := tk }
  set : ∃ o es ep t cs, s2.heap.get? a = some o ∧ o.ExactSet ∧ o.data = .set es ep t ∧ t.fits es.size = true ∧ es.size < scanBound ∧ Ris t.place.toList ∧ (X.w.params.followText "set-order" = true ∨ t.led = true) ∧
    EachIs (fun u d => ∃ v, RelV v u ∧ Rep X.K T H ex rho v d) (es.toList.map (·.2)) cs ∧ cs.Perm (nubD xs) ∧ es.size = (nubD xs).length
theorem vals_get {vs : List V} {us : List Value} (r : Vals vs us) : ∀ {i : Nat} {u : Value}, us[i]? = some u → ∃ v, vs[i]? = some v ∧ RelV v u := by
  induction r with
  | nil => intro i u h; simp at h
  | cons h t ih =>
    intro i u e
    cases i with
    | zero => cases e; exact ⟨_, rfl, h⟩
    | succ i => exact ih (by simpa using e)
theorem of_bag {κ : Type} [DecidableEq κ] (B : Bag X.prog X.w κ) {f : κ → Dat} (hf : ∀ a b, k1 (f a) (f b) = decide (a = b)) {ks : List κ} {s2 : Shared} (he : SetEnd B ks s s2) (hr : ∀ k v, B.is s.heap k v → ∃ x, RelV x v ∧ Rep X.K T H ex rho x (f k)) : MadeSet X T H ex rho s s2 s.heap.objs.size (ks.map f) := by
  obtain ⟨h', tk, L, rfl, hS, sn, k⟩ := he
  obtain ⟨es, ep, t, ⟨o, ho, hex, hd⟩, hfit, hb, ris, led, hz, zs, e1, e2, e3⟩ := B.sat hS
  have pm := seen_perm sn
  refine ⟨k, rfl, ⟨h', tk, rfl⟩, o, es, ep, t, L.map f, ho, hex, hd, hfit, hb, ris, led, ?_, ?_, ?_⟩
  · rw [e1, ← e2]
    clear e1 e2 hz
    induction zs with
    | nil => exact .nil
    | cons z zs ih => exact .cons (hr _ _ (e3 z List.mem_cons_self)) (ih fun y hy => e3 y (List.mem_cons_of_mem _ hy))
  · rw [nub_map hf]; exact pm.map f
  · rw [nub_map hf, List.length_map, hz, pm.length_eq]
theorem paired_bs {H : Hp} : ∀ {bs : List Addr} {ks : List (List Key)} {i : Nat} {b : Addr}, Paired (fun (b : Addr) (k : List Key) => H b = some (.tup (k.map kV))) bs ks → bs[i]? = some b → ∃ k, ks[i]? = some k ∧ H b = some (.tup (k.map kV))
  | _, _, i, b, .nil, h => by simp at h
  | _, _, 0, b, .cons h _, e => by cases e; exact ⟨_, rfl, h⟩
  | _, _, i + 1, b, .cons _ t, e => by
    obtain ⟨k, h1, h2⟩ := paired_bs (i := i) t (by simpa using e)
    exact ⟨k, by simpa using h1, h2⟩
theorem set_made {v : V} {u : Value} {d : Dat} {xs : List Dat} {Q : Value → Shared → Prop} (hh : A.handled = none) (hu : A.units + 3 < cLine) (I : Inv X pins sg H s) (w : WRel X.K T H ex rho om) (r : Rep X.K T H ex rho v d) (rv : RelV v u) (hx : itemsD om d = some xs) (ok : keyable xs = true)
    (h : ∀ s2, MadeSet X T H ex rho s s2 s.heap.objs.size xs → Q (.ref s.heap.objs.size) s2) : wpAny (model X.prog X.w) A (call (.type "set") [u]) Q E s := by
  obtain ⟨p, vs, rfl, sq, rs⟩ := items_sq w r hx
  cases rv
  -- the same for a list and a tuple
  have go : ∀ {κ : Type} [DecidableEq κ] (B : Bag X.prog X.w κ) (f : κ → Dat) (ks : List κ), (∀ a b, k1 (f a) (f b) = decide (a = b)) → xs = ks.map f → ks.length + 1 < B.most → (∀ its : List Value, Vals vs its → ∀ (i : Nat) (u : Value), its[i]? = some u → ∃ k, ks[i]? = some k ∧ B.is s.heap k u) →
      (∀ k v, B.is s.heap k v → ∃ x, RelV x v ∧ Rep X.K T H ex rho x (f k)) → wpAny (model X.prog X.w) A (call (.type "set") [Value.ref p]) Q E s := by
    intro κ _ B f ks hf e hm hv hr
    subst e
    have hlen : ∀ its : List Value, Vals vs its → its.length = ks.length := fun its q => by
      rw [← q.length, rs.length, List.length_map]
    rcases sq with sq | sq
    · obtain ⟨its, rv, ht, _⟩ := I.tuple sq
      exact set_tuple B hh ht (by rw [List.size_toArray]; exact hlen its rv) hm hu (fun i u hi => hv its rv i u (by simpa using hi)) fun s2 he => h s2 (of_bag B hf he hr)
    · obtain ⟨its, rv, pl, _⟩ := I.list sq
      exact set_list B hh pl.isList (by rw [List.size_toArray]; exact hlen its rv) hm hu (fun i u hi => hv its rv i u (by simpa using hi)) fun s2 he => h s2 (of_bag B hf he hr)
  simp only [keyable, Bool.or_eq_true, Bool.and_eq_true, decide_eq_true_eq] at ok
  rcases ok with ⟨ok, hl⟩ | ⟨ok, hl⟩
  · obtain ⟨ks, hk⟩ := Option.isSome_iff_exists.mp ok
    obtain ⟨e1, e2⟩ := keysD_rep rs hk
    have hz : ks.length = xs.length := by rw [e2, List.length_map]
    refine go (scanBag (mixKind X.prog X.w)) dK ks k1_dK e2 (by show ks.length + 1 < 4096; omega) (fun its q i u hi => ?_) fun k v hv => ⟨kV k, relV_key hv.1, rep_key k⟩
    obtain ⟨x, h1, h2⟩ := vals_get q hi
    rw [e1, List.getElem?_map] at h1
    cases hki : ks[i]? with
    | none => rw [hki] at h1; cases h1
    | some k =>
      rw [hki] at h1
      cases h1
      exact ⟨k, rfl, kV_is h2, key_scan h2⟩
  · obtain ⟨ks, hk⟩ := Option.isSome_iff_exists.mp ok
    obtain ⟨bs, e1, pr, e2⟩ := keysT_rep rs hk
    have hz : ks.length = xs.length := by rw [e2, List.length_map]
    refine go (tupBag X.prog X.w fun k v => ∃ x, RelV x v ∧ Rep X.K T H ex rho x (dT k)) dT ks k1_dT e2 (by show ks.length + 1 < 64; omega) (fun its q i u hi => ?_) fun k v hv => hv.1
    obtain ⟨x, h1, h2⟩ := vals_get q hi
    rw [e1, List.getElem?_map] at h1
    cases hbi : bs[i]? with
    | none => rw [hbi] at h1; cases h1
    | some b =>
      rw [hbi] at h1
      cases h1
      cases h2
      obtain ⟨k, h3, h4⟩ := paired_bs pr hbi
      exact ⟨k, h3, ⟨.ref b, rfl, rep_tkey w h4⟩, b, rfl, key_of I.hok h4⟩
end
/-! ### the rules -/
def kLenSet (d : Dat) (om : Om) : R Dat := match itemsD om d with
  | some xs => if keyable xs = true then .ok (.int (nubD xs).length) om else .no
  | none => .no
def kSortSet (d : Dat) (om : Om) : R Dat := match itemsD om d with
  | some xs => if keyable xs = true ∧ srtOk (nubD xs) = true then .ok (.lst (sortD (nubD xs))) om else .no
  | none => .no
section
variable {X : Cx} {T : Ct} {a : Expr} {f : DV} {p p2 q pos : Pos}
theorem de_lenSet (hc : X.calm = true) (hu : X.A.units + 64 < cLine) (hg : Gl X "len") (hm : X.mg "len" = none) (hg2 : Gl X "set") (hm2 : X.mg "set" = none) (ha : DE X T a f) (na : starEach [a] X.env = (false, eval a X.env) :: starEach [] X.env := by rfl) :
    DE X T (.Call (.Name "len" p) [.Call (.Name "set" p2) [a] [] q] [] pos) (e1 kLenSet f) := fun W tk => ⟨fun pins s sg H Q I ⟨ex, rho, om, env, w, er, o⟩ => by
  refine Call_ (ld_blt I hg hm boot_len ?_)
  refine PyProof.Rows.callWith_builtin1 (PyProof.Rows.args_cons ?_ rfl) rfl rfl
  refine Call_ (ld_blt I hg2 hm2 boot_set ?_)
  refine PyProof.Rows.callWith_type1 (PyProof.Rows.args_cons (thn ((ha W tk).run pins s sg H _ I ⟨ex, rho, om, env, w, er, Out.bind (rel := Rep X.K T) o⟩) fun u s1 ⟨v, H1, I1, rv, q1⟩ => PyProof.Rows.args_nil ?_) na) na rfl
  obtain ⟨d, om1, ex1, rho1, _, st, w1, rd, o1⟩ := q1
  unfold kLenSet at o1
  split at o1
  · rename_i xs hx
    split at o1
    · rename_i ok
      refine set_made (I1.ok.hd hc) (by omega) I1 w1 rd rv hx ok fun s2 M => PyProof.Rows.args_nil ?_
      obtain ⟨h', tk', rfl⟩ := M.same
      obtain ⟨ob, es, ep, t, cs, ho, hex, hd, hf, hb, _, _, _, _, hz⟩ := M.set
      have I2 : Inv X pins sg H1 { s1 with heap := h', toks := tk' } := I1.kept M.old
      have hb' : es.size < 4096 := hb
      exact call_len_set ho hex hd hf (by omega) ⟨.int (nubD xs).length, H1, I2.tok _, ⟨_, by rw [hz]⟩, o1.here w1 .int⟩
    · exact o1.elim
  · exact o1.elim⟩
theorem de_sortSet (hc : X.calm = true) (hu : X.A.units + 64 < cLine) (hg : Gl X "sorted") (hm : X.mg "sorted" = none) (hg2 : Gl X "set") (hm2 : X.mg "set" = none) (ha : DE X T a f) (na : starEach [a] X.env = (false, eval a X.env) :: starEach [] X.env := by rfl)
    (hv : bootBuiltins "sorted" = some (.builtin "sorted") := by decide +kernel) : DE X T (.Call (.Name "sorted" p) [.Call (.Name "set" p2) [a] [] q] [] pos) (e1 kSortSet f) := fun W tk => ⟨fun pins s sg H Q I ⟨ex, rho, om, env, w, er, o⟩ => by
  refine Call_ (ld_blt I hg hm hv ?_)
  refine PyProof.Rows.callWith_builtin1 (PyProof.Rows.args_cons ?_ rfl) rfl rfl
  refine Call_ (ld_blt I hg2 hm2 boot_set ?_)
  refine PyProof.Rows.callWith_type1 (PyProof.Rows.args_cons (thn ((ha W tk).run pins s sg H _ I ⟨ex, rho, om, env, w, er, Out.bind (rel := Rep X.K T) o⟩) fun u s1 ⟨v, H1, I1, rv, q1⟩ => PyProof.Rows.args_nil ?_) na) na rfl
  obtain ⟨d, om1, ex1, rho1, _, st, w1, rd, o1⟩ := q1
  unfold kSortSet at o1
  split at o1
  · rename_i xs hx
    split at o1
    · rename_i ok
      refine set_made (I1.ok.hd hc) (by omega) I1 w1 rd rv hx ok.1 fun s2 M => PyProof.Rows.args_nil ?_
      obtain ⟨h', tk', rfl⟩ := M.same
      obtain ⟨ob, es, ep, t, cs, ho, hex, hd, hf, hb, ris, led, each, pm, hz⟩ := M.set
      have I2 : Inv X pins sg H1 { s1 with heap := h', toks := tk' } := I1.kept M.old
      have hb' : es.size < 4096 := hb
      refine sorted_vs (X := X) (T := T) (C := fun c => c.Perm (nubD xs)) (ex := ex1) (rho := rho1) hu I2 (fun R hR => ?_) fun p ws c hC hp rw' => ?_
      · refine collect_set (A := X.A.in1) (I1.ok.hd hc) ⟨ob, ho, hex.1, hd⟩ hf hb ris led fun s3 out k3 hz3 g3 o3 pm3 => ?_
        obtain ⟨c2, e2, p2⟩ := each_perm each pm3
        have hlen : c2.length = es.size := by rw [← e2.length, pm3.length_eq, List.length_map, Array.length_toList]
        exact hR s3 out c2 k3 hz3 g3 o3 e2 (srtOk_perm (p2.trans pm).symm ok.2) (by rw [hlen, sizeLine_eq]; omega) (p2.trans pm)
      · rw [sortD_perm hC (srtOk_perm hC.symm ok.2)] at rw'
        exact o1 _ _ _ _ (lay_stp hp) (w1.lay hp) (.lst ⟨upd_same, w1.nex hp⟩ (rw'.step (lay_stp hp) w1.sub))
    · exact o1.elim
  · exact o1.elim⟩
end
end DL
end Part_DL27
section Part_DL28
set_option maxRecDepth 100000
set_option maxHeartbeats 800000
/-! dict(pairs) -/
namespace DL
open PySem PySem.Spec PyProof.Rows L2
def pairsD : List Dat → Option (List (Dat × Dat))
  | [] => some []
  | .tup [k, v] :: r => (pairsD r).map ((k, v) :: ·)
  | _ => none
section
variable {X : Cx} {T : Ct} {K : PySem.W.Frag}
theorem callR_gho {f : Value} {r : List V → Hp → VK → Prop} (h : CallR X f r) : CallR X f (fun xs H Q => r xs H fun v H' => ∃ ds, gho ds H' (Q v)) := fun pins s sg H xs us Q I rv q =>
  wpAny_mono (h pins s sg H xs us _ I rv q) (fun u s' ⟨v, H', I', rr, ds, q'⟩ => let ⟨H2, I2, q2, _⟩ := gho_run I' q'; ⟨v, H2, I2, rr, q2⟩) fun _ _ x => x
theorem reps_pairs {H : Hp} {ex : Addr → Prop} {rho : List Addr} : ∀ {us : List V} {ds : List Dat} {ps : List (Dat × Dat)}, Reps K T H ex rho us ds → pairsD ds = some ps → ∃ (as : List Addr) (vv : List (V × V)), us = as.map V.ref ∧ Paired (fun (a : Addr) (p : V × V) => H a = some (.tup [p.1, p.2])) as vv ∧ RepP K T H ex rho vv ps
  | _, [], ps, r, h => by cases r; cases h; exact ⟨[], [], rfl, .nil, .nil, .nil⟩
  | _, d :: ds, ps, r, h => by
    cases r with
    | cons r t =>
      unfold pairsD at h
      split at h
      · rename_i e; cases e
      · rename_i k v ds' e
        cases e
        rw [Option.map_eq_some_iff] at h
        obtain ⟨qs, hq, rfl⟩ := h
        obtain ⟨as, vv, e1, e2, e3⟩ := reps_pairs t hq
        cases r with
        | @tup a vs _ q r =>
          cases r with
          | cons r1 r => cases r with
            | cons r2 r =>
              cases r
              subst e1
              exact ⟨a :: as, (_, _) :: vv, rfl, .cons q.1 e2, .cons r1 e3.1, .cons r2 e3.2⟩
      · cases h
def rDictD (K : PySem.W.Frag) (T : Ct) : List V → Hp → VK → Prop := fun xs H Q => ∃ a us ex rho om ds ps, WRel K T H ex rho om ∧ xs = [.ref a] ∧ SqL K H a us ∧ Reps K T H ex rho us ds ∧ pairsD ds = some ps ∧ ((keysD (ps.map (·.1))).isSome = true ∨ (keysT (ps.map (·.1))).isSome = true) ∧
  ∀ p o, H p = none → Rep K T (upd H p o) ex rho (.ref p) (.dct (mkD ps).1 (mkD ps).2) → Q (.ref p) (upd H p o)
theorem paired_map {H : Hp} : ∀ {as : List Addr} {kvs : List (Key × V)}, Paired (fun (a : Addr) (p : V × V) => H a = some (.tup [p.1, p.2])) as (kvs.map fun kv => (kV kv.1, kv.2)) → Paired (fun p kv => SqT K H p [kV kv.1, kv.2]) as kvs
  | _, [], h => by cases h; exact .nil
  | _, kv :: kvs, h => by
    cases h with
    | cons h t => exact .cons (.inl (.inl h)) (paired_map t)
theorem mk_eq {κ : Type} [DecidableEq κ] {H : Hp} {ex : Addr → Prop} {rho : List Addr} {f : κ → Dat} (hf : ∀ a b, k1 (f a) (f b) = decide (a = b)) {kvs : List (κ × V)} {ps : List (Dat × Dat)} (e : ps.map (·.1) = kvs.map fun p => f p.1) (r : Reps K T H ex rho (kvs.map (·.2)) (ps.map (·.2))) :
    Reps K T H ex rho ((kvs.foldl (fun acc kv => putK acc kv.1 kv.2) []).map (·.2)) (mkD ps).2 ∧ (mkD ps).1 = (kvs.foldl (fun acc kv => putK acc kv.1 kv.2) []).map fun p => f p.1 := by
  have m := merge_rep (K := K) (T := T) (H := H) (ex := ex) (rho := rho) hf (more := kvs) (md := ps.map (·.2)) (kvs := []) (ds := []) r .nil
  have e1 : ps = (kvs.map fun p => f p.1).zip (ps.map (·.2)) := dat_zip e
  have e2 : mkD ps = ((kvs.map fun p => f p.1).zip (ps.map (·.2))).foldl (fun acc p => putD acc p.1 p.2) ([], []) := by
    conv => lhs; rw [e1]
    rfl
  rw [e2]
  exact m
theorem pairsT {pins : List (Addr × Obj)} {sg : L2.St} {H : Hp} {s : Shared} (I : Inv X pins sg H s) : ∀ {as : List Addr} {vv : List (V × V)} {bs : List Addr} {ks : List (List Key)}, Paired (fun (a : Addr) (p : V × V) => H a = some (.tup [p.1, p.2])) as vv → vv.map (·.1) = bs.map V.ref → Paired (fun (b : Addr) (k : List Key) => H b = some (.tup (k.map kV))) bs ks →
    ∃ (kvs : List (List Key × V)) (qs : List (List Key × Addr × Value)), KT H kvs qs ∧ kvs.map (·.1) = ks ∧ kvs.map (·.2) = vv.map (·.2) ∧ qs.length = as.length ∧ ∀ (j : Nat) q, qs[j]? = some q → ∃ a, as[j]? = some a ∧ s.heap.IsTuple a #[.ref q.2.1, q.2.2] ∧ H q.2.1 = some (.tup (q.1.map kV))
  | _, _, bs, ks, .nil, e, q => by
    cases bs with
    | nil => cases q; exact ⟨[], [], .nil, rfl, rfl, rfl, fun j q h => by simp at h⟩
    | cons _ _ => simp at e
  | _, _, bs, ks, .cons (a := a) (b := p) h t, e, q => by
    cases bs with
    | nil => simp at e
    | cons b bs => cases q with
      | @cons _ k _ ks q qt =>
        simp only [List.map_cons, List.cons.injEq] at e
        obtain ⟨kvs, qs, kt, e1, e2, e3, e4⟩ := pairsT I t e.2 qt
        obtain ⟨its, rv, ht, _⟩ := I.tuple (show SqT X.K H a [p.1, p.2] from .inl (.inl h))
        obtain ⟨u1, u2, rfl, r1, r2⟩ := vals2 rv
        have e0 : p.1 = V.ref b := e.1
        rw [e0] at r1
        cases r1
        refine ⟨(k, p.2) :: kvs, (k, b, u2) :: qs, .cons ⟨rfl, q, r2⟩ kt, by simp [e1], by simp [e2], by simp [e3], fun j z hz => ?_⟩
        cases j with
        | zero => cases hz; exact ⟨a, rfl, ht, q⟩
        | succ j =>
          obtain ⟨a', h1, h2⟩ := e4 j z (by simpa using hz)
          exact ⟨a', by simpa using h1, h2⟩
theorem call_dictD (hc : X.calm = true) (hu : X.A.units + 64 < cLine) : CallR X (.type "dict") (rDictD X.K T) := by
  intro pins s sg H xs us Q I r h
  obtain ⟨a, vs, ex, rho, om, ds, ps, w, rfl, hs, rd, hp, hk, q⟩ := h
  obtain ⟨as, vv, e1, pr, rp⟩ := reps_pairs rd hp
  by_cases hK : (keysD (ps.map (·.1))).isSome = true
  · obtain ⟨ks, hks⟩ := Option.isSome_iff_exists.mp hK
    obtain ⟨k1', k2⟩ := keysD_rep rp.1 hks
    obtain ⟨kvs, ep, ek⟩ := zip_fst_snd (f := kV) k1'
    subst ep e1
    refine callR_gho (call_dictP hc) pins s sg H _ us Q I r ⟨a, as, kvs, rfl, hs, paired_map pr, fun p hp' => ⟨[p], _, upd_same, rfl, fun o => ?_⟩⟩
    rw [upd_upd]
    have m := mk_eq (K := X.K) (T := T) (H := H) (ex := ex) (rho := rho) k1_dK (kvs := kvs) (ps := ps) (by rw [k2, ← ek, List.map_map]; rfl) (by have := rp.2; rw [List.map_map] at this; exact this)
    exact q p _ hp' (.dctK upd_same (w.nex hp') (m.1.step (lay_stp hp') w.sub) m.2)
  · have hT := hk.resolve_left hK
    obtain ⟨kks, hks⟩ := Option.isSome_iff_exists.mp hT
    obtain ⟨bs, f1, f2, f3⟩ := keysT_rep rp.1 hks
    obtain ⟨u, rfl, rx⟩ := r.one
    cases rx
    obtain ⟨its, rv, pl, hz⟩ := I.list hs
    subst e1
    have ei := refs_at rv
    subst ei
    obtain ⟨kvs, qs, kt, e1, e2, e3, e4⟩ := pairsT I pr f1 f2
    rw [List.length_map] at hz
    have fresh : ∀ b o, s.heap.get? b = some o → b ≠ s.heap.objs.size := fun b o e => Nat.ne_of_lt (Heap.lt_size e)
    have key : wpAny (model X.prog X.w) X.A (call (.type "dict") [Value.ref a]) (EP X pins sg Q) X.xe s := by
      refine call_dict_pairsH (knd := tupleKind (mixKind X.prog X.w)) (ps := qs) (PairArg.list a (as.map Value.ref).toArray (fun j => as.getD j 0) (qs.map fun q => (Value.ref q.2.1, q.2.2))) (I.ok.hd hc) (by show X.A.units + 1 + 1 < cLine; omega) ⟨?_, by simp [e3], fun j k v hj => ?_⟩ ⟨by simp, fun i key v hi => ?_⟩ (fun h' hk x hx => ?_) (by rw [List.length_map, e3]; exact hz) fun h' tk hd hk' => ?_
      · obtain ⟨o, n, h1, h2, h3, h4⟩ := pl
        exact ⟨o, n, h1, h2, h3, h4⟩
      · rw [List.getElem?_map] at hj
        cases hq : qs[j]? with
        | none => rw [hq] at hj; cases hj
        | some z =>
          rw [hq] at hj
          cases hj
          obtain ⟨a', h1, h2, _⟩ := e4 j z hq
          have h3 : as.getD j 0 = a' := by rw [List.getD_eq_getElem?_getD, h1]; rfl
          simp only [h3]
          exact ⟨by simp [h1], .inl h2⟩
      · have hi' : (qs.map fun q => (Value.ref q.2.1, q.2.2))[i]? = some (key, v) := hi
        rw [List.getElem?_map] at hi'
        cases hq : qs[i]? with
        | none => rw [hq] at hi'; cases hi'
        | some z =>
          rw [hq] at hi'
          cases hi'
          exact ⟨z.1, z.2.1, rfl, rfl⟩
      · obtain ⟨j, hj⟩ := List.mem_iff_getElem?.mp hx
        obtain ⟨_, _, _, h3⟩ := e4 j x hj
        obtain ⟨o, items, n, h4, h5⟩ := key_of (P := X.prog) (w := X.w) I.hok h3
        exact ⟨o, items, n, hk _ _ (fresh _ _ h4) (by simp) h4, h5⟩
      · obtain ⟨q0, es, ep, hq, h2, h3, h4, _, h5⟩ := hd
        have hm : (s.heap.objs.size == sysModules) = false := beq_eq_false_iff_ne.mpr (Nat.ne_of_gt I.big)
        have hp0 : H s.heap.objs.size = none := I.hok.fresh (Nat.le_refl _)
        have hlen : (kvs.foldl (fun acc kv => putK acc kv.1 kv.2) []).length ≤ sizeLine := by
          have l1 := len_foldput kvs []
          have l2 := congrArg List.length e2
          have l3 := Paired.length kt
          simp only [List.length_map, List.length_nil] at l1 l2
          omega
        have I3 : Inv X pins sg (upd H s.heap.objs.size (.dT (kvs.foldl (fun acc kv => putK acc kv.1 kv.2) []))) { s with heap := h', toks := tk } :=
          I.laid (t' := tk) (fun b o e => hk' b o (by simp) e) (Nat.le_refl _) ⟨hlen, hm, _, (kt_all kt .nil).keeps fun c ys ec => by
            rw [upd_ne (ne_of_none ec hp0)]
            exact ec, q0, es, ep, hq, h2, h3, h4, h5⟩
        obtain ⟨ob, I4⟩ := I3.lock upd_same trivial
        rw [upd_upd] at I4
        have m := mk_eq (K := X.K) (T := T) (H := H) (ex := ex) (rho := rho) k1_dT (kvs := kvs) (ps := ps) (by rw [f3, ← e1, List.map_map]; rfl) (by rw [e2]; exact rp.2)
        exact ⟨.ref s.heap.objs.size, _, I4, rfl, q _ _ hp0 (.dctT upd_same (w.nex hp0) (m.1.step (lay_stp hp0) w.sub) m.2)⟩
    exact key
def kDict (ds : List Dat) (om : Om) : R Dat := match ds with
  | [d] => match lstD om d with
    | some xs => match pairsD xs with
      | some ps => if (keysD (ps.map (·.1))).isSome = true ∨ (keysT (ps.map (·.1))).isSome = true then .ok (.dct (mkD ps).1 (mkD ps).2) om else .no
      | none => .no
    | none => .no
  | _ => .no
theorem opd_dict : CallD K T (rDictD K T) kDict := fun W sg H ex rho om Q ds vs w r o => by
  unfold kDict at o
  split at o
  · rename_i d
    obtain ⟨v, rfl, rv⟩ := reps1 r
    split at o
    · rename_i xs hx
      obtain ⟨a, us, rfl, sq, rs⟩ := lst_sq w rv hx
      split at o
      · rename_i ps hp
        split at o
        · rename_i hk
          exact ⟨a, us, ex, rho, om, xs, ps, w, rfl, sq, rs, hp, hk, fun p ob hp' rep => o _ _ _ _ (lay_stp hp') (w.lay hp') rep⟩
        · exact o.elim
      · exact o.elim
    · exact o.elim
  · exact o.elim
end
end DL
end Part_DL28
section Part_DL29
set_option maxRecDepth 100000
set_option maxHeartbeats 1600000
/-! zip whose last tuple is still held: list(zip(xs, ys)) -/
namespace DL
open PySem PySem.Spec PyProof.Rows L2
/-- a zip that has handed T out -/
abbrev ZipO (h : Heap) (z TI TO T : Addr) (f : Bool) : Prop := h.get? z = some { cls := .type "zip", dict := none, data := .fields #[rawInt T, .bool f, .bool false, .ref TI, .ref TO], slots := #[] }
section
variable {prog : Program} {w : World} {A : Around} {E : Value → Shared → Prop} {s : Shared}
/-- the question whether the own tuple is free: it is not -/
theorem zip_held {z TI TO T : Addr} {f : Bool} {o : Obj} {Q : Bool → Shared → Prop} (hz : ZipO s.heap z TI TO T f) (hT : s.heap.get? T = some o) (h : ∀ h', ZipO h' z TI TO T true → Heap.SameBut z s.heap h' → Q false { s with heap := h' }) : wpAny (model prog w) A (Builtin.SmallTypes.ownedTupleIsFree (.ref z)) Q E s := by
  unfold Builtin.SmallTypes.ownedTupleIsFree
  refine wpAny_bind (wpAny_field hz rfl (x := rawInt T) rfl ?_)
  show wpAny _ _ (loadIfAlive ((T : Int).toNat) >>= _) _ _ _
  rw [Int.toNat_natCast]
  refine wpAny_bind (PySem.W.kdx_alive hT ?_)
  simp only [Option.isNone_some, Bool.false_eq_true, if_false]
  refine wpAny_bind (wpAny_field hz rfl (x := .bool f) rfl ?_)
  cases f with
  | true =>
    rw [if_neg (show ¬ ((Value.bool true != Value.bool true) = true) from Bool.false_ne_true)]
    exact wpAny_pure (h s.heap hz (Heap.SameBut.refl _ _))
  | false =>
    rw [if_pos (show (Value.bool false != Value.bool true) = true from rfl)]
    refine wpAny_bind (wpAny_setField_rec hz (by simp) fun h' hz' hs' => ?_)
    exact wpAny_pure (h h' hz' hs')
structure ZipIn (h : Heap) (z TI TO i1 i2 l1 l2 : Addr) (k : Nat) (xs ys : Array Value) : Prop where
  ti : IsPair h TI (.ref i1) (.ref i2)
  a1 : h.IsListIter i1 l1 k
  a2 : h.IsListIter i2 l2 k
  b1 : h.IsList l1 xs
  b2 : h.IsList l2 ys
theorem zip_out_item {z TI TO i1 i2 l1 l2 T : Addr} {f : Bool} {k : Nat} {xs ys : Array Value} {x y : Value} {o : Obj} {Q : Value → Shared → Prop} (D : ZipApart z TI TO i1 i2 l1 l2) (hz : ZipO s.heap z TI TO T f) (hT : s.heap.get? T = some o) (hTz : T ≠ z) (hin : ZipIn s.heap z TI TO i1 i2 l1 l2 k xs ys) (hx : xs[k]? = some x) (hy : ys[k]? = some y)
    (hQ : ∀ h', ZipO h' z TI TO T true → h'.IsListIter i1 l1 (k + 1) → h'.IsListIter i2 l2 (k + 1) → IsPair h' s.heap.objs.size x y → h'.objs.size = s.heap.objs.size + 1 → (∀ c u, c ≠ z → c ≠ i1 → c ≠ i2 → s.heap.get? c = some u → h'.get? c = some u) → Q (.ref s.heap.objs.size) { s with heap := h' }) :
    wpAny (model prog w) A (Builtin.«zip.__next__» ⟨[.ref z], []⟩) (fun fin s' => ∃ v, fin = .done (.ret v) ∧ Q v s') E s := by
  show wpAny _ _ (field (.ref z) 2 >>= _) _ _ _
  refine wpAny_bind (wpAny_field hz rfl (x := .bool false) rfl ?_)
  show wpAny _ _ (field (.ref z) 3 >>= _) _ _ _
  refine wpAny_bind (wpAny_field hz rfl (x := .ref TI) rfl (wpAny_bind (wpAny_seqItems hin.ti rfl ?_)))
  show wpAny _ _ (Builtin.SmallTypes.ownedTupleIsFree (.ref z) >>= _) _ _ _
  refine wpAny_bind (zip_held hz hT fun h1 hz1 s1 => ?_)
  simp only [Bool.false_eq_true, if_false]
  refine wpAny_bind ?_
  show wpAny _ _ (forIn (#[Value.ref i1, Value.ref i2] : Array Value) _ _) _ _ _
  rw [← Array.forIn_toList]
  simp only [List.forIn_cons, List.forIn_nil]
  refine wpAny_bind (wpAny_bind (wpAny_holding ?_))
  show wpAny _ _ (Builtin.SmallTypes.nextOf (.ref i1) >>= _) _ _ _
  refine wpAny_bind (wpAny_nextOf_list_item (hin.a1.extBut s1.extBut D.i1z) (hin.b1.extBut s1.extBut D.l1z) hx fun h2 a12 s2 => wpAny_pure ?_)
  refine wpAny_pure ?_
  refine wpAny_bind (wpAny_bind (wpAny_holding ?_))
  show wpAny _ _ (Builtin.SmallTypes.nextOf (.ref i2) >>= _) _ _ _
  refine wpAny_bind (wpAny_nextOf_list_item ((hin.a2.extBut s1.extBut D.i2z).extBut s2.extBut D.i12.symm) ((hin.b2.extBut s1.extBut D.l2z).extBut s2.extBut D.l2i1) hy fun h3 a23 s3 => wpAny_pure ?_)
  refine wpAny_pure (wpAny_pure ?_)
  have hsz : h3.objs.size = s.heap.objs.size := by rw [s3.1, s2.1, s1.1]
  have hz3 : ZipO h3 z TI TO T true := s3.extBut _ _ D.i2z.symm (s2.extBut _ _ D.i1z.symm hz1)
  refine wpAny_bind (wpAny_newTuple ?_ (by show 2 ≤ sizeLine; rw [sizeLine_eq]; decide))
  refine wpAny_pure ⟨_, rfl, ?_⟩
  show Q (.ref h3.objs.size) _
  rw [hsz]
  refine hQ _ (Heap.get?_push_of_some _ hz3) ((a12.extBut s3.extBut D.i12).at fun o e => Heap.get?_push_of_some _ e) (a23.at fun o e => Heap.get?_push_of_some _ e) (by rw [← hsz]; exact Heap.get?_push_size _ rfl) (by rw [Heap.size_push, hsz]) fun c u c1 c2 c3 e => ?_
  exact Heap.get?_push_of_some _ (s3.extBut _ _ c3 (s2.extBut _ _ c2 (s1.extBut _ _ c1 e)))
theorem zip_out_end {z TI TO i1 i2 l1 l2 T : Addr} {f : Bool} {k : Nat} {xs ys : Array Value} {o : Obj} {Q : Fin → Shared → Prop} (hh : A.handled = none) (D : ZipApart z TI TO i1 i2 l1 l2) (hz : ZipO s.heap z TI TO T f) (hT : s.heap.get? T = some o) (hin : ZipIn s.heap z TI TO i1 i2 l1 l2 k xs ys) (hend : xs[k]? = none ∨ ys[k]? = none)
    (hE : ∀ h' e, (∀ c u, c ≠ z → c ≠ i1 → c ≠ i2 → s.heap.get? c = some u → h'.get? c = some u) → (∃ o, h'.get? e = some o ∧ o.cls = .type "StopIteration") → E (.ref e) { s with heap := h' }) : wpAny (model prog w) A (Builtin.«zip.__next__» ⟨[.ref z], []⟩) Q E s := by
  show wpAny _ _ (field (.ref z) 2 >>= _) _ _ _
  refine wpAny_bind (wpAny_field hz rfl (x := .bool false) rfl ?_)
  show wpAny _ _ (field (.ref z) 3 >>= _) _ _ _
  refine wpAny_bind (wpAny_field hz rfl (x := .ref TI) rfl (wpAny_bind (wpAny_seqItems hin.ti rfl ?_)))
  show wpAny _ _ (Builtin.SmallTypes.ownedTupleIsFree (.ref z) >>= _) _ _ _
  refine wpAny_bind (zip_held hz hT fun h1 hz1 s1 => ?_)
  simp only [Bool.false_eq_true, if_false]
  refine wpAny_bind ?_
  show wpAny _ _ (forIn (#[Value.ref i1, Value.ref i2] : Array Value) _ _) _ _ _
  rw [← Array.forIn_toList]
  simp only [List.forIn_cons, List.forIn_nil]
  refine wpAny_bind (wpAny_bind (wpAny_holding ?_))
  show wpAny _ _ (Builtin.SmallTypes.nextOf (.ref i1) >>= _) _ _ _
  cases hx : xs[k]? with
  | none =>
    refine wpAny_bind (wpAny_nextOf_list_end hh (hin.a1.extBut s1.extBut D.i1z) (hin.b1.extBut s1.extBut D.l1z) hx fun h2 e s2 he => ?_)
    exact hE h2 e (fun c u c1 c2 _ q => s2 _ _ c2 (s1.extBut _ _ c1 q)) he
  | some x =>
    have hy : ys[k]? = none := by
      rcases hend with h | h
      · rw [hx] at h; cases h
      · exact h
    refine wpAny_bind (wpAny_nextOf_list_item (hin.a1.extBut s1.extBut D.i1z) (hin.b1.extBut s1.extBut D.l1z) hx fun h2 a12 s2 => wpAny_pure ?_)
    refine wpAny_pure ?_
    refine wpAny_bind (wpAny_bind (wpAny_holding ?_))
    show wpAny _ _ (Builtin.SmallTypes.nextOf (.ref i2) >>= _) _ _ _
    refine wpAny_bind (wpAny_nextOf_list_end hh ((hin.a2.extBut s1.extBut D.i2z).extBut s2.extBut D.i12.symm) ((hin.b2.extBut s1.extBut D.l2z).extBut s2.extBut D.l2i1) hy fun h3 e s3 he => ?_)
    exact hE h3 e (fun c u c1 c2 c3 q => s3 _ _ c3 (s2.extBut _ _ c2 (s1.extBut _ _ c1 q))) he
end
end DL
end Part_DL29
section Part_DL30
set_option maxRecDepth 100000
set_option maxHeartbeats 1600000
/-! list(zip(xs, ys)) -/
namespace DL
open PySem PySem.Spec PyProof.Rows L2
theorem zip_nolen : typeLookup (.type "zip") "__len__" = pure none := by rw [typeLookup_type, builtinLookup_eq_fast]; kernel_rfl
theorem zip_nohint : typeLookup (.type "zip") "__length_hint__" = pure none := by rw [typeLookup_type, builtinLookup_eq_fast]; kernel_rfl
section
variable {prog : Program} {w : World} {A : Around} {E : Value → Shared → Prop} {s : Shared}
/-- a zip that is drawn from, whether or not its last tuple is held -/
structure ZipSt (h : Heap) (z TI TO i1 i2 l1 l2 : Addr) (k : Nat) (xs ys : Array Value) : Prop where
  inn : ZipIn h z TI TO i1 i2 l1 l2 k xs ys
  st : (IsZip h z TI TO .none ∧ ∃ a b, IsPair h TO a b) ∨ ∃ T f o, ZipO h z TI TO T f ∧ h.get? T = some o ∧ T ≠ z
theorem ZipSt.type {z TI TO i1 i2 l1 l2 : Addr} {k : Nat} {xs ys : Array Value} (Z : ZipSt s.heap z TI TO i1 i2 l1 l2 k xs ys) : s.TypeIs (.ref z) "zip" := by
  rcases Z.st with ⟨h, _⟩ | ⟨T, f, o, h, _⟩ <;> exact ⟨_, h, rfl⟩
theorem zip_nxt {z TI TO i1 i2 l1 l2 : Addr} {k : Nat} {xs ys : Array Value} {x y : Value} {Q : Option Value → Shared → Prop} (D : ZipApart z TI TO i1 i2 l1 l2) (Z : ZipSt s.heap z TI TO i1 i2 l1 l2 k xs ys) (hx : xs[k]? = some x) (hy : ys[k]? = some y)
    (hQ : ∀ h', ZipSt h' z TI TO i1 i2 l1 l2 (k + 1) xs ys → IsPair h' s.heap.objs.size x y → h'.objs.size = s.heap.objs.size + 1 → (∀ c u, c ≠ z → c ≠ TO → c ≠ i1 → c ≠ i2 → s.heap.get? c = some u → h'.get? c = some u) → Q (some (.ref s.heap.objs.size)) { s with heap := h' }) :
    wpAny (model prog w) A (pyNext (.ref z)) Q E s := by
  have hT := Z.type
  have hzl : z < s.heap.objs.size := by
    obtain ⟨o, ho, _⟩ := hT
    exact Heap.lt_size ho
  rcases Z.st with ⟨hz, a, b, hTO⟩ | ⟨T, f, o, hz, ho, ne⟩
  · refine wpAny_pyNext_zip_item D hz Z.inn.ti hTO Z.inn.a1 Z.inn.a2 Z.inn.b1 Z.inn.b2 hx hy fun h' c1 c2 c3 c4 c5 c6 c7 => ?_
    exact hQ h' ⟨⟨c7 _ _ D.TIz D.TITO D.TIi1 D.TIi2 Z.inn.ti, c3, c4, Z.inn.b1.at fun o e => c7 _ o D.l1z D.l1TO D.l1i1 D.l1i2 e, Z.inn.b2.at fun o e => c7 _ o D.l2z D.l2TO D.l2i1 D.l2i2 e⟩, .inr ⟨_, false, _, c1, c5, Nat.ne_of_gt hzl⟩⟩ c5 c6 c7
  · unfold pyNext
    refine wpAny_bind (wpAny_attempt (wpAny_callSpecial?_slot (name := Str.ofString "__next__") hT F.slot_zip_next
      (wpAny_call_entry F.slot_zip_next hT F.entry_zip_next (zip_out_item D hz ho ne Z.inn hx hy fun h' c1 c2 c3 c4 c5 c6 => wpAny_pure ?_) (F.args_zip_next_1 _))))
    have hT' : ∃ u, h'.get? T = some u := by
      by_cases e1 : T = i1
      · subst e1; obtain ⟨u, hu, _⟩ := c2; exact ⟨u, hu⟩
      · by_cases e2 : T = i2
        · subst e2; obtain ⟨u, hu, _⟩ := c3; exact ⟨u, hu⟩
        · exact ⟨o, c6 _ _ ne e1 e2 ho⟩
    obtain ⟨o', ho'⟩ := hT'
    exact hQ h' ⟨⟨c6 _ _ D.TIz D.TIi1 D.TIi2 Z.inn.ti, c2, c3, Z.inn.b1.at fun o e => c6 _ o D.l1z D.l1i1 D.l1i2 e, Z.inn.b2.at fun o e => c6 _ o D.l2z D.l2i1 D.l2i2 e⟩, .inr ⟨T, true, o', c1, ho', ne⟩⟩ c4 c5 fun c u h1 _ h3 h4 e => c6 c u h1 h3 h4 e
theorem zip_fin {z TI TO i1 i2 l1 l2 : Addr} {k : Nat} {xs ys : Array Value} {Q : Option Value → Shared → Prop} (hh : A.handled = none) (D : ZipApart z TI TO i1 i2 l1 l2) (Z : ZipSt s.heap z TI TO i1 i2 l1 l2 k xs ys) (hend : xs[k]? = none ∨ ys[k]? = none)
    (hQ : ∀ h', (∀ c u, c ≠ z → c ≠ TO → c ≠ i1 → c ≠ i2 → s.heap.get? c = some u → h'.get? c = some u) → Q none { s with heap := h' }) : wpAny (model prog w) A (pyNext (.ref z)) Q E s := by
  have hT := Z.type
  rcases Z.st with ⟨hz, a, b, hTO⟩ | ⟨T, f, o, hz, ho, ne⟩
  · exact wpAny_pyNext_zip_end hh D hz Z.inn.ti hTO Z.inn.a1 Z.inn.a2 Z.inn.b1 Z.inn.b2 hend hQ
  · unfold pyNext
    refine wpAny_bind (wpAny_attempt (wpAny_callSpecial?_slot (name := Str.ofString "__next__") hT F.slot_zip_next
      (wpAny_call_entry F.slot_zip_next hT F.entry_zip_next (zip_out_end hh D hz ho Z.inn hend fun h' e k1 he => ?_) (F.args_zip_next_1 _))))
    obtain ⟨oe, hoe, hce⟩ := he
    exact wpAny_bind (wpAny_isInstance (T := "StopIteration") (b := true) ⟨oe, hoe, hce⟩ isSubtype_stop (wpAny_pure (hQ h' fun c u h1 _ h3 h4 e => k1 c u h1 h3 h4 e)))
/-- the tuples drawn so far: all at n0 or behind it -/
structure Drawn (n0 : Nat) (h : Heap) (xs ys : Array Value) (as : List Addr) : Prop where
  at_ : ∀ (j : Nat) a, as[j]? = some a → n0 ≤ a ∧ ∃ x y, xs[j]? = some x ∧ ys[j]? = some y ∧ IsPair h a x y
  nd : as.Nodup
theorem zip_loop {S z TI TO i1 i2 l1 l2 : Addr} {xs ys : Array Value} {res : Value} {R : Result → Shared → Prop} {h0 : Heap} {n0 : Nat} (hh : A.handled = none) (D : ZipApart z TI TO i1 i2 l1 l2) (hS : S ≠ z ∧ S ≠ TI ∧ S ≠ TO ∧ S ≠ i1 ∧ S ≠ i2 ∧ S ≠ l1 ∧ S ≠ l2) (hn0 : z < n0 ∧ TO < n0 ∧ i1 < n0 ∧ i2 < n0 ∧ S < n0) (hz : min xs.size ys.size ≤ sizeLine)
    (hR : ∀ h' tk acc c as, (∀ b o, b ≠ S → b ≠ z → b ≠ TO → b ≠ i1 → b ≠ i2 → h0.get? b = some o → h'.get? b = some o) → h'.get? S = some { cls := .type "list", dict := none, data := .seq acc c, slots := #[] } → acc.toList = as.map Value.ref → as.length = min xs.size ys.size → Drawn n0 h' xs ys as → R (.ok (.ret res)) { s with heap := h', toks := tk }) :
    ∀ (m k : Nat) (h : Heap) (tk c : Nat) (acc : Array Value) (as : List Addr), min xs.size ys.size - k = m → k ≤ min xs.size ys.size → ZipSt h z TI TO i1 i2 l1 l2 k xs ys → (∀ b o, b ≠ S → b ≠ z → b ≠ TO → b ≠ i1 → b ≠ i2 → h0.get? b = some o → h.get? b = some o) →
      h.get? S = some { cls := .type "list", dict := none, data := .seq acc c, slots := #[] } → acc.toList = as.map Value.ref → as.length = k → Drawn n0 h xs ys as → n0 ≤ h.objs.size → codeAny (model prog w) A (.builtin "list.extend.loop" ⟨[.ref S, .ref z, res], []⟩) R { s with heap := h, toks := tk } := by
  obtain ⟨s1, s2, s3, s4, s5, s6, s7⟩ := hS
  obtain ⟨n1, n2, n3, n4, n5⟩ := hn0
  intro m
  induction m with
  | zero =>
    intro k h tk c acc as hm hk Z keep hl ha hlen hd hsz
    refine codeAny_builtin F.entry_extend_loop ?_
    rw [Around.under_plainId F.plain_extend_loop _]
    have hend : xs[k]? = none ∨ ys[k]? = none := by
      rcases Nat.lt_or_ge k xs.size with h1 | h1
      · right; exact Array.getElem?_eq_none (by omega)
      · left; exact Array.getElem?_eq_none h1
    refine wpAny_bind (m := pyNext (.ref z)) (zip_fin (s := { s with heap := h, toks := tk }) (A := A.in1) hh D Z hend fun h' kp => ?_)
    refine wpAny_pure (hR h' tk acc c as (fun b o b1 b2 b3 b4 b5 e => kp b o b2 b3 b4 b5 (keep b o b1 b2 b3 b4 b5 e)) (kp S _ s1 s3 s4 s5 hl) ha (by omega) ⟨fun j a hj => ?_, hd.nd⟩)
    obtain ⟨h1, x, y, h2, h3, h4⟩ := hd.at_ j a hj
    exact ⟨h1, x, y, h2, h3, kp a _ (Nat.ne_of_gt (Nat.lt_of_lt_of_le n1 h1)) (Nat.ne_of_gt (Nat.lt_of_lt_of_le n2 h1)) (Nat.ne_of_gt (Nat.lt_of_lt_of_le n3 h1)) (Nat.ne_of_gt (Nat.lt_of_lt_of_le n4 h1)) h4⟩
  | succ m ih =>
    intro k h tk c acc as hm hk Z keep hl ha hlen hd hsz
    have hlt : k < min xs.size ys.size := by omega
    obtain ⟨x, hx⟩ : ∃ x, xs[k]? = some x := ⟨_, Array.getElem?_eq_getElem (by omega)⟩
    obtain ⟨y, hy⟩ : ∃ y, ys[k]? = some y := ⟨_, Array.getElem?_eq_getElem (by omega)⟩
    have hacc : acc.size = k := by rw [← Array.length_toList, ha, List.length_map, hlen]
    refine codeAny_builtin F.entry_extend_loop ?_
    rw [Around.under_plainId F.plain_extend_loop _]
    refine wpAny_bind (m := pyNext (.ref z)) (zip_nxt (s := { s with heap := h, toks := tk }) (A := A.in1) D Z hx hy fun h' Z' hp hsz' kp => ?_)
    dsimp only at hp hsz' kp ⊢
    have hl' := kp S _ s1 s3 s4 s5 hl
    have up : ∀ b o, b ≠ S → h'.get? b = some o → (h'.update S (Obj.mapSeq (·.push (Value.ref h.objs.size)))).get? b = some o := fun b o hb e => (Heap.get?_update_other _ _ (Ne.symm hb)).trans e
    have hSn : S ≠ h.objs.size := Nat.ne_of_lt (Nat.lt_of_lt_of_le n5 hsz)
    refine wpAny_bind (m := updateSeq S (·.push (Value.ref h.objs.size))) (wpAny_updateSeq hl' rfl (wpAny_pure ⟨plainId_quiet F.plain_extend_loop _, ?_⟩) (by rw [hacc]; omega))
    refine ih (k + 1) _ tk _ (acc.push (Value.ref h.objs.size)) (as ++ [h.objs.size]) (by omega) hlt ?_ (fun b o b1 b2 b3 b4 b5 e => up b o b1 (kp b o b2 b3 b4 b5 (keep b o b1 b2 b3 b4 b5 e))) (Heap.get?_update_self _ hl' rfl) (by rw [Array.toList_push, ha, List.map_append]; rfl) (by rw [List.length_append, hlen]; rfl) ⟨fun j a hj => ?_, List.nodup_append.mpr ⟨hd.nd, by simp, fun a ha' b hb e => ?_⟩⟩ (by rw [Heap.size_update, hsz']; exact Nat.le_succ_of_le hsz)
    · refine ⟨⟨up _ _ s2.symm Z'.inn.ti, Z'.inn.a1.at fun o e => up _ o s4.symm e, Z'.inn.a2.at fun o e => up _ o s5.symm e, Z'.inn.b1.at fun o e => up _ o s6.symm e, Z'.inn.b2.at fun o e => up _ o s7.symm e⟩, ?_⟩
      rcases Z'.st with ⟨a1, a, b, a2⟩ | ⟨T, f, o, a1, a2, a3⟩
      · exact .inl ⟨up _ _ s1.symm a1, a, b, up _ _ s3.symm a2⟩
      · refine .inr ⟨T, f, ?_⟩
        by_cases e : T = S
        · subst e; exact ⟨_, up _ _ s1.symm a1, Heap.get?_update_self _ hl' rfl, a3⟩
        · exact ⟨o, up _ _ s1.symm a1, up _ _ e a2, a3⟩
    · rcases Nat.lt_or_ge j as.length with q | q
      · rw [List.getElem?_append_left q] at hj
        obtain ⟨h1, x', y', h2, h3, h4⟩ := hd.at_ j a hj
        refine ⟨h1, x', y', h2, h3, up a _ (Nat.ne_of_gt (Nat.lt_of_lt_of_le n5 h1)) (kp a _ (Nat.ne_of_gt (Nat.lt_of_lt_of_le n1 h1)) (Nat.ne_of_gt (Nat.lt_of_lt_of_le n2 h1)) (Nat.ne_of_gt (Nat.lt_of_lt_of_le n3 h1)) (Nat.ne_of_gt (Nat.lt_of_lt_of_le n4 h1)) h4)⟩
      · rw [List.getElem?_append_right q] at hj
        have e0 : j - as.length = 0 := by
          have := (List.getElem?_eq_some_iff.mp hj).1
          simp at this
          omega
        rw [e0] at hj
        cases hj
        have ej : j = k := by omega
        subst ej
        exact ⟨hsz, x, y, hx, hy, up _ _ hSn.symm hp⟩
    · rw [List.mem_singleton.mp hb] at e
      obtain ⟨j, hj⟩ := List.mem_iff_getElem?.mp ha'
      obtain ⟨_, x', y', _, _, h4⟩ := hd.at_ j a hj
      exact absurd (Heap.lt_size h4) (by rw [e]; exact Nat.lt_irrefl _)
end
end DL
end Part_DL30
section Part_DL31
set_option maxRecDepth 100000
set_option maxHeartbeats 1600000
/-! list(zip(xs, ys)): the rule -/
namespace DL
open PySem PySem.Spec PyProof.Rows L2
section
variable {prog : Program} {w : World} {A : Around} {E : Value → Shared → Prop} {s : Shared}
theorem list_of_zip {z TI TO i1 i2 l1 l2 : Addr} {xs ys : Array Value} {Q : Value → Shared → Prop} (hh : A.handled = none) (D : ZipApart z TI TO i1 i2 l1 l2) (Z : ZipSt s.heap z TI TO i1 i2 l1 l2 0 xs ys) (hTO : ∃ o, s.heap.get? TO = some o) (hsz : min xs.size ys.size ≤ sizeLine)
    (hQ : ∀ h' tk acc c as, (∀ b o, b ≠ z → b ≠ TO → b ≠ i1 → b ≠ i2 → s.heap.get? b = some o → h'.get? b = some o) → h'.get? s.heap.objs.size = some { cls := .type "list", dict := none, data := .seq acc c, slots := #[] } → acc.toList = as.map Value.ref → as.length = min xs.size ys.size → Drawn (s.heap.objs.size + 1) h' xs ys as →
      Q (.ref s.heap.objs.size) { s with heap := h', toks := tk }) : wpAny (model prog w) A (call (.type "list") [.ref z]) Q E s := by
  have lt : ∀ {b : Addr} {o : Obj}, s.heap.get? b = some o → b < s.heap.objs.size := fun e => Heap.lt_size e
  have hz : z < s.heap.objs.size := by obtain ⟨o, ho, _⟩ := Z.type; exact lt ho
  have hTI : TI < s.heap.objs.size := lt Z.inn.ti
  have hTO' : TO < s.heap.objs.size := by obtain ⟨o, ho⟩ := hTO; exact lt ho
  have h1 : i1 < s.heap.objs.size := by obtain ⟨o, ho, _⟩ := Z.inn.a1; exact lt ho
  have h2 : i2 < s.heap.objs.size := by obtain ⟨o, ho, _⟩ := Z.inn.a2; exact lt ho
  have h3 : l1 < s.heap.objs.size := by obtain ⟨o, ho, _⟩ := Z.inn.b1; exact lt ho
  have h4 : l2 < s.heap.objs.size := by obtain ⟨o, ho, _⟩ := Z.inn.b2; exact lt ho
  refine callType_codes (Q₁ := fun obj s1 => obj = .ref s.heap.objs.size ∧ s1 = { s with heap := s.heap.push { cls := .type "list", data := .seq #[] } }) PySem.F.called_list (PySem.F.typeCall_list_1 _) PySem.F.entry_list_init (code_list_new _ ⟨rfl, rfl⟩) fun obj s1 he => ?_
  obtain ⟨rfl, rfl⟩ := he
  have hS : (s.heap.push { cls := .type "list", data := .seq #[] }).get? s.heap.objs.size = some { cls := .type "list", data := .seq #[] } := Heap.get?_push_size _ rfl
  refine ⟨⟨_, hS, rfl⟩, PySem.F.args_list_init_2 _ _, ?_⟩
  show wpAny _ _ (do let old ← Builtin.List.listItems (.ref s.heap.objs.size); Builtin.List.listUpdate (.ref s.heap.objs.size) (fun _ => #[]); letGo old.toList.reverse; Builtin.List.listExtendWith (.ref s.heap.objs.size) (.ref z) .none) _ _ _
  unfold Builtin.List.listItems
  refine wpAny_bind (wpAny_bind (m := seqItems? (.ref s.heap.objs.size)) (wpAny_seqItems hS rfl (wpAny_pure ?_)))
  refine wpAny_bind (m := updateSeq s.heap.objs.size (fun _ => #[])) (wpAny_updateSeq hS rfl (wpAny_bind (wpAny_letGo ?_)))
  have hS2 := Heap.get?_update_self (Obj.mapSeq (fun _ => (#[] : Array Value))) hS rfl
  have hS3 := Heap.get?_update_self (Obj.mapSeq (·.push Value.none)) hS2 rfl
  have hS4 := Heap.get?_update_self (Obj.mapSeq (·.pop)) hS3 rfl
  have k2 : ∀ b o, s.heap.get? b = some o → ((s.heap.push { cls := .type "list", data := .seq #[] }).update s.heap.objs.size (Obj.mapSeq (fun _ => (#[] : Array Value)))).get? b = some o := fun b o e =>
    (Heap.get?_update_other _ _ (Nat.ne_of_gt (lt e))).trans (Heap.get?_push_of_some _ e)
  have k4 : ∀ b o, s.heap.get? b = some o → ((((s.heap.push { cls := .type "list", data := .seq #[] }).update s.heap.objs.size (Obj.mapSeq (fun _ => (#[] : Array Value)))).update s.heap.objs.size (Obj.mapSeq (·.push Value.none))).update s.heap.objs.size (Obj.mapSeq (·.pop))).get? b = some o := fun b o e =>
    (Heap.get?_update_other _ _ (Nat.ne_of_gt (lt e))).trans ((Heap.get?_update_other _ _ (Nat.ne_of_gt (lt e))).trans (k2 b o e))
  have move : ∀ {h' : Heap}, (∀ b o, s.heap.get? b = some o → h'.get? b = some o) → ZipSt h' z TI TO i1 i2 l1 l2 0 xs ys := fun {h'} k => by
    refine ⟨⟨k _ _ Z.inn.ti, Z.inn.a1.at fun o e => k _ o e, Z.inn.a2.at fun o e => k _ o e, Z.inn.b1.at fun o e => k _ o e, Z.inn.b2.at fun o e => k _ o e⟩, ?_⟩
    rcases Z.st with ⟨a1, a, b, a2⟩ | ⟨T, f, o, a1, a2, a3⟩
    · exact .inl ⟨k _ _ a1, a, b, k _ _ a2⟩
    · exact .inr ⟨T, f, o, k _ _ a1, k _ _ a2, a3⟩
  have Z2 := move k2
  have ne : (Value.ref s.heap.objs.size : Value) ≠ .ref z := fun e => by
    injection e with e
    exact absurd hz (by rw [e]; exact Nat.lt_irrefl _)
  unfold Builtin.List.listExtendWith
  refine wpAny_bind (wpAny_typeOf (T := "zip") Z2.type ?_)
  have g1 : Builtin.List.listSameRef (.ref s.heap.objs.size) (.ref z) = false := by simp [Builtin.List.listSameRef, Nat.ne_of_gt hz]
  have g2 : (Value.type "zip" == Value.type "list") = false := by decide
  have g3 : (Value.type "zip" == Value.type "tuple") = false := by decide
  simp only [g1, g2, g3, Bool.or_false, Bool.false_eq_true, if_false]
  have iter : ∀ {Q' : Value → Shared → Prop} {E' : Value → Shared → Prop} {s' : Shared}, ZipSt s'.heap z TI TO i1 i2 l1 l2 0 xs ys → Q' (.ref z) s' → wpAny (model prog w) A.in1.in1 (pyIter (.ref z)) Q' E' s' := fun {Q' E' s'} Z' q => by
    rcases Z'.st with ⟨a1, _⟩ | ⟨T, f, o, a1, _⟩
    · exact wpAny_pyIter_zip a1 q
    · have hT := Z'.type
      refine wpAny_pyIter_slot hT F.slot_zip_iter (wpAny_call_entry F.slot_zip_iter hT F.entry_zip_iter ?_ (F.args_zip_iter_1 _))
      exact wpAny_pure ⟨_, rfl, "zip", _, hT, F.slot_zip_next.lookup, q⟩
  refine wpAny_bind (iter Z2 ?_)
  refine wpAny_bind (wpAny_holding ?_)
  unfold Builtin.List.listLengthHint
  refine wpAny_bind (wpAny_specialOf Z2.type zip_nolen ?_)
  show wpAny _ _ (specialOf (Value.ref z) (Str.ofString "__length_hint__") >>= _) _ _ _
  refine wpAny_bind (wpAny_specialOf Z2.type zip_nohint (wpAny_pure ?_))
  show wpAny _ _ (rule "list.extend.makes-room" >>= fun _ => Builtin.List.listTouch (.ref s.heap.objs.size) >>= fun _ => again (.builtin "list.extend.loop" ⟨[.ref s.heap.objs.size, .ref z, .none], []⟩)) _ _ _
  refine wpAny_bind (wpAny_rule (wpAny_bind ?_))
  show wpAny _ _ (updateSeq s.heap.objs.size (·.push .none) >>= fun _ => updateSeq s.heap.objs.size (·.pop)) _ _ _
  refine wpAny_bind (wpAny_updateSeq hS2 rfl (wpAny_updateSeq hS3 rfl ?_))
  have up : ∀ {b : Addr}, b < s.heap.objs.size → b < s.heap.objs.size + 1 := fun h => Nat.lt_succ_of_lt h
  refine wpAny_pure ⟨plainId_quiet PySem.F.plain_extend_loop _, zip_loop (s := s) (h0 := s.heap) (n0 := s.heap.objs.size + 1) (A := A.in1) hh D ⟨Nat.ne_of_gt hz, Nat.ne_of_gt hTI, Nat.ne_of_gt hTO', Nat.ne_of_gt h1, Nat.ne_of_gt h2, Nat.ne_of_gt h3, Nat.ne_of_gt h4⟩ ⟨up hz, up hTO', up h1, up h2, Nat.lt_succ_self _⟩ hsz
    (fun h' tk acc c as k g a l d => ⟨rfl, hQ h' tk acc c as (fun b o b2 b3 b4 b5 e => k b o (Nat.ne_of_lt (lt e)) b2 b3 b4 b5 e) g a l d⟩) _ 0 _ _ _ #[] [] rfl (Nat.zero_le _) (move k4) (fun b o _ _ _ _ _ e => k4 b o e) hS4 rfl rfl ⟨fun j a hj => (by simp at hj), List.nodup_nil⟩ ?_⟩
  rw [Heap.size_update, Heap.size_update, Heap.size_update, Heap.size_push]
  exact Nat.le_refl _
end
end DL
end Part_DL31
section Part_DL32
set_option maxRecDepth 100000
set_option maxHeartbeats 1600000
/-! list(zip(xs, ys)) as a rule -/
namespace DL
open PySem PySem.Spec PyProof.Rows L2
def zipD : List Dat → List Dat → List Dat
  | x :: xs, y :: ys => .tup [x, y] :: zipD xs ys
  | _, _ => []
theorem zipD_len : ∀ xs ys : List Dat, (zipD xs ys).length = min xs.length ys.length
  | [], _ => by simp [zipD]
  | _ :: _, [] => by simp [zipD]
  | x :: xs, y :: ys => by simp only [zipD, List.length_cons, zipD_len xs ys]; omega
theorem zipD_get : ∀ {xs ys : List Dat} {j : Nat} {x y : Dat}, xs[j]? = some x → ys[j]? = some y → (zipD xs ys)[j]? = some (.tup [x, y])
  | [], _, j, x, y, h, _ => by simp at h
  | _ :: _, [], j, x, y, _, h => by simp at h
  | a :: xs, b :: ys, 0, x, y, h1, h2 => by cases h1; cases h2; rfl
  | a :: xs, b :: ys, j + 1, x, y, h1, h2 => by
    have := zipD_get (xs := xs) (ys := ys) (j := j) (by simpa using h1) (by simpa using h2)
    simpa [zipD] using this
def kListZip (x y : Dat) (om : Om) : R Dat := match lstD om x, lstD om y with
  | some xs, some ys => if xs.length ≤ 1000000 then .ok (.lst (zipD xs ys)) om else .no
  | _, _ => .no
section
variable {X : Cx} {T : Ct} {K : PySem.W.Frag}
theorem reps_at {H : Hp} {ex : Addr → Prop} {rho : List Addr} : ∀ {vs : List V} {ds : List Dat}, vs.length = ds.length → (∀ (j : Nat) v, vs[j]? = some v → ∃ d, ds[j]? = some d ∧ Rep K T H ex rho v d) → Reps K T H ex rho vs ds
  | [], [], _, _ => .nil
  | [], _ :: _, h, _ => by simp at h
  | _ :: _, [], h, _ => by simp at h
  | v :: vs, d :: ds, h, f => by
    obtain ⟨d', h1, h2⟩ := f 0 v rfl
    cases h1
    exact .cons h2 (reps_at (by simpa using h) fun j v e => by simpa using f (j + 1) v (by simpa using e))
/-- new tuples and the list of them, tracked -/
theorem zip_laid {pins : List (Addr × Obj)} {sg : L2.St} {H : Hp} {s : Shared} {ex : Addr → Prop} {rho : List Addr} {om : Om} {h' : Heap} {tk : Nat} {p : Addr} {acc : Array Value} {c : Nat} {as : List Addr} {us us2 : List V} {xs ys : List Value} {ds es : List Dat} (I : Inv X pins sg H s) (w : WRel X.K T H ex rho om) (k : ∀ b o, s.heap.get? b = some o → h'.get? b = some o) (hp : s.heap.objs.size ≤ p)
    (hS : h'.get? p = some { cls := .type "list", dict := none, data := .seq acc c, slots := #[] }) (ha : acc.toList = as.map Value.ref) (hl : as.length = min xs.length ys.length) (dr : Drawn (p + 1) h' xs.toArray ys.toArray as) (v1 : Vals us xs) (v2 : Vals us2 ys) (r1 : Reps X.K T H ex rho us ds) (r2 : Reps X.K T H ex rho us2 es) (hz : as.length ≤ sizeLine) :
    ∃ H2, Inv X pins sg H2 { s with heap := h', toks := tk } ∧ Stp H ex rho H2 ex rho ∧ WRel X.K T H2 ex rho om ∧ Rep X.K T H2 ex rho (.ref p) (.lst (zipD ds es)) := by
  have hp0 : H p = none := I.hok.fresh hp
  have I1 : Inv X pins sg (upd H p (.lst (as.map V.ref))) { s with heap := h', toks := tk } := I.laid (t' := tk) k hp ⟨by rw [List.length_map]; exact hz, acc.toList, c, by rw [ha]; exact L2.vals_refs as, by rw [Array.toArray_toList]; exact hS⟩
  obtain ⟨H2, I2, keep, tups⟩ := L2.DX.takeT (P := fun a vs => ∃ (j : Nat) (v u : V), as[j]? = some a ∧ vs = [v, u] ∧ us[j]? = some v ∧ us2[j]? = some u) I as _ I1 dr.nd fun a hm => by
    obtain ⟨j, hj⟩ := List.mem_iff_getElem?.mp hm
    obtain ⟨h1, x, y, h2, h3, h4⟩ := dr.at_ j a hj
    have hlt : p < a := h1
    rw [List.getElem?_toArray] at h2 h3
    obtain ⟨v, e1, e2⟩ := vals_get v1 h2
    obtain ⟨u, e3, e4⟩ := vals_get v2 h3
    have hpa : s.heap.objs.size ≤ a := Nat.le_trans hp (Nat.le_of_lt hlt)
    refine ⟨hpa, by rw [upd_ne (Nat.ne_of_gt hlt)]; exact I.hok.fresh hpa, [v, u], ⟨j, v, u, hj, rfl, e1, e3⟩, fun H2 => ⟨by show 2 ≤ sizeLine; rw [sizeLine_eq]; decide, [x, y], .cons e2 (.cons e4 .nil), ⟨_, h4, rfl, _, rfl⟩⟩⟩
  have k2 : ∀ b o, H b = some o → H2 b = some o := fun b o e => keep b o (by rw [upd_ne (ne_of_none e hp0)]; exact e)
  have st : Stp H ex rho H2 ex rho := keep_stp k2
  refine ⟨H2, I2, st, w.keepAll k2, .lst ⟨keep p _ upd_same, w.nex hp0⟩ (reps_at (by rw [List.length_map, hl, zipD_len, ← r1.length, ← r2.length, v1.length, v2.length]) fun j v hv => ?_)⟩
  rw [List.getElem?_map] at hv
  cases hj : as[j]? with
  | none => rw [hj] at hv; cases hv
  | some a =>
    rw [hj] at hv
    cases hv
    obtain ⟨vs, ⟨j', v, u, e1, rfl, e2, e3⟩, e4⟩ := tups a (List.mem_of_getElem? hj)
    have ej : j' = j := nd_ix dr.nd e1 hj
    subst ej
    obtain ⟨d, f1, f2⟩ := r1.get' e2
    obtain ⟨e, f3, f4⟩ := r2.get' e3
    have hm : a ∈ as := List.mem_of_getElem? hj
    obtain ⟨h1, _⟩ := dr.at_ _ a hj
    have hlt : p < a := h1
    have ha0 : H a = none := I.hok.fresh (Nat.le_trans hp (Nat.le_of_lt hlt))
    exact ⟨_, zipD_get f1 f3, .tup ⟨e4, w.nex ha0⟩ (.cons (f2.step st w.sub) (.cons (f4.step st w.sub) .nil))⟩
theorem de_listZip {a b : Expr} {f g : DV} {p p2 q pos : Pos} (hc : X.calm = true) (hg : Gl X "list") (hm : X.mg "list" = none) (hg2 : Gl X "zip") (hm2 : X.mg "zip" = none) (ha : DE X T a f) (hb : DE X T b g)
    (he : starEach [a, b] X.env = (false, eval a X.env) :: starEach [b] X.env := by rfl) (he2 : starEach [b] X.env = (false, eval b X.env) :: starEach [] X.env := by rfl) (hpl : (backTo q (starEach [b] X.env)).any (·.1) = false := by rfl)
    (hv : bootBuiltins "list" = some (.type "list") := by decide +kernel) (hv2 : bootBuiltins "zip" = some (.type "zip") := by decide +kernel) : DE X T (.Call (.Name "list" p) [.Call (.Name "zip" p2) [a, b] [] q] [] pos) (e2 kListZip f g) := fun W tk => ⟨fun pins s sg H Q I ⟨ex, rho, om, env, w, er, o⟩ => by
  refine Call_ (ld_blt I hg hm hv ?_)
  refine PyProof.Rows.callWith_type1 (PyProof.Rows.args_cons ?_ rfl) rfl rfl
  refine Call_ (ld_blt I hg2 hm2 hv2 ?_)
  refine PyProof.Rows.callWith_type1 (thn ((pa_cons (ha W tk) (pa_cons (hb W tk) pa_nil he2) he).run q pins s sg H (fun vs H2 => ∃ x y om2 ex2 rho2 v u, vs = [v, u] ∧ WRel X.K T H2 ex2 rho2 om2 ∧ Rep X.K T H2 ex2 rho2 v x ∧ Rep X.K T H2 ex2 rho2 u y ∧ Out X.K T (Rep X.K T) W sg H2 ex2 rho2 Q (kListZip x y om2)) I ?_) fun us s1 ⟨vs, H1, I1, r1, q1⟩ => ?_) he hpl
  · refine ⟨ex, rho, om, env, w, er, (Out.bind (rel := Rep X.K T) o).mono ?_⟩
    rintro v H1 ⟨x, om1, ex1, rho1, _, st, w1, rx, o1⟩
    refine ⟨ex1, rho1, om1, env, w1, er.step st w.sub, (Out.bind (rel := Rep X.K T) o1).mono ?_⟩
    rintro u H2 ⟨y, om2, ex2, rho2, _, st2, w2, ry, o2⟩
    exact ⟨x, y, om2, ex2, rho2, v, u, rfl, w2, rx.step st2 w1.sub, ry, o2⟩
  · obtain ⟨x, y, om2, ex2, rho2, v, u, rfl, w2, rx, ry, o2⟩ := q1
    unfold kListZip at o2
    split at o2
    case h_2 => exact o2.elim
    rename_i xs ys hx hy
    split at o2
    case isFalse => exact o2.elim
    rename_i hlen
    obtain ⟨l1, vs1, rfl, sq1, rs1⟩ := lst_sq w2 rx hx
    obtain ⟨l2, vs2, rfl, sq2, rs2⟩ := lst_sq w2 ry hy
    obtain ⟨u1, u2, rfl, e1, e2⟩ := vals2 r1
    cases e1
    cases e2
    obtain ⟨i1, rv1, pl1, _⟩ := I1.list sq1
    obtain ⟨i2, rv2, pl2, _⟩ := I1.list sq2
    have n1 : l1 < s1.heap.objs.size := by obtain ⟨o, ho, _⟩ := pl1.isList; exact Heap.lt_size ho
    have n2 : l2 < s1.heap.objs.size := by obtain ⟨o, ho, _⟩ := pl2.isList; exact Heap.lt_size ho
    have lz : i1.length ≤ 1000000 := by rw [← rv1.length, rs1.length]; exact hlen
    refine call_zip_2 pl1.isList pl2.isList fun h1 z1 z2 z3 z4 z5 z6 z7 => PyProof.Rows.args_nil ?_
    have plus : ∀ {b : Addr} {n : Nat}, b < s1.heap.objs.size → b ≠ s1.heap.objs.size + n := fun hb => Nat.ne_of_lt (Nat.lt_of_lt_of_le hb (Nat.le_add_right _ _))
    have D : ZipApart (s1.heap.objs.size + 4) (s1.heap.objs.size + 2) (s1.heap.objs.size + 3) s1.heap.objs.size (s1.heap.objs.size + 1) l1 l2 := by
      have two : ∀ {m n : Nat}, m ≠ n → s1.heap.objs.size + m ≠ s1.heap.objs.size + n := fun h e => h (Nat.add_left_cancel e)
      exact ⟨two (by decide), two (by decide), two (m := 0) (by decide), two (by decide), two (by decide), two (n := 0) (by decide), two (by decide), two (n := 0) (by decide), two (by decide), two (m := 0) (by decide), plus n1, plus n1, plus (n := 0) n1, plus n1, plus n2, plus n2, plus (n := 0) n2, plus n2⟩
    have old : ∀ b o, s1.heap.get? b = some o → b ≠ s1.heap.objs.size + 4 ∧ b ≠ s1.heap.objs.size + 3 ∧ b ≠ s1.heap.objs.size ∧ b ≠ s1.heap.objs.size + 1 := fun b o e => ⟨plus (Heap.lt_size e), plus (Heap.lt_size e), plus (n := 0) (Heap.lt_size e), plus (Heap.lt_size e)⟩
    have hmin : min i1.toArray.size i2.toArray.size ≤ 1000000 := by
      rw [List.size_toArray, List.size_toArray]
      omega
    refine list_of_zip (s := { s1 with heap := h1 }) (I1.ok.hd hc) D ⟨⟨z2, z4, z5, pl1.isList.at fun o e => z7 _ o e, pl2.isList.at fun o e => z7 _ o e⟩, .inl ⟨z1, _, _, z3⟩⟩ ⟨_, z3⟩ (million_line hmin) fun h' tk' acc c as kp g ha hl dr => ?_
    obtain ⟨H2, I2, st, w3, rep⟩ := zip_laid (tk := tk') I1 w2 (fun b o e => by
      obtain ⟨a1, a2, a3, a4⟩ := old b o e
      exact kp b o a1 a2 a3 a4 (z7 b o e)) (by show s1.heap.objs.size ≤ h1.objs.size; rw [z6]; exact Nat.le_add_right _ _) g ha (by simpa using hl) dr rv1 rv2 rs1 rs2 (by rw [hl]; exact million_line hmin)
    exact ⟨.ref h1.objs.size, H2, I2, rfl, o2 _ _ _ _ st w3 rep⟩⟩
end
end DL
end Part_DL32
section Part_DL33
set_option maxRecDepth 100000
set_option maxHeartbeats 1600000
/-! a, *b = xs -/
namespace DL
open PySem PySem.Spec PyProof.Rows L2
section
variable {prog : Program} {w : World} {A : Around} {E : Value → Shared → Prop} {s : Shared}
/-- the first item, the others in a new list -/
theorem star_items {l : Addr} {items : Array Value} {x : Value} {Q : List Value → Shared → Prop} (hl : s.heap.IsList l items) (hh : A.handled = none) (h0 : items[0]? = some x) (hz : items.size ≤ sizeLine)
    (h : ∀ D h' tk, (∀ b o, s.heap.get? b = some o → h'.get? b = some o) → s.heap.get? D = none → h'.get? D = some { cls := .type "list", data := .seq (items.toList.drop 1).toArray } → Q [x, .ref D] { s with heap := h', toks := tk }) : wpAny (model prog w) A (unpackItems (.ref l) 2 (some 1)) Q E s := by
  have hne : l ≠ s.heap.objs.size := by obtain ⟨o, ho, _⟩ := hl; exact Nat.ne_of_lt (Heap.lt_size ho)
  have h1 : 0 < items.size := (Array.getElem?_eq_some_iff.mp h0).1
  have hfirst : (items.toList.drop 0).take 1 = [x] := by
    rw [List.drop_zero]
    obtain ⟨q⟩ := items
    cases q with
    | nil => simp at h1
    | cons y ys => simp at h0; subst h0; rfl
  unfold unpackItems
  refine wpAny_bind ?_
  unfold notIterableAtAll
  refine wpAny_bind (wpAny_specialOf hl.typeIs slot_list_iter.lookup (wpAny_pure ?_))
  simp only [Bool.false_eq_true, if_false]
  refine wpAny_bind (wpAny_holding (wpAny_pyIter_list hl ?_))
  refine wpAny_bind (wpAny_holding (PySem.W.kun_draw hne 1 0 _ _ ⟨_, Heap.get?_push_size _ rfl, rfl, rfl⟩ (hl.push _) (by omega) fun h1' it1 s1 => ?_))
  have hl1 : h1'.IsList l items := (hl.push _).extBut s1.extBut hne
  obtain ⟨oi, hoi, _⟩ := id it1
  obtain ⟨ol, hol, _⟩ := id hl1
  rw [hfirst]
  rw [if_neg (show ¬ ([x].length < 1) by simp)]
  refine wpAny_bind (wpAny_holding (PySem.W.kun_collect (s := { s with heap := h1' }) (T := "list_iterator") (.inr (.inr (.inl rfl))) (Walks.list (A := A.in1) hh s.heap.objs.size l hne items) (fun j u st => st.1.typeIs) (k := 1) (by omega) ⟨it1, hl1⟩ (Heap.lt_size hoi) (Heap.lt_size hol) (fun h2 tk hk => ?_) hz))
  have hlen : (items.toList.drop 1).length - (2 - 1 - 1) = (items.toList.drop 1).length := by omega
  show wpAny _ _ (if (items.toList.drop 1).length < 2 - 1 - 1 then _ else _) _ _ _
  rw [if_neg (by omega)]
  show wpAny _ _ (newList ((items.toList.drop 1).take ((items.toList.drop 1).length - (2 - 1 - 1))) >>= fun d => pure ([x] ++ [d] ++ (items.toList.drop 1).drop ((items.toList.drop 1).length - (2 - 1 - 1)))) _ _ _
  rw [hlen, List.take_length, List.drop_length]
  have old : ∀ b o, s.heap.get? b = some o → h2.get? b = some o := fun b o e => hk b o (Nat.ne_of_lt (Heap.lt_size e)) (s1.extBut b o (Nat.ne_of_lt (Heap.lt_size e)) (Heap.get?_push_of_some _ e))
  have hnew : s.heap.get? h2.objs.size = none := by
    cases q : s.heap.get? h2.objs.size with
    | none => rfl
    | some o => exact absurd (Heap.lt_size (old _ _ q)) (Nat.lt_irrefl _)
  refine wpAny_bind (wpAny_newList ?_ (by rw [List.length_drop, Array.length_toList]; omega))
  exact wpAny_pure (h _ _ tk (fun b o e => Heap.get?_push_of_some _ (old b o e)) hnew (Heap.get?_push_size _ rfl))
end
/-- a, *b = a list -/
def gStar (g1 g2 : GD) : GD := fun d env om => match lstD om d with
  | some (x :: xs) => (g1 x env om).bind fun env om => g2 (.lst xs) env om
  | _ => .no
section
variable {X : Cx} {T : Ct} {pos p : Pos}
theorem obj_there {P : Program} {w : World} {H : Hp} {h : Heap} {a : Addr} {o : HO} (x : ObjOk P w H h a o) : ∃ u, h.get? a = some u := by
  cases o with
  | lst xs => obtain ⟨_, _, _, _, e⟩ := x; exact ⟨_, e⟩
  | tup xs => obtain ⟨_, _, _, o, e, _⟩ := x; exact ⟨o, e⟩
  | dK kvs => obtain ⟨_, _, _, _, o, _, _, e, _⟩ := x; exact ⟨o, e⟩
  | dT kvs => obtain ⟨_, _, _, _, o, _, _, e, _⟩ := x; exact ⟨o, e⟩
  | set S n => obtain ⟨o, _, _, _, e, _⟩ := x; exact ⟨o, e⟩
  | ins C dx fs => obtain ⟨_, _, _, e, _⟩ := x; exact ⟨_, e⟩
  | own y => obtain ⟨o, e⟩ := x; exact ⟨o, e⟩
  | xd fs => obtain ⟨_, ⟨o, _, _, e, _⟩, _⟩ := x; exact ⟨_, e⟩
  | rng lo hi => obtain ⟨_, _, _, e⟩ := x; exact ⟨_, e⟩
  | frz ob u => obtain ⟨e, _⟩ := x; exact ⟨_, e⟩
  | tbl ps => exact ⟨_, show h.get? a = some _ from x⟩
  | met f y => exact ⟨_, show h.get? a = some _ from x⟩
  | ext φ => obtain ⟨_, ⟨o, e⟩, _⟩ := x; exact ⟨o, e⟩
theorem fresh_of {pins : List (Addr × Obj)} {sg : L2.St} {H : Hp} {s : Shared} {a : Addr} (I : Inv X pins sg H s) (h : s.heap.get? a = none) : H a = none := by
  cases e : H a with
  | none => rfl
  | some o =>
    obtain ⟨u, hu⟩ := obj_there (I.hok a o e)
    rw [h] at hu
    cases hu
theorem dg_star {t1 t2 : Expr} {k : Nat} {g1 g2 : GD} {ws : List Nat} (hc : X.calm = true) (h1 : DG X T ws t1 g1) (h2 : DG X T ws t2 g2) (ha : assignEach [t1, .Starred t2 p] X.env = [(false, assign t1 X.env), (true, assign t2 X.env)] := by rfl) : DG X T ws (.Tuple [t1, .Starred t2 p] k pos) (gStar g1 g2) := fun W tk => ⟨fun pins s sg H v u Q I r ⟨ex, rho, om, env, d, w, er, rd, o⟩ => by
  unfold gStar at o
  split at o
  case h_2 => exact o.elim
  rename_i x xs hx
  obtain ⟨a, vs, rfl, sq, rs⟩ := lst_sq w rd hx
  cases r
  obtain ⟨its, rv, pl, hz⟩ := I.list sq
  cases rs with
  | @cons v0 _ vs' _ r0 rt =>
    cases rv with
    | @cons _ u0 _ us' e0 et =>
      rw [PyProof.Rows.assign_Tuple]
      refine wpAny_bind (wpAny_standAt ?_)
      unfold unpack
      rw [ha]
      refine wpAny_bind (wpAny_holding (star_items pl.isList (I.ok.hd hc) rfl (by rw [List.size_toArray]; have := rt.length; have := et.length; simp only [List.length_cons] at hz ⊢; omega) fun D h' tk' kp hn hD => ?_))
      have hD0 : H D = none := fresh_of I hn
      have I1 : Inv X pins sg (upd H D (.lst vs')) { s with heap := h', toks := tk' } := L2.Inv.laidN I kp hn hD0 ⟨by simp only [List.length_cons] at hz; omega, us', _, et, hD⟩
      have st : Stp H ex rho (upd H D (.lst vs')) ex rho := lay_stp hD0
      have w1 := w.lay (o := .lst vs') hD0
      have hDr : Rep X.K T (upd H D (.lst vs')) ex rho (.ref D) (.lst xs) := .lst ⟨upd_same, w.nex hD0⟩ (rt.step st w.sub)
      show wpAny _ _ (assignInOrder [assign t1 X.env, assign t2 X.env] [u0, .ref D]) _ _ _
      cases hg : g1 x env om with
      | ok env1 om1 =>
        rw [hg] at o
        simp only [R.bind_ok] at o
        refine assignInOrder_cons (thn ((h1 W tk).run pins _ sg _ v0 u0 (fun sg1 H1 => ∃ ex1 rho1, wipe sg1 ws = wipe sg ws ∧ Stp (upd H D (.lst vs')) ex rho H1 ex1 rho1 ∧ WRel X.K T H1 ex1 rho1 om1 ∧ ERel X.K T H1 ex1 rho1 sg1 env1) I1 e0 ⟨ex, rho, om, env, x, w1, er.step st w.sub, r0.step st w.sub, ?_⟩) fun _ s1 ⟨sg1, H1, I2, q⟩ => ?_)
        · rw [hg]
          exact fun sg' H' ex' rho' ew st' w' er' => ⟨ex', rho', ew, st', w', er'⟩
        · obtain ⟨ex1, rho1, ew, st1, w2, er1⟩ := q
          refine assignInOrder_cons (thn ((h2 W tk).run pins s1 sg1 H1 (.ref D) (.ref D) Q I2 rfl ⟨ex1, rho1, om1, env1, .lst xs, w2, er1, hDr.step st1 w1.sub, ?_⟩) fun _ s2 ⟨sg2, H2, I3, q3⟩ => ?_)
          · have st01 := st.trans st1 (st.there w1)
            exact OutG.step st01 w2 ew o
          · exact wpAny_pure ⟨sg2, H2, I3, q3⟩
      | exc _ _ => rw [hg] at o; exact o.elim
      | no => rw [hg] at o; exact o.elim⟩
end
end DL
end Part_DL33
section Part_DL34
set_option maxRecDepth 100000
set_option maxHeartbeats 1600000
/-! defs that are called where no text is being written of a container -/
namespace DL
open PySem PySem.Spec PyProof.Rows L2

/-- a promise for callers without guards -/
structure FnG (P : Program) (w : World) (K : PySem.W.Frag) (mg : Str → Option Value) (base : Heap) (CX : CXT) (k : Nat) (f : Addr) (fd : FuncData) (ps : List Str) (sp : Sp) : Prop where
  len : ∀ vs H Q E, sp vs H Q E → vs.length = ps.length
  run : ∀ (A : Around) (out : List Env) (s : Shared) (H : Hp) (g : Args) (us : List Value) (vs : List V) (Q : VK) (E : XK), A.guards = some [] → Room k A →
    Env0 P w K mg base A out s H → BindsTo s fd g (ps.zip us) → Vals vs us → sp vs H Q E → codeAny (model P w) A (.call (.ref f) g) (CR CX out P w H s Q E) s

section
variable {P : Program} {w : World} {K : PySem.W.Frag} {mg : Str → Option Value} {base : Heap}
theorem FnG.mono {CX : CXT} {j k : Nat} {f : Addr} {fd : FuncData} {ps : List Str} {sp : Sp} (F : FnG P w K mg base CX j f fd ps sp) (h : j ≤ k) : FnG P w K mg base CX k f fd ps sp :=
  ⟨F.len, fun A out s H g us vs Q E hg hr => F.run A out s H g us vs Q E hg (hr.mono h)⟩

/-- the body of such a def -/
theorem fnG_of {CX : CXT} {k : Nat} {f : Addr} {nm qual : Str} {prm : Arguments} {bd : List Stmt} {scp : Scope} {dv kv doc pm cdv ct oc : Value} {an od : Option Addr} {osl : Array (Option Value)} {N ps : List Str} {sp : Sp}
    (lk : K.lookup f = some ⟨oc, od, .func (PySem.W.fnOf nm qual prm bd scp dv kv doc pm an cdv ct), osl⟩) (hcd : PySem.W.codeIn K cdv qual = true) (S : FnScope N ps scp) (len : ∀ vs H Q E, sp vs H Q E → vs.length = ps.length)
    (hb : ∀ (A : Around) (out : List Env) (s : Shared) (H : Hp) (vs : List V) (Q : VK) (E : XK), A.guards = some [] → Room k (A.deeper (envOfC qual scp s.heap.objs.size f cdv)) → sp vs H Q E →
      ∃ t, PSs (cxOf CX P w K mg base N qual scp f cdv A out s H E) bd t ∧ t { nx := fun _ H1 => Q .non H1, rt := Q } (L2.start N vs) H) :
    FnG P w K mg base CX (k + 1) f (PySem.W.fnOf nm qual prm bd scp dv kv doc pm an cdv ct) ps sp where
  len := len
  run := by
    intro A out s H g us vs Q E hg hr e0 hbi r hsp
    have old : ∀ b o, base.get? b = some o → s.heap.get? b = some o := fun b o e => (e0.bs b o e).1
    have kin : K.In s.heap := e0.mod.kin.keeps old
    have nl : s.heap.NoLimit := e0.mod.nolimit.keeps old
    have names : ∀ y ∈ ps.zip us, scp.names.lookup y.1 = some .local ∨ (scp.names.lookup y.1 = some .cell ∧ ((cellsFrom (s.heap.objs.size + 1) scp.names []).lookup y.1).isSome = true) := by
      rintro ⟨n, v⟩ hy
      cases S.par n (List.of_mem_zip hy).1 with
      | inl q => exact .inl q
      | inr q => exact .inr ⟨q, PySem.W.cellsFrom_some _ _ _ (.inl q)⟩
    refine codeAny_call_function hr.depth (kin _ _ lk) rfl S.co S.gen rfl (PySem.W.codeRec_of kin hcd) (hbi _ _ _ _ (wpAny_newFunctionEnv_cells S.kind names fun env he s1 x => ?_))
    subst he
    refine ⟨nl.keeps x.toInCall.keep, codeAny_func ?_⟩
    obtain ⟨t, ht, hq⟩ := hb A out s H vs Q E hg (hr.deeper _) hsp
    refine wpAny_mono (ht.run [] s1 (L2.start N vs) H _ (inv_start S hr.hd e0 (len _ _ _ _ hsp) r x) hq) (fun fl s2 hs => ?_) fun e s2 hs => hs
    match fl, hs with
    | .ret u, ⟨v, _, H2, J, rv, q⟩ => exact ⟨v, H2, J.os, J.bare, J.base, J.hok, rv, q⟩
    | .next, ⟨_, H2, J, q⟩ => exact ⟨V.non, H2, J.os, J.bare, J.base, J.hok, rfl, q⟩
    | .brk, ⟨_, _, _, q⟩ => exact q.elim
    | .cont, ⟨_, _, _, q⟩ => exact q.elim
end
end DL
end Part_DL34
section Part_DL35
set_option maxRecDepth 100000
set_option maxHeartbeats 1600000
/-! defs of that kind as data, and the law's own call -/
namespace DL
open PySem PySem.Spec PyProof.Rows L2
section
variable {P : Program} {w : World} {K : PySem.W.Frag} {mg : Str → Option Value} {base : Heap} {T : Ct}
/-- THE RULE for a def that is called where nothing is guarded -/
theorem fn_okG {x qual : Str} {st : Stmt} {f : Addr} {fd : FuncData} {N ps : List Str} {k n m : Nat} {keep : Bool} {b : SD} (F : Fun K x qual st f fd) (S : FnScope N ps (defScope st)) (hn : ps.length = n) (hm : N.length = m)
    (h : ∀ (cdv : Value) (A : Around) (outer : List Env) (s : Shared) (H : Hp) (E : XK), A.guards = some [] → Room k (A.deeper (envOfC qual (defScope st) s.heap.objs.size f cdv)) →
      DSs (cxOf (L2.CX P w) P w K mg base N qual (defScope st) f cdv A outer s H E) T (defBody st) b) :
    FnG P w K mg base (L2.CX P w) (k + 1) f fd ps (spD K T n (fnD keep n m b)) := by
  cases F.ex with
  | intro oc z =>
    obtain ⟨od, kV, doc, pm, an, cdv, ct, osl, rfl, lk, hcd⟩ := z
    exact fnG_of lk hcd S (fun vs H Q E q => (spD_len q).trans hn.symm) fun A out s H vs Q E hg hr hsp => fn_body hm (h cdv A out s H E hg hr) hsp
end

section
variable {X : Cx} {T : Ct} {k n : Nat} {fa : Addr} {fd : FuncData} {ps : List Str} {F : List Dat → Om → R Dat} {sp : Sp} {E : L2.St → XK} {x : Str} {p pos : Pos} {dvs : List V} {ds : List Value} {dds : List Dat} {a : Expr} {es : List Expr} {as : En → Om → R (List Dat)} {t : TA}
theorem pe_callG (F : FnG X.prog X.w X.K X.mg X.base (L2.CX X.prog X.w) k fa fd ps sp) (hgu : X.A.guards = some []) (hr : Room k X.A) (hg : Gl X x) (hm : X.mg x = some (.ref fa)) (hk : PySem.W.keepIn X.K (.ref fa) = true) (hb : Binds X.K fd ps ds) (hd : Vals dvs ds)
    (hx : ∀ sg, PassesAt (L2.CX X.prog X.w) X sg (E sg)) (ha : PA X (a :: es) t) (hdb : (x == ("__debug__" : Str)) = false) (he : starEach (a :: es) X.env = (false, eval a X.env) :: starEach es X.env) (hpl : (backTo pos (starEach es X.env)).any (·.1) = false) :
    PE X (.Call (.Name x p) (a :: es) [] pos) (tCallSD sp dvs E t) where
  run := fun pins s sg H Q I h => wpAny_Call_Name_kw (ld_glob I hg hm (PySem.W.callWith_K (h₀ := X.base) I.ok.mod.kin hk (thn (ha.run pos pins s sg H _ I h) fun us s1 ⟨vs, H1, I1, r, q⟩ => ⟨I1.kIn, by
    have all := r.append hd
    have hl : (us ++ ds).length = ps.length := all.length.symm.trans (F.len _ _ _ _ q)
    refine wpAny_call (codeAny_mono (F.run X.A X.stack s1 H1 _ _ _ Q (E sg) hgu hr I1.env0 (hb s1 us I1.kIn hl) all q) fun res s2 hq => ?_)
    match res, hq with
    | .error e, hq => exact hx sg pins H1 s1 e s2 I1 hq
    | .ok (.ret u), hq => exact I1.after hq
    | .ok .next, hq => exact hq.elim
    | .ok .brk, hq => exact hq.elim
    | .ok .cont, hq => exact hq.elim⟩) he hpl) hdb)
theorem de_callG (G : FnG X.prog X.w X.K X.mg X.base (L2.CX X.prog X.w) k fa fd ps (spD X.K T n F)) (hgu : X.A.guards = some []) (hr : Room k X.A) (hg : Gl X x) (hm : X.mg x = some (.ref fa)) (hk : PySem.W.keepIn X.K (.ref fa) = true) (hb : Binds X.K fd ps ds) (hd : Vals dvs ds)
    (hdd : ∀ H ex rho, Reps X.K T H ex rho dvs dds) (ha : DA X T (a :: es) as) (hdb : (x == ("__debug__" : Str)) = false := by decide) (he : starEach (a :: es) X.env = (false, eval a X.env) :: starEach es X.env := by rfl)
    (hpl : (backTo pos (starEach es X.env)).any (·.1) = false := by rfl) : DE X T (.Call (.Name x p) (a :: es) [] pos) (eCall n dds F as) := fun W tk =>
  pe_mono (pe_callG (E := fun sg c d H1 => W c d sg H1) G hgu hr hg hm hk hb hd (fun sg => L2.passAt tk sg) (ha W tk) hdb he hpl) fun sg H Q q => by
  obtain ⟨ex, rho, om, env, w, er, o⟩ := q
  refine ⟨ex, rho, om, env, w, er, (Out.bind (rel := Reps X.K T) o).mono ?_⟩
  rintro vs H1 ⟨xs, om1, ex1, rho1, _, st, w1, rx, o1⟩
  split at o1
  · rename_i hl
    refine ⟨ex1, rho1, om1, xs ++ dds, w1, rx.append (hdd _ _ _), by rw [List.length_append]; exact hl, ?_⟩
    revert o1
    cases F (xs ++ dds) om1 <;> exact id
  · exact o1.elim
end

/-! ### the head -/
section
theorem only_none : Only (fun _ => none) := fun _ => .inl rfl
/-- the law's call in a tracked heap in which the script is alone -/
theorem call_at {P : Program} {w : World} {K : PySem.W.Frag} {mg mb : Str → Option Value} {CX : CXT} {k : Nat} {fa a : Addr} {fd : FuncData} {x : Str} {sp : Sp} {s0 : Shared} {sc : Obj} {H : Hp}
    (KX : K.In s0.heap) (hns : s0.heap.Ns mainGlobals mg) (hb : s0.heap.Ns builtinsNs mb) (hbb : ∀ x : Str, x ≠ "__name__" → mb x = bootBuiltins x) (hlim : s0.heap.NoLimit) (hgen : s0.gens = #[]) (hr : Room k callerA)
    (ha : s0.heap.get? a = some sc) (hseq : ∀ es ep, sc.data ≠ .dict es ep)
    (F : ∀ bs : Heap, K.In bs → bs.Ns mainGlobals mg → FnG P w K mg bs CX k fa fd [x] sp) (hbind : ∀ (s : Shared) (u : Value), BindsTo s fd ⟨[u], []⟩ [(x, u)])
    (hO : Only H) (hok : HOk P w H s0.heap) (hA : ∀ b, H b ≠ none → b = a) (hK : H a ≠ none → K.lookup a = none)
    (hsp : sp [.ref a] H (fun v _ => v = .bl true) fun _ _ _ => False) (hCX : ∀ e s', CX [] H s0 (fun _ _ _ => False) e s' → False) :
    codeAny (model P w) callerA (.call (.ref fa) ⟨[.ref a], []⟩) (fun r s' => r = .ok (.ret (.bool true)) ∧ OldK s0.heap s'.heap ∧ s'.os = s0.os ∧ AllBare s'.gens) s0 := by
  have off : ∀ {b : Addr} {o : Obj}, s0.heap.get? b = some o → (∃ es ep, o.data = .dict es ep) ∨ K.lookup b = some o → H b = none := fun {b o} e why => Classical.byContradiction fun n => by
    have eb := hA b n
    subst eb
    cases why with
    | inl d => obtain ⟨es, ep, d⟩ := d; rw [ha] at e; cases e; exact hseq _ _ d
    | inr q => rw [hK n] at q; cases q
  have keepN : ∀ {b : Addr} {m : Str → Option Value}, s0.heap.Ns b m → (hidT s0.heap H).Ns b m := fun q => by
    obtain ⟨o, es, ep, e, d, r⟩ := q
    exact ⟨o, es, ep, hidT_get e (off e (.inl ⟨es, ep, d⟩)), d, r⟩
  have kin : K.In (hidT s0.heap H) := fun b o e => hidT_get (KX b o e) (off (KX b o e) (.inr e))
  obtain ⟨mc, l1, l2⟩ := hlim
  have e0 : Env0 P w K mg (hidT s0.heap H) callerA [] s0 H :=
    { frames := rfl, mod := ⟨kin, keepN hns, ⟨mb, keepN hb, hbb⟩, ⟨mc, keepN l1, l2⟩⟩, bs := fun b o e => of_hidT e, bsz := Nat.le_of_eq (hidT_size _ _), funs := trivial, frf := fun b z => (nomatch z), hok := hok, bare := .of_eq hgen }
  refine codeAny_mono ((F _ kin (keepN hns)).run callerA [] s0 H _ [.ref a] [.ref a] _ _ rfl hr e0 (hbind s0 _) (.cons rfl .nil) hsp) fun res s' hq => ?_
  match res, hq with
  | .error e, hq => exact (hCX e s' hq).elim
  | .ok .next, hq => exact hq.elim
  | .ok .brk, hq => exact hq.elim
  | .ok .cont, hq => exact hq.elim
  | .ok (.ret u), ⟨v, H2, os, bare, un, hok2, rv, q⟩ =>
    cases (show v = .bl true from q)
    cases (show u = Value.bool true from rv)
    refine ⟨rfl, OldK.of_keep fun b o e => ?_, os, bare⟩
    cases hb : H b with
    | none => exact un.keep b o e hb (fun z => nomatch z) (fun z => nomatch z)
    | some u0 =>
      obtain z | ⟨ob, xs, z⟩ := hO b
      · exact absurd (hb.symm.trans z) nofun
      · have g1 := (hok b _ z).1
        have g2 := (hok2 b _ (un.frzs b ob _ z)).1
        exact (e.symm.trans g1) ▸ g2

theorem law_callG {P : Program} {w : World} {K : PySem.W.Frag} {mg mb : Str → Option Value} {CX : CXT} {k : Nat} {fa a : Addr} {fd : FuncData} {x : Str} {sp : Sp} {s0 : Shared} {vs : List Value} {ns : List Int}
    (KX : K.In s0.heap) (hns : s0.heap.Ns mainGlobals mg) (hb : s0.heap.Ns builtinsNs mb) (hbb : ∀ x : Str, x ≠ "__name__" → mb x = bootBuiltins x) (hlim : s0.heap.NoLimit) (hgen : s0.gens = #[])
    (ha : s0.heap.get? a = some { cls := .type "list", data := .seq vs.toArray }) (hi : IntsAre vs ns) (hl : ns.length ≤ sizeLine) (hr : Room k callerA)
    (F : ∀ bs : Heap, K.In bs → bs.Ns mainGlobals mg → FnG P w K mg bs CX k fa fd [x] sp) (hbind : ∀ (s : Shared) (u : Value), BindsTo s fd ⟨[u], []⟩ [(x, u)])
    (hsp : ∀ H : Hp, Only H → SqL K H a (ns.map V.int) → sp [.ref a] H (fun v _ => v = .bl true) fun _ _ _ => False) (hCX : ∀ H e s', CX [] H s0 (fun _ _ _ => False) e s' → False) :
    codeAny (model P w) callerA (.call (.ref fa) ⟨[.ref a], []⟩) (fun r s' => r = .ok (.ret (.bool true)) ∧ OldK s0.heap s'.heap ∧ s'.os = s0.os ∧ AllBare s'.gens) s0 := by
  have rv := vals_ints hi
  cases hk : K.lookup a with
  | some o =>
    have eo : o = { cls := .type "list", data := .seq vs.toArray } := Option.some.inj ((KX a o hk).symm.trans ha)
    subst eo
    refine call_at (H := fun _ => none) KX hns hb hbb hlim hgen hr ha (fun _ _ => nofun) F hbind only_none (fun _ _ => nofun) (fun b z => (z rfl).elim) (fun z => (z rfl).elim) (hsp _ only_none (.inr ⟨_, vs.toArray, _, hk, rfl, rfl, rfl, ?_, ?_⟩)) fun e s' => hCX _ e s'
    · rw [List.size_toArray, hi.length]; exact hl
    · simpa using rv
  | none =>
    have hO : Only fun b => if b = a then some (.frz { cls := .type "list", data := .seq vs.toArray } (.lst (ns.map V.int))) else none := fun b => by
      by_cases hba : b = a
      · exact .inr ⟨_, _, if_pos hba⟩
      · exact .inl (if_neg hba)
    refine call_at KX hns hb hbb hlim hgen hr ha (fun _ _ => nofun) F hbind hO (fun b u z => ?_) (fun b z => Classical.byContradiction fun n => z (if_neg n)) (fun _ => hk) (hsp _ hO (.inl (.inr ⟨_, if_pos rfl⟩))) fun e s' => hCX _ e s'
    by_cases hba : b = a
    · subst hba
      rw [if_pos rfl] at z
      cases z
      exact ⟨ha, (List.length_map V.int).symm ▸ hl, vs, _, rv, ha⟩
    · rw [if_neg hba] at z; cases z

theorem walk_ofG {l : PySem.W.OpenLaw} {n k : Nat} {q : Program} {loose : List Str} {XP : (Str → Option Value) → Heap → Prop} {YP : World → Heap → Prop} {d : DefRec} {K : Params → PySem.W.Frag} {CX : World → CXT} {sp : World → Sp} {x : Str}
    (hn : l.most = some n) (hn2 : n ≤ sizeLine) (hdf : d.params.defaults = []) (hr : Room k callerA) (hY : ∀ (w : World) (h : Heap), YP w h → (K w.params).In h)
    (F : ∀ (w : World) (mg : Str → Option Value) (fa : Addr) (h : Heap), (K w.params).In h → h.Ns mainGlobals mg → mg d.name = some (.ref fa) →
      ∃ fd : FuncData, (∀ (s : Shared) (u : Value), BindsTo s fd ⟨[u], []⟩ [(x, u)]) ∧ ∀ bs : Heap, (K w.params).In bs → bs.Ns mainGlobals mg → FnG l.prog w (K w.params) mg bs (CX w) k fa fd [x] (sp w))
    (hsp : ∀ (w : World) (H : Hp) (a : Addr) (ns : List Int), ns.length ≤ n → (∀ z ∈ ns, Builtin.Int.intBits z ≤ 1048576) → Only H → SqL (K w.params) H a (ns.map V.int) → sp w [.ref a] H (fun v _ => v = .bl true) fun _ _ _ => False)
    (hCX : ∀ (w : World) (H : Hp) (s : Shared) (e : Value) (s' : Shared), CX w [] H s (fun _ _ _ => False) e s' → False) : PySem.W.WalkO q loose XP YP l.row.toRowW d [] (fun f vs => PySem.call f vs) :=
  Att.attach_callB hn hdf fun w s₀ s1 mg mb fa o pm cd doc a vs ns G Y ho hd hcd hmg hobj hints hlen hbits hgen =>
    have KX := hY w _ Y
    let ⟨fd, hb, hF⟩ := F w mg fa _ KX G.T.g hmg
    law_callG KX G.T.g G.T.b G.T.builtins G.T.nolimit hgen hobj hints (Nat.le_trans hlen hn2) hr hF hb (fun H hO hS => hsp w H a ns hlen hbits hO hS) fun H e s2 => hCX w H s1 e s2
end
end DL
end Part_DL35
section Part_DL36
set_option maxRecDepth 100000
set_option maxHeartbeats 1600000
/-! repr(x) of tuples and of dicts -/
namespace DL
open PySem PySem.Spec PyProof.Rows L2 PySem.W
mutual
def okS : Nat → Dat → Bool
  | _, .non => true
  | _, .bl _ => true
  | _, .int i => decide (0 ≤ i) && decide (i < 1000)
  | _, .str x => x.all (· < 0x110000)
  | n + 1, .tup xs => okSs n xs
  | _, _ => false
def okSs : Nat → List Dat → Bool
  | _, [] => true
  | n, x :: xs => okS n x && okSs n xs
end
mutual
/-- no text of it is longer -/
def rpW : Dat → Nat
  | .str x => 10 * x.length + 2
  | .tup xs => rpWs xs + 3
  | _ => 5
def rpWs : List Dat → Nat
  | [] => 0
  | x :: xs => rpW x + 2 + rpWs xs
end
mutual
theorem okS_okP : ∀ (n : Nat) (d : Dat), okS n d = true → okP n d = true
  | n, .non, _ => by simp [okP]
  | n, .bl b, _ => by simp [okP]
  | n, .int i, _ => by simp [okP]
  | n, .str x, h => by simpa [okP, okS] using h
  | n + 1, .tup xs, h => by
    simp only [okP]
    exact okSs_okPs n xs (by simpa [okS] using h)
  | 0, .tup _, h => by simp [okS] at h
  | n, .wt _, h => by cases n <;> simp [okS] at h
  | n, .lst _, h => by cases n <;> simp [okS] at h
  | n, .frl _, h => by cases n <;> simp [okS] at h
  | n, .dct _ _, h => by cases n <;> simp [okS] at h
  | n, .ins _ _, h => by cases n <;> simp [okS] at h
  | n, .cell _, h => by cases n <;> simp [okS] at h
theorem okSs_okPs : ∀ (n : Nat) (ds : List Dat), okSs n ds = true → okPs n ds = true
  | n, [], _ => by simp [okPs]
  | n, d :: ds, h => by
    have h' : okS n d = true ∧ okSs n ds = true := by simpa [okSs] using h
    simp only [okPs, okS_okP n d h'.1, okSs_okPs n ds h'.2, Bool.and_self]
end
theorem small_text : ∀ n : Nat, n < 1000 → (Str.ofString (toString (Int.ofNat n))).length ≤ 5 := by
  have : ∀ n : Fin 1000, (Str.ofString (toString (Int.ofNat n.1))).length ≤ 5 := by decide +kernel
  exact fun n h => this ⟨n, h⟩
theorem piled_tuple (ts : List Str) : (tupleText ts).length ≤ piled ts + 3 := by
  unfold tupleText
  rw [strLen_append, strLen_append]
  have e1 : ((("(" : String) : Str)).length = 1 := rfl
  have e3 : (((if ts.length == 1 then ",)" else ")" : String) : Str)).length ≤ 2 := by split <;> decide
  rw [e1]
  cases h : ts with
  | nil =>
    have : (Str.join ", " ([] : List Str)).length = 0 := rfl
    subst h
    rw [this]
    omega
  | cons t r =>
    have := join_length_add (t :: r) (by simp)
    subst h
    omega
theorem piled_dict (ts : List Str) : (dictText ts).length ≤ piled ts + 2 := by
  unfold dictText
  rw [strLen_append, strLen_append]
  have e1 : ((("{" : String) : Str)).length = 1 := rfl
  have e3 : ((("}" : String) : Str)).length = 1 := rfl
  rw [e1, e3]
  cases h : ts with
  | nil =>
    have : (Str.join ", " ([] : List Str)).length = 0 := rfl
    rw [this]
    omega
  | cons t r =>
    have := join_length_add (t :: r) (by simp)
    omega
mutual
theorem okS_shown : ∀ (n : Nat) (d : Dat), okS n d = true → (toPy d).showable = true ∧ (toPy d).hasDict = false ∧ (toPy d).shown.length ≤ rpW d
  | n, .non, _ => by
    refine ⟨by simp [toPy, PyData.showable], by simp [toPy, PyData.hasDict], ?_⟩
    simp only [toPy, PyData.shown, rpW]
    decide
  | n, .bl b, _ => by
    refine ⟨by simp [toPy, PyData.showable], by simp [toPy, PyData.hasDict], ?_⟩
    simp only [toPy, PyData.shown, rpW]
    cases b <;> decide
  | n, .int i, h => by
    have h' : 0 ≤ i ∧ i < 1000 := by simpa [okS] using h
    obtain ⟨m, rfl⟩ := Int.eq_ofNat_of_zero_le h'.1
    refine ⟨?_, by simp [toPy, PyData.hasDict], ?_⟩
    · simp only [toPy, PyData.showable, decide_eq_true_eq]
      have hm : m < 1000 := by omega
      have : (Int.natAbs (m : Int)).log2 < 10 := by
        rw [Int.natAbs_natCast]
        by_cases hz : m = 0
        · subst hz; decide
        · exact (Nat.log2_lt hz).2 (by omega)
      omega
    · simp only [toPy, PyData.shown, rpW]
      exact small_text m (by omega)
  | n, .str x, h => by
    refine ⟨by simp [toPy, PyData.showable], by simp [toPy, PyData.hasDict], ?_⟩
    simp only [toPy, PyData.shown, rpW]
    have := PySem.StrLaws.reprText_len ⟨x.toArray⟩ (fun c hc => by
      have h' : ∀ c ∈ x, c < 0x110000 := by simpa [okS] using h
      have := h' c (by simpa using hc)
      omega)
    have e : (Str.mk x.toArray).length = x.length := by simp [Str.length]
    rw [e] at this
    exact this
  | n + 1, .tup xs, h => by
    obtain ⟨h1, h2, h3⟩ := okSs_shown n xs (by simpa [okS] using h)
    refine ⟨by simpa [toPy, PyData.showable] using h1, by simpa [toPy, PyData.hasDict] using h2, ?_⟩
    simp only [toPy, PyData.shown, rpW]
    exact Nat.le_trans (piled_tuple _) (by omega)
  | 0, .tup _, h => by simp [okS] at h
  | n, .wt _, h => by cases n <;> simp [okS] at h
  | n, .lst _, h => by cases n <;> simp [okS] at h
  | n, .frl _, h => by cases n <;> simp [okS] at h
  | n, .dct _ _, h => by cases n <;> simp [okS] at h
  | n, .ins _ _, h => by cases n <;> simp [okS] at h
  | n, .cell _, h => by cases n <;> simp [okS] at h
theorem okSs_shown : ∀ (n : Nat) (ds : List Dat), okSs n ds = true → PyData.showableAll (toPys ds) = true ∧ PyData.hasDictAll (toPys ds) = false ∧ piled (PyData.shownAll (toPys ds)) ≤ rpWs ds
  | n, [], _ => by simp [toPys, PyData.showableAll, PyData.hasDictAll, PyData.shownAll, piled, rpWs]
  | n, d :: ds, h => by
    have h' : okS n d = true ∧ okSs n ds = true := by simpa [okSs] using h
    obtain ⟨a1, a2, a3⟩ := okS_shown n d h'.1
    obtain ⟨b1, b2, b3⟩ := okSs_shown n ds h'.2
    refine ⟨by simp [toPys, PyData.showableAll, a1, b1], by simp [toPys, PyData.hasDictAll, a2, b2], ?_⟩
    simp only [toPys, PyData.shownAll, rpWs]
    rw [piled_cons]
    omega
end
/-- the data that is shown -/
def pyR : Dat → PyData
  | .dct ks vs => .dict ((toPys ks).zip (toPys vs))
  | d => toPy d
def okR : Dat → Bool
  | .dct ks vs => (ks.all isStr || ks.all isTupS) && vs.all isInt && okSs 2 ks && okSs 2 vs && ks.length == vs.length && decide (rpWs ks + rpWs vs + 2 * ks.length ≤ 900000)
  | .tup xs => okSs 8 xs && decide (rpWs xs ≤ 900000)
  | _ => false
def kRepr (ds : List Dat) (om : Om) : R Dat := match ds with
  | [d] => if okR d = true then .ok (.str (pyR d).shown.cps.toList) om else .no
  | _ => .no
theorem shownKv_of : ∀ (ks vs : List Dat), ks.length = vs.length → piled (PyData.shownKv ((toPys ks).zip (toPys vs))) ≤ piled (PyData.shownAll (toPys ks)) + piled (PyData.shownAll (toPys vs)) + 2 * ks.length
  | [], [], _ => by simp [toPys, PyData.shownKv, PyData.shownAll, piled]
  | [], _ :: _, h => by simp at h
  | _ :: _, [], h => by simp at h
  | k :: ks, v :: vs, h => by
    have ih := shownKv_of ks vs (by simpa using h)
    simp only [toPys, List.zip_cons_cons, PyData.shownKv, PyData.shownAll, List.length_cons]
    rw [piled_cons, piled_cons, piled_cons, strLen_append, strLen_append]
    have e : (((": " : String) : Str)).length = 2 := rfl
    rw [e]
    omega
theorem showableKv_of : ∀ (ks vs : List Dat), PyData.showableAll (toPys ks) = true → PyData.showableAll (toPys vs) = true → PyData.showableKv ((toPys ks).zip (toPys vs)) = true
  | [], _, _, _ => by simp [toPys, PyData.showableKv]
  | _ :: _, [], _, _ => by simp [toPys, PyData.showableKv]
  | k :: ks, v :: vs, h, h2 => by
    have h' : (toPy k).showable = true ∧ PyData.showableAll (toPys ks) = true := by simpa [toPys, PyData.showableAll] using h
    have h2' : (toPy v).showable = true ∧ PyData.showableAll (toPys vs) = true := by simpa [toPys, PyData.showableAll] using h2
    simp only [toPys, List.zip_cons_cons, PyData.showableKv, h'.1, h2'.1, showableKv_of ks vs h'.2 h2'.2, Bool.and_self]
theorem depthKv_of {n : Nat} : ∀ (ks vs : List Dat), PyData.depthAll (toPys ks) ≤ n → PyData.depthAll (toPys vs) ≤ n → PyData.depthKv ((toPys ks).zip (toPys vs)) ≤ n
  | [], _, _, _ => by simp [toPys, PyData.depthKv]
  | _ :: _, [], _, _ => by simp [toPys, PyData.depthKv]
  | k :: ks, v :: vs, h, h2 => by
    simp only [toPys, PyData.depthAll] at h h2
    have ih := depthKv_of (n := n) ks vs (by omega) (by omega)
    simp only [toPys, List.zip_cons_cons, PyData.depthKv]
    omega
theorem million_fits {n : Nat} (h : n ≤ 1000000) : n ≤ sizeLine := million_line h
section
variable {X : Cx} {T : Ct} {pins : List (Addr × Obj)} {sg : L2.St} {H : Hp} {s : Shared} {ex : Addr → Prop} {rho : List Addr}
theorem reads_list {h : Heap} : ∀ {us : List Value} {ds : List Dat}, EachIs (fun u d => Reads h u (toPy d) []) us ds → ReadsAll h us (toPys ds) []
  | [], [], _ => by simpa [toPys] using ReadsAll.nil
  | u :: us, d :: ds, .cons h1 h2 => by
    have := ReadsAll.cons h1 (reads_list h2)
    simpa [toPys] using this
theorem reads_one (I : Inv X pins sg H s) {u : Value} {v : V} {d : Dat} {n : Nat} (rv : RelV v u) (r : Rep X.K T H ex rho v d) (hk : isStr d = true ∨ isInt d = true ∨ isTupS d = true) (ok : okS n d = true) : Reads s.heap u (toPy d) [] := by
  obtain ⟨as, hr⟩ := Dp.reads I _ v u (r.dp (okS_okP n d ok)) rv
  exact reads_nil hk hr ▸ hr
theorem okSs_mem : ∀ {n : Nat} {ds : List Dat} {d : Dat}, okSs n ds = true → d ∈ ds → okS n d = true
  | n, [], _, _, h => by simp at h
  | n, x :: xs, d, h, hd => by
    have h' : okS n x = true ∧ okSs n xs = true := by simpa [okSs] using h
    rcases List.mem_cons.mp hd with e | e
    · exact e ▸ h'.1
    · exact okSs_mem h'.2 e
/-- repr(x) -/
def rRepr (K : PySem.W.Frag) (T : Ct) : List V → Hp → VK → Prop := fun xs H Q => ∃ v d ex rho om, WRel K T H ex rho om ∧ xs = [v] ∧ Rep K T H ex rho v d ∧ okR d = true ∧ ∀ x : Str, x.cps.toList = (pyR d).shown.cps.toList → Q (.str x) H
theorem call_reprD (hg : X.A.guards = some []) (hu : X.A.units + 64 < cLine) : CallR X (.builtin "repr") (rRepr X.K T) := by
  intro pins s sg H xs us Q I r h
  obtain ⟨v, d, ex, rho, om, w, rfl, rd, ok, q⟩ := h
  obtain ⟨u, rfl, rv⟩ := r.one
  have fin : ∀ (a : Addr) (as : List Addr), Reads s.heap (.ref a) (pyR d) as → (pyR d).showable = true → ((pyR d).hasDict = true → sysModules ∉ as) → (pyR d).depth ≤ 20 → (pyR d).shown.length ≤ 1000000 →
      wpAny (model X.prog X.w) X.A (call (.builtin "repr") [.ref a]) (EP X pins sg Q) X.xe s := fun a as hr hs hm hd hz =>
    repr_of_reads' hr hs hm hg (by omega) (fun b o e => e) (fun h' u tk k => ⟨.str (pyR d).shown, H, I.kept k, ⟨_, rfl⟩, q _ rfl⟩) (million_fits hz)
  cases d with
  | tup ds =>
    have ok' : okSs 8 ds = true ∧ rpWs ds ≤ 900000 := by simpa [okR] using ok
    have okt : okS 9 (.tup ds) = true := by simpa [okS] using ok'.1
    obtain ⟨s1, s2, s3⟩ := okS_shown 9 (.tup ds) okt
    obtain ⟨_, dp⟩ := okP_shape 9 (.tup ds) (okS_okP 9 _ okt)
    have dpw := rd.dp (okS_okP 9 _ okt)
    obtain ⟨as, hr⟩ := Dp.reads I _ v u dpw rv
    obtain ⟨a, rfl⟩ : ∃ a, v = .ref a := by cases rd; exact ⟨_, rfl⟩
    cases rv
    have e : pyR (.tup ds) = toPy (.tup ds) := by simp [pyR]
    rw [← e] at hr s1 s2 s3 dp
    have : rpW (.tup ds) = rpWs ds + 3 := by simp [rpW]
    exact fin a as hr s1 (fun z => by rw [s2] at z; cases z) (by omega) (by omega)
  | dct ks vs =>
    simp only [okR, Bool.and_eq_true, Bool.or_eq_true, decide_eq_true_eq, beq_iff_eq] at ok
    obtain ⟨⟨⟨⟨⟨k1, k2⟩, k3⟩, k4⟩, k5⟩, k6⟩ := ok
    obtain ⟨a, rfl⟩ : ∃ a, v = .ref a := by cases rd <;> exact ⟨_, rfl⟩
    cases rv
    obtain ⟨o, es, ep, R⟩ := raw_of I w rd
    obtain ⟨a1, a2, a3⟩ := okSs_shown 2 ks k3
    obtain ⟨b1, b2, b3⟩ := okSs_shown 2 vs k4
    have kk : ∀ d ∈ ks, isStr d = true ∨ isInt d = true ∨ isTupS d = true := fun d hd => k1.elim (fun h => .inl (List.all_eq_true.mp h d hd)) fun h => .inr (.inr (List.all_eq_true.mp h d hd))
    have vv : ∀ d ∈ vs, isStr d = true ∨ isInt d = true ∨ isTupS d = true := fun d hd => .inr (.inl (List.all_eq_true.mp k2 d hd))
    have rk : ReadsAll s.heap (es.toList.map (·.key)) (toPys ks) [] := reads_list (each_at (us := es.toList.map (·.key)) (by rw [List.length_map, Array.length_toList, R.size]) fun i u hi => by
      rw [List.getElem?_map] at hi
      cases he : es.toList[i]? with
      | none => rw [he] at hi; cases hi
      | some en =>
        rw [he] at hi; cases hi
        obtain ⟨kd, vd, kv, vw, c1, c2, c3, c4, c5, c6⟩ := R.ent i en (by rw [← Array.getElem?_toList]; exact he)
        exact ⟨kd, c1, reads_one I c3 c4 (kk kd (List.mem_of_getElem? c1)) (okSs_mem k3 (List.mem_of_getElem? c1))⟩)
    have rvs : ReadsAll s.heap (es.toList.map (·.val)) (toPys vs) [] := reads_list (each_at (us := es.toList.map (·.val)) (by rw [List.length_map, Array.length_toList, R.size, k5]) fun i u hi => by
      rw [List.getElem?_map] at hi
      cases he : es.toList[i]? with
      | none => rw [he] at hi; cases hi
      | some en =>
        rw [he] at hi; cases hi
        obtain ⟨kd, vd, kv, vw, c1, c2, c3, c4, c5, c6⟩ := R.ent i en (by rw [← Array.getElem?_toList]; exact he)
        exact ⟨vd, c2, reads_one I c5 c6 (vv vd (List.mem_of_getElem? c2)) (okSs_mem k4 (List.mem_of_getElem? c2))⟩)
    have e1 : ((toPys ks).zip (toPys vs)).map (·.1) = toPys ks := List.map_fst_zip (by rw [toPys_len, toPys_len]; omega)
    have e2 : ((toPys ks).zip (toPys vs)).map (·.2) = toPys vs := List.map_snd_zip (by rw [toPys_len, toPys_len]; omega)
    have hr : Reads s.heap (.ref a) (pyR (.dct ks vs)) (a :: [] ++ []) := Reads.dict R.get R.exact_.1 R.data (by rw [e1]; exact rk) (by rw [e2]; exact rvs)
    have dk := (okPs_shape 2 ks (okSs_okPs 2 ks k3)).2
    have dv := (okPs_shape 2 vs (okSs_okPs 2 vs k4)).2
    refine fin a _ hr ?_ (fun _ z => ?_) ?_ ?_
    · simp only [pyR, PyData.showable]
      exact showableKv_of ks vs a1 b1
    · have : sysModules = a := by simpa using z
      subst this
      exact absurd R.sys (by simp)
    · simp only [pyR, PyData.depth]
      have := depthKv_of ks vs dk dv
      omega
    · simp only [pyR, PyData.shown]
      have h1 := piled_dict (PyData.shownKv ((toPys ks).zip (toPys vs)))
      have h2 := shownKv_of ks vs k5
      omega
  | _ => simp [okR] at ok
theorem opd_reprD {K : PySem.W.Frag} : CallD K T (rRepr K T) kRepr := fun W sg H ex rho om Q ds vs w r o => by
  unfold kRepr at o
  split at o
  · rename_i d
    split at o
    · rename_i ok
      obtain ⟨v, rfl, rv⟩ := reps1 r
      exact ⟨v, d, ex, rho, om, w, rfl, rv, ok, fun x hx => o.here w (.str hx)⟩
    · exact o.elim
  · exact o.elim
end
end DL
end Part_DL36
section Part_DL37
set_option maxRecDepth 100000
set_option maxHeartbeats 1600000
/-! defs that the head tells by name -/
namespace DL
open PySem PySem.Spec PyProof.Rows L2
section
variable {P : Program} {w : World} {K : PySem.W.Frag} {mg : Str → Option Value} {base : Heap} {T : Ct}
abbrev FnP (K : PySem.W.Frag) (x : Str) (st : Stmt) (f : Addr) (fd : FuncData) : Prop := FunD K x x (defArgs st) (defBody st) (defScope st) [] [] f fd
theorem fn_okD {x : Str} {st : Stmt} {f : Addr} {fd : FuncData} {N ps : List Str} {k n m : Nat} {keep : Bool} {b : SD} (F : FnP K x st f fd) (S : FnScope N ps (defScope st)) (hn : ps.length = n) (hm : N.length = m)
    (h : ∀ (cdv : Value) (A : Around) (outer : List Env) (s : Shared) (H : Hp) (E : XK), Room k (A.deeper (envOfC x (defScope st) s.heap.objs.size f cdv)) → DSs (cxOf (L2.CX P w) P w K mg base N x (defScope st) f cdv A outer s H E) T (defBody st) b) :
    FnOk P w K mg base (L2.CX P w) (k + 1) f fd ps (spD K T n (fnD keep n m b)) :=
  F.ok S (fun vs H Q E q => (spD_len q).trans hn.symm) fun cdv A outer s H vs Q E hr hsp => fn_body hm (h cdv A outer s H E hr) hsp
theorem fn_okDG {x : Str} {st : Stmt} {f : Addr} {fd : FuncData} {N ps : List Str} {k n m : Nat} {keep : Bool} {b : SD} (F : FnP K x st f fd) (S : FnScope N ps (defScope st)) (hn : ps.length = n) (hm : N.length = m)
    (h : ∀ (cdv : Value) (A : Around) (outer : List Env) (s : Shared) (H : Hp) (E : XK), A.guards = some [] → Room k (A.deeper (envOfC x (defScope st) s.heap.objs.size f cdv)) →
      DSs (cxOf (L2.CX P w) P w K mg base N x (defScope st) f cdv A outer s H E) T (defBody st) b) :
    FnG P w K mg base (L2.CX P w) (k + 1) f fd ps (spD K T n (fnD keep n m b)) := by
  obtain ⟨oc, od, dV, kV, doc, pm, an, cdv, ct, osl, rfl, lk, hcd, _, _⟩ := F.ex
  exact fnG_of lk hcd S (fun vs H Q E q => (spD_len q).trans hn.symm) fun A out s H vs Q E hg hr hsp => fn_body hm (h cdv A out s H E hg hr) hsp

/-- a def that may be called by its name -/
def Has (P : Program) (w : World) (K : PySem.W.Frag) (mg : Str → Option Value) (base : Heap) (T : Ct) (x : Str) (k n : Nat) (F : List Dat → Om → R Dat) : Prop :=
  ∃ (fa : Addr) (fd : FuncData) (ps : List Str), FnOk P w K mg base (L2.CX P w) k fa fd ps (spD K T n F) ∧ mg x = some (.ref fa) ∧ PySem.W.keepIn K (.ref fa) = true ∧ Binds K fd ps []
theorem Has.mono {x : Str} {j k n : Nat} {F : List Dat → Om → R Dat} (h : Has P w K mg base T x j n F) (hj : j ≤ k) : Has P w K mg base T x k n F := by
  obtain ⟨fa, fd, ps, h1, h2⟩ := h
  exact ⟨fa, fd, ps, h1.mono hj, h2⟩
def HasG (P : Program) (w : World) (K : PySem.W.Frag) (mg : Str → Option Value) (base : Heap) (T : Ct) (x : Str) (k n : Nat) (F : List Dat → Om → R Dat) : Prop :=
  ∃ (fa : Addr) (fd : FuncData) (ps : List Str), FnG P w K mg base (L2.CX P w) k fa fd ps (spD K T n F) ∧ mg x = some (.ref fa) ∧ PySem.W.keepIn K (.ref fa) = true ∧ Binds K fd ps []
end
section
variable {X : Cx} {T : Ct} {j k n : Nat} {F : List Dat → Om → R Dat} {x : Str} {p pos : Pos} {a : Expr} {es : List Expr} {as : En → Om → R (List Dat)}
theorem de_fn (h : Has X.prog X.w X.K X.mg X.base T x j n F) (hr : Room k X.A) (hj : j ≤ k) (hg : Gl X x) (ha : DA X T (a :: es) as) (hdb : (x == ("__debug__" : Str)) = false) (he : starEach (a :: es) X.env = (false, eval a X.env) :: starEach es X.env)
    (hpl : (backTo pos (starEach es X.env)).any (·.1) = false) : DE X T (.Call (.Name x p) (a :: es) [] pos) (eCall n [] F as) := by
  obtain ⟨fa, fd, ps, h1, h2, h3, h4⟩ := h
  exact de_call (h1.mono hj) hr hg h2 h3 h4 .nil (fun _ _ _ => .nil) ha hdb he hpl
theorem de_fnG (h : HasG X.prog X.w X.K X.mg X.base T x j n F) (hgu : X.A.guards = some []) (hr : Room k X.A) (hj : j ≤ k) (hg : Gl X x) (ha : DA X T (a :: es) as) (hdb : (x == ("__debug__" : Str)) = false) (he : starEach (a :: es) X.env = (false, eval a X.env) :: starEach es X.env)
    (hpl : (backTo pos (starEach es X.env)).any (·.1) = false) : DE X T (.Call (.Name x p) (a :: es) [] pos) (eCall n [] F as) := by
  obtain ⟨fa, fd, ps, h1, h2, h3, h4⟩ := h
  exact de_callG (h1.mono hj) hgu hr hg h2 h3 h4 .nil (fun _ _ _ => .nil) ha hdb he hpl
theorem dv (i : Nat) {x : Str} {pos : Pos} (hN : X.N[i]? = some x := by rfl) (hv : Vis X.env.scope x := by first | exact Or.inl rfl | exact Or.inr (Or.inl rfl) | exact Or.inr (Or.inr rfl)) (hd : (x == ("__debug__" : Str)) = false := by decide)
    (hcd : (x == ("__classdict__" : Str)) = false := by decide) : DE X T (.Name x pos) (eVar i) := de_var (pv i hN hv hd hcd)
end
/-- the head's end for a law that is called where nothing is guarded -/
theorem walk_ofEG {l : PySem.W.OpenLaw} {n k : Nat} {q : Program} {loose : List Str} {XP : (Str → Option Value) → Heap → Prop} {YP : World → Heap → Prop} {d : DefRec} {CX : World → CXT} {x : Str}
    (hn : l.most = some n) (hn2 : n ≤ sizeLine) (hdf : d.params.defaults = []) (hr : Room k callerA)
    (F : ∀ (w : World) (mg : Str → Option Value) (fa : Addr) (h : Heap), YP w h → h.Ns mainGlobals mg → mg d.name = some (.ref fa) →
      ∃ (K : PySem.W.Frag) (fd : FuncData) (sp : Sp), K.In h ∧ (∀ (s : Shared) (u : Value), BindsTo s fd ⟨[u], []⟩ [(x, u)]) ∧
        (∀ (H : Hp) (a : Addr) (ns : List Int), ns.length ≤ n → (∀ z ∈ ns, Builtin.Int.intBits z ≤ 1048576) → Only H → SqL K H a (ns.map V.int) → sp [.ref a] H (fun v _ => v = .bl true) fun _ _ _ => False) ∧
        ∀ bs : Heap, K.In bs → bs.Ns mainGlobals mg → FnG l.prog w K mg bs (CX w) k fa fd [x] sp)
    (hCX : ∀ (w : World) (H : Hp) (s : Shared) (e : Value) (s' : Shared), CX w [] H s (fun _ _ _ => False) e s' → False) : PySem.W.WalkO q loose XP YP l.row.toRowW d [] (fun f vs => PySem.call f vs) :=
  Att.attach_callB hn hdf fun w s₀ s1 mg mb fa o pm cd doc a vs ns G Y ho hd hcd hmg hobj hints hlen hbits hgen =>
    let ⟨K, fd, sp, KX, hb, hsp, hF⟩ := F w mg fa _ Y G.T.g hmg
    law_callG KX G.T.g G.T.b G.T.builtins G.T.nolimit hgen hobj hints (Nat.le_trans hlen hn2) hr hF hb (fun H hO hS => hsp H a ns hlen hbits hO hS) fun H e s2 => hCX w H s1 e s2
end DL
end Part_DL37
section Part_DL38
set_option maxRecDepth 100000
set_option maxHeartbeats 1600000
/-! lists that are made anew as cells, minus -/
namespace DL
open PySem PySem.Spec PyProof.Rows L2
section
variable {K : PySem.W.Frag} {T : Ct}
def kNeg (d : Dat) (om : Om) : R Dat := match d with
  | .int i => .ok (.int (-i)) om
  | _ => .no
theorem opd_neg : UnD K T (rU fun i => .int (-i)) kNeg := fun W sg H ex rho om Q x v w rx o => by
  unfold kNeg at o
  split at o
  · cases rx
    exact ⟨_, rfl, o.here w .int⟩
  · exact o.elim
/-- list(x) that is changed later -/
def kListC (ds : List Dat) (om : Om) : R Dat := match ds with
  | [d] => match itemsD om d with
    | some xs => .ok (.cell om.length) (om ++ [.lst xs])
    | none => .no
  | _ => .no
theorem opd_listC : CallD K T (fun xs H Q => ∃ p ys, xs = [.ref p] ∧ (SqL K H p ys ∨ SqT K H p ys) ∧ ∀ l, H l = none → Q (.ref l) (upd H l (.lst ys))) kListC := fun W sg H ex rho om Q ds vs w r o => by
  unfold kListC at o
  split at o
  · rename_i d
    obtain ⟨v, rfl, rv⟩ := reps1 r
    split at o
    · rename_i xs hx
      obtain ⟨p, us, rfl, sq, rs⟩ := items_sq w rv hx
      refine ⟨p, us, rfl, sq.symm, fun l hl => ?_⟩
      obtain ⟨w2, st2, r2⟩ := new_cell w hl rs
      exact o _ _ _ _ st2 w2 r2
    · exact o.elim
  · exact o.elim
/-- a + b of lists, the sum is changed later -/
def kAddC (x y : Dat) (om : Om) : R Dat := match der om x, der om y with
  | .lst a, .lst b => if a.length + b.length ≤ 1000000 then .ok (.cell om.length) (om ++ [.lst (a ++ b)]) else .no
  | _, _ => .no
theorem der_lst {H : Hp} {ex : Addr → Prop} {rho : List Addr} {om : Om} {x : Dat} {v : V} {xs : List Dat} (w : WRel K T H ex rho om) (r : Rep K T H ex rho v x) (h : der om x = .lst xs) : ∃ a vs, v = .ref a ∧ H a = some (.lst vs) ∧ Reps K T H ex rho vs xs := by
  cases r with
  | @cell a i hi =>
    unfold der at h
    simp only at h
    split at h
    · rename_i ys hx
      cases h
      obtain ⟨vs, e, r⟩ := w.cells _ _ _ hi hx
      exact ⟨a, vs, rfl, e, r⟩
    · cases h
    · cases h
  | @lst a vs ys q r => cases h; exact ⟨a, vs, rfl, q.1, r⟩
  | _ => cases h
theorem opd_addC : OpD K T rCat kAddC := fun W sg H ex rho om Q x y v u w rx ry o => by
  unfold kAddC at o
  split at o
  · rename_i a b ha hb
    split at o
    · rename_i hl
      obtain ⟨p, vs, rfl, e1, r1⟩ := der_lst w rx ha
      obtain ⟨q, us, rfl, e2, r2⟩ := der_lst w ry hb
      refine ⟨p, q, vs, us, rfl, rfl, e1, e2, by rw [r1.length, r2.length]; exact million_line hl, fun l hl => ?_⟩
      obtain ⟨w2, st2, r3⟩ := new_cell w hl (r1.append r2)
      exact o _ _ _ _ st2 w2 r3
    · exact o.elim
  · exact o.elim
/-- a name of the module that is never changed -/
def Cst (K : PySem.W.Frag) (T : Ct) (mg : Str → Option Value) (x : Str) (d : Dat) : Prop := ∃ v u, mg x = some u ∧ RelV v u ∧ ∀ H ex rho, Rep K T H ex rho v d
theorem de_cst {X : Cx} {x : Str} {d : Dat} {pos : Pos} (h : Cst X.K T X.mg x d) (hg : Gl X x) (hd : (x == ("__debug__" : Str)) = false := by decide) : DE X T (.Name x pos) (eC d) := by
  obtain ⟨v, u, h1, h2, h3⟩ := h
  exact de_glob hg h1 h2 h3 hd
end
end DL
end Part_DL38
section Part_DL39
set_option maxRecDepth 100000
set_option maxHeartbeats 1600000
/-! arithmetic of great ints -/
namespace DL
open PySem PySem.Spec PyProof.Rows L2
def CPowW (i j : Int) : Prop := 0 ≤ j ∧ (Builtin.Int.intBits i : Int) * j ≤ 2 ^ 27
theorem op_powW {X : Cx} : OpR X (binaryOp .Pow) (rI CPowW fun i j => .int (i ^ j.toNat)) := opI fun _ _ _ _ _ _ _ hc q => pow_int hc.1 hc.2 q
def kSub : Dat → Dat → Om → R Dat := kInt fun a b => some (a - b)
def fMul (a b : Int) : Option Int := if a.natAbs.log2 + b.natAbs.log2 < 1000000 then some (a * b) else none
def fFdiv (a b : Int) : Option Int := if 0 < b ∧ b.natAbs.log2 < 9000 then some (a / b) else none
def fMod (a b : Int) : Option Int := if 0 < b then some (a % b) else none
def fPow (a b : Int) : Option Int := if 0 ≤ b ∧ (Builtin.Int.intBits a : Int) * b ≤ 2 ^ 27 then some (a ^ b.toNat) else none
def kMul : Dat → Dat → Om → R Dat := kInt fMul
def kFdiv : Dat → Dat → Om → R Dat := kInt fFdiv
def kMod : Dat → Dat → Om → R Dat := kInt fMod
def kPow : Dat → Dat → Om → R Dat := kInt fPow
theorem fun_some {C : Int → Int → Prop} [∀ a b, Decidable (C a b)] {g : Int → Int → Int} : ∀ a b c, (if C a b then some (g a b) else none) = some c → C a b ∧ c = g a b := fun a b c h => by
  split at h
  · rename_i hc
    cases h
    exact ⟨hc, rfl⟩
  · cases h
section
variable {K : PySem.W.Frag} {T : Ct}
theorem opd_sub : OpD K T (rI0 fun i j => .int (i - j)) kSub := opd_int0
theorem opd_mul : OpD K T (rI CMulW fun i j => .int (i * j)) kMul := opd_intC fun a b c h => fun_some (C := fun a b : Int => a.natAbs.log2 + b.natAbs.log2 < 1000000) a b c h
theorem opd_fdiv : OpD K T (rI CDivW fun i j => .int (i / j)) kFdiv := opd_intC fun a b c h => fun_some (C := fun a b : Int => 0 < b ∧ b.natAbs.log2 < 9000) a b c h
theorem opd_mod : OpD K T (rI (fun _ j => 0 < j) fun i j => .int (i % j)) kMod := opd_intC fun a b c h => fun_some (C := fun _ b : Int => 0 < b) a b c h
theorem opd_pow : OpD K T (rI CPowW fun i j => .int (i ^ j.toNat)) kPow := opd_intC fun a b c h => by
  unfold fPow at h
  split at h
  · rename_i hc
    cases h
    exact ⟨hc, rfl⟩
  · cases h
end
/-! ### what is free in the module -/
end DL
end Part_DL39
section Part_DL40
set_option maxRecDepth 100000
set_option maxHeartbeats 1600000
/-! the program's own errors by name -/
namespace DL
open PySem PySem.Spec PyProof.Rows L2
/-- a class of errors without fields over ValueError -/
def ExR (K : PySem.W.Frag) (mg : Str → Option Value) (T : Ct) (x : Str) (c : String) : Prop :=
  ∃ C : Addr, T.cl c = some C ∧ mg x = some (.ref C) ∧ PySem.W.keepIn K (.ref C) = true ∧ PySem.W.excIn K C He.veBase "ValueError.__new__" = true ∧ PySem.W.subIn K (.ref C) (.type "BaseException") = some true ∧ PySem.W.typeIn K (.ref C) = some (.type "type")
/-- the clause's name -/
def Ctch (K : PySem.W.Frag) (mg : Str → Option Value) (T : Ct) (x : Str) (exf : String → Option Bool) : Prop :=
  ∃ c : Value, mg x = some c ∧ ∀ cn C b, T.cl cn = some C → exf cn = some b → PySem.W.exmOne K (.ref C) c = some b
def ExL (K : PySem.W.Frag) (mg : Str → Option Value) (T : Ct) : Prop := ∃ C fI, PySem.LineX.LineTxt K mg C fI ∧ T.cl "ParseError" = some C ∧ T.fs "ParseError" = [("line" : Str)]
section
variable {X : Cx} {T : Ct}
theorem ds_exc {x m : Str} {j : Nat} {p p2 pos pos2 : Pos} {c : String} (h : ExR X.K X.mg T x c) (hc : X.calm = true) (hg : Gl X x) (hdb : (x == ("__debug__" : Str)) = false := by decide) :
    DS X T (.Raise (some (.Call (.Name x p) [.Constant (.str m) j p2] [] pos)) none pos2) (sRaiseN c) := by
  obtain ⟨C, h1, h2, h3, h4, h5, h6⟩ := h
  exact ds_raiseN hc PySem.F.excBase_ValueError h4 h2 h3 (raises_own h5 h6) h1 hg hdb
theorem ds_line {a : Expr} {f : DV} {p pos pos2 : Pos} {k : Nat} (h : ExL X.K X.mg T) (hc : X.calm = true) (hr : Room k X.A) (ha : DE X T a f) (hg : Gl X "ParseError")
    (he : starEach (a :: []) X.env = (false, eval a X.env) :: starEach [] X.env) (hpl : (backTo pos (starEach [] X.env)).any (·.1) = false) : DS X T (.Raise (some (.Call (.Name "ParseError" p) [a] [] pos)) none pos2) (sRaise1 "ParseError" f) := by
  obtain ⟨C, fI, h1, h2, h3⟩ := h
  exact ds_raiseLine hc h1 hr h2 h3 ha hg he hpl
theorem ds_ctch {x : Str} {body suite : List Stmt} {b0 : Stmt} {np pos pos' : Pos} {sb ss : SD} {exf : String → Option Bool} (h : Ctch X.K X.mg T x exf) (hs : X.stack = X.env :: X.outer) (hf : X.env.frame = some X.env.locals) (hg : Gl X x) (hdb : (x == ("__debug__" : Str)) = false)
    (hb : ∀ pn xe, DSs (X.tr pn xe) T body sb) (hsu : ∀ a pn, DSs (X.suite a pn) T (b0 :: suite) ss) :
    DS X T (.Try body [.ExceptHandler (some (.Name x np)) none (b0 :: suite) pos'] [] [] pos) (sTry exf sb ss) := by
  obtain ⟨c, h1, h2⟩ := h
  exact ds_tryOnly hs hf ⟨hg, hdb, .inl h1⟩ h2 hb hsu
end
end DL
end Part_DL40
section Part_DL41
set_option maxRecDepth 100000
set_option maxHeartbeats 1600000
/-! walks through a list that is changed elsewhere: it must stand through the walk -/
namespace DL
open PySem PySem.Spec PyProof.Rows L2
mutual
def dEq : Dat → Dat → Bool
  | .non, .non => true
  | .bl a, .bl b => a == b
  | .int a, .int b => a == b
  | .str a, .str b => a == b
  | .tup a, .tup b => dEqs a b
  | .wt a, .wt b => dEqs a b
  | .lst a, .lst b => dEqs a b
  | .frl a, .frl b => dEqs a b
  | .dct a b, .dct c d => dEqs a c && dEqs b d
  | .ins c a, .ins d b => c == d && dEqs a b
  | .cell i, .cell j => i == j
  | _, _ => false
def dEqs : List Dat → List Dat → Bool
  | [], [] => true
  | a :: r, b :: t => dEq a b && dEqs r t
  | _, _ => false
end
mutual
theorem dEq_eq : ∀ (a b : Dat), dEq a b = true → a = b
  | .non, b, h => by cases b <;> simp [dEq] at h ⊢
  | .bl a, b, h => by cases b <;> simp [dEq] at h ⊢; exact h
  | .int a, b, h => by cases b <;> simp [dEq] at h ⊢; exact h
  | .str a, b, h => by cases b <;> simp [dEq] at h ⊢; exact h
  | .tup a, b, h => by cases b <;> simp [dEq] at h ⊢; exact dEqs_eq _ _ h
  | .wt a, b, h => by cases b <;> simp [dEq] at h ⊢; exact dEqs_eq _ _ h
  | .lst a, b, h => by cases b <;> simp [dEq] at h ⊢; exact dEqs_eq _ _ h
  | .frl a, b, h => by cases b <;> simp [dEq] at h ⊢; exact dEqs_eq _ _ h
  | .dct a c, b, h => by cases b <;> simp [dEq] at h ⊢; exact ⟨dEqs_eq _ _ h.1, dEqs_eq _ _ h.2⟩
  | .ins c a, b, h => by cases b <;> simp [dEq] at h ⊢; exact ⟨h.1, dEqs_eq _ _ h.2⟩
  | .cell a, b, h => by cases b <;> simp [dEq] at h ⊢; exact h
theorem dEqs_eq : ∀ (a b : List Dat), dEqs a b = true → a = b
  | [], [], _ => rfl
  | [], _ :: _, h => by simp [dEqs] at h
  | _ :: _, [], h => by simp [dEqs] at h
  | a :: r, b :: t, h => by
    have h' : dEq a b = true ∧ dEqs r t = true := by simpa [dEqs] using h
    rw [dEq_eq a b h'.1, dEqs_eq r t h'.2]
end
/-- the cell holds just this list -/
def held (om : Om) (i : Nat) (xs : List Dat) : Bool := match om[i]? with
  | some (.lst ys) => dEqs ys xs
  | _ => false
theorem held_at {om : Om} {i : Nat} {xs : List Dat} (h : held om i xs = true) : om[i]? = some (.lst xs) := by
  unfold held at h
  split at h
  · rename_i ys hy
    rw [hy, dEqs_eq _ _ h]
  · cases h
def WalkC (K : PySem.W.Frag) (T : Ct) (H0 : Hp) (ex0 : Addr → Prop) (rho0 : List Addr) (J : It) (p : Nat × List Dat) : Prop := ∃ (G : Hp → Prop) (Y : Nat → Hp → V → Hp → Prop), Walk J p.2.length G Y ∧
  (∀ H ex rho om, Stp H0 ex0 rho0 H ex rho → WRel K T H ex rho om → om[p.1]? = some (.lst p.2) → G H) ∧ ∀ i H x H' ex rho om, i < p.2.length → Stp H0 ex0 rho0 H ex rho → WRel K T H ex rho om → om[p.1]? = some (.lst p.2) → Y i H x H' →
    (∀ a o, H a = some o → H' a = some o) ∧ ∃ d, p.2[i]? = some d ∧ Rep K T H' ex rho x d
def DIC (X : Cx) (T : Ct) (tg iter : Expr) (fi : En → Om → R (Nat × List Dat)) : Prop := ∀ W, Takes X W → PI X tg iter (tD X.K T (WalkC X.K T) W fi)
def iCell (f : DV) : En → Om → R (Nat × List Dat) := fun env om => (f env om).bind fun d om => match d with
  | .cell i => match om[i]? with
    | some (.lst xs) => .ok (i, xs) om
    | _ => .no
  | _ => .no
def forLC (g : GD) (b : SD) (ci : Nat) (full : List Dat) : List Dat → En → Om → RS
  | [], env, om => if held om ci full = true then .nx env om else .no
  | x :: xs, env, om => if held om ci full = true then match g x env om with
    | .ok env om => match b env om with
      | .nx env om => forLC g b ci full xs env om
      | .cnt env om => forLC g b ci full xs env om
      | .brk env om => .nx env om
      | .ret d om => .ret d om
      | .exc e env om => .exc e env om
      | .no => .no
    | _ => .no
    else .no
def sForC (fi : En → Om → R (Nat × List Dat)) (g : GD) (b : SD) : SD := fun env om => match fi env om with
  | .ok p om => forLC g b p.1 p.2 p.2 env om
  | .exc e om => .exc e env om
  | .no => .no
def lcLC (g : GD) (t : En → Om → R Bool) (f : DV) (ci : Nat) (full : List Dat) : List Dat → En → Om → List Dat → R (List Dat)
  | [], _, om, acc => if held om ci full = true then .ok acc om else .no
  | x :: xs, env, om, acc => if held om ci full = true then match g x env om with
    | .ok env1 om => match t env1 om with
      | .ok true om => match f env1 om with
        | .ok y om => if acc.length < 1000000 then lcLC g t f ci full xs env om (acc ++ [y]) else .no
        | _ => .no
      | .ok false om => lcLC g t f ci full xs env om acc
      | _ => .no
    | _ => .no
    else .no
def eLcC (fi : En → Om → R (Nat × List Dat)) (g : GD) (t : En → Om → R Bool) (f : DV) (own : List Nat) : DV := fun env om => (fi env om).bind fun p om => (lcLC g t f p.1 p.2 p.2 (wipeE env own) om []).bind fun ys om => .ok (.lst ys) om
theorem lcLC_held {g : GD} {t : En → Om → R Bool} {f : DV} {ci : Nat} {full ys acc zs : List Dat} {env : En} {om omF : Om} (h : lcLC g t f ci full ys env om acc = .ok zs omF) : held om ci full = true := by
  cases hh : held om ci full with
  | true => rfl
  | false => cases ys <;> (unfold lcLC at h; rw [hh] at h; simp at h)
theorem forLC_held {K : PySem.W.Frag} {T : Ct} {W : WX} {D : Ends} {H : Hp} {ex : Addr → Prop} {rho : List Addr} {g : GD} {b : SD} {ci : Nat} {full ys : List Dat} {env : En} {om : Om} (h : OutS K T W D H ex rho (forLC g b ci full ys env om)) : held om ci full = true := by
  cases hh : held om ci full with
  | true => rfl
  | false => cases ys <;> (unfold forLC at h; rw [hh] at h; simp at h; exact h.elim)
section
variable {X : Cx} {T : Ct} {tg a : Expr} {f : DV}
theorem di_cell (h : DE X T a f) : DIC X T tg a (iCell f) := fun W tk => pi_mono (pi_list (h W tk)) fun sg H R ⟨ex, rho, om, env, w, er, o⟩ => by
  refine ⟨ex, rho, om, env, w, er, (Out.bind (rel := Rep X.K T) o).mono ?_⟩
  rintro v H1 ⟨x, om1, ex1, rho1, he, st, w1, rx, o1⟩
  cases rx with
  | @cell p i hi =>
    simp only at o1
    split at o1
    · rename_i xs hx
      obtain ⟨vs, e, r⟩ := w1.cells _ _ _ hi hx
      have at_ : ∀ {H' : Hp} {ex' : Addr → Prop} {rho' : List Addr} {om' : Om}, Stp H1 ex1 rho1 H' ex' rho' → WRel X.K T H' ex' rho' om' → om'[i]? = some (.lst xs) → ∃ us, H' p = some (.lst us) ∧ Reps X.K T H' ex' rho' us xs := fun {H' ex' rho' om'} st' w' h' => by
        obtain ⟨n, en, _⟩ := st'.new
        have hi' : rho'[i]? = some p := by
          rw [en, List.getElem?_append_left (List.getElem?_eq_some_iff.mp hi).1]
          exact hi
        obtain ⟨us, e', r'⟩ := w'.cells _ _ _ hi' h'
        exact ⟨us, e', r'⟩
      refine ⟨p, rfl, ⟨vs, .inl (.inl e)⟩, o1.here w1 ⟨fun H => ∃ us, H p = some (.lst us) ∧ us.length = xs.length, fun n H x H' => H' = H ∧ ∀ us, SqL X.K H p us → us[n]? = some x, ?_, fun H' ex' rho' om' st' w' h' => ?_, fun n H' x H2 ex' rho' om' hn st' w' h' y => ?_⟩⟩
      · exact ⟨fun n H hn ⟨us, e', l⟩ => ⟨us, us[n]'(by rw [l]; exact hn), .inl (.inl e'), by simp⟩, fun H ⟨us, e', l⟩ => ⟨us, .inl (.inl e'), Nat.le_of_eq l⟩, fun n H x H' hn _ y => y⟩
      · obtain ⟨us, e', r'⟩ := at_ st' w' h'
        exact ⟨us, e', r'.length⟩
      · obtain ⟨rfl, hy⟩ := y
        obtain ⟨us, e', r'⟩ := at_ st' w' h'
        obtain ⟨d, hd, rd⟩ := r'.get' (hy us (.inl (.inl e')))
        exact ⟨fun _ _ h => h, d, hd, rd⟩
    · exact o1.elim
  | _ => exact o1.elim
end
section
variable {K : PySem.W.Frag} {T : Ct} {X : Cx}
theorem ds_forC {tg iter : Expr} {body : List Stmt} {fi : En → Om → R (Nat × List Dat)} {g : GD} {b : SD} {pos : Pos} {ws : List Nat} (hc : X.calm = true) (hi : DIC X T tg iter fi) (hg : DG X T ws tg g) (hb : DSs X T body b)
    (hs : ∀ x, foldedSetIterable iter X.env x = pure x := by intro _; rfl) : DS X T (.For tg iter body [] pos) (sForC fi g b) := fun W tk po => ps_mono (ps_for po hc (hi W tk) (hg W tk) (hb W tk po) hs) fun D sg H ⟨ex, rho, om, env, w, er, o⟩ => by
  refine ⟨ex, rho, om, env, w, er, ?_⟩
  unfold sForC at o
  cases hr : fi env om with
  | exc x om1 => rw [hr] at o; exact fun c dx H1 ex1 rho1 st w1 re => o c dx sg H1 ex1 rho1 st w1 (er.step st w.sub) re
  | no => rw [hr] at o; exact o.elim
  | ok p om1 =>
    obtain ⟨ci, xs⟩ := p
    rw [hr] at o
    simp only at o
    rintro J H1 ex1 rho1 st w1 ⟨G, Y, wk, hG, hY⟩
    refine for_it wk (fun i sg H => ∃ ex rho om env, Stp H1 ex1 rho1 H ex rho ∧ WRel X.K T H ex rho om ∧ ERel X.K T H ex rho sg env ∧ OutS X.K T W D H ex rho (forLC g b ci xs (xs.drop i) env om))
      ⟨ex1, rho1, om1, env, .refl, w1, er.step st w.sub, OutS.step st w1 o⟩ (fun i sg H _ ⟨ex, rho, om, env, st, w2, _, o2⟩ => hG H ex rho om st w2 (held_at (forLC_held o2))) (fun i x sg H H' hi ⟨ex, rho, om, env, st1, w2, er2, o2⟩ y => ?_) (fun sg H ⟨ex, rho, om, env, st1, w2, er2, o2⟩ => ?_)
    · obtain ⟨k, d, hd, rx⟩ := hY i H x H' ex rho om hi st1 w2 (held_at (forLC_held o2)) y
      have w3 := w2.keepAll k
      have st3 : Stp H ex rho H' ex rho := keep_stp k
      have e : xs.drop i = d :: xs.drop (i + 1) := by
        obtain ⟨hl, he⟩ := List.getElem?_eq_some_iff.mp hd
        rw [List.drop_eq_getElem_cons hl, he]
      rw [e] at o2
      have hh := forLC_held o2
      unfold forLC at o2
      rw [if_pos hh] at o2
      refine ⟨ex, rho, om, env, d, w3, er2.step st3 w2.sub, rx, ?_⟩
      cases hg : g d env om with
      | ok env4 om4 =>
        rw [hg] at o2
        simp only at o2
        intro sg' H4 ex4 rho4 _ st4 w4 er4
        refine ⟨ex4, rho4, om4, env4, w4, er4, ?_⟩
        have st13 : Stp H1 ex1 rho1 H' ex rho := st1.trans st3 (st1.there w2)
        have st14 : Stp H1 ex1 rho1 H4 ex4 rho4 := st13.trans st4 (st13.there w3)
        have o4 := OutS.step (st3.trans st4 (st3.there w3)) w4 o2
        have again : ∀ env5 om5, OutS X.K T W D H4 ex4 rho4 (forLC g b ci xs (xs.drop (i + 1)) env5 om5) → ∀ sg' H' ex' rho', Stp H4 ex4 rho4 H' ex' rho' → WRel X.K T H' ex' rho' om5 → ERel X.K T H' ex' rho' sg' env5 →
            ∃ ex rho om env, Stp H1 ex1 rho1 H' ex rho ∧ WRel X.K T H' ex rho om ∧ ERel X.K T H' ex rho sg' env ∧ OutS X.K T W D H' ex rho (forLC g b ci xs (xs.drop (i + 1)) env om) :=
          fun env5 om5 o5 sg' H' ex' rho' st5 w5 er5 => ⟨ex', rho', om5, env5, st14.trans st5 (st14.there w4), w5, er5, OutS.step st5 w5 o5⟩
        cases hb : b env4 om4 with
        | nx env5 om5 => rw [hb] at o4; exact again env5 om5 o4
        | cnt env5 om5 => rw [hb] at o4; exact again env5 om5 o4
        | brk env5 om5 => rw [hb] at o4; exact o4
        | ret d om5 => rw [hb] at o4; exact o4
        | exc e env5 om5 => rw [hb] at o4; exact o4
        | no => rw [hb] at o4; exact o4.elim
      | _ => rw [hg] at o2; exact o2.elim
    · rw [List.drop_length] at o2
      have hh := forLC_held o2
      unfold forLC at o2
      rw [if_pos hh] at o2
      exact o2 _ _ _ _ .refl w2 er2
theorem tD_lcC {W : WX} {fi : En → Om → R (Nat × List Dat)} {g : GD} {t : En → Om → R Bool} {f : DV} {own : List Nat} {sg : L2.St} {H : Hp} {Q : VK} {Wb : WX} (h : tD K T (Rep K T) W (eLcC fi g t f own) sg H Q) :
    tLc (tD K T (WalkC K T) W fi) (tG K T own g) (tD K T rB Wb t) (tD K T (Rep K T) Wb f) own sg H Q := by
  obtain ⟨ex, rho, om, env, w, er, o⟩ := h
  refine ⟨ex, rho, om, env, w, er, (Out.bind (rel := WalkC K T) o).mono ?_⟩
  rintro J H1 ⟨⟨ci, xs⟩, om1, ex1, rho1, _, st0, w1, ⟨G, Y, wk, hG, hY⟩, o1⟩ D hD
  have nD1 : ¬ ex1 D := w1.nex hD
  have er1 := (er.step st0 w.sub).wipe own
  -- the loop's end as it stands at each turn
  cases hfin : lcLC g t f ci xs xs (wipeE env own) om1 [] with
  | exc x om2 =>
    -- no exception comes out of the loop
    exfalso
    have no : ∀ (full xs : List Dat) (om : Om) (acc : List Dat) (env : En), lcLC g t f ci full xs env om acc ≠ .exc x om2 := by
      intro full xs
      induction xs with
      | nil => intro om acc env; unfold lcLC; split <;> exact fun z => by cases z
      | cons x xs ih =>
        intro om acc env
        unfold lcLC
        repeat' split
        all_goals first | exact ih _ _ _ | exact fun z => by cases z
    exact no _ _ _ _ _ hfin
  | no => rw [hfin] at o1; exact o1.elim
  | ok ys omF =>
    rw [hfin] at o1
    refine lc_it wk (fun i H => ∃ ex rho om acc vs, Stp H1 ex1 rho1 H ex rho ∧ WRel K T H ex rho om ∧ ex D ∧ D ∉ rho ∧ H D = some (.lst vs) ∧ Reps K T H ex rho vs acc ∧ lcLC g t f ci xs (xs.drop i) (wipeE env own) om acc = .ok ys omF)
      ?_ (fun i H _ ⟨ex, rho, om, acc, vs, st, w2, _, _, _, _, eq⟩ => hG H ex rho om st w2 (held_at (lcLC_held eq))) (fun i x H H' hi ⟨ex, rho, om, acc, vs, st1, w2, hx, hr, hl, ra, eq⟩ y => ?_) (fun H ⟨ex, rho, om, acc, vs, st1, w2, hx, hr, hl, ra, eq⟩ => ?_)
    · refine ⟨fun a => ex1 a ∨ a = D, rho1, om1, [], [], ⟨⟨[], by simp, by simp⟩, fun a h => .inl h, fun a h => h.elim .inl fun e => .inr (e ▸ hD), fun a ob h _ => by rw [upd_ne (ne_of_none h hD)]; exact h⟩, ?_, .inr rfl, fun z => nD1 (w1.sub _ z), upd_same, .nil, hfin⟩
      have hDex : (fun a => ex1 a ∨ a = D) D := .inr rfl
      refine ⟨w1.len, w1.nd, fun a h => .inl (w1.sub a h), fun a h => ?_, fun i a d h1 h2 => ?_⟩
      · by_cases e : a = D
        · subst e; exact ⟨_, upd_same, fun _ z => nomatch z⟩
        · rw [upd_ne e]; exact w1.trk a (h.resolve_right e)
      · have st : Stp H1 ex1 rho1 (L2.upd H1 D (.lst [])) (fun a => ex1 a ∨ a = D) rho1 := ⟨⟨[], by simp, by simp⟩, fun a h => .inl h, fun a h => h.elim .inl fun e => .inr (e ▸ hD), fun a ob h _ => by rw [upd_ne (ne_of_none h hD)]; exact h⟩
        exact (w1.cells i a d h1 h2).step st w1.sub fun ob h => by rw [upd_ne (ne_of_none h hD)]; exact h
    · obtain ⟨k, d, hd, rx⟩ := hY i H x H' ex rho om hi st1 w2 (held_at (lcLC_held eq)) y
      have w3 := w2.keepAll k
      have st3 : Stp H ex rho H' ex rho := keep_stp k
      have st13 : Stp H1 ex1 rho1 H' ex rho := st1.trans st3 (st1.there w2)
      have e : xs.drop i = d :: xs.drop (i + 1) := by
        obtain ⟨hl, he⟩ := List.getElem?_eq_some_iff.mp hd
        rw [List.drop_eq_getElem_cons hl, he]
      rw [e] at eq
      have hh := lcLC_held eq
      unfold lcLC at eq
      rw [if_pos hh] at eq
      refine ⟨ex, rho, om, wipeE env own, d, w3, (er1.step st13 w1.sub), rx, ?_⟩
      cases hg : g d (wipeE env own) om with
      | ok env4 om4 =>
        rw [hg] at eq
        simp only at eq
        intro sg' H4 ex4 rho4 ew st4 w4 er4
        refine ⟨ew.trans wipe_wipe, ex4, rho4, om4, env4, w4, er4, ?_⟩
        cases ht : t env4 om4 with
        | ok b om5 =>
          rw [ht] at eq
          intro b' H5 ex5 rho5 st5 w5 eb
          cases eb
          have st15 : Stp H1 ex1 rho1 H5 ex5 rho5 := (st13.trans st4 (st13.there w3)).trans st5 ((st13.trans st4 (st13.there w3)).there w4)
          have st35 : Stp H' ex rho H5 ex5 rho5 := st4.trans st5 (st4.there w4)
          have stay : ∀ {Hn : Hp} {exn : Addr → Prop} {rhon : List Addr} {omn : Om}, Stp H' ex rho Hn exn rhon → WRel K T Hn exn rhon omn → exn D ∧ D ∉ rhon ∧ Hn D = some (.lst vs) ∧ Reps K T Hn exn rhon vs acc := fun {Hn exn rhon omn} st wn => by
            refine ⟨st.up _ hx, fun z => ?_, st.keep _ _ (k _ _ hl) hr, (ra.step st3 w2.sub).step st w3.sub⟩
            obtain ⟨n, en, fn⟩ := st.new
            rw [en] at z
            rcases List.mem_append.mp z with z | z
            · exact hr z
            · have := fn _ z
              rw [k _ _ hl] at this; cases this
          cases b with
          | false =>
            refine iteF ?_
            obtain ⟨s1, s2, s3, s4⟩ := stay st35 w5
            exact ⟨ex5, rho5, om5, acc, vs, st15, w5, s1, s2, s3, s4, eq⟩
          | true =>
            refine iteT ⟨ex5, rho5, om5, env4, w5, er4.step st5 w4.sub, ?_⟩
            simp only at eq
            cases hf : f env4 om5 with
            | ok z om6 =>
              rw [hf] at eq
              simp only at eq
              by_cases hlen : acc.length < 1000000
              · rw [if_pos hlen] at eq
                intro zv H6 ex6 rho6 st6 w6 rz
                have st36 : Stp H' ex rho H6 ex6 rho6 := st35.trans st6 (st35.there w5)
                obtain ⟨s1, s2, s3, s4⟩ := stay st36 w6
                have st16 : Stp H1 ex1 rho1 H6 ex6 rho6 := st15.trans st6 (st15.there w5)
                refine ⟨vs, s3, by rw [s4.length]; exact million_lt hlen, ex6, rho6, om6, acc ++ [z], vs ++ [zv], ?_, w6.updEx s1 s2, s1, s2, upd_same, (s4.append (.cons rz .nil)).upd s1, eq⟩
                exact ⟨st16.new, st16.up, st16.fre, fun a ob h hn => by rw [upd_ne (ne_of_none h hD)]; exact st16.keep a ob h hn⟩
              · rw [if_neg hlen] at eq; cases eq
            | _ => rw [hf] at eq; cases eq
        | _ => rw [ht] at eq; cases eq
      | _ => rw [hg] at eq; cases eq
    · rw [List.drop_length] at eq
      have hh := lcLC_held eq
      unfold lcLC at eq
      rw [if_pos hh] at eq
      cases eq
      refine o1 (.ref D) H (fun a => ex a ∧ a ≠ D) rho ⟨st1.new, fun a h => ⟨st1.up a h, fun z => nD1 (z ▸ h)⟩, fun a h => st1.fre a h.1, st1.keep⟩ (w2.weak (fun a h => h.1) fun a h => ⟨w2.sub a h, fun z => hr (z ▸ h)⟩) ?_
      exact .lst ⟨hl, fun z => z.2 rfl⟩ (ra.weak fun a h => h.1)

section
variable {elt tg iter : Expr} {ifs : List Expr} {scope : Scope} {own : List (Str × Nat)} {pos : Pos} {fi : En → Om → R (Nat × List Dat)} {g : GD} {t : En → Om → R Bool} {f : DV}
theorem de_lcC (hc : X.calm = true) (hN : X.N.Nodup) (hi : DIC X T tg iter fi) (ok : BlkOk X.N X.env.scope scope own)
    (hg : ∀ (s : Shared) (H : Hp) (C : Addr) (cl : List (Str × Addr)) (fp : List Addr), DG (X.blk s H scope (compEnvC scope cl C X.env) fp) T (own.map (·.2)) tg g)
    (ht : ∀ (s : Shared) (H : Hp) (C : Addr) (cl : List (Str × Addr)) (fp : List Addr), DTs (X.blk s H scope (compEnvC scope cl C X.env) fp) T ifs t)
    (he : ∀ (s : Shared) (H : Hp) (C : Addr) (cl : List (Str × Addr)) (fp : List Addr), DE (X.blk s H scope (compEnvC scope cl C X.env) fp) T elt f) (hs : ∀ x, foldedSetIterable iter X.env x = pure x := by intro _; rfl) :
    DE X T (.ListComp elt [⟨tg, iter, ifs, 0⟩] scope pos) (eLcC fi g t f (own.map (·.2))) := fun W tk =>
  pe_mono (pe_lc hc hN (hi W tk) ok (fun s H C cl fp => hg s H C cl fp (fun _ _ _ _ => False) takes0) (fun s H C cl fp => ht s H C cl fp (fun _ _ _ _ => False) takes0) (fun s H C cl fp => he s H C cl fp (fun _ _ _ _ => False) takes0) hs) fun _ _ _ h => tD_lcC h
theorem ds_setLcC {i : Nat} {y : Str} {py spos : Pos} (hc : X.calm = true) (hN : X.N.Nodup) (hy : X.N[i]? = some y) (hyl : X.env.scope.names.lookup y = some .local)
    (hsw : swapsWith (.ListComp elt [⟨tg, iter, ifs, 0⟩] scope pos) (some (.Name y py)) spos.line X.env = pure true) (hi : DIC X T tg iter fi) (ok : BlkOk X.N X.env.scope scope own)
    (hg : ∀ (s : Shared) (H : Hp) (C : Addr) (cl : List (Str × Addr)) (fp : List Addr), DG (X.blk s H scope (compEnvC scope cl C X.env) fp) T (own.map (·.2)) tg g)
    (ht : ∀ (s : Shared) (H : Hp) (C : Addr) (cl : List (Str × Addr)) (fp : List Addr), DTs (X.blk s H scope (compEnvC scope cl C X.env) fp) T ifs t)
    (he : ∀ (s : Shared) (H : Hp) (C : Addr) (cl : List (Str × Addr)) (fp : List Addr), DE (X.blk s H scope (compEnvC scope cl C X.env) fp) T elt f) (hs : ∀ x, foldedSetIterable iter X.env x = pure x := by intro _; rfl) :
    DS X T (.Assign [.Name y py] (.ListComp elt [⟨tg, iter, ifs, 0⟩] scope pos) spos) (sAsg (eLcC fi g t f (own.map (·.2))) (gN i)) := fun W tk po =>
  ps_mono (ps_setLc hc hN hy hyl hsw (hi W tk) ok (fun s H C cl fp => hg s H C cl fp (fun _ _ _ _ => False) takes0) (fun s H C cl fp => ht s H C cl fp (fun _ _ _ _ => False) takes0) (fun s H C cl fp => he s H C cl fp (fun _ _ _ _ => False) takes0) hs) fun D sg H ⟨ex, rho, om, env, w, er, o⟩ =>
    tD_lcC ⟨ex, rho, om, env, w, er, tD_rs er w.sub o fun d om v H1 ex1 rho1 _ st w1 rv o1 => o1 _ _ _ _ .refl w1 ((er.step st w.sub).set i rv)⟩
end
end
end DL
end Part_DL41
section Part_DL42
set_option maxRecDepth 100000
set_option maxHeartbeats 1600000
/-! == of two lists with empty dicts in them -/
namespace DL
open PySem PySem.Spec PyProof.Rows L2
def eqE : Dat → Dat → Option Bool
  | .dct [] [], .dct [] [] => some true
  | d, e => eqA 50 d e
def eqEs : List Dat → List Dat → Option Bool
  | x :: xs, y :: ys => match eqE x y, eqEs xs ys with
    | some a, some b => some (a && b)
    | _, _ => none
  | _, _ => some true
theorem eqEs_get : ∀ {xs ys : List Dat} {b : Bool}, eqEs xs ys = some b → ∃ f : Nat → Bool, (∀ (j : Nat) (x y : Dat), xs[j]? = some x → ys[j]? = some y → eqE x y = some (f j)) ∧ b = (List.range (min xs.length ys.length)).all f
  | [], ys, b, h => by
    rw [eqEs.eq_2 _ _ (by simp)] at h
    cases h
    exact ⟨fun _ => true, by simp, by simp⟩
  | x :: xs, [], b, h => by
    rw [eqEs.eq_2 _ _ (by simp)] at h
    cases h
    exact ⟨fun _ => true, by simp, by simp⟩
  | x :: xs, y :: ys, b, h => by
    rw [eqEs.eq_1] at h
    split at h
    · rename_i a c ha hc
      cases h
      obtain ⟨f, h1, h2⟩ := eqEs_get hc
      refine ⟨fun j => match j with | 0 => a | j + 1 => f j, fun j x' y' hx hy => ?_, ?_⟩
      · cases j with
        | zero => simp only [List.getElem?_cons_zero, Option.some.injEq] at hx hy; subst hx hy; exact ha
        | succ j => exact h1 j x' y' (by simpa using hx) (by simpa using hy)
      · rw [h2]
        simp only [List.length_cons]
        rw [show min (xs.length + 1) (ys.length + 1) = min xs.length ys.length + 1 by omega, List.range_succ_eq_map, List.all_cons, List.all_map]
        rfl
    · cases h
def kEqE (x y : Dat) (om : Om) : R Dat := match der om x, der om y with
  | .lst xs, .lst ys => if xs.length = ys.length then match eqEs xs ys with
    | some b => .ok (.bl b) om
    | none => .no
    else .no
  | _, _ => .no
section
variable {X : Cx} {T : Ct} {pins : List (Addr × Obj)} {sg : L2.St} {H : Hp} {s : Shared}
theorem raw_empty {ex : Addr → Prop} {rho : List Addr} {a : Addr} {o : Obj} {es : Array DictEntry} {ep : Nat} (R : RawD X T H s ex rho a [] [] o es ep) (prog : Program) (w : World) : s.heap.DictOf (mixKind prog w) a [] := by
  have e : es = #[] := by
    have := R.size
    simpa using this
  subst e
  exact ⟨o, #[], ep, R.get, R.exact_, R.data, fun e h => by simp at h, .nil, List.nodup_nil⟩
theorem rc_empty {A : Around} {ex ex' : Addr → Prop} {rho rho' : List Addr} {om : Om} {a b : Addr} (I : Inv X pins sg H s) (w : WRel X.K T H ex rho om) (w' : WRel X.K T H ex' rho' om) (r1 : Rep X.K T H ex rho (.ref a) (.dct [] [])) (r2 : Rep X.K T H ex' rho' (.ref b) (.dct [] []))
    (hu : A.units < cLine) : SeqAt.RcAt A s (.ref a) (.ref b) true := fun prog wd E Q h => by
  obtain ⟨o, es, ep, R1⟩ := raw_of I w r1
  obtain ⟨o', es', ep', R2⟩ := raw_of I w' r2
  exact PySem.W.rcP_dicts (knd := mixKind prog wd) R1.sys R2.sys (raw_empty R1 prog wd) (raw_empty R2 prog wd) hu (fun _ => .nil) E Q h
theorem eqE_at {A : Around} {ex : Addr → Prop} {rho : List Addr} {om : Om} {v u : V} {vv uu : Value} {d e : Dat} {b : Bool} (I : Inv X pins sg H s) (w : WRel X.K T H ex rho om) (hu : A.units + 50 < cLine) (rd : Rep X.K T H ex rho v d) (re : Rep X.K T H ex rho u e)
    (rv : RelV v vv) (ru : RelV u uu) (h : eqE d e = some b) : SeqAt.EqAt A s vv uu b := by
  unfold eqE at h
  split at h
  · cases h
    obtain ⟨p, rfl⟩ : ∃ p, v = .ref p := by cases rd <;> exact ⟨_, rfl⟩
    obtain ⟨q, rfl⟩ : ∃ q, u = .ref q := by cases re <;> exact ⟨_, rfl⟩
    cases (show vv = Value.ref _ from rv)
    cases (show uu = Value.ref _ from ru)
    by_cases e : p = q
    · subst e; exact .same _
    · exact .of_refs e (rc_empty I w w rd re (by omega))
  · exact (eqA_at I 50 A hu rd re rv ru h).1
def rEqE (K : PySem.W.Frag) (T : Ct) : R2 := fun x y H Q => ∃ ex rho om a a' vs vs' xs ys b, WRel K T H ex rho om ∧ x = .ref a ∧ y = .ref a' ∧ H a = some (.lst vs) ∧ H a' = some (.lst vs') ∧ Reps K T H ex rho vs xs ∧ Reps K T H ex rho vs' ys ∧ xs.length = ys.length ∧ eqEs xs ys = some b ∧ Q (.bl b) H
theorem op_eqE (hu : X.A.units + 64 < cLine) : OpR X (compareOp .Eq) (rEqE X.K T) := by
  intro pins s sg H x y v u Q I rx ry h
  obtain ⟨ex, rho, om, a, a', vs, vs', xs, ys, b, w, rfl, rfl, h1, h2, r0, r, hl, hb, q⟩ := h
  cases (show v = Value.ref _ from rx)
  cases (show u = Value.ref _ from ry)
  obtain ⟨its0, rv0, ht0, _⟩ := I.list (.inl (.inl h1))
  obtain ⟨its, rv1, ht, _⟩ := I.list (.inl (.inl h2))
  have hs1 : its0.toArray.size = xs.length := by rw [List.size_toArray, ← rv0.length, r0.length]
  have hs2 : its.toArray.size = ys.length := by rw [List.size_toArray, ← rv1.length, r.length]
  obtain ⟨f, hf, rfl⟩ := eqEs_get hb
  have rc : SeqAt.RcAt X.A s (.ref a) (.ref a') ((List.range (min xs.length ys.length)).all f) := by
    rw [show min xs.length ys.length = its0.toArray.size by omega]
    refine .lists ht0.isList ht.isList (by omega) (by omega) fun j g1 g2 => ?_
    obtain ⟨x, hx, qx⟩ := r0.get' (i := j) (List.getElem?_eq_getElem (by rw [r0.length, ← hs1]; exact g1))
    obtain ⟨y, hy, qy⟩ := r.get' (i := j) (List.getElem?_eq_getElem (by rw [r.length, ← hs2]; exact g2))
    obtain ⟨w1, e1, k1⟩ := rv0.get (List.getElem?_eq_getElem (by rw [r0.length, ← hs1]; exact g1))
    obtain ⟨w2, e2, k2⟩ := rv1.get (List.getElem?_eq_getElem (by rw [r.length, ← hs2]; exact g2))
    have l1 : its0.toArray[j] = w1 := by
      rw [List.getElem_toArray]
      exact Option.some.inj ((List.getElem?_eq_getElem (by simpa using g1)).symm.trans e1)
    have l2 : its.toArray[j] = w2 := by
      rw [List.getElem_toArray]
      exact Option.some.inj ((List.getElem?_eq_getElem (by simpa using g2)).symm.trans e2)
    rw [l1, l2]
    exact eqE_at I w (by show X.A.units + 1 + 50 < cLine; omega) qx qy k1 k2 (hf j x y hx hy)
  exact rc _ _ _ _ ⟨.bl _, H, I, rfl, q⟩
theorem opd_eqE {K : PySem.W.Frag} : OpD K T (rEqE K T) kEqE := fun W sg H ex rho om Q x y v u w rx ry o => by
  unfold kEqE at o
  split at o
  · rename_i xs ys hx hy
    split at o
    · rename_i hl
      split at o
      · rename_i b hb
        obtain ⟨a, vs, rfl, e1, r1⟩ := der_lst w rx hx
        obtain ⟨a', vs', rfl, e2, r2⟩ := der_lst w ry hy
        exact ⟨ex, rho, om, a, a', vs, vs', xs, ys, b, w, rfl, rfl, e1, e2, r1, r2, hl, hb, o.here w .bl⟩
      · exact o.elim
    · exact o.elim
  · exact o.elim
end
end DL
end Part_DL42
section Part_DL43
set_option maxRecDepth 100000
set_option maxHeartbeats 1600000
/-! what a head tells by one Bool: the error with a line, a tuple of texts -/
namespace DL
open PySem PySem.Spec PyProof.Rows L2 PySem.W PySem.HandSPX
def noKw (K : PySem.W.Frag) (a : Addr) : Bool := match K.lookup a with
  | some ⟨_, _, .func fd, _⟩ => decide (fd.kwdefaults = .none)
  | _ => false
def lineCls (K : PySem.W.Frag) (C : Addr) : Bool := match K.lookup C with
  | some ⟨.type "type", _, .cls cd, sl⟩ => (match cd.mro, sl.toList with
    | .ref C' :: bm, [_, _, _, _, some (.builtin n), _] => C' == C && n == "ValueError.__new__" && !cd.hasDel && cd.hasDict && refsVE bm
    | _, _ => false)
  | _ => false
theorem lineCls_ok {K : PySem.W.Frag} {C : Addr} (q : lineCls K C = true) :
    ∃ nm q N bs bm sn sub ab col dd k0 k1 k2 k3 k5, K.lookup C = some (excClassObj nm q C N bs bm true sn sub ab col dd k0 k1 k2 k3 k5 "ValueError.__new__") ∧ refsVE bm = true := by
  unfold lineCls at q
  split at q
  · rename_i dd cd sl ho
    split at q
    · rename_i C' bm k0 k1 k2 k3 n k5 hm hs
      simp only [Bool.and_eq_true, beq_iff_eq, Bool.not_eq_true'] at q
      obtain ⟨⟨⟨⟨rfl, rfl⟩, h3⟩, h4⟩, h5⟩ := q
      obtain ⟨nm, bs, mro, ns, qn, hd, sn, sub, ab, col, del⟩ := cd
      simp only at hm h3 h4
      subst hm h3 h4
      have e : sl = #[k0, k1, k2, k3, some (.builtin "ValueError.__new__"), k5] := by
        rw [← Array.toArray_toList (xs := sl), hs]
      subst e
      exact ⟨_, _, _, _, _, _, _, _, _, _, _, _, _, _, _, ho, h5⟩
    · cases q
  · cases q
/-- all that LineTxt asks but the maker's text -/
def lineB (K : PySem.W.Frag) : Bool :=
  lineCls K (He.ga K "ParseError") && He.eqO (PySem.W.findIn K (.ref (He.ga K "ParseError")) "__setattr__") (some (some (.builtin "object.__setattr__"))) &&
  He.eqO (PySem.W.findIn K (.ref (He.ga K "ParseError")) "__getattribute__") (some (some (.builtin "BaseException.__getattribute__"))) && He.eqO (PySem.W.findIn K (.ref (He.ga K "ParseError")) "__getattr__") (some none) &&
  He.eqO (PySem.W.findIn K (.ref (He.ga K "ParseError")) "line") (some none) && He.eqO (PySem.W.findIn K (.ref (He.ga K "ParseError")) "__init__") (some (some (.ref (He.ma K (He.ga K "ParseError") "__init__")))) &&
  decide (PySem.W.typeIn K (.ref (He.ma K (He.ga K "ParseError") "__init__")) = some (.type "function")) && PySem.W.keepIn K (.ref (He.ga K "ParseError")) && decide (PySem.W.subIn K (.ref (He.ga K "ParseError")) (.type "BaseException") = some true) &&
  decide (PySem.W.typeIn K (.ref (He.ga K "ParseError")) = some (.type "type")) && PySem.W.hasDictIn K (He.ga K "ParseError") && decide (PySem.W.exmOne K (.ref (He.ga K "ParseError")) (.ref (He.ga K "ParseError")) = some true) && noKw K (He.ma K (He.ga K "ParseError") "__init__")
theorem line_ok {K : PySem.W.Frag} {mg : Str → Option Value} {fd : FuncData} {p1 p2 q1 q2 q3 q4 : Pos} (h : lineB K = true) (g : mg "ParseError" = some (.ref (He.ga K "ParseError")))
    (F : FunD K "__init__" "ParseError.__init__" (PySem.LineX.iA p1 p2) (PySem.LineX.iB q1 q2 q3 q4) PySem.LineX.iS [] [] (He.ma K (He.ga K "ParseError") "__init__") fd) :
    PySem.LineX.LineTxt K mg (He.ga K "ParseError") (He.ma K (He.ga K "ParseError") "__init__") := by
  unfold lineB at h
  simp only [Bool.and_eq_true, decide_eq_true_eq] at h
  obtain ⟨⟨⟨⟨⟨⟨⟨⟨⟨⟨⟨⟨h1, h2⟩, h3⟩, h4⟩, h5⟩, h6⟩, h7⟩, h8⟩, h9⟩, h10⟩, h11⟩, h12⟩, h13⟩ := h
  obtain ⟨oc, od, dV, kV, doc, pm, an, cdv, ct, osl, rfl, lk, hcd, hD, hK⟩ := F.ex
  have e1 : dV = .none := hD.elim (fun h => h.2) fun h => absurd rfl h.1
  have e2 : kV = .none := by
    unfold noKw at h13
    rw [lk] at h13
    exact of_decide_eq_true h13
  subst e1 e2
  exact { gC := g, cls := lineCls_ok h1, sa := He.eqO_ok h2, ga := He.eqO_ok h3, gg := He.eqO_ok h4, noN := He.eqO_ok h5, iC := He.eqO_ok h6, tC := h7, kC := h8, exC := h9, tyC := h10, hdC := h11, te := h12,
          fn := ⟨oc, od, doc, pm, an, cdv, ct, osl, p1, p2, q1, q2, q3, q4, lk, hcd⟩ }
/-- a tuple of texts at a name -/
def strOf : Value → Option Str
  | .str x _ => some x
  | _ => none
def textsB (K : PySem.W.Frag) (x : Str) (l : List Str) : Bool := match K.lookup (He.ga K x) with
  | some ⟨.type "tuple", _, .seq its _, _⟩ => decide (its.toList.map strOf = l.map some)
  | _ => false
theorem vals_of_strs : ∀ {us : List Value} {l : List Str}, us.map strOf = l.map some → Vals (l.map V.str) us
  | [], [], _ => .nil
  | [], _ :: _, h => by simp at h
  | _ :: _, [], h => by simp at h
  | u :: us, x :: l, h => by
    simp only [List.map_cons, List.cons.injEq] at h
    refine .cons ?_ (vals_of_strs h.2)
    cases u with
    | str y t => cases h.1; exact ⟨t, rfl⟩
    | _ => cases h.1
theorem texts_reps {K : PySem.W.Frag} {T : Ct} {H : Hp} {ex : Addr → Prop} {rho : List Addr} : ∀ l : List Str, Reps K T H ex rho (l.map V.str) (l.map fun x => .str x.cps.toList)
  | [] => .nil
  | x :: l => .cons (.str rfl) (texts_reps l)
theorem texts_cst {K : PySem.W.Frag} {T : Ct} {mg : Str → Option Value} {x : Str} {l : List Str} (h : textsB K x l = true) (g : mg x = some (.ref (He.ga K x))) (hl : l.length ≤ 1000000) : Cst K T mg x (.wt (l.map fun y => .str y.cps.toList)) := by
  unfold textsB at h
  split at h
  · rename_i od its n sl ho
    have hv := vals_of_strs (of_decide_eq_true h)
    refine ⟨.ref (He.ga K x), .ref (He.ga K x), g, rfl, fun H ex rho => .wt ⟨_, its, n, ho, rfl, rfl, ?_, hv⟩ (texts_reps l)⟩
    have := hv.length
    rw [List.length_map] at this
    rw [← Array.length_toList, ← this]
    exact million_line hl
  · cases h
theorem str_cst {K : PySem.W.Frag} {T : Ct} {mg : Str → Option Value} {x z : Str} {l : List Nat} (h : ∃ t, mg x = some (.str z t)) (e : z.cps.toList = l) : Cst K T mg x (.str l) := by
  obtain ⟨t, h⟩ := h
  exact ⟨.str z, _, h, ⟨t, rfl⟩, fun _ _ _ => .str e⟩
theorem int_cst {K : PySem.W.Frag} {T : Ct} {mg : Str → Option Value} {x : Str} {i : Int} (h : ∃ t, mg x = some (.int i t)) : Cst K T mg x (.int i) := by
  obtain ⟨t, h⟩ := h
  exact ⟨.int i, _, h, ⟨t, rfl⟩, fun _ _ _ => .int⟩
end DL
end Part_DL43
section Part_DL44
set_option maxRecDepth 100000
set_option maxHeartbeats 1600000
/-! sorting by putting in, which the kernel evaluates -/
namespace DL
open PySem PySem.Spec PyProof.Rows L2
def insW (le : Dat → Dat → Bool) (x : Dat) : List Dat → List Dat
  | [] => [x]
  | y :: r => if le x y = true then x :: y :: r else y :: insW le x r
def sortW (le : Dat → Dat → Bool) : List Dat → List Dat
  | [] => []
  | x :: r => insW le x (sortW le r)
abbrev sortI : List Dat → List Dat := sortW dLe
theorem insW_perm {le : Dat → Dat → Bool} {x : Dat} : ∀ l : List Dat, (insW le x l).Perm (x :: l)
  | [] => .refl _
  | y :: r => by
    unfold insW
    split
    · exact .refl _
    · exact ((insW_perm r).cons y).trans (.swap x y r)
theorem sortW_perm {le : Dat → Dat → Bool} : ∀ l : List Dat, (sortW le l).Perm l
  | [] => .refl _
  | x :: r => (insW_perm _).trans ((sortW_perm r).cons x)
theorem insW_pair {le : Dat → Dat → Bool} (h : PySem.W.TotalLe le) {x : Dat} : ∀ {l : List Dat}, l.Pairwise (fun a b => le a b = true) → (insW le x l).Pairwise fun a b => le a b = true
  | [], _ => by simp [insW]
  | y :: r, p => by
    obtain ⟨p1, p2⟩ := List.pairwise_cons.mp p
    unfold insW
    split
    · rename_i hxy
      refine List.pairwise_cons.mpr ⟨fun z hz => ?_, p⟩
      rcases List.mem_cons.mp hz with e | e
      · exact e ▸ hxy
      · exact h.trans _ _ _ hxy (p1 z e)
    · rename_i hxy
      have hyx : le y x = true := (h.total x y).resolve_left hxy
      refine List.pairwise_cons.mpr ⟨fun z hz => ?_, insW_pair h p2⟩
      rcases List.mem_cons.mp ((insW_perm r).mem_iff.mp hz) with e | e
      · exact e ▸ hyx
      · exact p1 z e
theorem sortW_pair {le : Dat → Dat → Bool} (h : PySem.W.TotalLe le) : ∀ l : List Dat, (sortW le l).Pairwise fun a b => le a b = true
  | [] => .nil
  | x :: r => insW_pair h (sortW_pair h r)
theorem insW_congr {le le' : Dat → Dat → Bool} {x : Dat} : ∀ {l : List Dat}, (∀ y ∈ l, le x y = le' x y) → insW le x l = insW le' x l
  | [], _ => rfl
  | y :: r, h => by
    unfold insW
    rw [h y (List.mem_cons_self ..), insW_congr fun z hz => h z (List.mem_cons_of_mem _ hz)]
theorem sortW_congr {le le' : Dat → Dat → Bool} : ∀ {l : List Dat}, (∀ x ∈ l, ∀ y ∈ l, le x y = le' x y) → sortW le l = sortW le' l
  | [], _ => rfl
  | x :: r, h => by
    unfold sortW
    rw [sortW_congr fun a ha b hb => h a (List.mem_cons_of_mem _ ha) b (List.mem_cons_of_mem _ hb)]
    exact insW_congr fun y hy => h x (List.mem_cons_self ..) y (List.mem_cons_of_mem _ ((sortW_perm r).mem_iff.mp hy))
theorem sortI_eq {ds : List Dat} (ok : srtOk ds = true) : sortI ds = sortD ds := by
  have e : sortI ds = sortW (PySem.W.sortLe (listOrd itemOrd) false fun d => PySem.W.keyToks (toPy d)) ds := sortW_congr fun a ha b hb => by
    show (!dLt b a) = (!PySem.W.dataLt (toPy b) (toPy a))
    rw [lt_dat (srt_two ok hb ha)]
  have p1 : (sortI ds).Pairwise fun a b => dLe a b = true := by
    have h := sortW_pair (PySem.W.sortLe_total (listOrd itemOrd) false fun d => PySem.W.keyToks (toPy d)) ds
    rw [← e] at h
    refine List.Pairwise.imp_of_mem (fun {a b} ha hb q => ?_) h
    have ha' : a ∈ ds := (sortW_perm ds).mem_iff.mp ha
    have hb' : b ∈ ds := (sortW_perm ds).mem_iff.mp hb
    have q' : (!PySem.W.dataLt (toPy b) (toPy a)) = true := q
    rw [lt_dat (srt_two ok hb' ha')] at q'
    exact q'
  refine List.Perm.eq_of_pairwise (le := fun a b => dLe a b = true) (fun a b ha hb h1 h2 => ?_) p1 (sortD_pair ok) ((sortW_perm ds).trans (List.mergeSort_perm ds dLe).symm)
  have ha' : a ∈ ds := (sortW_perm ds).mem_iff.mp ha
  have hb' : b ∈ ds := (List.mergeSort_perm ds dLe).mem_iff.mp hb
  exact dLe_anti ok ha' hb' (by simpa [dLe] using h2) (by simpa [dLe] using h1)
end DL
end Part_DL44
section Part_DL45
set_option maxRecDepth 100000
set_option maxHeartbeats 1600000
/-! sorted(..) by putting in -/
namespace DL
open PySem PySem.Spec PyProof.Rows L2
def kSortedI (ds : List Dat) (om : Om) : R Dat := match ds with
  | [d] => match lstD om d with
    | some xs => if srtOk xs = true ∧ xs.length ≤ 1000000 then .ok (.lst (sortI xs)) om else .no
    | none => .no
  | _ => .no
def kSortedDcI (ds : List Dat) (om : Om) : R Dat := match ds with
  | [.dct ks _] => if srtOk ks = true then .ok (.lst (sortI ks)) om else .no
  | _ => .no
def kSortSetI (d : Dat) (om : Om) : R Dat := match itemsD om d with
  | some xs => if keyable xs = true ∧ srtOk (nubD xs) = true then .ok (.lst (sortI (nubD xs))) om else .no
  | none => .no
theorem kSortedI_eq : kSortedI = kSorted := by
  funext ds om
  have key : ∀ xs : List Dat, (if srtOk xs = true ∧ xs.length ≤ 1000000 then R.ok (Dat.lst (sortI xs)) om else .no) = if srtOk xs = true ∧ xs.length ≤ 1000000 then R.ok (Dat.lst (sortD xs)) om else .no := fun xs => by
    split
    · rename_i h
      rw [sortI_eq h.1]
    · rfl
  unfold kSortedI kSorted
  simp only [key]
  all_goals rfl
theorem kSortedDcI_eq : kSortedDcI = kSortedDc := by
  funext ds om
  have key : ∀ xs : List Dat, (if srtOk xs = true then R.ok (Dat.lst (sortI xs)) om else .no) = if srtOk xs = true then R.ok (Dat.lst (sortD xs)) om else .no := fun xs => by
    split
    · rename_i h
      rw [sortI_eq h]
    · rfl
  unfold kSortedDcI kSortedDc
  simp only [key]
  all_goals rfl
theorem kSortSetI_eq : kSortSetI = kSortSet := by
  funext d om
  have key : ∀ xs : List Dat, (if keyable xs = true ∧ srtOk (nubD xs) = true then R.ok (Dat.lst (sortI (nubD xs))) om else .no) = if keyable xs = true ∧ srtOk (nubD xs) = true then R.ok (Dat.lst (sortD (nubD xs))) om else .no := fun xs => by
    split
    · rename_i h
      rw [sortI_eq h.2]
    · rfl
  unfold kSortSetI kSortSet
  simp only [key]
  all_goals rfl
section
variable {K : PySem.W.Frag} {T : Ct}
theorem opd_sortedI : CallD K T (rSortedD K T) kSortedI := kSortedI_eq ▸ opd_sorted
theorem opd_sortedDcI : CallD K T (rSortedDc K T) kSortedDcI := kSortedDcI_eq ▸ opd_sortedDc
end
section
variable {X : Cx} {T : Ct} {a : Expr} {f : DV} {p p2 q pos : Pos}
theorem de_sortSetI (hc : X.calm = true) (hu : X.A.units + 64 < cLine) (hg : Gl X "sorted") (hm : X.mg "sorted" = none) (hg2 : Gl X "set") (hm2 : X.mg "set" = none) (ha : DE X T a f) (na : starEach [a] X.env = (false, eval a X.env) :: starEach [] X.env := by rfl)
    : DE X T (.Call (.Name "sorted" p) [.Call (.Name "set" p2) [a] [] q] [] pos) (e1 kSortSetI f) := by
  rw [kSortSetI_eq]
  exact de_sortSet hc hu hg hm hg2 hm2 ha na
end
end DL
end Part_DL45
section Part_G2
set_option maxRecDepth 100000
set_option maxHeartbeats 4000000
namespace K70
open PySem PySem.Spec PyProof.Rows L2 DL
def top (i : Nat) : Stmt := PySem.Challenge.pw_keptways_k70_texts_of_all_forms.main.body.getD i (.Pass ⟨0, 0, 0, 0⟩)
def exm (a b : String) : Option Bool := if b = "InvalidWord" ∨ b = "InvalidOperation" ∨ b = "ParseError" then some (b == a) else none
abbrev kLtX := kCmp (fun a b => decide (a < b)) fun a b => decide (a < b)
abbrev kLeX := kCmp (fun a b => decide (a ≤ b)) fun a b => !decide (b < a)
abbrev kGtX := kCmp (fun a b => decide (b < a)) fun a b => decide (b < a)
abbrev kGeX := kCmp (fun a b => decide (b ≤ a)) fun a b => !decide (a < b)

structure Bi (mg : Str → Option Value) : Prop where
  abs_ : mg "abs" = none
  all_ : mg "all" = none
  bool_ : mg "bool" = none
  dict_ : mg "dict" = none
  enumerate_ : mg "enumerate" = none
  int_ : mg "int" = none
  isinstance_ : mg "isinstance" = none
  len_ : mg "len" = none
  list_ : mg "list" = none
  max_ : mg "max" = none
  min_ : mg "min" = none
  range_ : mg "range" = none
  repr_ : mg "repr" = none
  set_ : mg "set" = none
  sorted_ : mg "sorted" = none
  str_ : mg "str" = none
  tuple_ : mg "tuple" = none
  zip_ : mg "zip" = none
def dMAX_LETTERS : Dat := .int 8
def dLETTERS : Dat := .str [97, 98, 99, 100, 101, 102, 103, 104, 105, 106, 107, 108, 109, 110, 111, 112, 113, 114, 115, 116, 117, 118, 119, 120, 121, 122]
def dLONGEST : Dat := .int (10 ^ 60)
def dNOTHING : Dat := .str [45]
def dDIGITS : Dat := .str [48, 49, 50, 51, 52, 53, 54, 55, 56, 57]
def dFORMS : Dat := .wt [.str [108, 111, 116], .str [112, 97, 105, 114, 115], .str [119, 97, 121, 115], .str [116, 114, 101, 101], .str [101, 110, 100, 115], .str [115, 116, 114, 101, 101, 116, 115], .str [103, 114, 111, 119, 116, 104]]
section
variable {P : Program} {w : World} {K : PySem.W.Frag} {mg : Str → Option Value} {base : Heap} {T : Ct} {f : Addr} {fd : FuncData}
/-! ### is_integer -/
abbrev n_is_integer : List Str := ["value"]
def b_is_integer : SD := sRet (eAnd (e1 (kIsi "int") (eVar 0)) (eAnd (eNot (e1 (kIsi "bool") (eVar 0))) (eChain (kLtX) (kLtX) (e1 kNeg (eC dLONGEST)) (eVar 0) (eC dLONGEST))))
def f_is_integer : List Dat → Om → R Dat := fnD false 1 1 b_is_integer
theorem sc_is_integer : FnScope n_is_integer ["value"] (defScope (top 4)) := ⟨rfl, rfl, rfl, by decide +kernel, rfl, by decide +kernel, by decide +kernel⟩
theorem ok_is_integer (bi : Bi mg) (cLONGEST : Cst K T mg "LONGEST" dLONGEST) (F : FnP K "is_integer" (top 4) f fd) (gF : mg "is_integer" = some (.ref f)) : Has P w K mg base T "is_integer" 1 1 f_is_integer :=
  ⟨f, fd, ["value"], fn_okD (k := 0) F sc_is_integer rfl rfl (fun cdv A outer s H E hr =>
    (dss_one (ds_ret (de_and (de_isi rfl bi.isinstance_ (dv 0) rfl bi.int_ (by decide +kernel)) (de_and (de_not (de_isi rfl bi.isinstance_ (dv 0) rfl bi.bool_ (by decide +kernel))) (de_one (de_chain op_lt' op_lt' opd_cmp opd_cmp (de_un un_neg opd_neg (de_cst cLONGEST rfl)) (dv 0) (de_cst cLONGEST rfl)))))))), gF, F.kp, F.bindsN fun _ _ _ _ _ _ us hl => match us, hl with | [_], _ => rfl⟩

/-! ### is_within -/
abbrev n_is_within : List Str := ["value", "least", "most"]
def b_is_within : SD := sRet (eAnd (eCall 1 [] f_is_integer (aCons (eVar 0) (aNil))) (eChain (kLeX) (kLeX) (eVar 1) (eVar 0) (eVar 2)))
def f_is_within : List Dat → Om → R Dat := fnD false 3 3 b_is_within
theorem sc_is_within : FnScope n_is_within ["value", "least", "most"] (defScope (top 5)) := ⟨rfl, rfl, rfl, by decide +kernel, rfl, by decide +kernel, by decide +kernel⟩
theorem ok_is_within (bi : Bi mg) (h_is_integer : Has P w K mg base T "is_integer" 1 1 f_is_integer) (F : FnP K "is_within" (top 5) f fd) (gF : mg "is_within" = some (.ref f)) : Has P w K mg base T "is_within" 2 3 f_is_within :=
  ⟨f, fd, ["value", "least", "most"], fn_okD (k := 1) F sc_is_within rfl rfl (fun cdv A outer s H E hr =>
    (dss_one (ds_ret (de_and (de_fn h_is_integer hr (by decide) rfl (da_cons (dv 0) da_nil) (by decide) rfl rfl) (de_one (de_chain op_le' op_le' opd_cmp opd_cmp (dv 1) (dv 0) (dv 2))))))), gF, F.kp, F.bindsN fun _ _ _ _ _ _ us hl => match us, hl with | [_, _, _], _ => rfl⟩

/-! ### is_word -/
abbrev n_is_word : List Str := ["value", "sign"]
def b_is_word : SD := sRet (eAnd (e1 (kIsi "str") (eVar 0)) (eAnd (eChain (kLeX) (kLeX) (eC (.int 1)) (eB kLen (aCons (eVar 0) (aNil))) (eC dMAX_LETTERS)) (eB kAll (aCons (eLc (iText (eVar 0)) (gN 1) (tYesD) (e2 kInS (eVar 1) (eC dLETTERS)) [1]) (aNil)))))
def f_is_word : List Dat → Om → R Dat := fnD false 1 2 b_is_word
theorem sc_is_word : FnScope n_is_word ["value"] (defScope (top 6)) := ⟨rfl, rfl, rfl, by decide +kernel, rfl, by decide +kernel, by decide +kernel⟩
theorem ok_is_word (bi : Bi mg) (cMAX_LETTERS : Cst K T mg "MAX_LETTERS" dMAX_LETTERS) (cLETTERS : Cst K T mg "LETTERS" dLETTERS) (F : FnP K "is_word" (top 6) f fd) (gF : mg "is_word" = some (.ref f)) : Has P w K mg base T "is_word" 1 1 f_is_word :=
  ⟨f, fd, ["value"], fn_okD (k := 0) F sc_is_word rfl rfl (fun cdv A outer s H E hr =>
    (dss_one (ds_ret (de_and (de_isi rfl bi.isinstance_ (dv 0) rfl bi.str_ (by decide +kernel)) (de_and (de_chain op_le' op_le' opd_cmp opd_cmp de_int (de_b call_len opd_len rfl bi.len_ (by decide +kernel) (da_cons (dv 0) da_nil)) (de_cst cMAX_LETTERS rfl)) (de_one (de_b (cr_all rfl) opd_all rfl bi.all_ (by decide +kernel) (da_cons (de_lc (own := [("sign", 1)]) rfl sc_is_word.nd (di_text (dv 0)) (blkOk_by (N := n_is_word) (sc := defScope (top 6)) (by decide +kernel)) (fun _ _ _ _ _ => (dg_name (pg_name (i := 1) sc_is_word.nd rfl (by first | exact Or.inl rfl | exact Or.inr rfl)) (by decide))) (fun _ _ _ _ _ => dts_nil) (fun _ _ _ _ _ => (de_cmp op_in_sign opd_inS (dv 1) (de_cst cLETTERS rfl) rfl))) da_nil)))))))), gF, F.kp, F.bindsN fun _ _ _ _ _ _ us hl => match us, hl with | [_], _ => rfl⟩

/-! ### number_told -/
abbrev n_number_told : List Str := ["text", "sign"]
def b_number_told : SD := sSeq (sIf (tOrD (tNotD (tst (eChain (kLeX) (kLeX) (eC (.int 1)) (eB kLen (aCons (eVar 0) (aNil))) (eC (.int 2))))) (tNotD (tst (eB kAll (aCons (eLc (iText (eVar 0)) (gN 1) (tYesD) (e2 kInS (eVar 1) (eC dDIGITS)) [1]) (aNil)))))) (sRet (eC .non)) (sNil)) (sRet (eIf (tst (e2 kEq (eB kStr (aCons (eB kIntOf (aCons (eVar 0) (aNil))) (aNil))) (eVar 0))) (eB kIntOf (aCons (eVar 0) (aNil))) (eC .non)))
def f_number_told : List Dat → Om → R Dat := fnD false 1 2 b_number_told
theorem sc_number_told : FnScope n_number_told ["text"] (defScope (top 16)) := ⟨rfl, rfl, rfl, by decide +kernel, rfl, by decide +kernel, by decide +kernel⟩
theorem ok_number_told (bi : Bi mg) (cDIGITS : Cst K T mg "DIGITS" dDIGITS) (F : FnP K "number_told" (top 16) f fd) (gF : mg "number_told" = some (.ref f)) : Has P w K mg base T "number_told" 1 1 f_number_told :=
  ⟨f, fd, ["text"], fn_okD (k := 0) F sc_number_told rfl rfl (fun cdv A outer s H E hr =>
    (dss_cons (ds_if (dt_w (dw_or (dt_not (dt_chain op_le' op_le' opd_cmp opd_cmp de_int (de_b call_len opd_len rfl bi.len_ (by decide +kernel) (da_cons (dv 0) da_nil)) de_int)) (dw_or1 (dt_not (dt_of (de_b (cr_all rfl) opd_all rfl bi.all_ (by decide +kernel) (da_cons (de_lc (own := [("sign", 1)]) rfl sc_number_told.nd (di_text (dv 0)) (blkOk_by (N := n_number_told) (sc := defScope (top 16)) (by decide +kernel)) (fun _ _ _ _ _ => (dg_name (pg_name (i := 1) sc_number_told.nd rfl (by first | exact Or.inl rfl | exact Or.inr rfl)) (by decide))) (fun _ _ _ _ _ => dts_nil) (fun _ _ _ _ _ => (de_cmp op_in_sign opd_inS (dv 1) (de_cst cDIGITS rfl) rfl))) da_nil))))))) (dss_one (ds_ret de_non)) dss_nil)
      (dss_one (ds_ret (de_if (dt_cmp (op_eqG hr.units) opd_eq (de_ty call_str_int opd_str rfl bi.str_ (by decide +kernel) (da_cons (de_ty call_intOf opd_intOf rfl bi.int_ (by decide +kernel) (da_cons (dv 0) da_nil)) da_nil)) (dv 0) (nomark _)) (de_ty call_intOf opd_intOf rfl bi.int_ (by decide +kernel) (da_cons (dv 0) da_nil)) de_non))))), gF, F.kp, F.bindsN fun _ _ _ _ _ _ us hl => match us, hl with | [_], _ => rfl⟩

/-! ### is_words -/
abbrev n_is_words : List Str := ["value", "many", "word"]
def b_is_words : SD := sRet (eAnd (e1 (kIsi "tuple") (eVar 0)) (eAnd (e2 kEq (eB kLen (aCons (eVar 0) (aNil))) (eVar 1)) (eB kAll (aCons (eLc (iSeq (eVar 0)) (gN 2) (tYesD) (eCall 1 [] f_is_word (aCons (eVar 2) (aNil))) [2]) (aNil)))))
def f_is_words : List Dat → Om → R Dat := fnD false 2 3 b_is_words
theorem sc_is_words : FnScope n_is_words ["value", "many"] (defScope (top 17)) := ⟨rfl, rfl, rfl, by decide +kernel, rfl, by decide +kernel, by decide +kernel⟩
theorem ok_is_words (bi : Bi mg) (h_is_word : Has P w K mg base T "is_word" 1 1 f_is_word) (F : FnP K "is_words" (top 17) f fd) (gF : mg "is_words" = some (.ref f)) : Has P w K mg base T "is_words" 2 2 f_is_words :=
  ⟨f, fd, ["value", "many"], fn_okD (k := 1) F sc_is_words rfl rfl (fun cdv A outer s H E hr =>
    (dss_one (ds_ret (de_and (de_isi rfl bi.isinstance_ (dv 0) rfl bi.tuple_ (by decide +kernel)) (de_and (de_cmp (op_eqG hr.units) opd_eq (de_b call_len opd_len rfl bi.len_ (by decide +kernel) (da_cons (dv 0) da_nil)) (dv 1) (nomark _)) (de_one (de_b (cr_all rfl) opd_all rfl bi.all_ (by decide +kernel) (da_cons (de_lc (own := [("word", 2)]) rfl sc_is_words.nd (di_seq (dv 0)) (blkOk_by (N := n_is_words) (sc := defScope (top 17)) (by decide +kernel)) (fun _ _ _ _ _ => (dg_name (pg_name (i := 2) sc_is_words.nd rfl (by first | exact Or.inl rfl | exact Or.inr rfl)) (by decide))) (fun _ _ _ _ _ => dts_nil) (fun _ _ _ _ _ => (de_fn h_is_word hr (by decide) rfl (da_cons (dv 2) da_nil) (by decide) rfl rfl))) da_nil)))))))), gF, F.kp, F.bindsN fun _ _ _ _ _ _ us hl => match us, hl with | [_, _], _ => rfl⟩

/-! ### is_low_pair -/
abbrev n_is_low_pair : List Str := ["value"]
def b_is_low_pair : SD := sRet (eAnd (eCall 2 [] f_is_words (aCons (eVar 0) (aCons (eC (.int 2)) (aNil)))) (e2 kLeX (e2 kIx (eVar 0) (eC (.int 0))) (e2 kIx (eVar 0) (eC (.int 1)))))
def f_is_low_pair : List Dat → Om → R Dat := fnD false 1 1 b_is_low_pair
theorem sc_is_low_pair : FnScope n_is_low_pair ["value"] (defScope (top 18)) := ⟨rfl, rfl, rfl, by decide +kernel, rfl, by decide +kernel, by decide +kernel⟩
theorem ok_is_low_pair (bi : Bi mg) (h_is_words : Has P w K mg base T "is_words" 2 2 f_is_words) (F : FnP K "is_low_pair" (top 18) f fd) (gF : mg "is_low_pair" = some (.ref f)) : Has P w K mg base T "is_low_pair" 3 1 f_is_low_pair :=
  ⟨f, fd, ["value"], fn_okD (k := 2) F sc_is_low_pair rfl rfl (fun cdv A outer s H E hr =>
    (dss_one (ds_ret (de_and (de_fn h_is_words hr (by decide) rfl (da_cons (dv 0) (da_cons de_int da_nil)) (by decide) rfl rfl) (de_one (de_cmp op_le' opd_cmp (de_ix (dv 0) de_int) (de_ix (dv 0) de_int) (nomark _))))))), gF, F.kp, F.bindsN fun _ _ _ _ _ _ us hl => match us, hl with | [_], _ => rfl⟩

/-! ### is_pair_tuple -/
abbrev n_is_pair_tuple : List Str := ["value", "pair"]
def b_is_pair_tuple : SD := sRet (eAnd (e1 (kIsi "tuple") (eVar 0)) (eB kAll (aCons (eLc (iSeq (eVar 0)) (gN 1) (tYesD) (eCall 1 [] f_is_low_pair (aCons (eVar 1) (aNil))) [1]) (aNil))))
def f_is_pair_tuple : List Dat → Om → R Dat := fnD false 1 2 b_is_pair_tuple
theorem sc_is_pair_tuple : FnScope n_is_pair_tuple ["value"] (defScope (top 19)) := ⟨rfl, rfl, rfl, by decide +kernel, rfl, by decide +kernel, by decide +kernel⟩
theorem ok_is_pair_tuple (bi : Bi mg) (h_is_low_pair : Has P w K mg base T "is_low_pair" 3 1 f_is_low_pair) (F : FnP K "is_pair_tuple" (top 19) f fd) (gF : mg "is_pair_tuple" = some (.ref f)) : Has P w K mg base T "is_pair_tuple" 4 1 f_is_pair_tuple :=
  ⟨f, fd, ["value"], fn_okD (k := 3) F sc_is_pair_tuple rfl rfl (fun cdv A outer s H E hr =>
    (dss_one (ds_ret (de_and (de_isi rfl bi.isinstance_ (dv 0) rfl bi.tuple_ (by decide +kernel)) (de_one (de_b (cr_all rfl) opd_all rfl bi.all_ (by decide +kernel) (da_cons (de_lc (own := [("pair", 1)]) rfl sc_is_pair_tuple.nd (di_seq (dv 0)) (blkOk_by (N := n_is_pair_tuple) (sc := defScope (top 19)) (by decide +kernel)) (fun _ _ _ _ _ => (dg_name (pg_name (i := 1) sc_is_pair_tuple.nd rfl (by first | exact Or.inl rfl | exact Or.inr rfl)) (by decide))) (fun _ _ _ _ _ => dts_nil) (fun _ _ _ _ _ => (de_fn h_is_low_pair hr (by decide) rfl (da_cons (dv 1) da_nil) (by decide) rfl rfl))) da_nil))))))), gF, F.kp, F.bindsN fun _ _ _ _ _ _ us hl => match us, hl with | [_], _ => rfl⟩

/-! ### is_far_way -/
abbrev n_is_far_way : List Str := ["value"]
def b_is_far_way : SD := sSeq (sIf (tOrD (tNotD (tst (e1 (kIsi "tuple") (eVar 0)))) (tOrD (tst (e2 kLtX (eB kLen (aCons (eVar 0) (aNil))) (eC (.int 2)))) (tNotD (tst (eCall 2 [] f_is_words (aCons (eVar 0) (aCons (eB kLen (aCons (eVar 0) (aNil))) (aNil)))))))) (sRet (eC (.bl false))) (sNil)) (sRet (e2 kEq (e1 kLenSet (eVar 0)) (eB kLen (aCons (eVar 0) (aNil)))))
def f_is_far_way : List Dat → Om → R Dat := fnD false 1 1 b_is_far_way
theorem sc_is_far_way : FnScope n_is_far_way ["value"] (defScope (top 20)) := ⟨rfl, rfl, rfl, by decide +kernel, rfl, by decide +kernel, by decide +kernel⟩
theorem ok_is_far_way (bi : Bi mg) (h_is_words : Has P w K mg base T "is_words" 2 2 f_is_words) (F : FnP K "is_far_way" (top 20) f fd) (gF : mg "is_far_way" = some (.ref f)) : Has P w K mg base T "is_far_way" 3 1 f_is_far_way :=
  ⟨f, fd, ["value"], fn_okD (k := 2) F sc_is_far_way rfl rfl (fun cdv A outer s H E hr =>
    (dss_cons (ds_if (dt_w (dw_or (dt_not (dt_of (de_isi rfl bi.isinstance_ (dv 0) rfl bi.tuple_ (by decide +kernel)))) (dw_or (dt_cmp op_lt' opd_cmp (de_b call_len opd_len rfl bi.len_ (by decide +kernel) (da_cons (dv 0) da_nil)) de_int (nomark _)) (dw_or1 (dt_not (dt_of (de_fn h_is_words hr (by decide) rfl (da_cons (dv 0) (da_cons (de_b call_len opd_len rfl bi.len_ (by decide +kernel) (da_cons (dv 0) da_nil)) da_nil)) (by decide) rfl rfl))))))) (dss_one (ds_ret de_bl)) dss_nil)
      (dss_one (ds_ret (de_cmp (op_eqG hr.units) opd_eq (de_lenSet rfl hr.units rfl bi.len_ rfl bi.set_ (dv 0)) (de_b call_len opd_len rfl bi.len_ (by decide +kernel) (da_cons (dv 0) da_nil)) (nomark _)))))), gF, F.kp, F.bindsN fun _ _ _ _ _ _ us hl => match us, hl with | [_], _ => rfl⟩

/-! ### is_counted -/
abbrev n_is_counted : List Str := ["value"]
def b_is_counted : SD := sSeq (sIf (tOrD (tNotD (tst (e1 (kIsi "tuple") (eVar 0)))) (tOrD (tst (e2 kNe (eB kLen (aCons (eVar 0) (aNil))) (eC (.int 3)))) (tNotD (tst (eCall 2 [] f_is_words (aCons (eSl (eVar 0) (oNone) (oSome (eC (.int 2)))) (aCons (eC (.int 2)) (aNil)))))))) (sRet (eC (.bl false))) (sNil)) (sRet (eAnd (e2 kLtX (e2 kIx (eVar 0) (eC (.int 0))) (e2 kIx (eVar 0) (eC (.int 1)))) (eCall 3 [] f_is_within (aCons (e2 kIx (eVar 0) (eC (.int 2))) (aCons (eC (.int 0)) (aCons (eC (.int 99)) (aNil)))))))
def f_is_counted : List Dat → Om → R Dat := fnD false 1 1 b_is_counted
theorem sc_is_counted : FnScope n_is_counted ["value"] (defScope (top 21)) := ⟨rfl, rfl, rfl, by decide +kernel, rfl, by decide +kernel, by decide +kernel⟩
theorem ok_is_counted (bi : Bi mg) (h_is_within : Has P w K mg base T "is_within" 2 3 f_is_within) (h_is_words : Has P w K mg base T "is_words" 2 2 f_is_words) (F : FnP K "is_counted" (top 21) f fd) (gF : mg "is_counted" = some (.ref f)) : Has P w K mg base T "is_counted" 3 1 f_is_counted :=
  ⟨f, fd, ["value"], fn_okD (k := 2) F sc_is_counted rfl rfl (fun cdv A outer s H E hr =>
    (dss_cons (ds_if (dt_w (dw_or (dt_not (dt_of (de_isi rfl bi.isinstance_ (dv 0) rfl bi.tuple_ (by decide +kernel)))) (dw_or (dt_cmp (op_neD hr.units) opd_ne (de_b call_len opd_len rfl bi.len_ (by decide +kernel) (da_cons (dv 0) da_nil)) de_int (nomark _)) (dw_or1 (dt_not (dt_of (de_fn h_is_words hr (by decide) rfl (da_cons (de_sl (dv 0) do_none (do_some de_int)) (da_cons de_int da_nil)) (by decide) rfl rfl))))))) (dss_one (ds_ret de_bl)) dss_nil)
      (dss_one (ds_ret (de_and (de_cmp op_lt' opd_cmp (de_ix (dv 0) de_int) (de_ix (dv 0) de_int) (nomark _)) (de_one (de_fn h_is_within hr (by decide) rfl (da_cons (de_ix (dv 0) de_int) (da_cons de_int (da_cons de_int da_nil))) (by decide) rfl rfl))))))), gF, F.kp, F.bindsN fun _ _ _ _ _ _ us hl => match us, hl with | [_], _ => rfl⟩

/-! ### is_step -/
abbrev n_is_step : List Str := ["value"]
def b_is_step : SD := sSeq (sIf (tOrD (tNotD (tst (e1 (kIsi "tuple") (eVar 0)))) (tOrD (tst (e2 kNe (eB kLen (aCons (eVar 0) (aNil))) (eC (.int 3)))) (tOrD (tNotD (tst (e1 (kIsi "str") (e2 kIx (eVar 0) (eC (.int 0)))))) (tNotD (tst (eCall 1 [] f_is_word (aCons (e2 kIx (eVar 0) (eC (.int 1))) (aNil)))))))) (sRet (eC (.bl false))) (sNil)) (sSeq (sIf (tst (e2 kEq (e2 kIx (eVar 0) (eC (.int 0))) (eC (.str [116, 105, 101])))) (sRet (eCall 1 [] f_is_word (aCons (e2 kIx (eVar 0) (eC (.int 2))) (aNil)))) (sNil)) (sRet (eAnd (e2 kEq (e2 kIx (eVar 0) (eC (.int 0))) (eC (.str [112, 105, 110, 99, 104]))) (eAnd (eCall 1 [] f_is_pair_tuple (aCons (e2 kIx (eVar 0) (eC (.int 2))) (aNil))) (e2 kNe (e2 kIx (eVar 0) (eC (.int 2))) (eTup (aNil)))))))
def f_is_step : List Dat → Om → R Dat := fnD false 1 1 b_is_step
theorem sc_is_step : FnScope n_is_step ["value"] (defScope (top 22)) := ⟨rfl, rfl, rfl, by decide +kernel, rfl, by decide +kernel, by decide +kernel⟩
theorem ok_is_step (bi : Bi mg) (h_is_pair_tuple : Has P w K mg base T "is_pair_tuple" 4 1 f_is_pair_tuple) (h_is_word : Has P w K mg base T "is_word" 1 1 f_is_word) (F : FnP K "is_step" (top 22) f fd) (gF : mg "is_step" = some (.ref f)) : Has P w K mg base T "is_step" 5 1 f_is_step :=
  ⟨f, fd, ["value"], fn_okD (k := 4) F sc_is_step rfl rfl (fun cdv A outer s H E hr =>
    (dss_cons (ds_if (dt_w (dw_or (dt_not (dt_of (de_isi rfl bi.isinstance_ (dv 0) rfl bi.tuple_ (by decide +kernel)))) (dw_or (dt_cmp (op_neD hr.units) opd_ne (de_b call_len opd_len rfl bi.len_ (by decide +kernel) (da_cons (dv 0) da_nil)) de_int (nomark _)) (dw_or (dt_not (dt_of (de_isi rfl bi.isinstance_ (de_ix (dv 0) de_int) rfl bi.str_ (by decide +kernel)))) (dw_or1 (dt_not (dt_of (de_fn h_is_word hr (by decide) rfl (da_cons (de_ix (dv 0) de_int) da_nil) (by decide) rfl rfl)))))))) (dss_one (ds_ret de_bl)) dss_nil)
      (dss_cons (ds_if (dt_cmp (op_eqG hr.units) opd_eq (de_ix (dv 0) de_int) (de_str (by decide +kernel)) (nomark _)) (dss_one (ds_ret (de_fn h_is_word hr (by decide) rfl (da_cons (de_ix (dv 0) de_int) da_nil) (by decide) rfl rfl))) dss_nil)
      (dss_one (ds_ret (de_and (de_cmp (op_eqG hr.units) opd_eq (de_ix (dv 0) de_int) (de_str (by decide +kernel)) (nomark _)) (de_and (de_fn h_is_pair_tuple hr (by decide) rfl (da_cons (de_ix (dv 0) de_int) da_nil) (by decide) rfl rfl) (de_one (de_cmp (op_neD hr.units) opd_ne (de_ix (dv 0) de_int) (de_tup da_nil) (nomark _)))))))))), gF, F.kp, F.bindsN fun _ _ _ _ _ _ us hl => match us, hl with | [_], _ => rfl⟩

/-! ### is_number_dict -/
abbrev n_is_number_dict : List Str := ["value", "word", "many"]
def b_is_number_dict : SD := sSeq (sIf (tOrD (tNotD (tst (e1 (kIsi "dict") (eVar 0)))) (tNotD (tst (eB kAll (aCons (eLc (iKeysD (eVar 0)) (gN 1) (tYesD) (eCall 1 [] f_is_word (aCons (eVar 1) (aNil))) [1]) (aNil)))))) (sRet (eC (.bl false))) (sNil)) (sRet (eB kAll (aCons (eLc (iValsD (eVar 0)) (gN 2) (tYesD) (eCall 3 [] f_is_within (aCons (eVar 2) (aCons (eC (.int 0)) (aCons (eC (.int 99)) (aNil))))) [2]) (aNil))))
def f_is_number_dict : List Dat → Om → R Dat := fnD false 1 3 b_is_number_dict
theorem sc_is_number_dict : FnScope n_is_number_dict ["value"] (defScope (top 23)) := ⟨rfl, rfl, rfl, by decide +kernel, rfl, by decide +kernel, by decide +kernel⟩
theorem ok_is_number_dict (bi : Bi mg) (h_is_within : Has P w K mg base T "is_within" 2 3 f_is_within) (h_is_word : Has P w K mg base T "is_word" 1 1 f_is_word) (F : FnP K "is_number_dict" (top 23) f fd) (gF : mg "is_number_dict" = some (.ref f)) : Has P w K mg base T "is_number_dict" 3 1 f_is_number_dict :=
  ⟨f, fd, ["value"], fn_okD (k := 2) F sc_is_number_dict rfl rfl (fun cdv A outer s H E hr =>
    (dss_cons (ds_if (dt_w (dw_or (dt_not (dt_of (de_isi rfl bi.isinstance_ (dv 0) rfl bi.dict_ (by decide +kernel)))) (dw_or1 (dt_not (dt_of (de_b (cr_all rfl) opd_all rfl bi.all_ (by decide +kernel) (da_cons (de_lc (own := [("word", 1)]) rfl sc_is_number_dict.nd (di_keys (dv 0)) (blkOk_by (N := n_is_number_dict) (sc := defScope (top 23)) (by decide +kernel)) (fun _ _ _ _ _ => (dg_name (pg_name (i := 1) sc_is_number_dict.nd rfl (by first | exact Or.inl rfl | exact Or.inr rfl)) (by decide))) (fun _ _ _ _ _ => dts_nil) (fun _ _ _ _ _ => (de_fn h_is_word hr (by decide) rfl (da_cons (dv 1) da_nil) (by decide) rfl rfl))) da_nil))))))) (dss_one (ds_ret de_bl)) dss_nil)
      (dss_one (ds_ret (de_b (cr_all rfl) opd_all rfl bi.all_ (by decide +kernel) (da_cons (de_lc (own := [("many", 2)]) rfl sc_is_number_dict.nd (di_vals (dv 0)) (blkOk_by (N := n_is_number_dict) (sc := defScope (top 23)) (by decide +kernel)) (fun _ _ _ _ _ => (dg_name (pg_name (i := 2) sc_is_number_dict.nd rfl (by first | exact Or.inl rfl | exact Or.inr rfl)) (by decide))) (fun _ _ _ _ _ => dts_nil) (fun _ _ _ _ _ => (de_fn h_is_within hr (by decide) rfl (da_cons (dv 2) (da_cons de_int (da_cons de_int da_nil))) (by decide) rfl rfl))) da_nil)))))), gF, F.kp, F.bindsN fun _ _ _ _ _ _ us hl => match us, hl with | [_], _ => rfl⟩

/-! ### is_street_dict -/
abbrev n_is_street_dict : List Str := ["value", "pair", "many"]
def b_is_street_dict : SD := sSeq (sIf (tOrD (tNotD (tst (e1 (kIsi "dict") (eVar 0)))) (tNotD (tst (eB kAll (aCons (eLc (iKeysD (eVar 0)) (gN 1) (tYesD) (eAnd (eCall 2 [] f_is_words (aCons (eVar 1) (aCons (eC (.int 2)) (aNil)))) (e2 kNe (e2 kIx (eVar 1) (eC (.int 0))) (e2 kIx (eVar 1) (eC (.int 1))))) [1]) (aNil)))))) (sRet (eC (.bl false))) (sNil)) (sRet (eB kAll (aCons (eLc (iValsD (eVar 0)) (gN 2) (tYesD) (eCall 3 [] f_is_within (aCons (eVar 2) (aCons (eC (.int 1)) (aCons (eC (.int 99)) (aNil))))) [2]) (aNil))))
def f_is_street_dict : List Dat → Om → R Dat := fnD false 1 3 b_is_street_dict
theorem sc_is_street_dict : FnScope n_is_street_dict ["value"] (defScope (top 24)) := ⟨rfl, rfl, rfl, by decide +kernel, rfl, by decide +kernel, by decide +kernel⟩
theorem ok_is_street_dict (bi : Bi mg) (h_is_within : Has P w K mg base T "is_within" 2 3 f_is_within) (h_is_words : Has P w K mg base T "is_words" 2 2 f_is_words) (F : FnP K "is_street_dict" (top 24) f fd) (gF : mg "is_street_dict" = some (.ref f)) : Has P w K mg base T "is_street_dict" 3 1 f_is_street_dict :=
  ⟨f, fd, ["value"], fn_okD (k := 2) F sc_is_street_dict rfl rfl (fun cdv A outer s H E hr =>
    (dss_cons (ds_if (dt_w (dw_or (dt_not (dt_of (de_isi rfl bi.isinstance_ (dv 0) rfl bi.dict_ (by decide +kernel)))) (dw_or1 (dt_not (dt_of (de_b (cr_all rfl) opd_all rfl bi.all_ (by decide +kernel) (da_cons (de_lc (own := [("pair", 1)]) rfl sc_is_street_dict.nd (di_keys (dv 0)) (blkOk_by (N := n_is_street_dict) (sc := defScope (top 24)) (by decide +kernel)) (fun _ _ _ _ _ => (dg_name (pg_name (i := 1) sc_is_street_dict.nd rfl (by first | exact Or.inl rfl | exact Or.inr rfl)) (by decide))) (fun _ _ _ _ _ => dts_nil) (fun _ _ _ _ _ => (de_and (de_fn h_is_words hr (by decide) rfl (da_cons (dv 1) (da_cons de_int da_nil)) (by decide) rfl rfl) (de_one (de_cmp (op_neD hr.units) opd_ne (de_ix (dv 1) de_int) (de_ix (dv 1) de_int) (nomark _)))))) da_nil))))))) (dss_one (ds_ret de_bl)) dss_nil)
      (dss_one (ds_ret (de_b (cr_all rfl) opd_all rfl bi.all_ (by decide +kernel) (da_cons (de_lc (own := [("many", 2)]) rfl sc_is_street_dict.nd (di_vals (dv 0)) (blkOk_by (N := n_is_street_dict) (sc := defScope (top 24)) (by decide +kernel)) (fun _ _ _ _ _ => (dg_name (pg_name (i := 2) sc_is_street_dict.nd rfl (by first | exact Or.inl rfl | exact Or.inr rfl)) (by decide))) (fun _ _ _ _ _ => dts_nil) (fun _ _ _ _ _ => (de_fn h_is_within hr (by decide) rfl (da_cons (dv 2) (da_cons de_int (da_cons de_int da_nil))) (by decide) rfl rfl))) da_nil)))))), gF, F.kp, F.bindsN fun _ _ _ _ _ _ us hl => match us, hl with | [_], _ => rfl⟩

/-! ### has_form -/
abbrev n_has_form : List Str := ["form", "value", "way", "row", "step"]
def b_has_form : SD := sSeq (sIf (tst (e2 kEq (eVar 0) (eC (.str [101, 110, 100, 115])))) (sRet (eCall 1 [] f_is_number_dict (aCons (eVar 1) (aNil)))) (sNil)) (sSeq (sIf (tst (e2 kEq (eVar 0) (eC (.str [115, 116, 114, 101, 101, 116, 115])))) (sRet (eCall 1 [] f_is_street_dict (aCons (eVar 1) (aNil)))) (sNil)) (sSeq (sIf (tNotD (tst (e1 (kIsi "tuple") (eVar 1)))) (sRet (eC (.bl false))) (sNil)) (sSeq (sIf (tst (e2 kEq (eVar 0) (eC (.str [108, 111, 116])))) (sRet (eAnd (eCall 2 [] f_is_words (aCons (eVar 1) (aCons (eB kLen (aCons (eVar 1) (aNil))) (aNil)))) (e2 kEq (eB kList (aCons (eVar 1) (aNil))) (e1 kSortSetI (eVar 1))))) (sNil)) (sSeq (sIf (tst (e2 kEq (eVar 0) (eC (.str [112, 97, 105, 114, 115])))) (sRet (eCall 1 [] f_is_pair_tuple (aCons (eVar 1) (aNil)))) (sNil)) (sSeq (sIf (tst (e2 kEq (eVar 0) (eC (.str [119, 97, 121, 115])))) (sRet (eB kAll (aCons (eLc (iSeq (eVar 1)) (gN 2) (tYesD) (eCall 1 [] f_is_far_way (aCons (eVar 2) (aNil))) [2]) (aNil)))) (sNil)) (sSeq (sIf (tst (e2 kEq (eVar 0) (eC (.str [116, 114, 101, 101])))) (sRet (eB kAll (aCons (eLc (iSeq (eVar 1)) (gN 3) (tYesD) (eCall 1 [] f_is_counted (aCons (eVar 3) (aNil))) [3]) (aNil)))) (sNil)) (sRet (eAnd (e2 kNe (eVar 1) (eTup (aNil))) (eAnd (eCall 1 [] f_is_word (aCons (e2 kIx (eVar 1) (eC (.int 0))) (aNil))) (eB kAll (aCons (eLc (iSeq (eSl (eVar 1) (oSome (eC (.int 1))) (oNone))) (gN 4) (tYesD) (eCall 1 [] f_is_step (aCons (eVar 4) (aNil))) [4]) (aNil))))))))))))
def f_has_form : List Dat → Om → R Dat := fnD false 2 5 b_has_form
theorem sc_has_form : FnScope n_has_form ["form", "value"] (defScope (top 25)) := ⟨rfl, rfl, rfl, by decide +kernel, rfl, by decide +kernel, by decide +kernel⟩
theorem ok_has_form (bi : Bi mg) (h_is_word : Has P w K mg base T "is_word" 1 1 f_is_word) (h_is_step : Has P w K mg base T "is_step" 5 1 f_is_step) (h_is_counted : Has P w K mg base T "is_counted" 3 1 f_is_counted) (h_is_far_way : Has P w K mg base T "is_far_way" 3 1 f_is_far_way) (h_is_pair_tuple : Has P w K mg base T "is_pair_tuple" 4 1 f_is_pair_tuple) (h_is_words : Has P w K mg base T "is_words" 2 2 f_is_words) (h_is_street_dict : Has P w K mg base T "is_street_dict" 3 1 f_is_street_dict) (h_is_number_dict : Has P w K mg base T "is_number_dict" 3 1 f_is_number_dict) (F : FnP K "has_form" (top 25) f fd) (gF : mg "has_form" = some (.ref f)) : Has P w K mg base T "has_form" 6 2 f_has_form :=
  ⟨f, fd, ["form", "value"], fn_okD (k := 5) F sc_has_form rfl rfl (fun cdv A outer s H E hr =>
    (dss_cons (ds_if (dt_cmp (op_eqG hr.units) opd_eq (dv 0) (de_str (by decide +kernel)) (nomark _)) (dss_one (ds_ret (de_fn h_is_number_dict hr (by decide) rfl (da_cons (dv 1) da_nil) (by decide) rfl rfl))) dss_nil)
      (dss_cons (ds_if (dt_cmp (op_eqG hr.units) opd_eq (dv 0) (de_str (by decide +kernel)) (nomark _)) (dss_one (ds_ret (de_fn h_is_street_dict hr (by decide) rfl (da_cons (dv 1) da_nil) (by decide) rfl rfl))) dss_nil)
      (dss_cons (ds_if (dt_not (dt_of (de_isi rfl bi.isinstance_ (dv 1) rfl bi.tuple_ (by decide +kernel)))) (dss_one (ds_ret de_bl)) dss_nil)
      (dss_cons (ds_if (dt_cmp (op_eqG hr.units) opd_eq (dv 0) (de_str (by decide +kernel)) (nomark _)) (dss_one (ds_ret (de_and (de_fn h_is_words hr (by decide) rfl (da_cons (dv 1) (da_cons (de_b call_len opd_len rfl bi.len_ (by decide +kernel) (da_cons (dv 1) da_nil)) da_nil)) (by decide) rfl rfl) (de_one (de_cmp (op_eqG hr.units) opd_eq (de_ty call_list_of opd_list rfl bi.list_ (by decide +kernel) (da_cons (dv 1) da_nil)) (de_sortSetI rfl hr.units rfl bi.sorted_ rfl bi.set_ (dv 1)) (nomark _)))))) dss_nil)
      (dss_cons (ds_if (dt_cmp (op_eqG hr.units) opd_eq (dv 0) (de_str (by decide +kernel)) (nomark _)) (dss_one (ds_ret (de_fn h_is_pair_tuple hr (by decide) rfl (da_cons (dv 1) da_nil) (by decide) rfl rfl))) dss_nil)
      (dss_cons (ds_if (dt_cmp (op_eqG hr.units) opd_eq (dv 0) (de_str (by decide +kernel)) (nomark _)) (dss_one (ds_ret (de_b (cr_all rfl) opd_all rfl bi.all_ (by decide +kernel) (da_cons (de_lc (own := [("way", 2)]) rfl sc_has_form.nd (di_seq (dv 1)) (blkOk_by (N := n_has_form) (sc := defScope (top 25)) (by decide +kernel)) (fun _ _ _ _ _ => (dg_name (pg_name (i := 2) sc_has_form.nd rfl (by first | exact Or.inl rfl | exact Or.inr rfl)) (by decide))) (fun _ _ _ _ _ => dts_nil) (fun _ _ _ _ _ => (de_fn h_is_far_way hr (by decide) rfl (da_cons (dv 2) da_nil) (by decide) rfl rfl))) da_nil)))) dss_nil)
      (dss_cons (ds_if (dt_cmp (op_eqG hr.units) opd_eq (dv 0) (de_str (by decide +kernel)) (nomark _)) (dss_one (ds_ret (de_b (cr_all rfl) opd_all rfl bi.all_ (by decide +kernel) (da_cons (de_lc (own := [("row", 3)]) rfl sc_has_form.nd (di_seq (dv 1)) (blkOk_by (N := n_has_form) (sc := defScope (top 25)) (by decide +kernel)) (fun _ _ _ _ _ => (dg_name (pg_name (i := 3) sc_has_form.nd rfl (by first | exact Or.inl rfl | exact Or.inr rfl)) (by decide))) (fun _ _ _ _ _ => dts_nil) (fun _ _ _ _ _ => (de_fn h_is_counted hr (by decide) rfl (da_cons (dv 3) da_nil) (by decide) rfl rfl))) da_nil)))) dss_nil)
      (dss_one (ds_ret (de_and (de_cmp (op_neD hr.units) opd_ne (dv 1) (de_tup da_nil) (nomark _)) (de_and (de_fn h_is_word hr (by decide) rfl (da_cons (de_ix (dv 1) de_int) da_nil) (by decide) rfl rfl) (de_one (de_b (cr_all rfl) opd_all rfl bi.all_ (by decide +kernel) (da_cons (de_lc (own := [("step", 4)]) rfl sc_has_form.nd (di_seq (de_sl (dv 1) (do_some de_int) do_none)) (blkOk_by (N := n_has_form) (sc := defScope (top 25)) (by decide +kernel)) (fun _ _ _ _ _ => (dg_name (pg_name (i := 4) sc_has_form.nd rfl (by first | exact Or.inl rfl | exact Or.inr rfl)) (by decide))) (fun _ _ _ _ _ => dts_nil) (fun _ _ _ _ _ => (de_fn h_is_step hr (by decide) rfl (da_cons (dv 4) da_nil) (by decide) rfl rfl))) da_nil))))))))))))))), gF, F.kp, F.bindsN fun _ _ _ _ _ _ us hl => match us, hl with | [_, _], _ => rfl⟩

/-! ### pair_texts -/
abbrev n_pair_texts : List Str := ["pairs", "one", "other"]
def b_pair_texts : SD := sRet (eLc (iSeq (eVar 0)) (gT 2 (gsC (gN 1) (gsC (gN 2) (gsN)))) (tYesD) (joinF [eFmt (eVar 1), eC (.str [45]), eFmt (eVar 2)] []) [1, 2])
def f_pair_texts : List Dat → Om → R Dat := fnD false 1 3 b_pair_texts
theorem sc_pair_texts : FnScope n_pair_texts ["pairs"] (defScope (top 26)) := ⟨rfl, rfl, rfl, by decide +kernel, rfl, by decide +kernel, by decide +kernel⟩
theorem ok_pair_texts (bi : Bi mg) (F : FnP K "pair_texts" (top 26) f fd) (gF : mg "pair_texts" = some (.ref f)) : Has P w K mg base T "pair_texts" 1 1 f_pair_texts :=
  ⟨f, fd, ["pairs"], fn_okD (k := 0) F sc_pair_texts rfl rfl (fun cdv A outer s H E hr =>
    (dss_one (ds_ret (de_lc (own := [("one", 1), ("other", 2)]) rfl sc_pair_texts.nd (di_seq (dv 0)) (blkOk_by (N := n_pair_texts) (sc := defScope (top 26)) (by decide +kernel)) (fun _ _ _ _ _ => (dg_tup rfl (dgs_cons (dg_name (pg_name (i := 1) sc_pair_texts.nd rfl (by first | exact Or.inl rfl | exact Or.inr rfl)) (by decide)) (dgs_cons (dg_name (pg_name (i := 2) sc_pair_texts.nd rfl (by first | exact Or.inl rfl | exact Or.inr rfl)) (by decide)) dgs_nil)))) (fun _ _ _ _ _ => dts_nil) (fun _ _ _ _ _ => (de_join (DJ.cons (de_fmt (dv 1)) (DJ.cons (de_str (by decide +kernel)) (DJ.cons (de_fmt (dv 2)) DJ.nil))))))))), gF, F.kp, F.bindsN fun _ _ _ _ _ _ us hl => match us, hl with | [_], _ => rfl⟩

/-! ### step_text -/
abbrev n_step_text : List Str := ["step"]
def b_step_text : SD := sSeq (sIf (tst (e2 kEq (e2 kIx (eVar 0) (eC (.int 0))) (eC (.str [116, 105, 101])))) (sRet (joinF [eFmt (e2 kIx (eVar 0) (eC (.int 1))), eC (.str [43]), eFmt (e2 kIx (eVar 0) (eC (.int 2)))] [])) (sNil)) (sRet (eM1 kJoin (eC (.str [61])) (eLst (aCons (e2 kIx (eVar 0) (eC (.int 1))) (aStar (eCall 1 [] f_pair_texts (aCons (e2 kIx (eVar 0) (eC (.int 2))) (aNil))) (aNil))))))
def f_step_text : List Dat → Om → R Dat := fnD false 1 1 b_step_text
theorem sc_step_text : FnScope n_step_text ["step"] (defScope (top 27)) := ⟨rfl, rfl, rfl, by decide +kernel, rfl, by decide +kernel, by decide +kernel⟩
theorem ok_step_text (bi : Bi mg) (h_pair_texts : Has P w K mg base T "pair_texts" 1 1 f_pair_texts) (F : FnP K "step_text" (top 27) f fd) (gF : mg "step_text" = some (.ref f)) : Has P w K mg base T "step_text" 2 1 f_step_text :=
  ⟨f, fd, ["step"], fn_okD (k := 1) F sc_step_text rfl rfl (fun cdv A outer s H E hr =>
    (dss_cons (ds_if (dt_cmp (op_eqG hr.units) opd_eq (de_ix (dv 0) de_int) (de_str (by decide +kernel)) (nomark _)) (dss_one (ds_ret (de_join (DJ.cons (de_fmt (de_ix (dv 0) de_int)) (DJ.cons (de_str (by decide +kernel)) (DJ.cons (de_fmt (de_ix (dv 0) de_int)) DJ.nil)))))) dss_nil)
      (dss_one (ds_ret (de_strjoin (de_str (by decide +kernel)) (de_lst (da_cons (de_ix (dv 0) de_int) (da_star (de_fn h_pair_texts hr (by decide) rfl (da_cons (de_ix (dv 0) de_int) da_nil) (by decide) rfl rfl) da_nil)))))))), gF, F.kp, F.bindsN fun _ _ _ _ _ _ us hl => match us, hl with | [_], _ => rfl⟩

/-! ### item_texts -/
abbrev n_item_texts : List Str := ["form", "value", "way", "one", "other", "many", "word", "step"]
def b_item_texts : SD := sSeq (sIf (tst (e2 kEq (eVar 0) (eC (.str [108, 111, 116])))) (sRet (eB kList (aCons (eVar 1) (aNil)))) (sNil)) (sSeq (sIf (tst (e2 kEq (eVar 0) (eC (.str [112, 97, 105, 114, 115])))) (sRet (eCall 1 [] f_pair_texts (aCons (eVar 1) (aNil)))) (sNil)) (sSeq (sIf (tst (e2 kEq (eVar 0) (eC (.str [119, 97, 121, 115])))) (sRet (eLc (iSeq (eVar 1)) (gN 2) (tYesD) (eM1 kJoin (eC (.str [62])) (eB kList (aCons (eVar 2) (aNil)))) [2])) (sNil)) (sSeq (sIf (tst (e2 kEq (eVar 0) (eC (.str [116, 114, 101, 101])))) (sRet (eLc (iSeq (eVar 1)) (gT 3 (gsC (gN 3) (gsC (gN 4) (gsC (gN 5) (gsN))))) (tYesD) (joinF [eFmt (eVar 3), eC (.str [45]), eFmt (eVar 4), eC (.str [58]), eFmt (eVar 5)] []) [3, 4, 5])) (sNil)) (sSeq (sIf (tst (e2 kEq (eVar 0) (eC (.str [101, 110, 100, 115])))) (sRet (eLc (iSeq (eB kSortedI (aCons (eB kListDc (aCons (eVar 1) (aNil))) (aNil)))) (gN 6) (tYesD) (joinF [eFmt (eVar 6), eC (.str [58]), eFmt (e2 kDGet (eVar 1) (eVar 6))] []) [6])) (sNil)) (sSeq (sIf (tst (e2 kEq (eVar 0) (eC (.str [115, 116, 114, 101, 101, 116, 115])))) (sRet (eLc (iSeq (eB kSortedI (aCons (eB kListDc (aCons (eVar 1) (aNil))) (aNil)))) (gT 2 (gsC (gN 3) (gsC (gN 4) (gsN)))) (tYesD) (joinF [eFmt (eVar 3), eC (.str [62]), eFmt (eVar 4), eC (.str [58]), eFmt (e2 kDGet (eVar 1) (eTup (aCons (eVar 3) (aCons (eVar 4) (aNil)))))] []) [3, 4])) (sNil)) (sRet (eLst (aCons (e2 kIx (eVar 1) (eC (.int 0))) (aStar (eLc (iSeq (eSl (eVar 1) (oSome (eC (.int 1))) (oNone))) (gN 7) (tYesD) (eCall 1 [] f_step_text (aCons (eVar 7) (aNil))) [7]) (aNil))))))))))
def f_item_texts : List Dat → Om → R Dat := fnD false 2 8 b_item_texts
theorem sc_item_texts : FnScope n_item_texts ["form", "value"] (defScope (top 28)) := ⟨rfl, rfl, rfl, by decide +kernel, rfl, by decide +kernel, by decide +kernel⟩
theorem ok_item_texts (bi : Bi mg) (h_step_text : Has P w K mg base T "step_text" 2 1 f_step_text) (h_pair_texts : Has P w K mg base T "pair_texts" 1 1 f_pair_texts) (F : FnP K "item_texts" (top 28) f fd) (gF : mg "item_texts" = some (.ref f)) : Has P w K mg base T "item_texts" 3 2 f_item_texts :=
  ⟨f, fd, ["form", "value"], fn_okD (k := 2) F sc_item_texts rfl rfl (fun cdv A outer s H E hr =>
    (dss_cons (ds_if (dt_cmp (op_eqG hr.units) opd_eq (dv 0) (de_str (by decide +kernel)) (nomark _)) (dss_one (ds_ret (de_ty call_list_of opd_list rfl bi.list_ (by decide +kernel) (da_cons (dv 1) da_nil)))) dss_nil)
      (dss_cons (ds_if (dt_cmp (op_eqG hr.units) opd_eq (dv 0) (de_str (by decide +kernel)) (nomark _)) (dss_one (ds_ret (de_fn h_pair_texts hr (by decide) rfl (da_cons (dv 1) da_nil) (by decide) rfl rfl))) dss_nil)
      (dss_cons (ds_if (dt_cmp (op_eqG hr.units) opd_eq (dv 0) (de_str (by decide +kernel)) (nomark _)) (dss_one (ds_ret (de_lc (own := [("way", 2)]) rfl sc_item_texts.nd (di_seq (dv 1)) (blkOk_by (N := n_item_texts) (sc := defScope (top 28)) (by decide +kernel)) (fun _ _ _ _ _ => (dg_name (pg_name (i := 2) sc_item_texts.nd rfl (by first | exact Or.inl rfl | exact Or.inr rfl)) (by decide))) (fun _ _ _ _ _ => dts_nil) (fun _ _ _ _ _ => (de_strjoin (de_str (by decide +kernel)) (de_ty call_list_of opd_list rfl bi.list_ (by decide +kernel) (da_cons (dv 2) da_nil))))))) dss_nil)
      (dss_cons (ds_if (dt_cmp (op_eqG hr.units) opd_eq (dv 0) (de_str (by decide +kernel)) (nomark _)) (dss_one (ds_ret (de_lc (own := [("one", 3), ("other", 4), ("many", 5)]) rfl sc_item_texts.nd (di_seq (dv 1)) (blkOk_by (N := n_item_texts) (sc := defScope (top 28)) (by decide +kernel)) (fun _ _ _ _ _ => (dg_tup rfl (dgs_cons (dg_name (pg_name (i := 3) sc_item_texts.nd rfl (by first | exact Or.inl rfl | exact Or.inr rfl)) (by decide)) (dgs_cons (dg_name (pg_name (i := 4) sc_item_texts.nd rfl (by first | exact Or.inl rfl | exact Or.inr rfl)) (by decide)) (dgs_cons (dg_name (pg_name (i := 5) sc_item_texts.nd rfl (by first | exact Or.inl rfl | exact Or.inr rfl)) (by decide)) dgs_nil))))) (fun _ _ _ _ _ => dts_nil) (fun _ _ _ _ _ => (de_join (DJ.cons (de_fmt (dv 3)) (DJ.cons (de_str (by decide +kernel)) (DJ.cons (de_fmt (dv 4)) (DJ.cons (de_str (by decide +kernel)) (DJ.cons (de_fmt (dv 5)) DJ.nil)))))))))) dss_nil)
      (dss_cons (ds_if (dt_cmp (op_eqG hr.units) opd_eq (dv 0) (de_str (by decide +kernel)) (nomark _)) (dss_one (ds_ret (de_lc (own := [("word", 6)]) rfl sc_item_texts.nd (di_seq (de_b (DL.call_sortedD hr.units) opd_sortedI rfl bi.sorted_ (by decide +kernel) (da_cons (de_ty (call_list_dc rfl) opd_listDc rfl bi.list_ (by decide +kernel) (da_cons (dv 1) da_nil)) da_nil))) (blkOk_by (N := n_item_texts) (sc := defScope (top 28)) (by decide +kernel)) (fun _ _ _ _ _ => (dg_name (pg_name (i := 6) sc_item_texts.nd rfl (by first | exact Or.inl rfl | exact Or.inr rfl)) (by decide))) (fun _ _ _ _ _ => dts_nil) (fun _ _ _ _ _ => (de_join (DJ.cons (de_fmt (dv 6)) (DJ.cons (de_str (by decide +kernel)) (DJ.cons (de_fmt (de_dget hr.units (dv 1) (dv 6) (by exact fun _ _ => rfl))) DJ.nil)))))))) dss_nil)
      (dss_cons (ds_if (dt_cmp (op_eqG hr.units) opd_eq (dv 0) (de_str (by decide +kernel)) (nomark _)) (dss_one (ds_ret (de_lc (own := [("one", 3), ("other", 4)]) rfl sc_item_texts.nd (di_seq (de_b (DL.call_sortedD hr.units) opd_sortedI rfl bi.sorted_ (by decide +kernel) (da_cons (de_ty (call_list_dc rfl) opd_listDc rfl bi.list_ (by decide +kernel) (da_cons (dv 1) da_nil)) da_nil))) (blkOk_by (N := n_item_texts) (sc := defScope (top 28)) (by decide +kernel)) (fun _ _ _ _ _ => (dg_tup rfl (dgs_cons (dg_name (pg_name (i := 3) sc_item_texts.nd rfl (by first | exact Or.inl rfl | exact Or.inr rfl)) (by decide)) (dgs_cons (dg_name (pg_name (i := 4) sc_item_texts.nd rfl (by first | exact Or.inl rfl | exact Or.inr rfl)) (by decide)) dgs_nil)))) (fun _ _ _ _ _ => dts_nil) (fun _ _ _ _ _ => (de_join (DJ.cons (de_fmt (dv 3)) (DJ.cons (de_str (by decide +kernel)) (DJ.cons (de_fmt (dv 4)) (DJ.cons (de_str (by decide +kernel)) (DJ.cons (de_fmt (de_dget hr.units (dv 1) (de_tup (da_cons (dv 3) (da_cons (dv 4) da_nil))) (by exact fun _ _ => rfl))) DJ.nil)))))))))) dss_nil)
      (dss_one (ds_ret (de_lst (da_cons (de_ix (dv 1) de_int) (da_star (de_lc (own := [("step", 7)]) rfl sc_item_texts.nd (di_seq (de_sl (dv 1) (do_some de_int) do_none)) (blkOk_by (N := n_item_texts) (sc := defScope (top 28)) (by decide +kernel)) (fun _ _ _ _ _ => (dg_name (pg_name (i := 7) sc_item_texts.nd rfl (by first | exact Or.inl rfl | exact Or.inr rfl)) (by decide))) (fun _ _ _ _ _ => dts_nil) (fun _ _ _ _ _ => (de_fn h_step_text hr (by decide) rfl (da_cons (dv 7) da_nil) (by decide) rfl rfl))) da_nil)))))))))))), gF, F.kp, F.bindsN fun _ _ _ _ _ _ us hl => match us, hl with | [_, _], _ => rfl⟩

/-! ### require_form -/
abbrev n_require_form : List Str := ["form"]
def b_require_form : SD := sIf (tOrD (tNotD (tst (e1 (kIsi "str") (eVar 0)))) (tst (e2 kNotIn (eVar 0) (eC dFORMS)))) (sRaiseN "InvalidWord") (sNil)
def f_require_form : List Dat → Om → R Dat := fnD false 1 1 b_require_form
theorem sc_require_form : FnScope n_require_form ["form"] (defScope (top 29)) := ⟨rfl, rfl, rfl, by decide +kernel, rfl, by decide +kernel, by decide +kernel⟩
theorem ok_require_form (bi : Bi mg) (cFORMS : Cst K T mg "FORMS" dFORMS) (x_InvalidWord : ExR K mg T "InvalidWord" "InvalidWord") (F : FnP K "require_form" (top 29) f fd) (gF : mg "require_form" = some (.ref f)) : Has P w K mg base T "require_form" 2 1 f_require_form :=
  ⟨f, fd, ["form"], fn_okD (k := 1) F sc_require_form rfl rfl (fun cdv A outer s H E hr =>
    (dss_one (ds_if (dt_w (dw_or (dt_not (dt_of (de_isi rfl bi.isinstance_ (dv 0) rfl bi.str_ (by decide +kernel)))) (dw_or1 (dt_cmp (op_notInG hr.units) opd_notIn (dv 0) (de_cst cFORMS rfl) rfl)))) (dss_one (ds_exc x_InvalidWord rfl rfl)) dss_nil))), gF, F.kp, F.bindsN fun _ _ _ _ _ _ us hl => match us, hl with | [_], _ => rfl⟩

/-! ### write -/
abbrev n_write : List Str := ["form", "value", "items"]
def b_write : SD := sSeq (sExpr (eCall 1 [] f_require_form (aCons (eVar 0) (aNil)))) (sSeq (sIf (tNotD (tst (eCall 2 [] f_has_form (aCons (eVar 0) (aCons (eVar 1) (aNil)))))) (sRaiseN "InvalidOperation") (sNil)) (sSeq (sAsg (eCall 2 [] f_item_texts (aCons (eVar 0) (aCons (eVar 1) (aNil)))) (gN 2)) (sRet (eIf (tst (e2 kNe (eVar 2) (eLst (aNil)))) (eM1 kJoin (eC (.str [32])) (eVar 2)) (eC dNOTHING)))))
def f_write : List Dat → Om → R Dat := fnD false 2 3 b_write
theorem sc_write : FnScope n_write ["form", "value"] (defScope (top 30)) := ⟨rfl, rfl, rfl, by decide +kernel, rfl, by decide +kernel, by decide +kernel⟩
theorem ok_write (bi : Bi mg) (h_item_texts : Has P w K mg base T "item_texts" 3 2 f_item_texts) (h_has_form : Has P w K mg base T "has_form" 6 2 f_has_form) (h_require_form : Has P w K mg base T "require_form" 2 1 f_require_form) (cNOTHING : Cst K T mg "NOTHING" dNOTHING) (x_InvalidOperation : ExR K mg T "InvalidOperation" "InvalidOperation") (F : FnP K "write" (top 30) f fd) (gF : mg "write" = some (.ref f)) : Has P w K mg base T "write" 7 2 f_write :=
  ⟨f, fd, ["form", "value"], fn_okD (k := 6) F sc_write rfl rfl (fun cdv A outer s H E hr =>
    (dss_cons (ds_expr (de_fn h_require_form hr (by decide) rfl (da_cons (dv 0) da_nil) (by decide) rfl rfl))
      (dss_cons (ds_if (dt_not (dt_of (de_fn h_has_form hr (by decide) rfl (da_cons (dv 0) (da_cons (dv 1) da_nil)) (by decide) rfl rfl))) (dss_one (ds_exc x_InvalidOperation rfl rfl)) dss_nil)
      (dss_cons (ds_asg (ws := [2]) (de_fn h_item_texts hr (by decide) rfl (da_cons (dv 0) (da_cons (dv 1) da_nil)) (by decide) rfl rfl) (dg_name (pg_name (i := 2) sc_write.nd rfl (by first | exact Or.inl rfl | exact Or.inr rfl)) (List.mem_singleton.mpr rfl)))
      (dss_one (ds_ret (de_if (dt_cmp (op_neD hr.units) opd_ne (dv 2) (de_lst da_nil) (nomark _)) (de_strjoin (de_str (by decide +kernel)) (dv 2)) (de_cst cNOTHING rfl)))))))), gF, F.kp, F.bindsN fun _ _ _ _ _ _ us hl => match us, hl with | [_, _], _ => rfl⟩

/-! ### halves_by -/
abbrev n_halves_by : List Str := ["text", "sign", "halves"]
def b_halves_by : SD := sSeq (sAsg (eM1 kSplit (eVar 0) (eVar 1)) (gN 2)) (sRet (eIf (tst (e2 kEq (eB kLen (aCons (eVar 2) (aNil))) (eC (.int 2)))) (eTup (aCons (e2 kIx (eVar 2) (eC (.int 0))) (aCons (e2 kIx (eVar 2) (eC (.int 1))) (aNil)))) (eC .non)))
def f_halves_by : List Dat → Om → R Dat := fnD false 2 3 b_halves_by
theorem sc_halves_by : FnScope n_halves_by ["text", "sign"] (defScope (top 31)) := ⟨rfl, rfl, rfl, by decide +kernel, rfl, by decide +kernel, by decide +kernel⟩
theorem ok_halves_by (bi : Bi mg) (F : FnP K "halves_by" (top 31) f fd) (gF : mg "halves_by" = some (.ref f)) : Has P w K mg base T "halves_by" 1 2 f_halves_by :=
  ⟨f, fd, ["text", "sign"], fn_okD (k := 0) F sc_halves_by rfl rfl (fun cdv A outer s H E hr =>
    (dss_cons (ds_asg (ws := [2]) (de_split (dv 0) (dv 1)) (dg_name (pg_name (i := 2) sc_halves_by.nd rfl (by first | exact Or.inl rfl | exact Or.inr rfl)) (List.mem_singleton.mpr rfl)))
      (dss_one (ds_ret (de_if (dt_cmp (op_eqG hr.units) opd_eq (de_b call_len opd_len rfl bi.len_ (by decide +kernel) (da_cons (dv 2) da_nil)) de_int (nomark _)) (de_tup (da_cons (de_ix (dv 2) de_int) (da_cons (de_ix (dv 2) de_int) da_nil))) de_non))))), gF, F.kp, F.bindsN fun _ _ _ _ _ _ us hl => match us, hl with | [_, _], _ => rfl⟩

/-! ### pair_told -/
abbrev n_pair_told : List Str := ["text", "pair"]
def b_pair_told : SD := sSeq (sAsg (eCall 2 [] f_halves_by (aCons (eVar 0) (aCons (eC (.str [45])) (aNil)))) (gN 1)) (sRet (eIf (tAndD (tst (e1 (fun d om => .ok (.bl (!isNonD d)) om) (eVar 1))) (tst (eCall 1 [] f_is_low_pair (aCons (eVar 1) (aNil))))) (eVar 1) (eC .non)))
def f_pair_told : List Dat → Om → R Dat := fnD false 1 2 b_pair_told
theorem sc_pair_told : FnScope n_pair_told ["text"] (defScope (top 32)) := ⟨rfl, rfl, rfl, by decide +kernel, rfl, by decide +kernel, by decide +kernel⟩
theorem ok_pair_told (bi : Bi mg) (h_is_low_pair : Has P w K mg base T "is_low_pair" 3 1 f_is_low_pair) (h_halves_by : Has P w K mg base T "halves_by" 1 2 f_halves_by) (F : FnP K "pair_told" (top 32) f fd) (gF : mg "pair_told" = some (.ref f)) : Has P w K mg base T "pair_told" 4 1 f_pair_told :=
  ⟨f, fd, ["text"], fn_okD (k := 3) F sc_pair_told rfl rfl (fun cdv A outer s H E hr =>
    (dss_cons (ds_asg (ws := [1]) (de_fn h_halves_by hr (by decide) rfl (da_cons (dv 0) (da_cons (de_str (by decide +kernel)) da_nil)) (by decide) rfl rfl) (dg_name (pg_name (i := 1) sc_pair_told.nd rfl (by first | exact Or.inl rfl | exact Or.inr rfl)) (List.mem_singleton.mpr rfl)))
      (dss_one (ds_ret (de_if (dt_w (dw_and (dt_notN (dv 1)) (dw_and1 (dt_of (de_fn h_is_low_pair hr (by decide) rfl (da_cons (dv 1) da_nil) (by decide) rfl rfl))))) (dv 1) de_non))))), gF, F.kp, F.bindsN fun _ _ _ _ _ _ us hl => match us, hl with | [_], _ => rfl⟩

/-! ### counted_told -/
abbrev n_counted_told : List Str := ["text", "sign", "halves", "pair", "many"]
def b_counted_told : SD := sSeq (sAsg (eCall 2 [] f_halves_by (aCons (eVar 0) (aCons (eC (.str [58])) (aNil)))) (gN 2)) (sSeq (sAsg (eIf (tst (e1 (fun d om => .ok (.bl (!isNonD d)) om) (eVar 2))) (eCall 2 [] f_halves_by (aCons (e2 kIx (eVar 2) (eC (.int 0))) (aCons (eVar 1) (aNil)))) (eC .non)) (gN 3)) (sSeq (sAsg (eIf (tst (e1 (fun d om => .ok (.bl (!isNonD d)) om) (eVar 2))) (eCall 1 [] f_number_told (aCons (e2 kIx (eVar 2) (eC (.int 1))) (aNil))) (eC .non)) (gN 4)) (sRet (eIf (tOrD (tst (e1 (fun d om => .ok (.bl (isNonD d)) om) (eVar 3))) (tst (e1 (fun d om => .ok (.bl (isNonD d)) om) (eVar 4)))) (eC .non) (eTup (aCons (eVar 3) (aCons (eVar 4) (aNil))))))))
def f_counted_told : List Dat → Om → R Dat := fnD false 2 5 b_counted_told
theorem sc_counted_told : FnScope n_counted_told ["text", "sign"] (defScope (top 33)) := ⟨rfl, rfl, rfl, by decide +kernel, rfl, by decide +kernel, by decide +kernel⟩
theorem ok_counted_told (bi : Bi mg) (h_number_told : Has P w K mg base T "number_told" 1 1 f_number_told) (h_halves_by : Has P w K mg base T "halves_by" 1 2 f_halves_by) (F : FnP K "counted_told" (top 33) f fd) (gF : mg "counted_told" = some (.ref f)) : Has P w K mg base T "counted_told" 2 2 f_counted_told :=
  ⟨f, fd, ["text", "sign"], fn_okD (k := 1) F sc_counted_told rfl rfl (fun cdv A outer s H E hr =>
    (dss_cons (ds_asg (ws := [2]) (de_fn h_halves_by hr (by decide) rfl (da_cons (dv 0) (da_cons (de_str (by decide +kernel)) da_nil)) (by decide) rfl rfl) (dg_name (pg_name (i := 2) sc_counted_told.nd rfl (by first | exact Or.inl rfl | exact Or.inr rfl)) (List.mem_singleton.mpr rfl)))
      (dss_cons (ds_asg (ws := [3]) (de_if (dt_notN (dv 2)) (de_fn h_halves_by hr (by decide) rfl (da_cons (de_ix (dv 2) de_int) (da_cons (dv 1) da_nil)) (by decide) rfl rfl) de_non) (dg_name (pg_name (i := 3) sc_counted_told.nd rfl (by first | exact Or.inl rfl | exact Or.inr rfl)) (List.mem_singleton.mpr rfl)))
      (dss_cons (ds_asg (ws := [4]) (de_if (dt_notN (dv 2)) (de_fn h_number_told hr (by decide) rfl (da_cons (de_ix (dv 2) de_int) da_nil) (by decide) rfl rfl) de_non) (dg_name (pg_name (i := 4) sc_counted_told.nd rfl (by first | exact Or.inl rfl | exact Or.inr rfl)) (List.mem_singleton.mpr rfl)))
      (dss_one (ds_ret (de_if (dt_w (dw_or (dt_isN (dv 3)) (dw_or1 (dt_isN (dv 4))))) de_non (de_tup (da_cons (dv 3) (da_cons (dv 4) da_nil)))))))))), gF, F.kp, F.bindsN fun _ _ _ _ _ _ us hl => match us, hl with | [_, _], _ => rfl⟩

/-! ### step_told -/
abbrev n_step_told : List Str := ["text", "pair", "place", "texts", "one"]
def b_step_told : SD := sSeq (sIf (tst (e2 kInS (eC (.str [43])) (eVar 0))) (sSeq (sAsg (eCall 2 [] f_halves_by (aCons (eVar 0) (aCons (eC (.str [43])) (aNil)))) (gN 1)) (sRet (eIf (tst (e1 (fun d om => .ok (.bl (isNonD d)) om) (eVar 1))) (eC .non) (eTup (aCons (eC (.str [116, 105, 101])) (aStar (eVar 1) (aNil))))))) (sNil)) (sSeq (sAsg (eM1 kSplit (eVar 0) (eC (.str [61]))) (gStar (gN 2) (gN 3))) (sRet (eTup (aCons (eC (.str [112, 105, 110, 99, 104])) (aCons (eVar 2) (aCons (eB kTuple (aCons (eLc (iSeq (eVar 3)) (gN 4) (tYesD) (eCall 1 [] f_pair_told (aCons (eVar 4) (aNil))) [4]) (aNil))) (aNil)))))))
def f_step_told : List Dat → Om → R Dat := fnD false 1 5 b_step_told
theorem sc_step_told : FnScope n_step_told ["text"] (defScope (top 34)) := ⟨rfl, rfl, rfl, by decide +kernel, rfl, by decide +kernel, by decide +kernel⟩
theorem ok_step_told (bi : Bi mg) (h_pair_told : Has P w K mg base T "pair_told" 4 1 f_pair_told) (h_halves_by : Has P w K mg base T "halves_by" 1 2 f_halves_by) (F : FnP K "step_told" (top 34) f fd) (gF : mg "step_told" = some (.ref f)) : Has P w K mg base T "step_told" 5 1 f_step_told :=
  ⟨f, fd, ["text"], fn_okD (k := 4) F sc_step_told rfl rfl (fun cdv A outer s H E hr =>
    (dss_cons (ds_if (dt_cmp op_in_sign opd_inS (de_str (by decide +kernel)) (dv 0) rfl) (dss_cons (ds_asg (ws := [1]) (de_fn h_halves_by hr (by decide) rfl (da_cons (dv 0) (da_cons (de_str (by decide +kernel)) da_nil)) (by decide) rfl rfl) (dg_name (pg_name (i := 1) sc_step_told.nd rfl (by first | exact Or.inl rfl | exact Or.inr rfl)) (List.mem_singleton.mpr rfl)))
      (dss_one (ds_ret (de_if (dt_isN (dv 1)) de_non (de_tup (da_cons (de_str (by decide +kernel)) (da_star (dv 1) da_nil))))))) dss_nil)
      (dss_cons (ds_asg (ws := [2, 3]) (de_split (dv 0) (de_str (by decide +kernel))) (dg_star rfl (dg_name (pg_name (i := 2) sc_step_told.nd rfl (by first | exact Or.inl rfl | exact Or.inr rfl)) (by decide)) (dg_name (pg_name (i := 3) sc_step_told.nd rfl (by first | exact Or.inl rfl | exact Or.inr rfl)) (by decide))))
      (dss_one (ds_ret (de_tup (da_cons (de_str (by decide +kernel)) (da_cons (dv 2) (da_cons (de_ty call_tuple_of opd_tuple rfl bi.tuple_ (by decide +kernel) (da_cons (de_lc (own := [("one", 4)]) rfl sc_step_told.nd (di_seq (dv 3)) (blkOk_by (N := n_step_told) (sc := defScope (top 34)) (by decide +kernel)) (fun _ _ _ _ _ => (dg_name (pg_name (i := 4) sc_step_told.nd rfl (by first | exact Or.inl rfl | exact Or.inr rfl)) (by decide))) (fun _ _ _ _ _ => dts_nil) (fun _ _ _ _ _ => (de_fn h_pair_told hr (by decide) rfl (da_cons (dv 4) da_nil) (by decide) rfl rfl))) da_nil)) da_nil))))))))), gF, F.kp, F.bindsN fun _ _ _ _ _ _ us hl => match us, hl with | [_], _ => rfl⟩

/-! ### item_told -/
abbrev n_item_told : List Str := ["form", "text", "at", "way", "told", "halves", "many", "step"]
def b_item_told : SD := sSeq (sIf (tOrD (tst (e2 kEq (eVar 0) (eC (.str [108, 111, 116])))) (tAndD (tst (e2 kEq (eVar 0) (eC (.str [103, 114, 111, 119, 116, 104])))) (tst (e2 kEq (eVar 2) (eC (.int 0)))))) (sRet (eIf (tst (eCall 1 [] f_is_word (aCons (eVar 1) (aNil)))) (eVar 1) (eC .non))) (sNil)) (sSeq (sIf (tst (e2 kEq (eVar 0) (eC (.str [112, 97, 105, 114, 115])))) (sRet (eCall 1 [] f_pair_told (aCons (eVar 1) (aNil)))) (sNil)) (sSeq (sIf (tst (e2 kEq (eVar 0) (eC (.str [119, 97, 121, 115])))) (sSeq (sAsg (eB kTuple (aCons (eM1 kSplit (eVar 1) (eC (.str [62]))) (aNil))) (gN 3)) (sRet (eIf (tst (eCall 1 [] f_is_far_way (aCons (eVar 3) (aNil)))) (eVar 3) (eC .non)))) (sNil)) (sSeq (sIf (tst (e2 kEq (eVar 0) (eC (.str [116, 114, 101, 101])))) (sSeq (sAsg (eCall 2 [] f_counted_told (aCons (eVar 1) (aCons (eC (.str [45])) (aNil)))) (gN 4)) (sRet (eIf (tOrD (tst (e1 (fun d om => .ok (.bl (isNonD d)) om) (eVar 4))) (tNotD (tst (eCall 1 [] f_is_counted (aCons (eTup (aStar (e2 kIx (eVar 4) (eC (.int 0))) (aCons (e2 kIx (eVar 4) (eC (.int 1))) (aNil)))) (aNil)))))) (eC .non) (eTup (aStar (e2 kIx (eVar 4) (eC (.int 0))) (aCons (e2 kIx (eVar 4) (eC (.int 1))) (aNil))))))) (sNil)) (sSeq (sIf (tst (e2 kEq (eVar 0) (eC (.str [101, 110, 100, 115])))) (sSeq (sAsg (eCall 2 [] f_halves_by (aCons (eVar 1) (aCons (eC (.str [58])) (aNil)))) (gN 5)) (sSeq (sAsg (eIf (tst (e1 (fun d om => .ok (.bl (!isNonD d)) om) (eVar 5))) (eCall 1 [] f_number_told (aCons (e2 kIx (eVar 5) (eC (.int 1))) (aNil))) (eC .non)) (gN 6)) (sRet (eIf (tOrD (tst (e1 (fun d om => .ok (.bl (isNonD d)) om) (eVar 6))) (tNotD (tst (eCall 1 [] f_is_word (aCons (e2 kIx (eVar 5) (eC (.int 0))) (aNil)))))) (eC .non) (eTup (aCons (e2 kIx (eVar 5) (eC (.int 0))) (aCons (eVar 6) (aNil)))))))) (sNil)) (sSeq (sIf (tst (e2 kEq (eVar 0) (eC (.str [115, 116, 114, 101, 101, 116, 115])))) (sSeq (sAsg (eCall 2 [] f_counted_told (aCons (eVar 1) (aCons (eC (.str [62])) (aNil)))) (gN 4)) (sRet (eIf (tOrD (tst (e1 (fun d om => .ok (.bl (isNonD d)) om) (eVar 4))) (tNotD (tst (eCall 1 [] f_is_street_dict (aCons (eB kDict (aCons (eLst (aCons (eVar 4) (aNil))) (aNil))) (aNil)))))) (eC .non) (eVar 4)))) (sNil)) (sSeq (sAsg (eCall 1 [] f_step_told (aCons (eVar 1) (aNil))) (gN 7)) (sRet (eIf (tst (eCall 1 [] f_is_step (aCons (eVar 7) (aNil)))) (eVar 7) (eC .non)))))))))
def f_item_told : List Dat → Om → R Dat := fnD false 3 8 b_item_told
theorem sc_item_told : FnScope n_item_told ["form", "text", "at"] (defScope (top 35)) := ⟨rfl, rfl, rfl, by decide +kernel, rfl, by decide +kernel, by decide +kernel⟩
theorem ok_item_told (bi : Bi mg) (h_is_step : Has P w K mg base T "is_step" 5 1 f_is_step) (h_step_told : Has P w K mg base T "step_told" 5 1 f_step_told) (h_is_street_dict : Has P w K mg base T "is_street_dict" 3 1 f_is_street_dict) (h_counted_told : Has P w K mg base T "counted_told" 2 2 f_counted_told) (h_is_word : Has P w K mg base T "is_word" 1 1 f_is_word) (h_number_told : Has P w K mg base T "number_told" 1 1 f_number_told) (h_halves_by : Has P w K mg base T "halves_by" 1 2 f_halves_by) (h_is_counted : Has P w K mg base T "is_counted" 3 1 f_is_counted) (h_is_far_way : Has P w K mg base T "is_far_way" 3 1 f_is_far_way) (h_pair_told : Has P w K mg base T "pair_told" 4 1 f_pair_told) (F : FnP K "item_told" (top 35) f fd) (gF : mg "item_told" = some (.ref f)) : Has P w K mg base T "item_told" 6 3 f_item_told :=
  ⟨f, fd, ["form", "text", "at"], fn_okD (k := 5) F sc_item_told rfl rfl (fun cdv A outer s H E hr =>
    (dss_cons (ds_if (dt_w (dw_or (dt_cmp (op_eqG hr.units) opd_eq (dv 0) (de_str (by decide +kernel)) (nomark _)) (dw_or1 (dt_w (dw_and (dt_cmp (op_eqG hr.units) opd_eq (dv 0) (de_str (by decide +kernel)) (nomark _)) (dw_and1 (dt_cmp (op_eqG hr.units) opd_eq (dv 2) de_int (nomark _)))))))) (dss_one (ds_ret (de_if (dt_of (de_fn h_is_word hr (by decide) rfl (da_cons (dv 1) da_nil) (by decide) rfl rfl)) (dv 1) de_non))) dss_nil)
      (dss_cons (ds_if (dt_cmp (op_eqG hr.units) opd_eq (dv 0) (de_str (by decide +kernel)) (nomark _)) (dss_one (ds_ret (de_fn h_pair_told hr (by decide) rfl (da_cons (dv 1) da_nil) (by decide) rfl rfl))) dss_nil)
      (dss_cons (ds_if (dt_cmp (op_eqG hr.units) opd_eq (dv 0) (de_str (by decide +kernel)) (nomark _)) (dss_cons (ds_asg (ws := [3]) (de_ty call_tuple_of opd_tuple rfl bi.tuple_ (by decide +kernel) (da_cons (de_split (dv 1) (de_str (by decide +kernel))) da_nil)) (dg_name (pg_name (i := 3) sc_item_told.nd rfl (by first | exact Or.inl rfl | exact Or.inr rfl)) (List.mem_singleton.mpr rfl)))
      (dss_one (ds_ret (de_if (dt_of (de_fn h_is_far_way hr (by decide) rfl (da_cons (dv 3) da_nil) (by decide) rfl rfl)) (dv 3) de_non)))) dss_nil)
      (dss_cons (ds_if (dt_cmp (op_eqG hr.units) opd_eq (dv 0) (de_str (by decide +kernel)) (nomark _)) (dss_cons (ds_asg (ws := [4]) (de_fn h_counted_told hr (by decide) rfl (da_cons (dv 1) (da_cons (de_str (by decide +kernel)) da_nil)) (by decide) rfl rfl) (dg_name (pg_name (i := 4) sc_item_told.nd rfl (by first | exact Or.inl rfl | exact Or.inr rfl)) (List.mem_singleton.mpr rfl)))
      (dss_one (ds_ret (de_if (dt_w (dw_or (dt_isN (dv 4)) (dw_or1 (dt_not (dt_of (de_fn h_is_counted hr (by decide) rfl (da_cons (de_tup (da_star (de_ix (dv 4) de_int) (da_cons (de_ix (dv 4) de_int) da_nil))) da_nil) (by decide) rfl rfl)))))) de_non (de_tup (da_star (de_ix (dv 4) de_int) (da_cons (de_ix (dv 4) de_int) da_nil))))))) dss_nil)
      (dss_cons (ds_if (dt_cmp (op_eqG hr.units) opd_eq (dv 0) (de_str (by decide +kernel)) (nomark _)) (dss_cons (ds_asg (ws := [5]) (de_fn h_halves_by hr (by decide) rfl (da_cons (dv 1) (da_cons (de_str (by decide +kernel)) da_nil)) (by decide) rfl rfl) (dg_name (pg_name (i := 5) sc_item_told.nd rfl (by first | exact Or.inl rfl | exact Or.inr rfl)) (List.mem_singleton.mpr rfl)))
      (dss_cons (ds_asg (ws := [6]) (de_if (dt_notN (dv 5)) (de_fn h_number_told hr (by decide) rfl (da_cons (de_ix (dv 5) de_int) da_nil) (by decide) rfl rfl) de_non) (dg_name (pg_name (i := 6) sc_item_told.nd rfl (by first | exact Or.inl rfl | exact Or.inr rfl)) (List.mem_singleton.mpr rfl)))
      (dss_one (ds_ret (de_if (dt_w (dw_or (dt_isN (dv 6)) (dw_or1 (dt_not (dt_of (de_fn h_is_word hr (by decide) rfl (da_cons (de_ix (dv 5) de_int) da_nil) (by decide) rfl rfl)))))) de_non (de_tup (da_cons (de_ix (dv 5) de_int) (da_cons (dv 6) da_nil)))))))) dss_nil)
      (dss_cons (ds_if (dt_cmp (op_eqG hr.units) opd_eq (dv 0) (de_str (by decide +kernel)) (nomark _)) (dss_cons (ds_asg (ws := [4]) (de_fn h_counted_told hr (by decide) rfl (da_cons (dv 1) (da_cons (de_str (by decide +kernel)) da_nil)) (by decide) rfl rfl) (dg_name (pg_name (i := 4) sc_item_told.nd rfl (by first | exact Or.inl rfl | exact Or.inr rfl)) (List.mem_singleton.mpr rfl)))
      (dss_one (ds_ret (de_if (dt_w (dw_or (dt_isN (dv 4)) (dw_or1 (dt_not (dt_of (de_fn h_is_street_dict hr (by decide) rfl (da_cons (de_ty (call_dictD rfl hr.units) opd_dict rfl bi.dict_ (by decide +kernel) (da_cons (de_lst (da_cons (dv 4) da_nil)) da_nil)) da_nil) (by decide) rfl rfl)))))) de_non (dv 4))))) dss_nil)
      (dss_cons (ds_asg (ws := [7]) (de_fn h_step_told hr (by decide) rfl (da_cons (dv 1) da_nil) (by decide) rfl rfl) (dg_name (pg_name (i := 7) sc_item_told.nd rfl (by first | exact Or.inl rfl | exact Or.inr rfl)) (List.mem_singleton.mpr rfl)))
      (dss_one (ds_ret (de_if (dt_of (de_fn h_is_step hr (by decide) rfl (da_cons (dv 7) da_nil) (by decide) rfl rfl)) (dv 7) de_non))))))))))), gF, F.kp, F.bindsN fun _ _ _ _ _ _ us hl => match us, hl with | [_, _, _], _ => rfl⟩

/-! ### keys_of -/
abbrev n_keys_of : List Str := ["form", "items", "item"]
def b_keys_of : SD := sSeq (sIf (tst (e2 kEq (eVar 0) (eC (.str [108, 111, 116])))) (sRet (eVar 1)) (sNil)) (sRet (eIf (tst (e2 kIn (eVar 0) (eTup (aCons (eC (.str [101, 110, 100, 115])) (aCons (eC (.str [115, 116, 114, 101, 101, 116, 115])) (aNil)))))) (eLcC (iCell (eVar 1)) (gN 2) (tYesD) (e2 kIx (eVar 2) (eC (.int 0))) [2]) (eLst (aNil))))
def f_keys_of : List Dat → Om → R Dat := fnD false 2 3 b_keys_of
theorem sc_keys_of : FnScope n_keys_of ["form", "items"] (defScope (top 36)) := ⟨rfl, rfl, rfl, by decide +kernel, rfl, by decide +kernel, by decide +kernel⟩
theorem ok_keys_of (bi : Bi mg) (F : FnP K "keys_of" (top 36) f fd) (gF : mg "keys_of" = some (.ref f)) : Has P w K mg base T "keys_of" 1 2 f_keys_of :=
  ⟨f, fd, ["form", "items"], fn_okD (k := 0) F sc_keys_of rfl rfl (fun cdv A outer s H E hr =>
    (dss_cons (ds_if (dt_cmp (op_eqG hr.units) opd_eq (dv 0) (de_str (by decide +kernel)) (nomark _)) (dss_one (ds_ret (dv 1))) dss_nil)
      (dss_one (ds_ret (de_if (dt_cmp (op_inG hr.units) opd_in (dv 0) (de_tup (da_cons (de_str (by decide +kernel)) (da_cons (de_str (by decide +kernel)) da_nil))) rfl) (de_lcC (own := [("item", 2)]) rfl sc_keys_of.nd (di_cell (dv 1)) (blkOk_by (N := n_keys_of) (sc := defScope (top 36)) (by decide +kernel)) (fun _ _ _ _ _ => (dg_name (pg_name (i := 2) sc_keys_of.nd rfl (by first | exact Or.inl rfl | exact Or.inr rfl)) (by decide))) (fun _ _ _ _ _ => dts_nil) (fun _ _ _ _ _ => (de_ix (dv 2) de_int))) (de_lst da_nil)))))), gF, F.kp, F.bindsN fun _ _ _ _ _ _ us hl => match us, hl with | [_, _], _ => rfl⟩

/-! ### read -/
abbrev n_read : List Str := ["form", "text", "found", "at", "item", "told", "keys"]
def b_read : SD := sSeq (sExpr (eCall 1 [] f_require_form (aCons (eVar 0) (aNil)))) (sSeq (sIf (tNotD (tst (e1 (kIsi "str") (eVar 1)))) (sRaise1 "ParseError" (eC .non)) (sNil)) (sSeq (sAsg (eLstC (aNil)) (gN 2)) (sSeq (sFor (iEnumD (eIf (tOrD (tst (e2 kNe (eVar 1) (eC dNOTHING))) (tst (e2 kEq (eVar 0) (eC (.str [103, 114, 111, 119, 116, 104]))))) (eM1 kSplit (eVar 1) (eC (.str [32]))) (eLst (aNil)))) (gT 2 (gsC (gN 3) (gsC (gN 4) (gsN)))) (sSeq (sAsg (eCall 3 [] f_item_told (aCons (eVar 0) (aCons (eVar 4) (aCons (eVar 3) (aNil))))) (gN 5)) (sSeq (sIf (tst (e1 (fun d om => .ok (.bl (isNonD d)) om) (eVar 5))) (sRaise1 "ParseError" (eVar 3)) (sNil)) (sSeq (sExpr (eCellM kAppend (eVar 2) (eVar 5))) (sSeq (sAsg (eCall 2 [] f_keys_of (aCons (eVar 0) (aCons (eVar 2) (aNil)))) (gN 6)) (sIf (tst (e2 kNe (eSl (eVar 6) (oSome (e1 kNeg (eC (.int 2)))) (oNone)) (e1 kSortSetI (eSl (eVar 6) (oSome (e1 kNeg (eC (.int 2)))) (oNone))))) (sRaise1 "ParseError" (eVar 3)) (sNil))))))) (sRet (eIf (tst (e2 kIn (eVar 0) (eTup (aCons (eC (.str [101, 110, 100, 115])) (aCons (eC (.str [115, 116, 114, 101, 101, 116, 115])) (aNil)))))) (eB kDict (aCons (eVar 2) (aNil))) (eB kTuple (aCons (eVar 2) (aNil))))))))
def f_read : List Dat → Om → R Dat := fnD false 2 7 b_read
theorem sc_read : FnScope n_read ["form", "text"] (defScope (top 37)) := ⟨rfl, rfl, rfl, by decide +kernel, rfl, by decide +kernel, by decide +kernel⟩
theorem ok_read (bi : Bi mg) (h_keys_of : Has P w K mg base T "keys_of" 1 2 f_keys_of) (h_item_told : Has P w K mg base T "item_told" 6 3 f_item_told) (h_require_form : Has P w K mg base T "require_form" 2 1 f_require_form) (cNOTHING : Cst K T mg "NOTHING" dNOTHING) (x_ParseError : ExL K mg T) (F : FnP K "read" (top 37) f fd) (gF : mg "read" = some (.ref f)) : Has P w K mg base T "read" 7 2 f_read :=
  ⟨f, fd, ["form", "text"], fn_okD (k := 6) F sc_read rfl rfl (fun cdv A outer s H E hr =>
    (dss_cons (ds_expr (de_fn h_require_form hr (by decide) rfl (da_cons (dv 0) da_nil) (by decide) rfl rfl))
      (dss_cons (ds_if (dt_not (dt_of (de_isi rfl bi.isinstance_ (dv 1) rfl bi.str_ (by decide +kernel)))) (dss_one (ds_line x_ParseError rfl hr de_non rfl rfl rfl)) dss_nil)
      (dss_cons (ds_asg (ws := [2]) (de_lstC da_nil) (dg_name (pg_name (i := 2) sc_read.nd rfl (by first | exact Or.inl rfl | exact Or.inr rfl)) (List.mem_singleton.mpr rfl)))
      (dss_cons (ds_for (ws := [3, 4]) rfl (di_enum rfl bi.enumerate_ (de_if (dt_w (dw_or (dt_cmp (op_neD hr.units) opd_ne (dv 1) (de_cst cNOTHING rfl) (nomark _)) (dw_or1 (dt_cmp (op_eqG hr.units) opd_eq (dv 0) (de_str (by decide +kernel)) (nomark _))))) (de_split (dv 1) (de_str (by decide +kernel))) (de_lst da_nil))) (dg_tup rfl (dgs_cons (dg_name (pg_name (i := 3) sc_read.nd rfl (by first | exact Or.inl rfl | exact Or.inr rfl)) (by decide)) (dgs_cons (dg_name (pg_name (i := 4) sc_read.nd rfl (by first | exact Or.inl rfl | exact Or.inr rfl)) (by decide)) dgs_nil)))
      (dss_cons (ds_asg (ws := [5]) (de_fn h_item_told hr (by decide) rfl (da_cons (dv 0) (da_cons (dv 4) (da_cons (dv 3) da_nil))) (by decide) rfl rfl) (dg_name (pg_name (i := 5) sc_read.nd rfl (by first | exact Or.inl rfl | exact Or.inr rfl)) (List.mem_singleton.mpr rfl)))
      (dss_cons (ds_if (dt_isN (dv 5)) (dss_one (ds_line x_ParseError rfl hr (dv 3) rfl rfl rfl)) dss_nil)
      (dss_cons (ds_expr (de_append (dv 2) (dv 5)))
      (dss_cons (ds_asg (ws := [6]) (de_fn h_keys_of hr (by decide) rfl (da_cons (dv 0) (da_cons (dv 2) da_nil)) (by decide) rfl rfl) (dg_name (pg_name (i := 6) sc_read.nd rfl (by first | exact Or.inl rfl | exact Or.inr rfl)) (List.mem_singleton.mpr rfl)))
      (dss_one (ds_if (dt_cmp (op_neD hr.units) opd_ne (de_sl (dv 6) (do_some (de_un un_neg opd_neg de_int)) do_none) (de_sortSetI rfl hr.units rfl bi.sorted_ rfl bi.set_ (de_sl (dv 6) (do_some (de_un un_neg opd_neg de_int)) do_none)) (nomark _)) (dss_one (ds_line x_ParseError rfl hr (dv 3) rfl rfl rfl)) dss_nil)))))))
      (dss_one (ds_ret (de_if (dt_cmp (op_inG hr.units) opd_in (dv 0) (de_tup (da_cons (de_str (by decide +kernel)) (da_cons (de_str (by decide +kernel)) da_nil))) rfl) (de_ty (call_dictD rfl hr.units) opd_dict rfl bi.dict_ (by decide +kernel) (da_cons (dv 2) da_nil)) (de_ty call_tuple_of opd_tuple rfl bi.tuple_ (by decide +kernel) (da_cons (dv 2) da_nil)))))))))), gF, F.kp, F.bindsN fun _ _ _ _ _ _ us hl => match us, hl with | [_, _], _ => rfl⟩

/-! ### is_written -/
abbrev n_is_written : List Str := ["form", "value"]
def b_is_written : SD := sSeq (sExpr (eCall 1 [] f_require_form (aCons (eVar 0) (aNil)))) (sSeq (sTry (exm "ParseError") (sExpr (eCall 2 [] f_read (aCons (eVar 0) (aCons (eVar 1) (aNil))))) (sRet (eC (.bl false)))) (sRet (eC (.bl true))))
def f_is_written : List Dat → Om → R Dat := fnD false 2 2 b_is_written
theorem sc_is_written : FnScope n_is_written ["form", "value"] (defScope (top 38)) := ⟨rfl, rfl, rfl, by decide +kernel, rfl, by decide +kernel, by decide +kernel⟩
theorem ok_is_written (bi : Bi mg) (h_read : Has P w K mg base T "read" 7 2 f_read) (h_require_form : Has P w K mg base T "require_form" 2 1 f_require_form) (y_ParseError : Ctch K mg T "ParseError" (exm "ParseError")) (F : FnP K "is_written" (top 38) f fd) (gF : mg "is_written" = some (.ref f)) : Has P w K mg base T "is_written" 8 2 f_is_written :=
  ⟨f, fd, ["form", "value"], fn_okD (k := 7) F sc_is_written rfl rfl (fun cdv A outer s H E hr =>
    (dss_cons (ds_expr (de_fn h_require_form hr (by decide) rfl (da_cons (dv 0) da_nil) (by decide) rfl rfl))
      (dss_cons (ds_ctch y_ParseError rfl rfl rfl (by decide) (fun _ _ => (dss_one (ds_expr (de_fn h_read hr (by decide) rfl (da_cons (dv 0) (da_cons (dv 1) da_nil)) (by decide) rfl rfl)))) (fun _ _ => (dss_one (ds_ret de_bl))))
      (dss_one (ds_ret de_bl))))), gF, F.kp, F.bindsN fun _ _ _ _ _ _ us hl => match us, hl with | [_, _], _ => rfl⟩

/-! ### _law_dice -/
abbrev n_law_dice : List Str := ["script", "spot", "cell", "great", "blend"]
def b_law_dice : SD := sSeq (sAsg (e2 kAdd (e2 kMul (eC (.int 67)) (eVar 1)) (eC (.int 23))) (gN 2)) (sSeq (sIf (tst (e2 kLtX (eVar 1) (eB kLen (aCons (eVar 0) (aNil))))) (sAsg (e2 kIx (eVar 0) (eVar 1)) (gN 2)) (sNil)) (sSeq (sAsg (e2 kMod (eB kIntOf (aCons (eB kAbs (aCons (eVar 2) (aNil))) (aNil))) (e2 kPow (e2 kPow (eC (.int 10)) (eC (.int 60))) (eC (.int 10)))) (gN 3)) (sSeq (sAsg (e2 kAdd (e2 kAdd (e2 kAdd (e2 kMul (e2 kMod (eB kIntOf (aCons (eVar 3) (aNil))) (eC (.int 2305843009213693661))) (eC (.int 1000409))) (e2 kMul (eC (.int 8081)) (eVar 1))) (e2 kMul (eC (.int 53)) (eB kIntOf (aCons (e2 kLtX (eVar 2) (eC (.int 0))) (aNil))))) (eC (.int 29))) (gN 4)) (sRet (eLstC (aCons (eB kMax2 (aCons (eC (.int 0)) (aCons (e2 kSub (eVar 3) (e2 kPow (eC (.int 10)) (eC (.int 18)))) (aNil)))) (aCons (e2 kMod (eB kIntOf (aCons (eVar 4) (aNil))) (eC (.int 2305843009213693661))) (aCons (eC (.int 0)) (aNil)))))))))
def f_law_dice : List Dat → Om → R Dat := fnD true 2 5 b_law_dice
theorem sc_law_dice : FnScope n_law_dice ["script", "spot"] (defScope (top 40)) := ⟨rfl, rfl, rfl, by decide +kernel, rfl, by decide +kernel, by decide +kernel⟩
theorem ok_law_dice (bi : Bi mg) (F : FnP K "_law_dice" (top 40) f fd) (gF : mg "_law_dice" = some (.ref f)) : Has P w K mg base T "_law_dice" 1 2 f_law_dice :=
  ⟨f, fd, ["script", "spot"], fn_okD (k := 0) F sc_law_dice rfl rfl (fun cdv A outer s H E hr =>
    (dss_cons (ds_asg (ws := [2]) (de_bin op_addAll opd_add (de_bin op_mulW opd_mul de_int (dv 1)) de_int) (dg_name (pg_name (i := 2) sc_law_dice.nd rfl (by first | exact Or.inl rfl | exact Or.inr rfl)) (List.mem_singleton.mpr rfl)))
      (dss_cons (ds_if (dt_cmp op_lt' opd_cmp (dv 1) (de_b call_len opd_len rfl bi.len_ (by decide +kernel) (da_cons (dv 0) da_nil)) (nomark _)) (dss_one (ds_asg (ws := [2]) (de_ix (dv 0) (dv 1)) (dg_name (pg_name (i := 2) sc_law_dice.nd rfl (by first | exact Or.inl rfl | exact Or.inr rfl)) (List.mem_singleton.mpr rfl)))) dss_nil)
      (dss_cons (ds_asg (ws := [3]) (de_bin op_mod opd_mod (de_ty call_intOf opd_intOf rfl bi.int_ (by decide +kernel) (da_cons (de_b call_abs opd_abs rfl bi.abs_ (by decide +kernel) (da_cons (dv 2) da_nil)) da_nil)) (de_bin op_powW opd_pow (de_bin op_powW opd_pow de_int de_int) de_int)) (dg_name (pg_name (i := 3) sc_law_dice.nd rfl (by first | exact Or.inl rfl | exact Or.inr rfl)) (List.mem_singleton.mpr rfl)))
      (dss_cons (ds_asg (ws := [4]) (de_bin op_addAll opd_add (de_bin op_addAll opd_add (de_bin op_addAll opd_add (de_bin op_mulW opd_mul (de_bin op_mod opd_mod (de_ty call_intOf opd_intOf rfl bi.int_ (by decide +kernel) (da_cons (dv 3) da_nil)) de_int) de_int) (de_bin op_mulW opd_mul de_int (dv 1))) (de_bin op_mulW opd_mul de_int (de_ty call_intOf opd_intOf rfl bi.int_ (by decide +kernel) (da_cons (de_cmp op_lt' opd_cmp (dv 2) de_int (nomark _)) da_nil)))) de_int) (dg_name (pg_name (i := 4) sc_law_dice.nd rfl (by first | exact Or.inl rfl | exact Or.inr rfl)) (List.mem_singleton.mpr rfl)))
      (dss_one (ds_ret (de_lstC (da_cons (de_b (call_max2 rfl) opd_max2 rfl bi.max_ (by decide +kernel) (da_cons de_int (da_cons (de_bin op_sub opd_sub (dv 3) (de_bin op_powW opd_pow de_int de_int)) da_nil))) (da_cons (de_bin op_mod opd_mod (de_ty call_intOf opd_intOf rfl bi.int_ (by decide +kernel) (da_cons (dv 4) da_nil)) de_int) (da_cons de_int da_nil))))))))))), gF, F.kp, F.bindsN fun _ _ _ _ _ _ us hl => match us, hl with | [_, _], _ => rfl⟩

/-! ### _law_roll -/
abbrev n_law_roll : List Str := ["dice", "total", "found", "one", "two"]
def b_law_roll : SD := sSeq (sIf (tst (e2 kGtX (e2 kIx (eVar 0) (eC (.int 0))) (eC (.int 0)))) (sSeq (sAsg (e2 kMod (eB kIntOf (aCons (e2 kIx (eVar 0) (eC (.int 0))) (aNil))) (eVar 1)) (gN 2)) (sSeq (sAsg (e2 kFdiv (e2 kIx (eVar 0) (eC (.int 0))) (eVar 1)) (gSet (eVar 0) (eC (.int 0)))) (sRet (eVar 2)))) (sNil)) (sSeq (sAsg (e2 kAdd (e2 kIx (eVar 0) (eC (.int 2))) (eC (.int 1))) (gSet (eVar 0) (eC (.int 2)))) (sSeq (sAsg (e2 kMod (eB kIntOf (aCons (e2 kAdd (e2 kIx (eVar 0) (eC (.int 1))) (e2 kMul (eC (.int 998244319)) (e2 kIx (eVar 0) (eC (.int 2))))) (aNil))) (eC (.int 2305843009213693951))) (gN 3)) (sSeq (sAsg (e2 kAdd (e2 kMul (e2 kMod (eB kIntOf (aCons (e2 kMul (eVar 3) (eVar 3)) (aNil))) (eC (.int 2305843009213693907))) (eVar 3)) (e2 kMul (eC (.int 9421)) (e2 kIx (eVar 0) (eC (.int 2))))) (gN 4)) (sSeq (sAsg (e2 kMod (eB kIntOf (aCons (eVar 4) (aNil))) (eC (.int 2305843009213693661))) (gN 4)) (sRet (e2 kMod (eB kIntOf (aCons (e2 kFdiv (eVar 4) (eC (.int 8192))) (aNil))) (eVar 1)))))))
def f_law_roll : List Dat → Om → R Dat := fnD false 2 5 b_law_roll
theorem sc_law_roll : FnScope n_law_roll ["dice", "total"] (defScope (top 41)) := ⟨rfl, rfl, rfl, by decide +kernel, rfl, by decide +kernel, by decide +kernel⟩
theorem ok_law_roll (bi : Bi mg) (F : FnP K "_law_roll" (top 41) f fd) (gF : mg "_law_roll" = some (.ref f)) : Has P w K mg base T "_law_roll" 1 2 f_law_roll :=
  ⟨f, fd, ["dice", "total"], fn_okD (k := 0) F sc_law_roll rfl rfl (fun cdv A outer s H E hr =>
    (dss_cons (ds_if (dt_cmp op_gt' opd_cmp (de_ix (dv 0) de_int) de_int (nomark _)) (dss_cons (ds_asg (ws := [2]) (de_bin op_mod opd_mod (de_ty call_intOf opd_intOf rfl bi.int_ (by decide +kernel) (da_cons (de_ix (dv 0) de_int) da_nil)) (dv 1)) (dg_name (pg_name (i := 2) sc_law_roll.nd rfl (by first | exact Or.inl rfl | exact Or.inr rfl)) (List.mem_singleton.mpr rfl)))
      (dss_cons (ds_asg (ws := []) (de_bin op_fdivW opd_fdiv (de_ix (dv 0) de_int) (dv 1)) (dg_set (dv 0) de_int))
      (dss_one (ds_ret (dv 2))))) dss_nil)
      (dss_cons (ds_asg (ws := []) (de_bin op_addAll opd_add (de_ix (dv 0) de_int) de_int) (dg_set (dv 0) de_int))
      (dss_cons (ds_asg (ws := [3]) (de_bin op_mod opd_mod (de_ty call_intOf opd_intOf rfl bi.int_ (by decide +kernel) (da_cons (de_bin op_addAll opd_add (de_ix (dv 0) de_int) (de_bin op_mulW opd_mul de_int (de_ix (dv 0) de_int))) da_nil)) de_int) (dg_name (pg_name (i := 3) sc_law_roll.nd rfl (by first | exact Or.inl rfl | exact Or.inr rfl)) (List.mem_singleton.mpr rfl)))
      (dss_cons (ds_asg (ws := [4]) (de_bin op_addAll opd_add (de_bin op_mulW opd_mul (de_bin op_mod opd_mod (de_ty call_intOf opd_intOf rfl bi.int_ (by decide +kernel) (da_cons (de_bin op_mulW opd_mul (dv 3) (dv 3)) da_nil)) de_int) (dv 3)) (de_bin op_mulW opd_mul de_int (de_ix (dv 0) de_int))) (dg_name (pg_name (i := 4) sc_law_roll.nd rfl (by first | exact Or.inl rfl | exact Or.inr rfl)) (List.mem_singleton.mpr rfl)))
      (dss_cons (ds_asg (ws := [4]) (de_bin op_mod opd_mod (de_ty call_intOf opd_intOf rfl bi.int_ (by decide +kernel) (da_cons (dv 4) da_nil)) de_int) (dg_name (pg_name (i := 4) sc_law_roll.nd rfl (by first | exact Or.inl rfl | exact Or.inr rfl)) (List.mem_singleton.mpr rfl)))
      (dss_one (ds_ret (de_bin op_mod opd_mod (de_ty call_intOf opd_intOf rfl bi.int_ (by decide +kernel) (da_cons (de_bin op_fdivW opd_fdiv (dv 4) de_int) da_nil)) (dv 1)))))))))), gF, F.kp, F.bindsN fun _ _ _ _ _ _ us hl => match us, hl with | [_, _], _ => rfl⟩

/-! ### _law_pick -/
abbrev n_law_pick : List Str := ["dice", "items"]
def b_law_pick : SD := sRet (e2 kIx (eVar 1) (eCall 2 [] f_law_roll (aCons (eVar 0) (aCons (eB kLen (aCons (eVar 1) (aNil))) (aNil)))))
def f_law_pick : List Dat → Om → R Dat := fnD false 2 2 b_law_pick
theorem sc_law_pick : FnScope n_law_pick ["dice", "items"] (defScope (top 42)) := ⟨rfl, rfl, rfl, by decide +kernel, rfl, by decide +kernel, by decide +kernel⟩
theorem ok_law_pick (bi : Bi mg) (h_law_roll : Has P w K mg base T "_law_roll" 1 2 f_law_roll) (F : FnP K "_law_pick" (top 42) f fd) (gF : mg "_law_pick" = some (.ref f)) : Has P w K mg base T "_law_pick" 2 2 f_law_pick :=
  ⟨f, fd, ["dice", "items"], fn_okD (k := 1) F sc_law_pick rfl rfl (fun cdv A outer s H E hr =>
    (dss_one (ds_ret (de_ix (dv 1) (de_fn h_law_roll hr (by decide) rfl (da_cons (dv 0) (da_cons (de_b call_len opd_len rfl bi.len_ (by decide +kernel) (da_cons (dv 1) da_nil)) da_nil)) (by decide) rfl rfl))))), gF, F.kp, F.bindsN fun _ _ _ _ _ _ us hl => match us, hl with | [_, _], _ => rfl⟩

/-! ### _law_some -/
abbrev n_law_some : List Str := ["dice", "items", "size", "left", "turn"]
def b_law_some : SD := sSeq (sAsg (eB kListC (aCons (eVar 1) (aNil))) (gN 3)) (sRet (eLc (iRange1 (eB kMin2 (aCons (eVar 2) (aCons (eB kLen (aCons (eVar 3) (aNil))) (aNil))))) (gN 4) (tYesD) (eCellM kPop (eVar 3) (eCall 2 [] f_law_roll (aCons (eVar 0) (aCons (eB kLen (aCons (eVar 3) (aNil))) (aNil))))) [4]))
def f_law_some : List Dat → Om → R Dat := fnD false 3 5 b_law_some
theorem sc_law_some : FnScope n_law_some ["dice", "items", "size"] (defScope (top 43)) := ⟨rfl, rfl, rfl, by decide +kernel, rfl, by decide +kernel, by decide +kernel⟩
theorem ok_law_some (bi : Bi mg) (h_law_roll : Has P w K mg base T "_law_roll" 1 2 f_law_roll) (F : FnP K "_law_some" (top 43) f fd) (gF : mg "_law_some" = some (.ref f)) : Has P w K mg base T "_law_some" 2 3 f_law_some :=
  ⟨f, fd, ["dice", "items", "size"], fn_okD (k := 1) F sc_law_some rfl rfl (fun cdv A outer s H E hr =>
    (dss_cons (ds_asg (ws := [3]) (de_ty call_list_of opd_listC rfl bi.list_ (by decide +kernel) (da_cons (dv 1) da_nil)) (dg_name (pg_name (i := 3) sc_law_some.nd rfl (by first | exact Or.inl rfl | exact Or.inr rfl)) (List.mem_singleton.mpr rfl)))
      (dss_one (ds_ret (de_lc (own := [("turn", 4)]) rfl sc_law_some.nd (di_range1 rfl bi.range_ (de_b (call_min2 rfl) opd_min2 rfl bi.min_ (by decide +kernel) (da_cons (dv 2) (da_cons (de_b call_len opd_len rfl bi.len_ (by decide +kernel) (da_cons (dv 3) da_nil)) da_nil)))) (blkOk_by (N := n_law_some) (sc := defScope (top 43)) (by decide +kernel)) (fun _ _ _ _ _ => (dg_name (pg_name (i := 4) sc_law_some.nd rfl (by first | exact Or.inl rfl | exact Or.inr rfl)) (by decide))) (fun _ _ _ _ _ => dts_nil) (fun _ _ _ _ _ => (de_pop (dv 3) (de_fn h_law_roll hr (by decide) rfl (da_cons (dv 0) (da_cons (de_b call_len opd_len rfl bi.len_ (by decide +kernel) (da_cons (dv 3) da_nil)) da_nil)) (by decide) rfl rfl)))))))), gF, F.kp, F.bindsN fun _ _ _ _ _ _ us hl => match us, hl with | [_, _, _], _ => rfl⟩

/-! ### _law_word -/
abbrev n_law_word : List Str := ["dice"]
def b_law_word : SD := sRet (eCall 2 [] f_law_pick (aCons (eVar 0) (aCons (eLst (aCons (eC (.str [97])) (aCons (eC (.str [98])) (aCons (eC (.str [99])) (aCons (eC (.str [100])) (aCons (eC (.str [97, 98])) (aCons (eC (.str [98, 97])) (aCons (eC (.str [122, 122])) (aCons (eC (.str [122, 122, 122, 122, 122, 122, 122, 122])) (aNil)))))))))) (aNil))))
def f_law_word : List Dat → Om → R Dat := fnD false 1 1 b_law_word
theorem sc_law_word : FnScope n_law_word ["dice"] (defScope (top 44)) := ⟨rfl, rfl, rfl, by decide +kernel, rfl, by decide +kernel, by decide +kernel⟩
theorem ok_law_word (bi : Bi mg) (h_law_pick : Has P w K mg base T "_law_pick" 2 2 f_law_pick) (F : FnP K "_law_word" (top 44) f fd) (gF : mg "_law_word" = some (.ref f)) : Has P w K mg base T "_law_word" 3 1 f_law_word :=
  ⟨f, fd, ["dice"], fn_okD (k := 2) F sc_law_word rfl rfl (fun cdv A outer s H E hr =>
    (dss_one (ds_ret (de_fn h_law_pick hr (by decide) rfl (da_cons (dv 0) (da_cons (de_lst (da_cons (de_str (by decide +kernel)) (da_cons (de_str (by decide +kernel)) (da_cons (de_str (by decide +kernel)) (da_cons (de_str (by decide +kernel)) (da_cons (de_str (by decide +kernel)) (da_cons (de_str (by decide +kernel)) (da_cons (de_str (by decide +kernel)) (da_cons (de_str (by decide +kernel)) da_nil))))))))) da_nil)) (by decide) rfl rfl)))), gF, F.kp, F.bindsN fun _ _ _ _ _ _ us hl => match us, hl with | [_], _ => rfl⟩

/-! ### _law_low_pairs -/
abbrev n_law_low_pairs : List Str := ["dice", "size", "turn"]
def b_law_low_pairs : SD := sRet (eLc (iRange1 (eVar 1)) (gN 2) (tYesD) (eB kTuple (aCons (eB kSortedI (aCons (eLst (aCons (eCall 1 [] f_law_word (aCons (eVar 0) (aNil))) (aCons (eCall 1 [] f_law_word (aCons (eVar 0) (aNil))) (aNil)))) (aNil))) (aNil))) [2])
def f_law_low_pairs : List Dat → Om → R Dat := fnD false 2 3 b_law_low_pairs
theorem sc_law_low_pairs : FnScope n_law_low_pairs ["dice", "size"] (defScope (top 45)) := ⟨rfl, rfl, rfl, by decide +kernel, rfl, by decide +kernel, by decide +kernel⟩
theorem ok_law_low_pairs (bi : Bi mg) (h_law_word : Has P w K mg base T "_law_word" 3 1 f_law_word) (F : FnP K "_law_low_pairs" (top 45) f fd) (gF : mg "_law_low_pairs" = some (.ref f)) : Has P w K mg base T "_law_low_pairs" 4 2 f_law_low_pairs :=
  ⟨f, fd, ["dice", "size"], fn_okD (k := 3) F sc_law_low_pairs rfl rfl (fun cdv A outer s H E hr =>
    (dss_one (ds_ret (de_lc (own := [("turn", 2)]) rfl sc_law_low_pairs.nd (di_range1 rfl bi.range_ (dv 1)) (blkOk_by (N := n_law_low_pairs) (sc := defScope (top 45)) (by decide +kernel)) (fun _ _ _ _ _ => (dg_name (pg_name (i := 2) sc_law_low_pairs.nd rfl (by first | exact Or.inl rfl | exact Or.inr rfl)) (by decide))) (fun _ _ _ _ _ => dts_nil) (fun _ _ _ _ _ => (de_ty call_tuple_of opd_tuple rfl bi.tuple_ (by decide +kernel) (da_cons (de_b (DL.call_sortedD hr.units) opd_sortedI rfl bi.sorted_ (by decide +kernel) (da_cons (de_lst (da_cons (de_fn h_law_word hr (by decide) rfl (da_cons (dv 0) da_nil) (by decide) rfl rfl) (da_cons (de_fn h_law_word hr (by decide) rfl (da_cons (dv 0) da_nil) (by decide) rfl rfl) da_nil))) da_nil)) da_nil))))))), gF, F.kp, F.bindsN fun _ _ _ _ _ _ us hl => match us, hl with | [_, _], _ => rfl⟩

/-! ### _law_form_value -/
abbrev n_law_form_value : List Str := ["dice", "form", "size", "words", "many", "rows", "steps", "turn", "pairs", "at", "one"]
def b_law_form_value : SD := sSeq (sAsg (eTup (aCons (eCall 2 [] f_law_roll (aCons (eVar 0) (aCons (eC (.int 4)) (aNil)))) (aCons (eLst (aCons (eC (.str [97])) (aCons (eC (.str [98])) (aCons (eC (.str [99])) (aCons (eC (.str [100])) (aCons (eC (.str [97, 98])) (aCons (eC (.str [98, 97])) (aCons (eC (.str [122, 122])) (aCons (eC (.str [122, 122, 122, 122, 122, 122, 122, 122])) (aNil)))))))))) (aNil)))) (gT 2 (gsC (gN 2) (gsC (gN 3) (gsN))))) (sSeq (sIf (tst (e2 kEq (eVar 1) (eC (.str [108, 111, 116])))) (sRet (eB kTuple (aCons (eB kSortedI (aCons (eCall 3 [] f_law_some (aCons (eVar 0) (aCons (eVar 3) (aCons (eVar 2) (aNil))))) (aNil))) (aNil)))) (sNil)) (sSeq (sIf (tst (e2 kEq (eVar 1) (eC (.str [112, 97, 105, 114, 115])))) (sRet (eB kTuple (aCons (eCall 2 [] f_law_low_pairs (aCons (eVar 0) (aCons (eVar 2) (aNil)))) (aNil)))) (sNil)) (sSeq (sIf (tst (e2 kEq (eVar 1) (eC (.str [119, 97, 121, 115])))) (sRet (eB kTuple (aCons (eLc (iRange1 (eVar 2)) (gN 7) (tYesD) (eB kTuple (aCons (eCall 3 [] f_law_some (aCons (eVar 0) (aCons (eVar 3) (aCons (e2 kAdd (eC (.int 2)) (eCall 2 [] f_law_roll (aCons (eVar 0) (aCons (eC (.int 3)) (aNil))))) (aNil))))) (aNil))) [7]) (aNil)))) (sNil)) (sSeq (sAsg (eLc (iRange1 (eC (.int 4))) (gN 7) (tYesD) (eCall 2 [] f_law_pick (aCons (eVar 0) (aCons (eLst (aCons (eC (.int 0)) (aCons (eC (.int 1)) (aCons (eC (.int 2)) (aCons (eC (.int 9)) (aCons (eC (.int 10)) (aCons (eC (.int 60)) (aCons (eC (.int 99)) (aNil))))))))) (aNil)))) [7]) (gN 4)) (sSeq (sIf (tst (e2 kEq (eVar 1) (eC (.str [116, 114, 101, 101])))) (sSeq (sAsg (eLc (iRange1 (eVar 2)) (gN 7) (tYesD) (eB kSortedI (aCons (eCall 3 [] f_law_some (aCons (eVar 0) (aCons (eVar 3) (aCons (eC (.int 2)) (aNil))))) (aNil))) [7]) (gN 5)) (sRet (eB kTuple (aCons (eLc (iRange1 (eVar 2)) (gN 9) (tYesD) (eTup (aCons (e2 kIx (e2 kIx (eVar 5) (eVar 9)) (eC (.int 0))) (aCons (e2 kIx (e2 kIx (eVar 5) (eVar 9)) (eC (.int 1))) (aCons (e2 kIx (eVar 4) (eVar 9)) (aNil))))) [9]) (aNil))))) (sNil)) (sSeq (sIf (tst (e2 kEq (eVar 1) (eC (.str [101, 110, 100, 115])))) (sRet (eB kDict (aCons (e2 kListZip (eB kSortedI (aCons (eCall 3 [] f_law_some (aCons (eVar 0) (aCons (eVar 3) (aCons (eVar 2) (aNil))))) (aNil))) (eVar 4)) (aNil)))) (sNil)) (sSeq (sIf (tst (e2 kEq (eVar 1) (eC (.str [115, 116, 114, 101, 101, 116, 115])))) (sSeq (sAsg (eLc (iRange1 (eVar 2)) (gN 7) (tYesD) (eB kTuple (aCons (eCall 3 [] f_law_some (aCons (eVar 0) (aCons (eVar 3) (aCons (eC (.int 2)) (aNil))))) (aNil))) [7]) (gN 5)) (sRet (eB kDict (aCons (e2 kListZip (e1 kSortSetI (eVar 5)) (eLc (iSeq (eVar 4)) (gN 10) (tYesD) (eB kMax2 (aCons (eC (.int 1)) (aCons (eVar 10) (aNil)))) [10])) (aNil))))) (sNil)) (sSeq (sAsg (eLstC (aNil)) (gN 6)) (sSeq (sFor (iRange1 (eVar 2)) (gN 7) (sSeq (sAsg (eB kTuple (aCons (eCall 2 [] f_law_low_pairs (aCons (eVar 0) (aCons (e2 kAdd (eC (.int 1)) (eCall 2 [] f_law_roll (aCons (eVar 0) (aCons (eC (.int 3)) (aNil))))) (aNil)))) (aNil))) (gN 8)) (sExpr (eCellM kAppend (eVar 6) (eCall 2 [] f_law_pick (aCons (eVar 0) (aCons (eLst (aCons (eTup (aCons (eC (.str [116, 105, 101])) (aCons (eCall 1 [] f_law_word (aCons (eVar 0) (aNil))) (aCons (eCall 1 [] f_law_word (aCons (eVar 0) (aNil))) (aNil))))) (aCons (eTup (aCons (eC (.str [112, 105, 110, 99, 104])) (aCons (eCall 1 [] f_law_word (aCons (eVar 0) (aNil))) (aCons (eVar 8) (aNil))))) (aNil)))) (aNil)))))))) (sRet (e2 kAdd (eTup (aCons (eCall 1 [] f_law_word (aCons (eVar 0) (aNil))) (aNil))) (eB kTuple (aCons (eVar 6) (aNil))))))))))))))
def f_law_form_value : List Dat → Om → R Dat := fnD false 2 11 b_law_form_value
theorem sc_law_form_value : FnScope n_law_form_value ["dice", "form"] (defScope (top 46)) := ⟨rfl, rfl, rfl, by decide +kernel, rfl, by decide +kernel, by decide +kernel⟩
theorem ok_law_form_value (bi : Bi mg) (h_law_word : Has P w K mg base T "_law_word" 3 1 f_law_word) (h_law_pick : Has P w K mg base T "_law_pick" 2 2 f_law_pick) (h_law_low_pairs : Has P w K mg base T "_law_low_pairs" 4 2 f_law_low_pairs) (h_law_roll : Has P w K mg base T "_law_roll" 1 2 f_law_roll) (h_law_some : Has P w K mg base T "_law_some" 2 3 f_law_some) (F : FnP K "_law_form_value" (top 46) f fd) (gF : mg "_law_form_value" = some (.ref f)) : Has P w K mg base T "_law_form_value" 5 2 f_law_form_value :=
  ⟨f, fd, ["dice", "form"], fn_okD (k := 4) F sc_law_form_value rfl rfl (fun cdv A outer s H E hr =>
    (dss_cons (ds_asg (ws := [2, 3]) (de_tup (da_cons (de_fn h_law_roll hr (by decide) rfl (da_cons (dv 0) (da_cons de_int da_nil)) (by decide) rfl rfl) (da_cons (de_lst (da_cons (de_str (by decide +kernel)) (da_cons (de_str (by decide +kernel)) (da_cons (de_str (by decide +kernel)) (da_cons (de_str (by decide +kernel)) (da_cons (de_str (by decide +kernel)) (da_cons (de_str (by decide +kernel)) (da_cons (de_str (by decide +kernel)) (da_cons (de_str (by decide +kernel)) da_nil))))))))) da_nil))) (dg_tup rfl (dgs_cons (dg_name (pg_name (i := 2) sc_law_form_value.nd rfl (by first | exact Or.inl rfl | exact Or.inr rfl)) (by decide)) (dgs_cons (dg_name (pg_name (i := 3) sc_law_form_value.nd rfl (by first | exact Or.inl rfl | exact Or.inr rfl)) (by decide)) dgs_nil))))
      (dss_cons (ds_if (dt_cmp (op_eqG hr.units) opd_eq (dv 1) (de_str (by decide +kernel)) (nomark _)) (dss_one (ds_ret (de_ty call_tuple_of opd_tuple rfl bi.tuple_ (by decide +kernel) (da_cons (de_b (DL.call_sortedD hr.units) opd_sortedI rfl bi.sorted_ (by decide +kernel) (da_cons (de_fn h_law_some hr (by decide) rfl (da_cons (dv 0) (da_cons (dv 3) (da_cons (dv 2) da_nil))) (by decide) rfl rfl) da_nil)) da_nil)))) dss_nil)
      (dss_cons (ds_if (dt_cmp (op_eqG hr.units) opd_eq (dv 1) (de_str (by decide +kernel)) (nomark _)) (dss_one (ds_ret (de_ty call_tuple_of opd_tuple rfl bi.tuple_ (by decide +kernel) (da_cons (de_fn h_law_low_pairs hr (by decide) rfl (da_cons (dv 0) (da_cons (dv 2) da_nil)) (by decide) rfl rfl) da_nil)))) dss_nil)
      (dss_cons (ds_if (dt_cmp (op_eqG hr.units) opd_eq (dv 1) (de_str (by decide +kernel)) (nomark _)) (dss_one (ds_ret (de_ty call_tuple_of opd_tuple rfl bi.tuple_ (by decide +kernel) (da_cons (de_lc (own := [("turn", 7)]) rfl sc_law_form_value.nd (di_range1 rfl bi.range_ (dv 2)) (blkOk_by (N := n_law_form_value) (sc := defScope (top 46)) (by decide +kernel)) (fun _ _ _ _ _ => (dg_name (pg_name (i := 7) sc_law_form_value.nd rfl (by first | exact Or.inl rfl | exact Or.inr rfl)) (by decide))) (fun _ _ _ _ _ => dts_nil) (fun _ _ _ _ _ => (de_ty call_tuple_of opd_tuple rfl bi.tuple_ (by decide +kernel) (da_cons (de_fn h_law_some hr (by decide) rfl (da_cons (dv 0) (da_cons (dv 3) (da_cons (de_bin op_addAll opd_add de_int (de_fn h_law_roll hr (by decide) rfl (da_cons (dv 0) (da_cons de_int da_nil)) (by decide) rfl rfl)) da_nil))) (by decide) rfl rfl) da_nil)))) da_nil)))) dss_nil)
      (dss_cons (ds_asg (ws := [4]) (de_lc (own := [("turn", 7)]) rfl sc_law_form_value.nd (di_range1 rfl bi.range_ de_int) (blkOk_by (N := n_law_form_value) (sc := defScope (top 46)) (by decide +kernel)) (fun _ _ _ _ _ => (dg_name (pg_name (i := 7) sc_law_form_value.nd rfl (by first | exact Or.inl rfl | exact Or.inr rfl)) (by decide))) (fun _ _ _ _ _ => dts_nil) (fun _ _ _ _ _ => (de_fn h_law_pick hr (by decide) rfl (da_cons (dv 0) (da_cons (de_lst (da_cons de_int (da_cons de_int (da_cons de_int (da_cons de_int (da_cons de_int (da_cons de_int (da_cons de_int da_nil)))))))) da_nil)) (by decide) rfl rfl))) (dg_name (pg_name (i := 4) sc_law_form_value.nd rfl (by first | exact Or.inl rfl | exact Or.inr rfl)) (List.mem_singleton.mpr rfl)))
      (dss_cons (ds_if (dt_cmp (op_eqG hr.units) opd_eq (dv 1) (de_str (by decide +kernel)) (nomark _)) (dss_cons (ds_asg (ws := [5]) (de_lc (own := [("turn", 7)]) rfl sc_law_form_value.nd (di_range1 rfl bi.range_ (dv 2)) (blkOk_by (N := n_law_form_value) (sc := defScope (top 46)) (by decide +kernel)) (fun _ _ _ _ _ => (dg_name (pg_name (i := 7) sc_law_form_value.nd rfl (by first | exact Or.inl rfl | exact Or.inr rfl)) (by decide))) (fun _ _ _ _ _ => dts_nil) (fun _ _ _ _ _ => (de_b (DL.call_sortedD hr.units) opd_sortedI rfl bi.sorted_ (by decide +kernel) (da_cons (de_fn h_law_some hr (by decide) rfl (da_cons (dv 0) (da_cons (dv 3) (da_cons de_int da_nil))) (by decide) rfl rfl) da_nil)))) (dg_name (pg_name (i := 5) sc_law_form_value.nd rfl (by first | exact Or.inl rfl | exact Or.inr rfl)) (List.mem_singleton.mpr rfl)))
      (dss_one (ds_ret (de_ty call_tuple_of opd_tuple rfl bi.tuple_ (by decide +kernel) (da_cons (de_lc (own := [("at", 9)]) rfl sc_law_form_value.nd (di_range1 rfl bi.range_ (dv 2)) (blkOk_by (N := n_law_form_value) (sc := defScope (top 46)) (by decide +kernel)) (fun _ _ _ _ _ => (dg_name (pg_name (i := 9) sc_law_form_value.nd rfl (by first | exact Or.inl rfl | exact Or.inr rfl)) (by decide))) (fun _ _ _ _ _ => dts_nil) (fun _ _ _ _ _ => (de_tup (da_cons (de_ix (de_ix (dv 5) (dv 9)) de_int) (da_cons (de_ix (de_ix (dv 5) (dv 9)) de_int) (da_cons (de_ix (dv 4) (dv 9)) da_nil)))))) da_nil))))) dss_nil)
      (dss_cons (ds_if (dt_cmp (op_eqG hr.units) opd_eq (dv 1) (de_str (by decide +kernel)) (nomark _)) (dss_one (ds_ret (de_ty (call_dictD rfl hr.units) opd_dict rfl bi.dict_ (by decide +kernel) (da_cons (de_listZip rfl rfl bi.list_ rfl bi.zip_ (de_b (DL.call_sortedD hr.units) opd_sortedI rfl bi.sorted_ (by decide +kernel) (da_cons (de_fn h_law_some hr (by decide) rfl (da_cons (dv 0) (da_cons (dv 3) (da_cons (dv 2) da_nil))) (by decide) rfl rfl) da_nil)) (dv 4)) da_nil)))) dss_nil)
      (dss_cons (ds_if (dt_cmp (op_eqG hr.units) opd_eq (dv 1) (de_str (by decide +kernel)) (nomark _)) (dss_cons (ds_asg (ws := [5]) (de_lc (own := [("turn", 7)]) rfl sc_law_form_value.nd (di_range1 rfl bi.range_ (dv 2)) (blkOk_by (N := n_law_form_value) (sc := defScope (top 46)) (by decide +kernel)) (fun _ _ _ _ _ => (dg_name (pg_name (i := 7) sc_law_form_value.nd rfl (by first | exact Or.inl rfl | exact Or.inr rfl)) (by decide))) (fun _ _ _ _ _ => dts_nil) (fun _ _ _ _ _ => (de_ty call_tuple_of opd_tuple rfl bi.tuple_ (by decide +kernel) (da_cons (de_fn h_law_some hr (by decide) rfl (da_cons (dv 0) (da_cons (dv 3) (da_cons de_int da_nil))) (by decide) rfl rfl) da_nil)))) (dg_name (pg_name (i := 5) sc_law_form_value.nd rfl (by first | exact Or.inl rfl | exact Or.inr rfl)) (List.mem_singleton.mpr rfl)))
      (dss_one (ds_ret (de_ty (call_dictD rfl hr.units) opd_dict rfl bi.dict_ (by decide +kernel) (da_cons (de_listZip rfl rfl bi.list_ rfl bi.zip_ (de_sortSetI rfl hr.units rfl bi.sorted_ rfl bi.set_ (dv 5)) (de_lc (own := [("one", 10)]) rfl sc_law_form_value.nd (di_seq (dv 4)) (blkOk_by (N := n_law_form_value) (sc := defScope (top 46)) (by decide +kernel)) (fun _ _ _ _ _ => (dg_name (pg_name (i := 10) sc_law_form_value.nd rfl (by first | exact Or.inl rfl | exact Or.inr rfl)) (by decide))) (fun _ _ _ _ _ => dts_nil) (fun _ _ _ _ _ => (de_b (call_max2 rfl) opd_max2 rfl bi.max_ (by decide +kernel) (da_cons de_int (da_cons (dv 10) da_nil)))))) da_nil))))) dss_nil)
      (dss_cons (ds_asg (ws := [6]) (de_lstC da_nil) (dg_name (pg_name (i := 6) sc_law_form_value.nd rfl (by first | exact Or.inl rfl | exact Or.inr rfl)) (List.mem_singleton.mpr rfl)))
      (dss_cons (ds_for (ws := [7]) rfl (di_range1 rfl bi.range_ (dv 2)) (dg_name (pg_name (i := 7) sc_law_form_value.nd rfl (by first | exact Or.inl rfl | exact Or.inr rfl)) (by decide))
      (dss_cons (ds_asg (ws := [8]) (de_ty call_tuple_of opd_tuple rfl bi.tuple_ (by decide +kernel) (da_cons (de_fn h_law_low_pairs hr (by decide) rfl (da_cons (dv 0) (da_cons (de_bin op_addAll opd_add de_int (de_fn h_law_roll hr (by decide) rfl (da_cons (dv 0) (da_cons de_int da_nil)) (by decide) rfl rfl)) da_nil)) (by decide) rfl rfl) da_nil)) (dg_name (pg_name (i := 8) sc_law_form_value.nd rfl (by first | exact Or.inl rfl | exact Or.inr rfl)) (List.mem_singleton.mpr rfl)))
      (dss_one (ds_expr (de_append (dv 6) (de_fn h_law_pick hr (by decide) rfl (da_cons (dv 0) (da_cons (de_lst (da_cons (de_tup (da_cons (de_str (by decide +kernel)) (da_cons (de_fn h_law_word hr (by decide) rfl (da_cons (dv 0) da_nil) (by decide) rfl rfl) (da_cons (de_fn h_law_word hr (by decide) rfl (da_cons (dv 0) da_nil) (by decide) rfl rfl) da_nil)))) (da_cons (de_tup (da_cons (de_str (by decide +kernel)) (da_cons (de_fn h_law_word hr (by decide) rfl (da_cons (dv 0) da_nil) (by decide) rfl rfl) (da_cons (dv 8) da_nil)))) da_nil))) da_nil)) (by decide) rfl rfl))))))
      (dss_one (ds_ret (de_bin op_addAll opd_add (de_tup (da_cons (de_fn h_law_word hr (by decide) rfl (da_cons (dv 0) da_nil) (by decide) rfl rfl) da_nil)) (de_ty call_tuple_of opd_tuple rfl bi.tuple_ (by decide +kernel) (da_cons (dv 6) da_nil)))))))))))))))), gF, F.kp, F.bindsN fun _ _ _ _ _ _ us hl => match us, hl with | [_, _], _ => rfl⟩

/-! ### _law_pair_texts -/
abbrev n_law_pair_texts : List Str := ["pairs", "one", "other"]
def b_law_pair_texts : SD := sRet (eLc (iSeq (eVar 0)) (gT 2 (gsC (gN 1) (gsC (gN 2) (gsN)))) (tYesD) (e2 kAdd (e2 kAdd (eVar 1) (eC (.str [45]))) (eVar 2)) [1, 2])
def f_law_pair_texts : List Dat → Om → R Dat := fnD false 1 3 b_law_pair_texts
theorem sc_law_pair_texts : FnScope n_law_pair_texts ["pairs"] (defScope (top 47)) := ⟨rfl, rfl, rfl, by decide +kernel, rfl, by decide +kernel, by decide +kernel⟩
theorem ok_law_pair_texts (bi : Bi mg) (F : FnP K "_law_pair_texts" (top 47) f fd) (gF : mg "_law_pair_texts" = some (.ref f)) : Has P w K mg base T "_law_pair_texts" 1 1 f_law_pair_texts :=
  ⟨f, fd, ["pairs"], fn_okD (k := 0) F sc_law_pair_texts rfl rfl (fun cdv A outer s H E hr =>
    (dss_one (ds_ret (de_lc (own := [("one", 1), ("other", 2)]) rfl sc_law_pair_texts.nd (di_seq (dv 0)) (blkOk_by (N := n_law_pair_texts) (sc := defScope (top 47)) (by decide +kernel)) (fun _ _ _ _ _ => (dg_tup rfl (dgs_cons (dg_name (pg_name (i := 1) sc_law_pair_texts.nd rfl (by first | exact Or.inl rfl | exact Or.inr rfl)) (by decide)) (dgs_cons (dg_name (pg_name (i := 2) sc_law_pair_texts.nd rfl (by first | exact Or.inl rfl | exact Or.inr rfl)) (by decide)) dgs_nil)))) (fun _ _ _ _ _ => dts_nil) (fun _ _ _ _ _ => (de_bin op_addAll opd_add (de_bin op_addAll opd_add (dv 1) (de_str (by decide +kernel))) (dv 2))))))), gF, F.kp, F.bindsN fun _ _ _ _ _ _ us hl => match us, hl with | [_], _ => rfl⟩

/-! ### _law_form_text -/
abbrev n_law_form_text : List Str := ["form", "value", "items", "word", "place", "told", "way", "one", "other", "many", "pair"]
def b_law_form_text : SD := sSeq (sIf (tst (e2 kEq (eVar 0) (eC (.str [108, 111, 116])))) (sAsg (eB kList (aCons (eVar 1) (aNil))) (gN 2)) (sIf (tst (e2 kEq (eVar 0) (eC (.str [112, 97, 105, 114, 115])))) (sAsg (eCall 1 [] f_law_pair_texts (aCons (eVar 1) (aNil))) (gN 2)) (sIf (tst (e2 kEq (eVar 0) (eC (.str [119, 97, 121, 115])))) (sAsg (eLc (iSeq (eVar 1)) (gN 6) (tYesD) (eM1 kJoin (eC (.str [62])) (eB kList (aCons (eVar 6) (aNil)))) [6]) (gN 2)) (sIf (tst (e2 kEq (eVar 0) (eC (.str [116, 114, 101, 101])))) (sAsg (eLc (iSeq (eVar 1)) (gT 3 (gsC (gN 7) (gsC (gN 8) (gsC (gN 9) (gsN))))) (tYesD) (e2 kAdd (e2 kAdd (e2 kAdd (e2 kAdd (eVar 7) (eC (.str [45]))) (eVar 8)) (eC (.str [58]))) (eB kStr (aCons (eVar 9) (aNil)))) [7, 8, 9]) (gN 2)) (sIf (tst (e2 kEq (eVar 0) (eC (.str [101, 110, 100, 115])))) (sAsg (eLc (iSeq (eB kSortedDcI (aCons (eVar 1) (aNil)))) (gN 3) (tYesD) (e2 kAdd (e2 kAdd (eVar 3) (eC (.str [58]))) (eB kStr (aCons (e2 kDGet (eVar 1) (eVar 3)) (aNil)))) [3]) (gN 2)) (sIf (tst (e2 kEq (eVar 0) (eC (.str [115, 116, 114, 101, 101, 116, 115])))) (sAsg (eLc (iSeq (eB kSortedDcI (aCons (eVar 1) (aNil)))) (gN 10) (tYesD) (e2 kAdd (e2 kAdd (e2 kAdd (e2 kAdd (e2 kIx (eVar 10) (eC (.int 0))) (eC (.str [62]))) (e2 kIx (eVar 10) (eC (.int 1)))) (eC (.str [58]))) (eB kStr (aCons (e2 kDGet (eVar 1) (eVar 10)) (aNil)))) [10]) (gN 2)) (sSeq (sAsg (eLstC (aCons (e2 kIx (eVar 1) (eC (.int 0))) (aNil))) (gN 2)) (sFor (iSeq (eSl (eVar 1) (oSome (eC (.int 1))) (oNone))) (gT 3 (gsC (gN 3) (gsC (gN 4) (gsC (gN 5) (gsN))))) (sExpr (eCellM kAppend (eVar 2) (eIf (tst (e2 kEq (eVar 3) (eC (.str [116, 105, 101])))) (e2 kAdd (e2 kAdd (eVar 4) (eC (.str [43]))) (eVar 5)) (eM1 kJoin (eC (.str [61])) (e2 kAdd (eLst (aCons (eVar 4) (aNil))) (eCall 1 [] f_law_pair_texts (aCons (eVar 5) (aNil)))))))))))))))) (sRet (eIf (tst (e2 kNe (eVar 2) (eLst (aNil)))) (eM1 kJoin (eC (.str [32])) (eVar 2)) (eC (.str [45]))))
def f_law_form_text : List Dat → Om → R Dat := fnD false 2 11 b_law_form_text
theorem sc_law_form_text : FnScope n_law_form_text ["form", "value"] (defScope (top 48)) := ⟨rfl, rfl, rfl, by decide +kernel, rfl, by decide +kernel, by decide +kernel⟩
theorem ok_law_form_text (bi : Bi mg) (h_law_pair_texts : Has P w K mg base T "_law_pair_texts" 1 1 f_law_pair_texts) (F : FnP K "_law_form_text" (top 48) f fd) (gF : mg "_law_form_text" = some (.ref f)) : Has P w K mg base T "_law_form_text" 2 2 f_law_form_text :=
  ⟨f, fd, ["form", "value"], fn_okD (k := 1) F sc_law_form_text rfl rfl (fun cdv A outer s H E hr =>
    (dss_cons (ds_if (dt_cmp (op_eqG hr.units) opd_eq (dv 0) (de_str (by decide +kernel)) (nomark _)) (dss_one (ds_asg (ws := [2]) (de_ty call_list_of opd_list rfl bi.list_ (by decide +kernel) (da_cons (dv 1) da_nil)) (dg_name (pg_name (i := 2) sc_law_form_text.nd rfl (by first | exact Or.inl rfl | exact Or.inr rfl)) (List.mem_singleton.mpr rfl)))) (dss_one (ds_if (dt_cmp (op_eqG hr.units) opd_eq (dv 0) (de_str (by decide +kernel)) (nomark _)) (dss_one (ds_asg (ws := [2]) (de_fn h_law_pair_texts hr (by decide) rfl (da_cons (dv 1) da_nil) (by decide) rfl rfl) (dg_name (pg_name (i := 2) sc_law_form_text.nd rfl (by first | exact Or.inl rfl | exact Or.inr rfl)) (List.mem_singleton.mpr rfl)))) (dss_one (ds_if (dt_cmp (op_eqG hr.units) opd_eq (dv 0) (de_str (by decide +kernel)) (nomark _)) (dss_one (ds_setLc (own := [("way", 6)]) rfl sc_law_form_text.nd (i := 2) rfl rfl rfl (di_seq (dv 1)) (blkOk_by (N := n_law_form_text) (sc := defScope (top 48)) (by decide +kernel)) (fun _ _ _ _ _ => (dg_name (pg_name (i := 6) sc_law_form_text.nd rfl (by first | exact Or.inl rfl | exact Or.inr rfl)) (by decide))) (fun _ _ _ _ _ => dts_nil) (fun _ _ _ _ _ => (de_strjoin (de_str (by decide +kernel)) (de_ty call_list_of opd_list rfl bi.list_ (by decide +kernel) (da_cons (dv 6) da_nil)))))) (dss_one (ds_if (dt_cmp (op_eqG hr.units) opd_eq (dv 0) (de_str (by decide +kernel)) (nomark _)) (dss_one (ds_setLc (own := [("one", 7), ("other", 8), ("many", 9)]) rfl sc_law_form_text.nd (i := 2) rfl rfl rfl (di_seq (dv 1)) (blkOk_by (N := n_law_form_text) (sc := defScope (top 48)) (by decide +kernel)) (fun _ _ _ _ _ => (dg_tup rfl (dgs_cons (dg_name (pg_name (i := 7) sc_law_form_text.nd rfl (by first | exact Or.inl rfl | exact Or.inr rfl)) (by decide)) (dgs_cons (dg_name (pg_name (i := 8) sc_law_form_text.nd rfl (by first | exact Or.inl rfl | exact Or.inr rfl)) (by decide)) (dgs_cons (dg_name (pg_name (i := 9) sc_law_form_text.nd rfl (by first | exact Or.inl rfl | exact Or.inr rfl)) (by decide)) dgs_nil))))) (fun _ _ _ _ _ => dts_nil) (fun _ _ _ _ _ => (de_bin op_addAll opd_add (de_bin op_addAll opd_add (de_bin op_addAll opd_add (de_bin op_addAll opd_add (dv 7) (de_str (by decide +kernel))) (dv 8)) (de_str (by decide +kernel))) (de_ty call_str_int opd_str rfl bi.str_ (by decide +kernel) (da_cons (dv 9) da_nil)))))) (dss_one (ds_if (dt_cmp (op_eqG hr.units) opd_eq (dv 0) (de_str (by decide +kernel)) (nomark _)) (dss_one (ds_setLc (own := [("word", 3)]) rfl sc_law_form_text.nd (i := 2) rfl rfl rfl (di_seq (de_b (call_sortedDc rfl hr.units) opd_sortedDcI rfl bi.sorted_ (by decide +kernel) (da_cons (dv 1) da_nil))) (blkOk_by (N := n_law_form_text) (sc := defScope (top 48)) (by decide +kernel)) (fun _ _ _ _ _ => (dg_name (pg_name (i := 3) sc_law_form_text.nd rfl (by first | exact Or.inl rfl | exact Or.inr rfl)) (by decide))) (fun _ _ _ _ _ => dts_nil) (fun _ _ _ _ _ => (de_bin op_addAll opd_add (de_bin op_addAll opd_add (dv 3) (de_str (by decide +kernel))) (de_ty call_str_int opd_str rfl bi.str_ (by decide +kernel) (da_cons (de_dget hr.units (dv 1) (dv 3) (by exact fun _ _ => rfl)) da_nil)))))) (dss_one (ds_if (dt_cmp (op_eqG hr.units) opd_eq (dv 0) (de_str (by decide +kernel)) (nomark _)) (dss_one (ds_setLc (own := [("pair", 10)]) rfl sc_law_form_text.nd (i := 2) rfl rfl rfl (di_seq (de_b (call_sortedDc rfl hr.units) opd_sortedDcI rfl bi.sorted_ (by decide +kernel) (da_cons (dv 1) da_nil))) (blkOk_by (N := n_law_form_text) (sc := defScope (top 48)) (by decide +kernel)) (fun _ _ _ _ _ => (dg_name (pg_name (i := 10) sc_law_form_text.nd rfl (by first | exact Or.inl rfl | exact Or.inr rfl)) (by decide))) (fun _ _ _ _ _ => dts_nil) (fun _ _ _ _ _ => (de_bin op_addAll opd_add (de_bin op_addAll opd_add (de_bin op_addAll opd_add (de_bin op_addAll opd_add (de_ix (dv 10) de_int) (de_str (by decide +kernel))) (de_ix (dv 10) de_int)) (de_str (by decide +kernel))) (de_ty call_str_int opd_str rfl bi.str_ (by decide +kernel) (da_cons (de_dget hr.units (dv 1) (dv 10) (by exact fun _ _ => rfl)) da_nil)))))) (dss_cons (ds_asg (ws := [2]) (de_lstC (da_cons (de_ix (dv 1) de_int) da_nil)) (dg_name (pg_name (i := 2) sc_law_form_text.nd rfl (by first | exact Or.inl rfl | exact Or.inr rfl)) (List.mem_singleton.mpr rfl)))
      (dss_one (ds_for (ws := [3, 4, 5]) rfl (di_seq (de_sl (dv 1) (do_some de_int) do_none)) (dg_tup rfl (dgs_cons (dg_name (pg_name (i := 3) sc_law_form_text.nd rfl (by first | exact Or.inl rfl | exact Or.inr rfl)) (by decide)) (dgs_cons (dg_name (pg_name (i := 4) sc_law_form_text.nd rfl (by first | exact Or.inl rfl | exact Or.inr rfl)) (by decide)) (dgs_cons (dg_name (pg_name (i := 5) sc_law_form_text.nd rfl (by first | exact Or.inl rfl | exact Or.inr rfl)) (by decide)) dgs_nil))))
      (dss_one (ds_expr (de_append (dv 2) (de_if (dt_cmp (op_eqG hr.units) opd_eq (dv 3) (de_str (by decide +kernel)) (nomark _)) (de_bin op_addAll opd_add (de_bin op_addAll opd_add (dv 4) (de_str (by decide +kernel))) (dv 5)) (de_strjoin (de_str (by decide +kernel)) (de_bin op_addAll opd_add (de_lst (da_cons (dv 4) da_nil)) (de_fn h_law_pair_texts hr (by decide) rfl (da_cons (dv 5) da_nil) (by decide) rfl rfl)))))))))))))))))))))
      (dss_one (ds_ret (de_if (dt_cmp (op_neD hr.units) opd_ne (dv 2) (de_lst da_nil) (nomark _)) (de_strjoin (de_str (by decide +kernel)) (dv 2)) (de_str (by decide +kernel))))))), gF, F.kp, F.bindsN fun _ _ _ _ _ _ us hl => match us, hl with | [_, _], _ => rfl⟩

/-! ### _law_is_refused -/
abbrev n_law_is_refused : List Str := ["form", "value"]
def b_law_is_refused : SD := sSeq (sTry (exm "InvalidOperation") (sExpr (eCall 2 [] f_write (aCons (eVar 0) (aCons (eVar 1) (aNil))))) (sRet (eC (.bl true)))) (sRet (eC (.bl false)))
def f_law_is_refused : List Dat → Om → R Dat := fnD false 2 2 b_law_is_refused
theorem sc_law_is_refused : FnScope n_law_is_refused ["form", "value"] (defScope (top 49)) := ⟨rfl, rfl, rfl, by decide +kernel, rfl, by decide +kernel, by decide +kernel⟩
theorem ok_law_is_refused (bi : Bi mg) (h_write : Has P w K mg base T "write" 7 2 f_write) (y_InvalidOperation : Ctch K mg T "InvalidOperation" (exm "InvalidOperation")) (F : FnP K "_law_is_refused" (top 49) f fd) (gF : mg "_law_is_refused" = some (.ref f)) : Has P w K mg base T "_law_is_refused" 8 2 f_law_is_refused :=
  ⟨f, fd, ["form", "value"], fn_okD (k := 7) F sc_law_is_refused rfl rfl (fun cdv A outer s H E hr =>
    (dss_cons (ds_ctch y_InvalidOperation rfl rfl rfl (by decide) (fun _ _ => (dss_one (ds_expr (de_fn h_write hr (by decide) rfl (da_cons (dv 0) (da_cons (dv 1) da_nil)) (by decide) rfl rfl)))) (fun _ _ => (dss_one (ds_ret de_bl))))
      (dss_one (ds_ret de_bl)))), gF, F.kp, F.bindsN fun _ _ _ _ _ _ us hl => match us, hl with | [_, _], _ => rfl⟩

/-! ### _law_odd -/
abbrev n_law_odd : List Str := ["form", "some"]
def b_law_odd : SD := sSeq (sAsg (eLstC (aCons (eC .non) (aCons (eC (.int 0)) (aCons (eC (.str [97])) (aCons (eLst (aNil)) (aCons (eLst (aCons (eC (.str [97])) (aNil))) (aCons (eTup (aCons (eC .non) (aNil))) (aCons (eTup (aCons (eTup (aCons (eC (.str [97])) (aNil))) (aNil))) (aCons (eTup (aCons (eC (.str [65])) (aNil))) (aCons (eTup (aCons (eTup (aCons (eC (.int 1)) (aCons (eC (.int 2)) (aNil)))) (aNil))) (aCons (eTup (aCons (eTup (aCons (eC (.str [97])) (aCons (eC (.str [98])) (aCons (eC (.int 100)) (aNil))))) (aNil))) (aCons (eC (.bl true)) (aNil))))))))))))) (gN 1)) (sSeq (sExpr (eCellM kAppend (eVar 1) (eTup (aCons (eTup (aCons (eC (.str [97])) (aCons (eC (.str [98])) (aCons (eC (.bl true)) (aNil))))) (aNil))))) (sSeq (sAsg (e2 kAddC (eVar 1) (eLst (aCons (eDispK (pCons (eC (.str [97])) (e1 kNeg (eC (.int 1))) (pNil))) (aCons (eDispK (pCons (eC (.str [97])) (eC (.bl true)) (pNil))) (aCons (eDispK (pCons (eC (.str [65])) (eC (.int 1)) (pNil))) (aCons (eDispT (pCons (eTup (aCons (eC (.str [97])) (aCons (eC (.str [98])) (aNil)))) (eC (.int 100)) (pNil))) (aCons (eDispT (pCons (eTup (aCons (eC (.str [97])) (aCons (eC (.str [97])) (aNil)))) (eC (.int 1)) (pNil))) (aCons (eDispT (pCons (eTup (aCons (eC (.str [97])) (aNil))) (eC (.int 1)) (pNil))) (aCons (eDispK (pCons (eC (.int 0)) (eC (.int 0)) (pNil))) (aCons (eTup (aCons (eLst (aNil)) (aNil))) (aNil))))))))))) (gN 1)) (sSeq (sIf (tst (e2 kNotIn (eVar 0) (eLst (aCons (eC (.str [101, 110, 100, 115])) (aCons (eC (.str [115, 116, 114, 101, 101, 116, 115])) (aNil)))))) (sAsg (e2 kAddC (eVar 1) (eLst (aCons (eC (.dct [] [])) (aCons (eDispK (pCons (eC (.str [97])) (eC (.int 1)) (pNil))) (aNil))))) (gN 1)) (sNil)) (sSeq (sIf (tst (e2 kNe (eVar 0) (eC (.str [108, 111, 116])))) (sExpr (eCellM kAppend (eVar 1) (eTup (aCons (eC (.str [97])) (aCons (eC (.str [98])) (aNil)))))) (sNil)) (sSeq (sIf (tst (e2 kIn (eVar 0) (eLst (aCons (eC (.str [101, 110, 100, 115])) (aCons (eC (.str [115, 116, 114, 101, 101, 116, 115])) (aNil)))))) (sAsg (e2 kAddC (eVar 1) (eLst (aCons (eTup (aNil)) (aCons (eTup (aCons (eC (.str [97])) (aNil))) (aNil))))) (gN 1)) (sNil)) (sSeq (sIf (tst (e2 kEq (eVar 0) (eC (.str [108, 111, 116])))) (sAsg (e2 kAddC (eVar 1) (eLst (aCons (eTup (aCons (eC (.str [98])) (aCons (eC (.str [97])) (aNil)))) (aCons (eTup (aCons (eC (.str [97])) (aCons (eC (.str [97])) (aNil)))) (aCons (eTup (aCons (eC (.str [])) (aCons (eC (.str [97])) (aNil)))) (aCons (eTup (aCons (eC (.str [97, 98, 99, 100, 101, 102, 103, 104, 105])) (aNil))) (aNil))))))) (gN 1)) (sNil)) (sSeq (sIf (tst (e2 kEq (eVar 0) (eC (.str [112, 97, 105, 114, 115])))) (sAsg (e2 kAddC (eVar 1) (eLst (aCons (eTup (aCons (eTup (aCons (eC (.str [98])) (aCons (eC (.str [97])) (aNil)))) (aNil))) (aCons (eTup (aCons (eTup (aCons (eC (.str [97])) (aCons (eC (.str [98])) (aCons (eC (.str [99])) (aNil))))) (aNil))) (aCons (eTup (aCons (eLst (aCons (eC (.str [97])) (aCons (eC (.str [98])) (aNil)))) (aNil))) (aNil)))))) (gN 1)) (sNil)) (sSeq (sIf (tst (e2 kEq (eVar 0) (eC (.str [119, 97, 121, 115])))) (sAsg (e2 kAddC (eVar 1) (eLst (aCons (eTup (aCons (eTup (aCons (eC (.str [97])) (aCons (eC (.str [98])) (aCons (eC (.str [97])) (aNil))))) (aNil))) (aCons (eTup (aCons (eTup (aCons (eC (.str [97])) (aNil))) (aNil))) (aCons (eTup (aCons (eTup (aCons (eC (.str [97])) (aCons (eC (.str [97])) (aNil)))) (aNil))) (aCons (eTup (aCons (eLst (aCons (eC (.str [97])) (aCons (eC (.str [98])) (aNil)))) (aNil))) (aNil))))))) (gN 1)) (sNil)) (sSeq (sIf (tst (e2 kEq (eVar 0) (eC (.str [116, 114, 101, 101])))) (sAsg (e2 kAddC (eVar 1) (eLst (aCons (eTup (aCons (eTup (aCons (eC (.str [98])) (aCons (eC (.str [97])) (aCons (eC (.int 1)) (aNil))))) (aNil))) (aCons (eTup (aCons (eTup (aCons (eC (.str [97])) (aCons (eC (.str [97])) (aCons (eC (.int 1)) (aNil))))) (aNil))) (aCons (eTup (aCons (eTup (aCons (eC (.str [97])) (aCons (eC (.str [98])) (aNil)))) (aNil))) (aCons (eTup (aCons (eLst (aCons (eC (.str [97])) (aCons (eC (.str [98])) (aCons (eC (.int 1)) (aNil))))) (aNil))) (aCons (eTup (aCons (eTup (aCons (eC (.str [97])) (aCons (eC (.str [98])) (aCons (e1 kNeg (eC (.int 1))) (aNil))))) (aNil))) (aNil)))))))) (gN 1)) (sNil)) (sSeq (sIf (tst (e2 kEq (eVar 0) (eC (.str [101, 110, 100, 115])))) (sAsg (e2 kAddC (eVar 1) (eLst (aCons (eDispT (pCons (eTup (aCons (eC (.str [97])) (aCons (eC (.str [98])) (aNil)))) (eC (.int 1)) (pNil))) (aCons (eDispK (pCons (eC (.str [97])) (eC (.int 100)) (pNil))) (aCons (eDispK (pCons (eC (.str [97])) (eC (.str [49])) (pNil))) (aNil)))))) (gN 1)) (sNil)) (sSeq (sIf (tst (e2 kEq (eVar 0) (eC (.str [115, 116, 114, 101, 101, 116, 115])))) (sAsg (e2 kAddC (eVar 1) (eLst (aCons (eDispT (pCons (eTup (aCons (eC (.str [97])) (aCons (eC (.str [98])) (aNil)))) (eC (.int 0)) (pNil))) (aCons (eDispK (pCons (eC (.str [97, 98])) (eC (.int 1)) (pNil))) (aCons (eDispT (pCons (eTup (aCons (eC (.str [97])) (aCons (eC (.str [98])) (aNil)))) (eC .non) (pNil))) (aCons (eDispT (pCons (eTup (aCons (eC (.str [97])) (aCons (eC (.str [66])) (aNil)))) (eC (.int 1)) (pNil))) (aNil))))))) (gN 1)) (sNil)) (sSeq (sIf (tst (e2 kEq (eVar 0) (eC (.str [103, 114, 111, 119, 116, 104])))) (sSeq (sAsg (e2 kAddC (eVar 1) (eLst (aCons (eTup (aNil)) (aCons (eTup (aCons (eC (.str [97])) (aCons (eTup (aCons (eC (.str [112, 105, 110, 99, 104])) (aCons (eC (.str [98])) (aCons (eTup (aNil)) (aNil))))) (aNil)))) (aCons (eTup (aCons (eC (.str [97])) (aCons (eTup (aCons (eC (.str [116, 105, 101])) (aCons (eC (.str [98])) (aNil)))) (aNil)))) (aCons (eTup (aCons (eC (.str [97])) (aCons (eTup (aCons (eC (.str [116, 105, 101, 115])) (aCons (eC (.str [97])) (aCons (eC (.str [98])) (aNil))))) (aNil)))) (aNil))))))) (gN 1)) (sSeq (sExpr (eCellM kAppend (eVar 1) (eTup (aCons (eC (.str [97])) (aCons (eTup (aCons (eC (.str [116, 105, 101])) (aCons (eC (.str [97])) (aCons (eC (.int 0)) (aNil))))) (aNil)))))) (sAsg (e2 kAddC (eVar 1) (eLst (aCons (eTup (aCons (eC (.str [97])) (aCons (eTup (aCons (eC (.str [112, 105, 110, 99, 104])) (aCons (eC (.str [98])) (aCons (eTup (aCons (eTup (aCons (eC (.str [98])) (aCons (eC (.str [97])) (aNil)))) (aNil))) (aNil))))) (aNil)))) (aCons (eTup (aCons (eC (.str [97])) (aCons (eLst (aCons (eC (.str [116, 105, 101])) (aCons (eC (.str [97])) (aCons (eC (.str [98])) (aNil))))) (aNil)))) (aCons (eTup (aCons (eTup (aCons (eC (.str [116, 105, 101])) (aCons (eC (.str [97])) (aCons (eC (.str [98])) (aNil))))) (aNil))) (aCons (eTup (aCons (eC (.str [97])) (aCons (eC (.int 0)) (aNil)))) (aNil))))))) (gN 1)))) (sNil)) (sRet (eVar 1))))))))))))))
def f_law_odd : List Dat → Om → R Dat := fnD false 1 2 b_law_odd
theorem sc_law_odd : FnScope n_law_odd ["form"] (defScope (top 50)) := ⟨rfl, rfl, rfl, by decide +kernel, rfl, by decide +kernel, by decide +kernel⟩
theorem ok_law_odd (bi : Bi mg) (F : FnP K "_law_odd" (top 50) f fd) (gF : mg "_law_odd" = some (.ref f)) : Has P w K mg base T "_law_odd" 1 1 f_law_odd :=
  ⟨f, fd, ["form"], fn_okD (k := 0) F sc_law_odd rfl rfl (fun cdv A outer s H E hr =>
    (dss_cons (ds_asg (ws := [1]) (de_lstC (da_cons de_non (da_cons de_int (da_cons (de_str (by decide +kernel)) (da_cons (de_lst da_nil) (da_cons (de_lst (da_cons (de_str (by decide +kernel)) da_nil)) (da_cons (de_tup (da_cons de_non da_nil)) (da_cons (de_tup (da_cons (de_tup (da_cons (de_str (by decide +kernel)) da_nil)) da_nil)) (da_cons (de_tup (da_cons (de_str (by decide +kernel)) da_nil)) (da_cons (de_tup (da_cons (de_tup (da_cons de_int (da_cons de_int da_nil))) da_nil)) (da_cons (de_tup (da_cons (de_tup (da_cons (de_str (by decide +kernel)) (da_cons (de_str (by decide +kernel)) (da_cons de_int da_nil)))) da_nil)) (da_cons de_bl da_nil)))))))))))) (dg_name (pg_name (i := 1) sc_law_odd.nd rfl (by first | exact Or.inl rfl | exact Or.inr rfl)) (List.mem_singleton.mpr rfl)))
      (dss_cons (ds_expr (de_append (dv 1) (de_tup (da_cons (de_tup (da_cons (de_str (by decide +kernel)) (da_cons (de_str (by decide +kernel)) (da_cons de_bl da_nil)))) da_nil))))
      (dss_cons (ds_asg (ws := [1]) (de_bin op_cat opd_addC (dv 1) (de_lst (da_cons (de_dispK (dps_cons (de_str (by decide +kernel)) (de_un un_neg opd_neg de_int) dps_nil) (by simp)) (da_cons (de_dispK (dps_cons (de_str (by decide +kernel)) de_bl dps_nil) (by simp)) (da_cons (de_dispK (dps_cons (de_str (by decide +kernel)) de_int dps_nil) (by simp)) (da_cons (de_dispT hr.units (dps_cons (de_tup (da_cons (de_str (by decide +kernel)) (da_cons (de_str (by decide +kernel)) da_nil))) de_int dps_nil) (by simp)) (da_cons (de_dispT hr.units (dps_cons (de_tup (da_cons (de_str (by decide +kernel)) (da_cons (de_str (by decide +kernel)) da_nil))) de_int dps_nil) (by simp)) (da_cons (de_dispT hr.units (dps_cons (de_tup (da_cons (de_str (by decide +kernel)) da_nil)) de_int dps_nil) (by simp)) (da_cons (de_dispK (dps_cons de_int de_int dps_nil) (by simp)) (da_cons (de_tup (da_cons (de_lst da_nil) da_nil)) da_nil)))))))))) (dg_name (pg_name (i := 1) sc_law_odd.nd rfl (by first | exact Or.inl rfl | exact Or.inr rfl)) (List.mem_singleton.mpr rfl)))
      (dss_cons (ds_if (dt_cmp (op_notInG hr.units) opd_notIn (dv 0) (de_lst (da_cons (de_str (by decide +kernel)) (da_cons (de_str (by decide +kernel)) da_nil))) rfl) (dss_one (ds_asg (ws := [1]) (de_bin op_cat opd_addC (dv 1) (de_lst (da_cons de_disp0 (da_cons (de_dispK (dps_cons (de_str (by decide +kernel)) de_int dps_nil) (by simp)) da_nil)))) (dg_name (pg_name (i := 1) sc_law_odd.nd rfl (by first | exact Or.inl rfl | exact Or.inr rfl)) (List.mem_singleton.mpr rfl)))) dss_nil)
      (dss_cons (ds_if (dt_cmp (op_neD hr.units) opd_ne (dv 0) (de_str (by decide +kernel)) (nomark _)) (dss_one (ds_expr (de_append (dv 1) (de_tup (da_cons (de_str (by decide +kernel)) (da_cons (de_str (by decide +kernel)) da_nil)))))) dss_nil)
      (dss_cons (ds_if (dt_cmp (op_inG hr.units) opd_in (dv 0) (de_lst (da_cons (de_str (by decide +kernel)) (da_cons (de_str (by decide +kernel)) da_nil))) rfl) (dss_one (ds_asg (ws := [1]) (de_bin op_cat opd_addC (dv 1) (de_lst (da_cons (de_tup da_nil) (da_cons (de_tup (da_cons (de_str (by decide +kernel)) da_nil)) da_nil)))) (dg_name (pg_name (i := 1) sc_law_odd.nd rfl (by first | exact Or.inl rfl | exact Or.inr rfl)) (List.mem_singleton.mpr rfl)))) dss_nil)
      (dss_cons (ds_if (dt_cmp (op_eqG hr.units) opd_eq (dv 0) (de_str (by decide +kernel)) (nomark _)) (dss_one (ds_asg (ws := [1]) (de_bin op_cat opd_addC (dv 1) (de_lst (da_cons (de_tup (da_cons (de_str (by decide +kernel)) (da_cons (de_str (by decide +kernel)) da_nil))) (da_cons (de_tup (da_cons (de_str (by decide +kernel)) (da_cons (de_str (by decide +kernel)) da_nil))) (da_cons (de_tup (da_cons (de_str (by decide +kernel)) (da_cons (de_str (by decide +kernel)) da_nil))) (da_cons (de_tup (da_cons (de_str (by decide +kernel)) da_nil)) da_nil)))))) (dg_name (pg_name (i := 1) sc_law_odd.nd rfl (by first | exact Or.inl rfl | exact Or.inr rfl)) (List.mem_singleton.mpr rfl)))) dss_nil)
      (dss_cons (ds_if (dt_cmp (op_eqG hr.units) opd_eq (dv 0) (de_str (by decide +kernel)) (nomark _)) (dss_one (ds_asg (ws := [1]) (de_bin op_cat opd_addC (dv 1) (de_lst (da_cons (de_tup (da_cons (de_tup (da_cons (de_str (by decide +kernel)) (da_cons (de_str (by decide +kernel)) da_nil))) da_nil)) (da_cons (de_tup (da_cons (de_tup (da_cons (de_str (by decide +kernel)) (da_cons (de_str (by decide +kernel)) (da_cons (de_str (by decide +kernel)) da_nil)))) da_nil)) (da_cons (de_tup (da_cons (de_lst (da_cons (de_str (by decide +kernel)) (da_cons (de_str (by decide +kernel)) da_nil))) da_nil)) da_nil))))) (dg_name (pg_name (i := 1) sc_law_odd.nd rfl (by first | exact Or.inl rfl | exact Or.inr rfl)) (List.mem_singleton.mpr rfl)))) dss_nil)
      (dss_cons (ds_if (dt_cmp (op_eqG hr.units) opd_eq (dv 0) (de_str (by decide +kernel)) (nomark _)) (dss_one (ds_asg (ws := [1]) (de_bin op_cat opd_addC (dv 1) (de_lst (da_cons (de_tup (da_cons (de_tup (da_cons (de_str (by decide +kernel)) (da_cons (de_str (by decide +kernel)) (da_cons (de_str (by decide +kernel)) da_nil)))) da_nil)) (da_cons (de_tup (da_cons (de_tup (da_cons (de_str (by decide +kernel)) da_nil)) da_nil)) (da_cons (de_tup (da_cons (de_tup (da_cons (de_str (by decide +kernel)) (da_cons (de_str (by decide +kernel)) da_nil))) da_nil)) (da_cons (de_tup (da_cons (de_lst (da_cons (de_str (by decide +kernel)) (da_cons (de_str (by decide +kernel)) da_nil))) da_nil)) da_nil)))))) (dg_name (pg_name (i := 1) sc_law_odd.nd rfl (by first | exact Or.inl rfl | exact Or.inr rfl)) (List.mem_singleton.mpr rfl)))) dss_nil)
      (dss_cons (ds_if (dt_cmp (op_eqG hr.units) opd_eq (dv 0) (de_str (by decide +kernel)) (nomark _)) (dss_one (ds_asg (ws := [1]) (de_bin op_cat opd_addC (dv 1) (de_lst (da_cons (de_tup (da_cons (de_tup (da_cons (de_str (by decide +kernel)) (da_cons (de_str (by decide +kernel)) (da_cons de_int da_nil)))) da_nil)) (da_cons (de_tup (da_cons (de_tup (da_cons (de_str (by decide +kernel)) (da_cons (de_str (by decide +kernel)) (da_cons de_int da_nil)))) da_nil)) (da_cons (de_tup (da_cons (de_tup (da_cons (de_str (by decide +kernel)) (da_cons (de_str (by decide +kernel)) da_nil))) da_nil)) (da_cons (de_tup (da_cons (de_lst (da_cons (de_str (by decide +kernel)) (da_cons (de_str (by decide +kernel)) (da_cons de_int da_nil)))) da_nil)) (da_cons (de_tup (da_cons (de_tup (da_cons (de_str (by decide +kernel)) (da_cons (de_str (by decide +kernel)) (da_cons (de_un un_neg opd_neg de_int) da_nil)))) da_nil)) da_nil))))))) (dg_name (pg_name (i := 1) sc_law_odd.nd rfl (by first | exact Or.inl rfl | exact Or.inr rfl)) (List.mem_singleton.mpr rfl)))) dss_nil)
      (dss_cons (ds_if (dt_cmp (op_eqG hr.units) opd_eq (dv 0) (de_str (by decide +kernel)) (nomark _)) (dss_one (ds_asg (ws := [1]) (de_bin op_cat opd_addC (dv 1) (de_lst (da_cons (de_dispT hr.units (dps_cons (de_tup (da_cons (de_str (by decide +kernel)) (da_cons (de_str (by decide +kernel)) da_nil))) de_int dps_nil) (by simp)) (da_cons (de_dispK (dps_cons (de_str (by decide +kernel)) de_int dps_nil) (by simp)) (da_cons (de_dispK (dps_cons (de_str (by decide +kernel)) (de_str (by decide +kernel)) dps_nil) (by simp)) da_nil))))) (dg_name (pg_name (i := 1) sc_law_odd.nd rfl (by first | exact Or.inl rfl | exact Or.inr rfl)) (List.mem_singleton.mpr rfl)))) dss_nil)
      (dss_cons (ds_if (dt_cmp (op_eqG hr.units) opd_eq (dv 0) (de_str (by decide +kernel)) (nomark _)) (dss_one (ds_asg (ws := [1]) (de_bin op_cat opd_addC (dv 1) (de_lst (da_cons (de_dispT hr.units (dps_cons (de_tup (da_cons (de_str (by decide +kernel)) (da_cons (de_str (by decide +kernel)) da_nil))) de_int dps_nil) (by simp)) (da_cons (de_dispK (dps_cons (de_str (by decide +kernel)) de_int dps_nil) (by simp)) (da_cons (de_dispT hr.units (dps_cons (de_tup (da_cons (de_str (by decide +kernel)) (da_cons (de_str (by decide +kernel)) da_nil))) de_non dps_nil) (by simp)) (da_cons (de_dispT hr.units (dps_cons (de_tup (da_cons (de_str (by decide +kernel)) (da_cons (de_str (by decide +kernel)) da_nil))) de_int dps_nil) (by simp)) da_nil)))))) (dg_name (pg_name (i := 1) sc_law_odd.nd rfl (by first | exact Or.inl rfl | exact Or.inr rfl)) (List.mem_singleton.mpr rfl)))) dss_nil)
      (dss_cons (ds_if (dt_cmp (op_eqG hr.units) opd_eq (dv 0) (de_str (by decide +kernel)) (nomark _)) (dss_cons (ds_asg (ws := [1]) (de_bin op_cat opd_addC (dv 1) (de_lst (da_cons (de_tup da_nil) (da_cons (de_tup (da_cons (de_str (by decide +kernel)) (da_cons (de_tup (da_cons (de_str (by decide +kernel)) (da_cons (de_str (by decide +kernel)) (da_cons (de_tup da_nil) da_nil)))) da_nil))) (da_cons (de_tup (da_cons (de_str (by decide +kernel)) (da_cons (de_tup (da_cons (de_str (by decide +kernel)) (da_cons (de_str (by decide +kernel)) da_nil))) da_nil))) (da_cons (de_tup (da_cons (de_str (by decide +kernel)) (da_cons (de_tup (da_cons (de_str (by decide +kernel)) (da_cons (de_str (by decide +kernel)) (da_cons (de_str (by decide +kernel)) da_nil)))) da_nil))) da_nil)))))) (dg_name (pg_name (i := 1) sc_law_odd.nd rfl (by first | exact Or.inl rfl | exact Or.inr rfl)) (List.mem_singleton.mpr rfl)))
      (dss_cons (ds_expr (de_append (dv 1) (de_tup (da_cons (de_str (by decide +kernel)) (da_cons (de_tup (da_cons (de_str (by decide +kernel)) (da_cons (de_str (by decide +kernel)) (da_cons de_int da_nil)))) da_nil)))))
      (dss_one (ds_asg (ws := [1]) (de_bin op_cat opd_addC (dv 1) (de_lst (da_cons (de_tup (da_cons (de_str (by decide +kernel)) (da_cons (de_tup (da_cons (de_str (by decide +kernel)) (da_cons (de_str (by decide +kernel)) (da_cons (de_tup (da_cons (de_tup (da_cons (de_str (by decide +kernel)) (da_cons (de_str (by decide +kernel)) da_nil))) da_nil)) da_nil)))) da_nil))) (da_cons (de_tup (da_cons (de_str (by decide +kernel)) (da_cons (de_lst (da_cons (de_str (by decide +kernel)) (da_cons (de_str (by decide +kernel)) (da_cons (de_str (by decide +kernel)) da_nil)))) da_nil))) (da_cons (de_tup (da_cons (de_tup (da_cons (de_str (by decide +kernel)) (da_cons (de_str (by decide +kernel)) (da_cons (de_str (by decide +kernel)) da_nil)))) da_nil)) (da_cons (de_tup (da_cons (de_str (by decide +kernel)) (da_cons de_int da_nil))) da_nil)))))) (dg_name (pg_name (i := 1) sc_law_odd.nd rfl (by first | exact Or.inl rfl | exact Or.inr rfl)) (List.mem_singleton.mpr rfl)))))) dss_nil)
      (dss_one (ds_ret (dv 1))))))))))))))))), gF, F.kp, F.bindsN fun _ _ _ _ _ _ us hl => match us, hl with | [_], _ => rfl⟩

/-! ### _law_right -/
abbrev n_law_right : List Str := ["dice", "form", "value", "text", "back", "odd"]
def b_law_right : SD := sSeq (sFor (iSeq (eLst (aCons (eC (.str [108, 111, 116])) (aCons (eC (.str [112, 97, 105, 114, 115])) (aCons (eC (.str [119, 97, 121, 115])) (aCons (eC (.str [116, 114, 101, 101])) (aCons (eC (.str [101, 110, 100, 115])) (aCons (eC (.str [115, 116, 114, 101, 101, 116, 115])) (aCons (eC (.str [103, 114, 111, 119, 116, 104])) (aNil)))))))))) (gN 1) (sSeq (sAsg (eCall 2 [] f_law_form_value (aCons (eVar 0) (aCons (eVar 1) (aNil)))) (gN 2)) (sSeq (sAsg (eCall 2 [] f_write (aCons (eVar 1) (aCons (eVar 2) (aNil)))) (gN 3)) (sSeq (sIf (tOrD (tst (e2 kNe (eVar 3) (eCall 2 [] f_law_form_text (aCons (eVar 1) (aCons (eVar 2) (aNil)))))) (tNotD (tst (eCall 2 [] f_is_written (aCons (eVar 1) (aCons (eVar 3) (aNil))))))) (sRet (eC (.bl false))) (sNil)) (sSeq (sAsg (eCall 2 [] f_read (aCons (eVar 1) (aCons (eVar 3) (aNil)))) (gN 4)) (sSeq (sIf (tOrD (tst (e2 kNeS (eB kRepr (aCons (eVar 4) (aNil))) (eB kRepr (aCons (eVar 2) (aNil))))) (tst (e2 kNe (eCall 2 [] f_write (aCons (eVar 1) (aCons (eVar 4) (aNil)))) (eVar 3)))) (sRet (eC (.bl false))) (sNil)) (sFor (iSeq (eCall 3 [] f_law_some (aCons (eVar 0) (aCons (eCall 1 [] f_law_odd (aCons (eVar 1) (aNil))) (aCons (eC (.int 6)) (aNil)))))) (gN 5) (sIf (tNotD (tst (eCall 2 [] f_law_is_refused (aCons (eVar 1) (aCons (eVar 5) (aNil)))))) (sRet (eC (.bl false))) (sNil))))))))) (sRet (eC (.bl true)))
def f_law_right : List Dat → Om → R Dat := fnD false 1 6 b_law_right
theorem sc_law_right : FnScope n_law_right ["dice"] (defScope (top 51)) := ⟨rfl, rfl, rfl, by decide +kernel, rfl, by decide +kernel, by decide +kernel⟩
theorem ok_law_right (bi : Bi mg) (h_law_some : Has P w K mg base T "_law_some" 2 3 f_law_some) (h_law_odd : Has P w K mg base T "_law_odd" 1 1 f_law_odd) (h_law_is_refused : Has P w K mg base T "_law_is_refused" 8 2 f_law_is_refused) (h_write : Has P w K mg base T "write" 7 2 f_write) (h_read : Has P w K mg base T "read" 7 2 f_read) (h_law_form_text : Has P w K mg base T "_law_form_text" 2 2 f_law_form_text) (h_is_written : Has P w K mg base T "is_written" 8 2 f_is_written) (h_law_form_value : Has P w K mg base T "_law_form_value" 5 2 f_law_form_value) (F : FnP K "_law_right" (top 51) f fd) (gF : mg "_law_right" = some (.ref f)) : HasG P w K mg base T "_law_right" 9 1 f_law_right :=
  ⟨f, fd, ["dice"], fn_okDG (k := 8) F sc_law_right rfl rfl (fun cdv A outer s H E hgu hr =>
    (dss_cons (ds_for (ws := [1]) rfl (di_seq (de_lst (da_cons (de_str (by decide +kernel)) (da_cons (de_str (by decide +kernel)) (da_cons (de_str (by decide +kernel)) (da_cons (de_str (by decide +kernel)) (da_cons (de_str (by decide +kernel)) (da_cons (de_str (by decide +kernel)) (da_cons (de_str (by decide +kernel)) da_nil))))))))) (dg_name (pg_name (i := 1) sc_law_right.nd rfl (by first | exact Or.inl rfl | exact Or.inr rfl)) (by decide))
      (dss_cons (ds_asg (ws := [2]) (de_fn h_law_form_value hr (by decide) rfl (da_cons (dv 0) (da_cons (dv 1) da_nil)) (by decide) rfl rfl) (dg_name (pg_name (i := 2) sc_law_right.nd rfl (by first | exact Or.inl rfl | exact Or.inr rfl)) (List.mem_singleton.mpr rfl)))
      (dss_cons (ds_asg (ws := [3]) (de_fn h_write hr (by decide) rfl (da_cons (dv 1) (da_cons (dv 2) da_nil)) (by decide) rfl rfl) (dg_name (pg_name (i := 3) sc_law_right.nd rfl (by first | exact Or.inl rfl | exact Or.inr rfl)) (List.mem_singleton.mpr rfl)))
      (dss_cons (ds_if (dt_w (dw_or (dt_cmp (op_neD hr.units) opd_ne (dv 3) (de_fn h_law_form_text hr (by decide) rfl (da_cons (dv 1) (da_cons (dv 2) da_nil)) (by decide) rfl rfl) (nomark _)) (dw_or1 (dt_not (dt_of (de_fn h_is_written hr (by decide) rfl (da_cons (dv 1) (da_cons (dv 3) da_nil)) (by decide) rfl rfl)))))) (dss_one (ds_ret de_bl)) dss_nil)
      (dss_cons (ds_asg (ws := [4]) (de_fn h_read hr (by decide) rfl (da_cons (dv 1) (da_cons (dv 3) da_nil)) (by decide) rfl rfl) (dg_name (pg_name (i := 4) sc_law_right.nd rfl (by first | exact Or.inl rfl | exact Or.inr rfl)) (List.mem_singleton.mpr rfl)))
      (dss_cons (ds_if (dt_w (dw_or (dt_cmp op_ne opd_neS (de_b (call_reprD hgu hr.units) opd_reprD rfl bi.repr_ (by decide +kernel) (da_cons (dv 4) da_nil)) (de_b (call_reprD hgu hr.units) opd_reprD rfl bi.repr_ (by decide +kernel) (da_cons (dv 2) da_nil)) (nomark _)) (dw_or1 (dt_cmp (op_neD hr.units) opd_ne (de_fn h_write hr (by decide) rfl (da_cons (dv 1) (da_cons (dv 4) da_nil)) (by decide) rfl rfl) (dv 3) (nomark _))))) (dss_one (ds_ret de_bl)) dss_nil)
      (dss_one (ds_for (ws := [5]) rfl (di_seq (de_fn h_law_some hr (by decide) rfl (da_cons (dv 0) (da_cons (de_fn h_law_odd hr (by decide) rfl (da_cons (dv 1) da_nil) (by decide) rfl rfl) (da_cons de_int da_nil))) (by decide) rfl rfl)) (dg_name (pg_name (i := 5) sc_law_right.nd rfl (by first | exact Or.inl rfl | exact Or.inr rfl)) (by decide))
      (dss_one (ds_if (dt_not (dt_of (de_fn h_law_is_refused hr (by decide) rfl (da_cons (dv 1) (da_cons (dv 5) da_nil)) (by decide) rfl rfl))) (dss_one (ds_ret de_bl)) dss_nil))))))))))
      (dss_one (ds_ret de_bl)))), gF, F.kp, F.bindsN fun _ _ _ _ _ _ us hl => match us, hl with | [_], _ => rfl⟩

/-! ### law -/
abbrev n_law : List Str := ["script", "spot", "growth", "told"]
def b_law : SD := sSeq (sFor (iRange1 (eB kMax2 (aCons (eC (.int 1)) (aCons (eB kMin2 (aCons (eC (.int 8)) (aCons (eB kLen (aCons (eVar 0) (aNil))) (aNil)))) (aNil))))) (gN 1) (sIf (tNotD (tst (eCall 1 [] f_law_right (aCons (eCall 2 [] f_law_dice (aCons (eVar 0) (aCons (eVar 1) (aNil)))) (aNil))))) (sRet (eC (.bl false))) (sNil))) (sSeq (sAsg (eTup (aCons (eC (.str [97])) (aCons (eTup (aCons (eC (.str [112, 105, 110, 99, 104])) (aCons (eC (.str [98])) (aCons (eTup (aCons (eTup (aCons (eC (.str [97])) (aCons (eC (.str [97])) (aNil)))) (aNil))) (aNil))))) (aCons (eTup (aCons (eC (.str [116, 105, 101])) (aCons (eC (.str [97])) (aCons (eC (.str [98])) (aNil))))) (aNil))))) (gN 2)) (sSeq (sAsg (eLst (aCons (eCall 2 [] f_write (aCons (eC (.str [103, 114, 111, 119, 116, 104])) (aCons (eVar 2) (aNil)))) (aCons (eCall 2 [] f_write (aCons (eC (.str [115, 116, 114, 101, 101, 116, 115])) (aCons (eDispT (pCons (eTup (aCons (eC (.str [98])) (aCons (eC (.str [97])) (aNil)))) (eC (.int 1)) (pCons (eTup (aCons (eC (.str [97])) (aCons (eC (.str [98])) (aNil)))) (eC (.int 2)) (pNil)))) (aNil)))) (aCons (eCall 2 [] f_read (aCons (eC (.str [101, 110, 100, 115])) (aCons (eC (.str [45])) (aNil)))) (aNil))))) (gN 3)) (sRet (eAnd (e2 kEqE (eVar 3) (eLst (aCons (eC (.str [97, 32, 98, 61, 97, 45, 97, 32, 97, 43, 98])) (aCons (eC (.str [97, 62, 98, 58, 50, 32, 98, 62, 97, 58, 49])) (aCons (eC (.dct [] [])) (aNil)))))) (e2 kEq (eCall 2 [] f_write (aCons (eC (.str [108, 111, 116])) (aCons (eTup (aNil)) (aNil)))) (eC (.str [45])))))))
def f_law : List Dat → Om → R Dat := fnD false 1 4 b_law
theorem sc_law : FnScope n_law ["script"] (defScope (top 52)) := ⟨rfl, rfl, rfl, by decide +kernel, rfl, by decide +kernel, by decide +kernel⟩
theorem ok_law (bi : Bi mg) (h_write : Has P w K mg base T "write" 7 2 f_write) (h_read : Has P w K mg base T "read" 7 2 f_read) (h_law_right : HasG P w K mg base T "_law_right" 9 1 f_law_right) (h_law_dice : Has P w K mg base T "_law_dice" 1 2 f_law_dice) (F : FnP K "law" (top 52) f fd) : FnG P w K mg base (L2.CX P w) 10 f fd ["script"] (spD K T 1 f_law) :=
  fn_okDG (k := 9) F sc_law rfl rfl (fun cdv A outer s H E hgu hr =>
    (dss_cons (ds_for (ws := [1]) rfl (di_range1 rfl bi.range_ (de_b (call_max2 rfl) opd_max2 rfl bi.max_ (by decide +kernel) (da_cons de_int (da_cons (de_b (call_min2 rfl) opd_min2 rfl bi.min_ (by decide +kernel) (da_cons de_int (da_cons (de_b call_len opd_len rfl bi.len_ (by decide +kernel) (da_cons (dv 0) da_nil)) da_nil))) da_nil)))) (dg_name (pg_name (i := 1) sc_law.nd rfl (by first | exact Or.inl rfl | exact Or.inr rfl)) (by decide))
      (dss_one (ds_if (dt_not (dt_of (de_fnG h_law_right hgu hr (by decide) rfl (da_cons (de_fn h_law_dice hr (by decide) rfl (da_cons (dv 0) (da_cons (dv 1) da_nil)) (by decide) rfl rfl) da_nil) (by decide) rfl rfl))) (dss_one (ds_ret de_bl)) dss_nil)))
      (dss_cons (ds_asg (ws := [2]) (de_tup (da_cons (de_str (by decide +kernel)) (da_cons (de_tup (da_cons (de_str (by decide +kernel)) (da_cons (de_str (by decide +kernel)) (da_cons (de_tup (da_cons (de_tup (da_cons (de_str (by decide +kernel)) (da_cons (de_str (by decide +kernel)) da_nil))) da_nil)) da_nil)))) (da_cons (de_tup (da_cons (de_str (by decide +kernel)) (da_cons (de_str (by decide +kernel)) (da_cons (de_str (by decide +kernel)) da_nil)))) da_nil)))) (dg_name (pg_name (i := 2) sc_law.nd rfl (by first | exact Or.inl rfl | exact Or.inr rfl)) (List.mem_singleton.mpr rfl)))
      (dss_cons (ds_asg (ws := [3]) (de_lst (da_cons (de_fn h_write hr (by decide) rfl (da_cons (de_str (by decide +kernel)) (da_cons (dv 2) da_nil)) (by decide) rfl rfl) (da_cons (de_fn h_write hr (by decide) rfl (da_cons (de_str (by decide +kernel)) (da_cons (de_dispT hr.units (dps_cons (de_tup (da_cons (de_str (by decide +kernel)) (da_cons (de_str (by decide +kernel)) da_nil))) de_int (dps_cons (de_tup (da_cons (de_str (by decide +kernel)) (da_cons (de_str (by decide +kernel)) da_nil))) de_int dps_nil)) (by simp)) da_nil)) (by decide) rfl rfl) (da_cons (de_fn h_read hr (by decide) rfl (da_cons (de_str (by decide +kernel)) (da_cons (de_str (by decide +kernel)) da_nil)) (by decide) rfl rfl) da_nil)))) (dg_name (pg_name (i := 3) sc_law.nd rfl (by first | exact Or.inl rfl | exact Or.inr rfl)) (List.mem_singleton.mpr rfl)))
      (dss_one (ds_ret (de_and (de_cmp (op_eqE hr.units) opd_eqE (dv 3) (de_lst (da_cons (de_str (by decide +kernel)) (da_cons (de_str (by decide +kernel)) (da_cons de_disp0 da_nil)))) (nomark _)) (de_one (de_cmp (op_eqG hr.units) opd_eq (de_fn h_write hr (by decide) rfl (da_cons (de_str (by decide +kernel)) (da_cons (de_tup da_nil) da_nil)) (by decide) rfl rfl) (de_str (by decide +kernel)) (nomark _))))))))))


end
def d_is_integer : He.DefD := ⟨("is_integer", none), "is_integer", "is_integer", defArgs (top 4), defBody (top 4), defScope (top 4), [], []⟩
def d_is_within : He.DefD := ⟨("is_within", none), "is_within", "is_within", defArgs (top 5), defBody (top 5), defScope (top 5), [], []⟩
def d_is_word : He.DefD := ⟨("is_word", none), "is_word", "is_word", defArgs (top 6), defBody (top 6), defScope (top 6), [], []⟩
def d_number_told : He.DefD := ⟨("number_told", none), "number_told", "number_told", defArgs (top 16), defBody (top 16), defScope (top 16), [], []⟩
def d_is_words : He.DefD := ⟨("is_words", none), "is_words", "is_words", defArgs (top 17), defBody (top 17), defScope (top 17), [], []⟩
def d_is_low_pair : He.DefD := ⟨("is_low_pair", none), "is_low_pair", "is_low_pair", defArgs (top 18), defBody (top 18), defScope (top 18), [], []⟩
def d_is_pair_tuple : He.DefD := ⟨("is_pair_tuple", none), "is_pair_tuple", "is_pair_tuple", defArgs (top 19), defBody (top 19), defScope (top 19), [], []⟩
def d_is_far_way : He.DefD := ⟨("is_far_way", none), "is_far_way", "is_far_way", defArgs (top 20), defBody (top 20), defScope (top 20), [], []⟩
def d_is_counted : He.DefD := ⟨("is_counted", none), "is_counted", "is_counted", defArgs (top 21), defBody (top 21), defScope (top 21), [], []⟩
def d_is_step : He.DefD := ⟨("is_step", none), "is_step", "is_step", defArgs (top 22), defBody (top 22), defScope (top 22), [], []⟩
def d_is_number_dict : He.DefD := ⟨("is_number_dict", none), "is_number_dict", "is_number_dict", defArgs (top 23), defBody (top 23), defScope (top 23), [], []⟩
def d_is_street_dict : He.DefD := ⟨("is_street_dict", none), "is_street_dict", "is_street_dict", defArgs (top 24), defBody (top 24), defScope (top 24), [], []⟩
def d_has_form : He.DefD := ⟨("has_form", none), "has_form", "has_form", defArgs (top 25), defBody (top 25), defScope (top 25), [], []⟩
def d_pair_texts : He.DefD := ⟨("pair_texts", none), "pair_texts", "pair_texts", defArgs (top 26), defBody (top 26), defScope (top 26), [], []⟩
def d_step_text : He.DefD := ⟨("step_text", none), "step_text", "step_text", defArgs (top 27), defBody (top 27), defScope (top 27), [], []⟩
def d_item_texts : He.DefD := ⟨("item_texts", none), "item_texts", "item_texts", defArgs (top 28), defBody (top 28), defScope (top 28), [], []⟩
def d_require_form : He.DefD := ⟨("require_form", none), "require_form", "require_form", defArgs (top 29), defBody (top 29), defScope (top 29), [], []⟩
def d_write : He.DefD := ⟨("write", none), "write", "write", defArgs (top 30), defBody (top 30), defScope (top 30), [], []⟩
def d_halves_by : He.DefD := ⟨("halves_by", none), "halves_by", "halves_by", defArgs (top 31), defBody (top 31), defScope (top 31), [], []⟩
def d_pair_told : He.DefD := ⟨("pair_told", none), "pair_told", "pair_told", defArgs (top 32), defBody (top 32), defScope (top 32), [], []⟩
def d_counted_told : He.DefD := ⟨("counted_told", none), "counted_told", "counted_told", defArgs (top 33), defBody (top 33), defScope (top 33), [], []⟩
def d_step_told : He.DefD := ⟨("step_told", none), "step_told", "step_told", defArgs (top 34), defBody (top 34), defScope (top 34), [], []⟩
def d_item_told : He.DefD := ⟨("item_told", none), "item_told", "item_told", defArgs (top 35), defBody (top 35), defScope (top 35), [], []⟩
def d_keys_of : He.DefD := ⟨("keys_of", none), "keys_of", "keys_of", defArgs (top 36), defBody (top 36), defScope (top 36), [], []⟩
def d_read : He.DefD := ⟨("read", none), "read", "read", defArgs (top 37), defBody (top 37), defScope (top 37), [], []⟩
def d_is_written : He.DefD := ⟨("is_written", none), "is_written", "is_written", defArgs (top 38), defBody (top 38), defScope (top 38), [], []⟩
def d_law_dice : He.DefD := ⟨("_law_dice", none), "_law_dice", "_law_dice", defArgs (top 40), defBody (top 40), defScope (top 40), [], []⟩
def d_law_roll : He.DefD := ⟨("_law_roll", none), "_law_roll", "_law_roll", defArgs (top 41), defBody (top 41), defScope (top 41), [], []⟩
def d_law_pick : He.DefD := ⟨("_law_pick", none), "_law_pick", "_law_pick", defArgs (top 42), defBody (top 42), defScope (top 42), [], []⟩
def d_law_some : He.DefD := ⟨("_law_some", none), "_law_some", "_law_some", defArgs (top 43), defBody (top 43), defScope (top 43), [], []⟩
def d_law_word : He.DefD := ⟨("_law_word", none), "_law_word", "_law_word", defArgs (top 44), defBody (top 44), defScope (top 44), [], []⟩
def d_law_low_pairs : He.DefD := ⟨("_law_low_pairs", none), "_law_low_pairs", "_law_low_pairs", defArgs (top 45), defBody (top 45), defScope (top 45), [], []⟩
def d_law_form_value : He.DefD := ⟨("_law_form_value", none), "_law_form_value", "_law_form_value", defArgs (top 46), defBody (top 46), defScope (top 46), [], []⟩
def d_law_pair_texts : He.DefD := ⟨("_law_pair_texts", none), "_law_pair_texts", "_law_pair_texts", defArgs (top 47), defBody (top 47), defScope (top 47), [], []⟩
def d_law_form_text : He.DefD := ⟨("_law_form_text", none), "_law_form_text", "_law_form_text", defArgs (top 48), defBody (top 48), defScope (top 48), [], []⟩
def d_law_is_refused : He.DefD := ⟨("_law_is_refused", none), "_law_is_refused", "_law_is_refused", defArgs (top 49), defBody (top 49), defScope (top 49), [], []⟩
def d_law_odd : He.DefD := ⟨("_law_odd", none), "_law_odd", "_law_odd", defArgs (top 50), defBody (top 50), defScope (top 50), [], []⟩
def d_law_right : He.DefD := ⟨("_law_right", none), "_law_right", "_law_right", defArgs (top 51), defBody (top 51), defScope (top 51), [], []⟩
def d_law : He.DefD := ⟨("law", none), "law", "law", defArgs (top 52), defBody (top 52), defScope (top 52), [], []⟩
def d_init : He.DefD := ⟨("ParseError", some "__init__"), "__init__", "ParseError.__init__", defArgs (inClass (top 11) 0), defBody (inClass (top 11) 0), defScope (inClass (top 11) 0), [], []⟩
def fn : List He.DefD := ([d_is_integer, d_is_within, d_is_word, d_number_told, d_is_words, d_is_low_pair, d_is_pair_tuple, d_is_far_way, d_is_counted, d_is_step, d_is_number_dict, d_is_street_dict, d_has_form, d_pair_texts, d_step_text, d_item_texts, d_require_form, d_write, d_halves_by, d_pair_told, d_counted_told, d_step_told, d_item_told, d_keys_of, d_read, d_is_written, d_law_dice, d_law_roll, d_law_pick, d_law_some] : List He.DefD) ++ ([d_law_word, d_law_low_pairs, d_law_form_value, d_law_pair_texts, d_law_form_text, d_law_is_refused, d_law_odd, d_law_right, d_law, d_init] : List He.DefD)
def fa : List He.Fa := ([.glo "is_integer", .glo "is_within", .glo "is_word", .glo "number_told", .glo "is_words", .glo "is_low_pair", .glo "is_pair_tuple", .glo "is_far_way", .glo "is_counted", .glo "is_step", .glo "is_number_dict", .glo "is_street_dict", .glo "has_form", .glo "pair_texts", .glo "step_text", .glo "item_texts", .glo "require_form", .glo "write", .glo "halves_by", .glo "pair_told", .glo "counted_told", .glo "step_told", .glo "item_told", .glo "keys_of", .glo "read", .glo "is_written", .glo "_law_dice", .glo "_law_roll", .glo "_law_pick", .glo "_law_some"] : List He.Fa) ++ ([.glo "_law_word", .glo "_law_low_pairs", .glo "_law_form_value", .glo "_law_pair_texts", .glo "_law_form_text", .glo "_law_is_refused", .glo "_law_odd", .glo "_law_right", .glo "law", .free "abs", .free "all", .free "bool", .free "dict", .free "enumerate", .free "int", .free "isinstance", .free "len", .free "list", .free "max", .free "min", .free "range", .free "repr", .free "set", .free "sorted", .free "str", .free "tuple", .free "zip", .int "MAX_LETTERS" 8, .str "LETTERS" "abcdefghijklmnopqrstuvwxyz", .int "LONGEST" (10 ^ 60)] : List He.Fa) ++ ([.str "NOTHING" "-", .str "DIGITS" "0123456789", .glo "FORMS", .glo "InvalidWord", .exc "InvalidWord", .glo "InvalidOperation", .exc "InvalidOperation", .glo "ParseError", .exm "InvalidWord" "InvalidOperation" false, .exm "InvalidWord" "ParseError" false, .exm "InvalidOperation" "InvalidOperation" true, .exm "InvalidOperation" "ParseError" false, .exm "ParseError" "InvalidOperation" false, .exm "ParseError" "ParseError" true] : List He.Fa)
def exK (K : PySem.W.Frag) : Bool := lineB K && K.all (fun p => !(p.2.cls == .type "list")) && textsB K "FORMS" ["lot", "pairs", "ways", "tree", "ends", "streets", "growth"]
abbrev Rw : PySem.W.OpenRow := PySem.W.OpenLaw.row PySem.Challenge.rw_keptways_k70_texts_of_all_forms
abbrev hk : PySem.W.Hook := He.hookX 6 fa fn [] [] exK
def ob (s : PySem.W.SharedT) : He.AlX := He.obsX 6 fa fn [] [] exK (HandSHeadRun.getT s)
theorem ob_eq (s : PySem.W.SharedT) : ob s = hk.obs s.abs := He.obsX_eq (HandSHeadRun.getT_eq s)
abbrev loose : List Str := (["MAX_LETTERS", "LETTERS", "LONGEST", "is_integer", "is_within", "is_word", "NetError", "InvalidWord", "InvalidOperation", "ParseError", "NOTHING", "DIGITS", "FORMS", "number_told", "is_words", "is_low_pair", "is_pair_tuple", "is_far_way", "is_counted", "is_step", "is_number_dict", "is_street_dict", "has_form", "pair_texts", "step_text", "item_texts", "require_form", "write", "halves_by", "pair_told"] : List Str) ++ (["counted_told", "step_told", "item_told", "keys_of", "read", "is_written", "_law_dice", "_law_roll", "_law_pick", "_law_some", "_law_word", "_law_low_pairs", "_law_form_value", "_law_pair_texts", "_law_form_text", "_law_is_refused", "_law_odd", "_law_right"] : List Str)
set_option maxHeartbeats 0 in
theorem run (w : World) : HandSHeadRun.RunEq Rw (PySem.W.view Rw.prog [52]) hk ob 6000 loose w := by
  intro os
  kernel_rfl
def ctK (K : PySem.W.Frag) : Ct := ⟨fun c => if c = "InvalidWord" then some (He.ga K "InvalidWord") else if c = "InvalidOperation" then some (He.ga K "InvalidOperation") else if c = "ParseError" then some (He.ga K "ParseError") else none, fun c => if c = "ParseError" then ["line"] else []⟩
section
variable {P : Program} {w : World} {K : PySem.W.Frag} {h : Heap} {mg : Str → Option Value} {f : Addr}
theorem bi_of (X : K.In h) (G : h.Ns mainGlobals mg) (D : He.SaysD fa fn K) : Bi mg where
  abs_ := He.free_ok X G (D.fact 39 rfl)
  all_ := He.free_ok X G (D.fact 40 rfl)
  bool_ := He.free_ok X G (D.fact 41 rfl)
  dict_ := He.free_ok X G (D.fact 42 rfl)
  enumerate_ := He.free_ok X G (D.fact 43 rfl)
  int_ := He.free_ok X G (D.fact 44 rfl)
  isinstance_ := He.free_ok X G (D.fact 45 rfl)
  len_ := He.free_ok X G (D.fact 46 rfl)
  list_ := He.free_ok X G (D.fact 47 rfl)
  max_ := He.free_ok X G (D.fact 48 rfl)
  min_ := He.free_ok X G (D.fact 49 rfl)
  range_ := He.free_ok X G (D.fact 50 rfl)
  repr_ := He.free_ok X G (D.fact 51 rfl)
  set_ := He.free_ok X G (D.fact 52 rfl)
  sorted_ := He.free_ok X G (D.fact 53 rfl)
  str_ := He.free_ok X G (D.fact 54 rfl)
  tuple_ := He.free_ok X G (D.fact 55 rfl)
  zip_ := He.free_ok X G (D.fact 56 rfl)
theorem ctch_InvalidOperation (X : K.In h) (G : h.Ns mainGlobals mg) (D : He.SaysD fa fn K) : Ctch K mg (ctK K) "InvalidOperation" (exm "InvalidOperation") := by
  refine ⟨_, He.glo_ok X G (D.fact 65 rfl), fun cn C b h1 h2 => ?_⟩
  unfold ctK at h1
  simp only at h1
  unfold exm at h2
  by_cases e_InvalidWord : cn = "InvalidWord"
  · subst e_InvalidWord
    simp at h1 h2
    subst h1 h2
    exact He.exm_ok (D.fact 68 rfl)
  by_cases e_InvalidOperation : cn = "InvalidOperation"
  · subst e_InvalidOperation
    simp at h1 h2
    subst h1 h2
    exact He.exm_ok (D.fact 70 rfl)
  by_cases e_ParseError : cn = "ParseError"
  · subst e_ParseError
    simp at h1 h2
    subst h1 h2
    exact He.exm_ok (D.fact 72 rfl)
  · simp [e_InvalidWord, e_InvalidOperation, e_ParseError] at h1
theorem ctch_ParseError (X : K.In h) (G : h.Ns mainGlobals mg) (D : He.SaysD fa fn K) : Ctch K mg (ctK K) "ParseError" (exm "ParseError") := by
  refine ⟨_, He.glo_ok X G (D.fact 67 rfl), fun cn C b h1 h2 => ?_⟩
  unfold ctK at h1
  simp only at h1
  unfold exm at h2
  by_cases e_InvalidWord : cn = "InvalidWord"
  · subst e_InvalidWord
    simp at h1 h2
    subst h1 h2
    exact He.exm_ok (D.fact 69 rfl)
  by_cases e_InvalidOperation : cn = "InvalidOperation"
  · subst e_InvalidOperation
    simp at h1 h2
    subst h1 h2
    exact He.exm_ok (D.fact 71 rfl)
  by_cases e_ParseError : cn = "ParseError"
  · subst e_ParseError
    simp at h1 h2
    subst h1 h2
    exact He.exm_ok (D.fact 73 rfl)
  · simp [e_InvalidWord, e_InvalidOperation, e_ParseError] at h1
theorem exr_InvalidWord (X : K.In h) (G : h.Ns mainGlobals mg) (D : He.SaysD fa fn K) : ExR K mg (ctK K) "InvalidWord" "InvalidWord" := by
  obtain ⟨h1, h2, h3, h4⟩ := He.exc_ok (D.fact 64 rfl)
  exact ⟨He.ga K "InvalidWord", by simp [ctK], He.glo_ok X G (D.fact 63 rfl), h2, h1, h3, h4⟩
theorem exr_InvalidOperation (X : K.In h) (G : h.Ns mainGlobals mg) (D : He.SaysD fa fn K) : ExR K mg (ctK K) "InvalidOperation" "InvalidOperation" := by
  obtain ⟨h1, h2, h3, h4⟩ := He.exc_ok (D.fact 66 rfl)
  exact ⟨He.ga K "InvalidOperation", by simp [ctK], He.glo_ok X G (D.fact 65 rfl), h2, h1, h3, h4⟩
theorem exl (X : K.In h) (G : h.Ns mainGlobals mg) (D : He.SaysD fa fn K) (hl : lineB K = true) : ExL K mg (ctK K) := by
  obtain ⟨fd, F⟩ := D.def_ 39 (d := d_init) rfl
  exact ⟨_, _, line_ok hl (He.glo_ok X G (D.fact 67 rfl)) F, by simp [ctK], by simp [ctK]⟩
theorem facts (X : K.In h) (G : h.Ns mainGlobals mg) (hfa : mg ("law" : Str) = some (.ref f)) (c : He.SaysX fa fn [] [] exK w h K) :
    ∃ fd : FuncData, (∀ (s : Shared) (v : Value), BindsTo s fd ⟨[v], []⟩ [("script", v)]) ∧ ∀ base : Heap, K.In base → base.Ns mainGlobals mg → FnG P w K mg base (L2.CX P w) 10 f fd ["script"] (spD K (ctK K) 1 f_law) := by
  have D := c.t.d
  have hex := c.more
  unfold exK at hex
  simp only [Bool.and_eq_true] at hex
  obtain ⟨⟨hline, hno⟩, hx_FORMS⟩ := hex
  have t_FORMS : Cst K (ctK K) mg "FORMS" dFORMS := texts_cst hx_FORMS (He.glo_ok X G (D.fact 62 rfl)) (by decide)
  have bi := bi_of X G D
  obtain ⟨fd_is_integer, F_is_integer⟩ := D.def_ 0 (d := d_is_integer) rfl
  obtain ⟨fd_is_within, F_is_within⟩ := D.def_ 1 (d := d_is_within) rfl
  obtain ⟨fd_is_word, F_is_word⟩ := D.def_ 2 (d := d_is_word) rfl
  obtain ⟨fd_number_told, F_number_told⟩ := D.def_ 3 (d := d_number_told) rfl
  obtain ⟨fd_is_words, F_is_words⟩ := D.def_ 4 (d := d_is_words) rfl
  obtain ⟨fd_is_low_pair, F_is_low_pair⟩ := D.def_ 5 (d := d_is_low_pair) rfl
  obtain ⟨fd_is_pair_tuple, F_is_pair_tuple⟩ := D.def_ 6 (d := d_is_pair_tuple) rfl
  obtain ⟨fd_is_far_way, F_is_far_way⟩ := D.def_ 7 (d := d_is_far_way) rfl
  obtain ⟨fd_is_counted, F_is_counted⟩ := D.def_ 8 (d := d_is_counted) rfl
  obtain ⟨fd_is_step, F_is_step⟩ := D.def_ 9 (d := d_is_step) rfl
  obtain ⟨fd_is_number_dict, F_is_number_dict⟩ := D.def_ 10 (d := d_is_number_dict) rfl
  obtain ⟨fd_is_street_dict, F_is_street_dict⟩ := D.def_ 11 (d := d_is_street_dict) rfl
  obtain ⟨fd_has_form, F_has_form⟩ := D.def_ 12 (d := d_has_form) rfl
  obtain ⟨fd_pair_texts, F_pair_texts⟩ := D.def_ 13 (d := d_pair_texts) rfl
  obtain ⟨fd_step_text, F_step_text⟩ := D.def_ 14 (d := d_step_text) rfl
  obtain ⟨fd_item_texts, F_item_texts⟩ := D.def_ 15 (d := d_item_texts) rfl
  obtain ⟨fd_require_form, F_require_form⟩ := D.def_ 16 (d := d_require_form) rfl
  obtain ⟨fd_write, F_write⟩ := D.def_ 17 (d := d_write) rfl
  obtain ⟨fd_halves_by, F_halves_by⟩ := D.def_ 18 (d := d_halves_by) rfl
  obtain ⟨fd_pair_told, F_pair_told⟩ := D.def_ 19 (d := d_pair_told) rfl
  obtain ⟨fd_counted_told, F_counted_told⟩ := D.def_ 20 (d := d_counted_told) rfl
  obtain ⟨fd_step_told, F_step_told⟩ := D.def_ 21 (d := d_step_told) rfl
  obtain ⟨fd_item_told, F_item_told⟩ := D.def_ 22 (d := d_item_told) rfl
  obtain ⟨fd_keys_of, F_keys_of⟩ := D.def_ 23 (d := d_keys_of) rfl
  obtain ⟨fd_read, F_read⟩ := D.def_ 24 (d := d_read) rfl
  obtain ⟨fd_is_written, F_is_written⟩ := D.def_ 25 (d := d_is_written) rfl
  obtain ⟨fd_law_dice, F_law_dice⟩ := D.def_ 26 (d := d_law_dice) rfl
  obtain ⟨fd_law_roll, F_law_roll⟩ := D.def_ 27 (d := d_law_roll) rfl
  obtain ⟨fd_law_pick, F_law_pick⟩ := D.def_ 28 (d := d_law_pick) rfl
  obtain ⟨fd_law_some, F_law_some⟩ := D.def_ 29 (d := d_law_some) rfl
  obtain ⟨fd_law_word, F_law_word⟩ := D.def_ 30 (d := d_law_word) rfl
  obtain ⟨fd_law_low_pairs, F_law_low_pairs⟩ := D.def_ 31 (d := d_law_low_pairs) rfl
  obtain ⟨fd_law_form_value, F_law_form_value⟩ := D.def_ 32 (d := d_law_form_value) rfl
  obtain ⟨fd_law_pair_texts, F_law_pair_texts⟩ := D.def_ 33 (d := d_law_pair_texts) rfl
  obtain ⟨fd_law_form_text, F_law_form_text⟩ := D.def_ 34 (d := d_law_form_text) rfl
  obtain ⟨fd_law_is_refused, F_law_is_refused⟩ := D.def_ 35 (d := d_law_is_refused) rfl
  obtain ⟨fd_law_odd, F_law_odd⟩ := D.def_ 36 (d := d_law_odd) rfl
  obtain ⟨fd_law_right, F_law_right⟩ := D.def_ 37 (d := d_law_right) rfl
  obtain ⟨fd_law, F_law⟩ := D.def_ 38 (d := d_law) rfl
  have e := hfa.symm.trans (He.glo_ok X G (D.fact 38 rfl))
  cases e
  refine ⟨fd_law, fun s v => FunD.bindsA (ps := ["script"]) F_law (fun _ _ _ _ _ _ us hl => match us, hl with | [_], _ => rfl) s [v] rfl, fun base _ _ => ?_⟩
  have h_is_integer := ok_is_integer (P := P) (w := w) (base := base) (T := ctK K) bi (int_cst (He.int_ok X G (D.fact 59 rfl))) F_is_integer (He.glo_ok X G (D.fact 0 rfl))
  have h_is_within := ok_is_within (P := P) (w := w) (base := base) (T := ctK K) bi h_is_integer F_is_within (He.glo_ok X G (D.fact 1 rfl))
  have h_is_word := ok_is_word (P := P) (w := w) (base := base) (T := ctK K) bi (int_cst (He.int_ok X G (D.fact 57 rfl))) (str_cst (He.str_ok X G (D.fact 58 rfl)) (by decide +kernel)) F_is_word (He.glo_ok X G (D.fact 2 rfl))
  have h_number_told := ok_number_told (P := P) (w := w) (base := base) (T := ctK K) bi (str_cst (He.str_ok X G (D.fact 61 rfl)) (by decide +kernel)) F_number_told (He.glo_ok X G (D.fact 3 rfl))
  have h_is_words := ok_is_words (P := P) (w := w) (base := base) (T := ctK K) bi h_is_word F_is_words (He.glo_ok X G (D.fact 4 rfl))
  have h_is_low_pair := ok_is_low_pair (P := P) (w := w) (base := base) (T := ctK K) bi h_is_words F_is_low_pair (He.glo_ok X G (D.fact 5 rfl))
  have h_is_pair_tuple := ok_is_pair_tuple (P := P) (w := w) (base := base) (T := ctK K) bi h_is_low_pair F_is_pair_tuple (He.glo_ok X G (D.fact 6 rfl))
  have h_is_far_way := ok_is_far_way (P := P) (w := w) (base := base) (T := ctK K) bi h_is_words F_is_far_way (He.glo_ok X G (D.fact 7 rfl))
  have h_is_counted := ok_is_counted (P := P) (w := w) (base := base) (T := ctK K) bi h_is_within h_is_words F_is_counted (He.glo_ok X G (D.fact 8 rfl))
  have h_is_step := ok_is_step (P := P) (w := w) (base := base) (T := ctK K) bi h_is_pair_tuple h_is_word F_is_step (He.glo_ok X G (D.fact 9 rfl))
  have h_is_number_dict := ok_is_number_dict (P := P) (w := w) (base := base) (T := ctK K) bi h_is_within h_is_word F_is_number_dict (He.glo_ok X G (D.fact 10 rfl))
  have h_is_street_dict := ok_is_street_dict (P := P) (w := w) (base := base) (T := ctK K) bi h_is_within h_is_words F_is_street_dict (He.glo_ok X G (D.fact 11 rfl))
  have h_has_form := ok_has_form (P := P) (w := w) (base := base) (T := ctK K) bi h_is_word h_is_step h_is_counted h_is_far_way h_is_pair_tuple h_is_words h_is_street_dict h_is_number_dict F_has_form (He.glo_ok X G (D.fact 12 rfl))
  have h_pair_texts := ok_pair_texts (P := P) (w := w) (base := base) (T := ctK K) bi F_pair_texts (He.glo_ok X G (D.fact 13 rfl))
  have h_step_text := ok_step_text (P := P) (w := w) (base := base) (T := ctK K) bi h_pair_texts F_step_text (He.glo_ok X G (D.fact 14 rfl))
  have h_item_texts := ok_item_texts (P := P) (w := w) (base := base) (T := ctK K) bi h_step_text h_pair_texts F_item_texts (He.glo_ok X G (D.fact 15 rfl))
  have h_require_form := ok_require_form (P := P) (w := w) (base := base) (T := ctK K) bi (t_FORMS) (exr_InvalidWord X G D) F_require_form (He.glo_ok X G (D.fact 16 rfl))
  have h_write := ok_write (P := P) (w := w) (base := base) (T := ctK K) bi h_item_texts h_has_form h_require_form (str_cst (He.str_ok X G (D.fact 60 rfl)) (by decide +kernel)) (exr_InvalidOperation X G D) F_write (He.glo_ok X G (D.fact 17 rfl))
  have h_halves_by := ok_halves_by (P := P) (w := w) (base := base) (T := ctK K) bi F_halves_by (He.glo_ok X G (D.fact 18 rfl))
  have h_pair_told := ok_pair_told (P := P) (w := w) (base := base) (T := ctK K) bi h_is_low_pair h_halves_by F_pair_told (He.glo_ok X G (D.fact 19 rfl))
  have h_counted_told := ok_counted_told (P := P) (w := w) (base := base) (T := ctK K) bi h_number_told h_halves_by F_counted_told (He.glo_ok X G (D.fact 20 rfl))
  have h_step_told := ok_step_told (P := P) (w := w) (base := base) (T := ctK K) bi h_pair_told h_halves_by F_step_told (He.glo_ok X G (D.fact 21 rfl))
  have h_item_told := ok_item_told (P := P) (w := w) (base := base) (T := ctK K) bi h_is_step h_step_told h_is_street_dict h_counted_told h_is_word h_number_told h_halves_by h_is_counted h_is_far_way h_pair_told F_item_told (He.glo_ok X G (D.fact 22 rfl))
  have h_keys_of := ok_keys_of (P := P) (w := w) (base := base) (T := ctK K) bi F_keys_of (He.glo_ok X G (D.fact 23 rfl))
  have h_read := ok_read (P := P) (w := w) (base := base) (T := ctK K) bi h_keys_of h_item_told h_require_form (str_cst (He.str_ok X G (D.fact 60 rfl)) (by decide +kernel)) (exl X G D hline) F_read (He.glo_ok X G (D.fact 24 rfl))
  have h_is_written := ok_is_written (P := P) (w := w) (base := base) (T := ctK K) bi h_read h_require_form (ctch_ParseError X G D) F_is_written (He.glo_ok X G (D.fact 25 rfl))
  have h_law_dice := ok_law_dice (P := P) (w := w) (base := base) (T := ctK K) bi F_law_dice (He.glo_ok X G (D.fact 26 rfl))
  have h_law_roll := ok_law_roll (P := P) (w := w) (base := base) (T := ctK K) bi F_law_roll (He.glo_ok X G (D.fact 27 rfl))
  have h_law_pick := ok_law_pick (P := P) (w := w) (base := base) (T := ctK K) bi h_law_roll F_law_pick (He.glo_ok X G (D.fact 28 rfl))
  have h_law_some := ok_law_some (P := P) (w := w) (base := base) (T := ctK K) bi h_law_roll F_law_some (He.glo_ok X G (D.fact 29 rfl))
  have h_law_word := ok_law_word (P := P) (w := w) (base := base) (T := ctK K) bi h_law_pick F_law_word (He.glo_ok X G (D.fact 30 rfl))
  have h_law_low_pairs := ok_law_low_pairs (P := P) (w := w) (base := base) (T := ctK K) bi h_law_word F_law_low_pairs (He.glo_ok X G (D.fact 31 rfl))
  have h_law_form_value := ok_law_form_value (P := P) (w := w) (base := base) (T := ctK K) bi h_law_word h_law_pick h_law_low_pairs h_law_roll h_law_some F_law_form_value (He.glo_ok X G (D.fact 32 rfl))
  have h_law_pair_texts := ok_law_pair_texts (P := P) (w := w) (base := base) (T := ctK K) bi F_law_pair_texts (He.glo_ok X G (D.fact 33 rfl))
  have h_law_form_text := ok_law_form_text (P := P) (w := w) (base := base) (T := ctK K) bi h_law_pair_texts F_law_form_text (He.glo_ok X G (D.fact 34 rfl))
  have h_law_is_refused := ok_law_is_refused (P := P) (w := w) (base := base) (T := ctK K) bi h_write (ctch_InvalidOperation X G D) F_law_is_refused (He.glo_ok X G (D.fact 35 rfl))
  have h_law_odd := ok_law_odd (P := P) (w := w) (base := base) (T := ctK K) bi F_law_odd (He.glo_ok X G (D.fact 36 rfl))
  have h_law_right := ok_law_right (P := P) (w := w) (base := base) (T := ctK K) bi h_law_some h_law_odd h_law_is_refused h_write h_read h_law_form_text h_is_written h_law_form_value F_law_right (He.glo_ok X G (D.fact 37 rfl))
  exact ok_law bi h_write h_read h_law_right h_law_dice F_law
end
end K70
end Part_G2
section Part_EV
set_option maxRecDepth 100000
/-! evaluation of the data layer's terms by simp -/
namespace DL
open PySem PySem.Spec PyProof.Rows L2

/-! ### outcomes looked at by cases, as functions -/
def asB : R Dat → R Bool
  | .ok (.bl b) om => .ok b om
  | .ok _ _ => .no
  | .exc e om => .exc e om
  | .no => .no
theorem asB_ok (b : Bool) (om : Om) : asB (.ok (.bl b) om) = .ok b om := rfl
theorem asB_exc (e : Exc) (om : Om) : asB (.exc e om) = .exc e om := rfl
theorem asB_no : asB .no = .no := rfl
theorem tst_ev (f : DV) (env : En) (om : Om) : tst f env om = asB (f env om) := by
  unfold tst
  cases f env om with
  | ok d om => cases d <;> rfl
  | _ => rfl
def rvar (x : Option (Option Dat)) (om : Om) : R Dat := match x with
  | some (some d) => .ok d om
  | _ => .no
theorem rvar_some (d : Dat) (om : Om) : rvar (some (some d)) om = .ok d om := rfl
theorem eVar_ev (i : Nat) (env : En) (om : Om) : eVar i env om = rvar env[i]? om := rfl
theorem eC_ev (d : Dat) (env : En) (om : Om) : eC d env om = .ok d om := rfl
theorem e1_ev (k : Dat → Om → R Dat) (f : DV) (env : En) (om : Om) : e1 k f env om = (f env om).bind k := rfl
theorem e2_ev (k : Dat → Dat → Om → R Dat) (f g : DV) (env : En) (om : Om) : e2 k f g env om = (f env om).bind fun x om => (g env om).bind fun y om => k x y om := rfl
theorem aNil_ev (env : En) (om : Om) : aNil env om = .ok [] om := rfl
theorem aCons_ev (f : DV) (g : En → Om → R (List Dat)) (env : En) (om : Om) : aCons f g env om = (f env om).bind fun x om => (g env om).bind fun xs om => .ok (x :: xs) om := rfl
theorem eTup_ev (g : En → Om → R (List Dat)) (env : En) (om : Om) : eTup g env om = (g env om).bind fun xs om => if xs.length ≤ 1000000 then .ok (.tup xs) om else .no := rfl
theorem eLst_ev (g : En → Om → R (List Dat)) (env : En) (om : Om) : eLst g env om = (g env om).bind fun xs om => if xs.length ≤ 1000000 then .ok (.lst xs) om else .no := rfl
theorem eLstC_ev (g : En → Om → R (List Dat)) (env : En) (om : Om) : eLstC g env om = (g env om).bind fun xs om => if xs.length ≤ 1000000 then .ok (.cell om.length) (om ++ [.lst xs]) else .no := rfl
theorem tAndD_ev (f g : En → Om → R Bool) (env : En) (om : Om) : tAndD f g env om = (f env om).bind fun b om => if b = true then g env om else .ok false om := rfl
theorem tOrD_ev (f g : En → Om → R Bool) (env : En) (om : Om) : tOrD f g env om = (f env om).bind fun b om => if b = true then .ok true om else g env om := rfl
theorem tNotD_ev (f : En → Om → R Bool) (env : En) (om : Om) : tNotD f env om = (f env om).bind fun b om => .ok (!b) om := rfl
theorem eIf_ev (t : En → Om → R Bool) (f g : DV) (env : En) (om : Om) : eIf t f g env om = (t env om).bind fun b om => if b = true then f env om else g env om := rfl
theorem eNot_ev (f : DV) (env : En) (om : Om) : eNot f env om = (asB (f env om)).bind fun b om => .ok (.bl (!b)) om := by
  unfold eNot
  cases f env om with
  | ok d om => cases d <;> rfl
  | _ => rfl
theorem eAnd_ev (f g : DV) (env : En) (om : Om) : eAnd f g env om = (asB (f env om)).bind fun b om => if b = true then g env om else .ok (.bl false) om := by
  unfold eAnd
  cases f env om with
  | ok d om => cases d with
    | bl b => cases b <;> rfl
    | _ => rfl
  | _ => rfl
theorem eOr_ev (f g : DV) (env : En) (om : Om) : eOr f g env om = (asB (f env om)).bind fun b om => if b = true then .ok (.bl true) om else g env om := by
  unfold eOr
  cases f env om with
  | ok d om => cases d with
    | bl b => cases b <;> rfl
    | _ => rfl
  | _ => rfl
theorem eCall_ev (n : Nat) (dvs : List Dat) (F : List Dat → Om → R Dat) (g : En → Om → R (List Dat)) (env : En) (om : Om) : eCall n dvs F g env om = (g env om).bind fun ds om => if ds.length + dvs.length = n then F (ds ++ dvs) om else .no := rfl
theorem eB_ev (k : List Dat → Om → R Dat) (g : En → Om → R (List Dat)) (env : En) (om : Om) : eB k g env om = (g env om).bind k := rfl
theorem eChain_ev (k k' : Dat → Dat → Om → R Dat) (f g h : DV) (env : En) (om : Om) : eChain k k' f g h env om = (f env om).bind fun x om => (g env om).bind fun y om => (asB (k x y om)).bind fun b om => if b = true then (h env om).bind fun u om => k' y u om else .ok (.bl false) om := by
  unfold eChain
  congr 1; funext x om; congr 1; funext y om
  cases k x y om with
  | ok d om => cases d with
    | bl b => cases b <;> rfl
    | _ => rfl
  | _ => rfl
def asS (k : List Nat → Om → R Dat) : Dat → Om → R Dat
  | .str l, om => k l om
  | _, _ => .no
theorem asS_str (k : List Nat → Om → R Dat) (l : List Nat) (om : Om) : asS k (.str l) om = k l om := rfl
theorem eM1_ev (k : Dat → Dat → Om → R Dat) (f g : DV) (env : En) (om : Om) : eM1 k f g env om = (f env om).bind (asS fun l om => (g env om).bind fun y om => k (.str l) y om) := by
  unfold eM1
  cases f env om with
  | ok d om => cases d <;> rfl
  | _ => rfl
theorem eFmt_ev (f : DV) (env : En) (om : Om) : eFmt f env om = (f env om).bind fun d om => fmtD om d := rfl
theorem joinF_nil (acc : List Nat) (env : En) (om : Om) : joinF [] acc env om = .ok (.str acc) om := rfl
theorem joinF_cons (f : DV) (fs : List DV) (acc : List Nat) (env : En) (om : Om) : joinF (f :: fs) acc env om = (f env om).bind (asS fun l om => if acc.length + l.length ≤ 1000000 then joinF fs (acc ++ l) env om else .no) := by
  show (f env om).bind _ = _
  cases f env om with
  | ok d om => cases d <;> rfl
  | _ => rfl
theorem fmtD_str (om : Om) (l : List Nat) : fmtD om (.str l) = if l.length ≤ 1000000 then .ok (.str l) om else .no := rfl
theorem fmtD_int (om : Om) (i : Int) : fmtD om (.int i) = if i.natAbs.log2 < 1920 then .ok (.str (digs i)) om else .no := rfl
def asI (k : Option Int → Om → R (Option Int)) : Dat → Om → R (Option Int)
  | .int l, om => k (some l) om
  | _, _ => .no
theorem oNone_ev (env : En) (om : Om) : oNone env om = .ok none om := rfl
theorem oSome_ev (f : DV) (env : En) (om : Om) : oSome f env om = (f env om).bind (asI fun i om => .ok i om) := by
  unfold oSome
  cases f env om with
  | ok d om => cases d <;> rfl
  | _ => rfl
theorem asI_int (k : Option Int → Om → R (Option Int)) (i : Int) (om : Om) : asI k (.int i) om = k (some i) om := rfl
theorem eSl_ev (f : DV) (lo hi : En → Om → R (Option Int)) (env : En) (om : Om) : eSl f lo hi env om = (f env om).bind fun d om => (lo env om).bind fun l om => (hi env om).bind fun h om => kSl d l h om := rfl

/-! ### statements -/
def rseq (r : RS) (s : SD) : RS := match r with
  | .nx e o => s e o
  | .brk e o => .brk e o
  | .cnt e o => .cnt e o
  | .ret d o => .ret d o
  | .exc x e o => .exc x e o
  | .no => .no
theorem rseq_nx (e : En) (o : Om) (s : SD) : rseq (.nx e o) s = s e o := rfl
theorem rseq_ret (d : Dat) (o : Om) (s : SD) : rseq (.ret d o) s = .ret d o := rfl
theorem rseq_exc (x : Exc) (e : En) (o : Om) (s : SD) : rseq (.exc x e o) s = .exc x e o := rfl
theorem rseq_brk (e : En) (o : Om) (s : SD) : rseq (.brk e o) s = .brk e o := rfl
theorem rseq_cnt (e : En) (o : Om) (s : SD) : rseq (.cnt e o) s = .cnt e o := rfl
theorem rseq_no (s : SD) : rseq .no s = .no := rfl
theorem sSeq_ev (s1 s2 : SD) (env : En) (om : Om) : sSeq s1 s2 env om = rseq (s1 env om) s2 := by
  unfold sSeq rseq
  cases s1 env om <;> rfl
theorem sNil_ev (env : En) (om : Om) : sNil env om = .nx env om := rfl
theorem rs_ok (k : Dat → Om → RS) (env : En) (d : Dat) (om : Om) : rs k env (.ok d om) = k d om := rfl
theorem rs_exc (k : Dat → Om → RS) (env : En) (e : Exc) (om : Om) : rs k env (.exc e om) = .exc e env om := rfl
theorem rs_no (k : Dat → Om → RS) (env : En) : rs k env .no = .no := rfl
theorem sRet_ev (f : DV) (env : En) (om : Om) : sRet f env om = rs (fun d om => .ret d om) env (f env om) := rfl
theorem sRetN_ev (env : En) (om : Om) : sRetN env om = .ret .non om := rfl
def rbool (r : R Bool) (env : En) (a b : SD) : RS := match r with
  | .ok c om => if c = true then a env om else b env om
  | .exc e om => .exc e env om
  | .no => .no
theorem rbool_ok (c : Bool) (om : Om) (env : En) (a b : SD) : rbool (.ok c om) env a b = if c = true then a env om else b env om := rfl
theorem rbool_exc (e : Exc) (om : Om) (env : En) (a b : SD) : rbool (.exc e om) env a b = .exc e env om := rfl
theorem rbool_no (env : En) (a b : SD) : rbool .no env a b = .no := rfl
theorem sIf_ev (t : En → Om → R Bool) (a b : SD) (env : En) (om : Om) : sIf t a b env om = rbool (t env om) env a b := by
  unfold sIf rbool
  cases t env om with
  | ok c om => cases c <;> rfl
  | _ => rfl
theorem sExpr_ev (f : DV) (env : En) (om : Om) : sExpr f env om = rs (fun _ om => .nx env om) env (f env om) := rfl
theorem gN_ev (i : Nat) (d : Dat) (env : En) (om : Om) : gN i d env om = .ok (env.set i (some d)) om := rfl
theorem gsN_ev (env : En) (om : Om) : gsN [] env om = .ok env om := rfl
theorem gsC_ev (g : GD) (gs : GDs) (d : Dat) (r : List Dat) (env : En) (om : Om) : gsC g gs (d :: r) env om = (g d env om).bind fun env om => gs r env om := rfl
theorem gT_tup (n : Nat) (gs : GDs) (xs : List Dat) (env : En) (om : Om) : gT n gs (.tup xs) env om = if xs.length = n then gs xs env om else .no := rfl
theorem gT_lst (n : Nat) (gs : GDs) (xs : List Dat) (env : En) (om : Om) : gT n gs (.lst xs) env om = if xs.length = n then gs xs env om else .no := rfl
theorem gStar_lst (g1 g2 : GD) (x : Dat) (xs : List Dat) (env : En) (om : Om) : gStar g1 g2 (.lst (x :: xs)) env om = (g1 x env om).bind fun env om => g2 (.lst xs) env om := rfl
def rasg : R En → RS
  | .ok env om => .nx env om
  | _ => .no
theorem rasg_ok (env : En) (om : Om) : rasg (.ok env om) = .nx env om := rfl
theorem sAsg_ev (f : DV) (g : GD) (env : En) (om : Om) : sAsg f g env om = rs (fun d om => rasg (g d env om)) env (f env om) := by
  unfold sAsg
  congr 1
theorem sRaiseN_ev (c : String) (env : En) (om : Om) : sRaiseN c env om = .exc ⟨c, none⟩ env om := rfl
theorem sRaise1_ev (c : String) (f : DV) (env : En) (om : Om) : sRaise1 c f env om = rs (fun d om => .exc ⟨c, some d⟩ env om) env (f env om) := rfl
def rtry (ex : String → Option Bool) (r : RS) (ss : SD) : RS := match r with
  | .exc e env om => match ex e.c with
    | some true => match ss env om with
      | .exc _ _ _ => .no
      | r => r
    | some false => .exc e env om
    | none => .no
  | r => r
theorem sTry_ev (ex : String → Option Bool) (sb ss : SD) (env : En) (om : Om) : sTry ex sb ss env om = rtry ex (sb env om) ss := rfl
theorem rtry_nx (ex : String → Option Bool) (e : En) (o : Om) (s : SD) : rtry ex (.nx e o) s = .nx e o := rfl
theorem rtry_ret (ex : String → Option Bool) (d : Dat) (o : Om) (s : SD) : rtry ex (.ret d o) s = .ret d o := rfl
theorem rtry_exc {ex : String → Option Bool} {e : Exc} {env : En} {om : Om} {s : SD} (h : ex e.c = some true) : rtry ex (.exc e env om) s = match s env om with
      | .exc _ _ _ => .no
      | r => r := by
  unfold rtry
  simp only [h]
theorem rtry_pass {ex : String → Option Bool} {e : Exc} {env : En} {om : Om} {s : SD} (h : ex e.c = some false) : rtry ex (.exc e env om) s = .exc e env om := by
  unfold rtry
  simp only [h]
def rfin (keep : Bool) (n : Nat) : RS → R Dat
  | .ret d om' => finR keep n d om'
  | .nx _ om' => finR keep n .non om'
  | .exc e _ om' => finE keep n e om'
  | _ => .no
theorem rfin_ret (keep : Bool) (n : Nat) (d : Dat) (om : Om) : rfin keep n (.ret d om) = finR keep n d om := rfl
theorem rfin_nx (keep : Bool) (n : Nat) (e : En) (om : Om) : rfin keep n (.nx e om) = finR keep n .non om := rfl
theorem rfin_exc (keep : Bool) (n : Nat) (x : Exc) (e : En) (om : Om) : rfin keep n (.exc x e om) = finE keep n x om := rfl
theorem rfin_no (keep : Bool) (n : Nat) : rfin keep n .no = .no := rfl
theorem fnD_ev (keep : Bool) (n N : Nat) (b : SD) (ds : List Dat) (om : Om) : fnD keep n N b ds om = rfin keep om.length (b (ds.map some ++ List.replicate (N - n) none) om) := by
  unfold fnD rfin
  cases b (ds.map some ++ List.replicate (N - n) none) om <;> rfl
theorem finR_of {keep : Bool} {n : Nat} {d : Dat} {om : Om} (h : om.length = n) : finR keep n d om = .ok d om := by
  unfold finR
  rw [if_pos (.inr h)]
theorem finE_of {keep : Bool} {n : Nat} {e : Exc} {om : Om} (h : om.length = n) : finE keep n e om = .exc e om := by
  unfold finE
  rw [if_pos (.inr h)]
theorem finR_same (keep : Bool) (d : Dat) (om : Om) : finR keep om.length d om = .ok d om := finR_of rfl
theorem finE_same (keep : Bool) (e : Exc) (om : Om) : finE keep om.length e om = .exc e om := finE_of rfl
theorem finR_keep (n : Nat) (d : Dat) (om : Om) : finR true n d om = .ok d om := by
  unfold finR
  rw [if_pos (.inl rfl)]

/-! ### a test between is pushed outward -/
section
variable {c : Prop} [Decidable c] {α β : Type}
theorem bind_ite (x y : R α) (k : α → Om → R β) : (if c then x else y).bind k = if c then x.bind k else y.bind k := by split <;> rfl
theorem asB_ite (x y : R Dat) : asB (if c then x else y) = if c then asB x else asB y := by split <;> rfl
theorem rseq_ite (x y : RS) (s : SD) : rseq (if c then x else y) s = if c then rseq x s else rseq y s := by split <;> rfl
theorem rbool_ite (x y : R Bool) (env : En) (a b : SD) : rbool (if c then x else y) env a b = if c then rbool x env a b else rbool y env a b := by split <;> rfl
theorem rs_ite (k : Dat → Om → RS) (env : En) (x y : R Dat) : rs k env (if c then x else y) = if c then rs k env x else rs k env y := by split <;> rfl
theorem rfin_ite (keep : Bool) (n : Nat) (x y : RS) : rfin keep n (if c then x else y) = if c then rfin keep n x else rfin keep n y := by split <;> rfl
theorem rtry_ite (ex : String → Option Bool) (x y : RS) (s : SD) : rtry ex (if c then x else y) s = if c then rtry ex x s else rtry ex y s := by split <;> rfl
theorem rasg_ite (x y : R En) : rasg (if c then x else y) = if c then rasg x else rasg y := by split <;> rfl
theorem ok_ite (x y : Dat) (om : Om) : (R.ok (if c then x else y) om) = if c then .ok x om else .ok y om := by split <;> rfl
end
theorem and_ite (b c : Bool) (om : Om) : (if b = true then (R.ok (Dat.bl c) om) else R.ok (Dat.bl false) om) = R.ok (Dat.bl (b && c)) om := by cases b <;> simp
theorem or_ite (b c : Bool) (om : Om) : (if b = true then (R.ok (Dat.bl true) om) else R.ok (Dat.bl c) om) = R.ok (Dat.bl (b || c)) om := by cases b <;> simp
theorem andB_ite (b c : Bool) (om : Om) : (if b = true then (R.ok c om) else R.ok false om) = R.ok (b && c) om := by cases b <;> simp
theorem orB_ite (b c : Bool) (om : Om) : (if b = true then (R.ok true om) else R.ok c om) = R.ok (b || c) om := by cases b <;> simp

/-! ### kernels at values -/
theorem der_non (om : Om) : der om .non = .non := rfl
theorem der_bl (om : Om) (b : Bool) : der om (.bl b) = .bl b := rfl
theorem der_int (om : Om) (i : Int) : der om (.int i) = .int i := rfl
theorem der_str (om : Om) (l : List Nat) : der om (.str l) = .str l := rfl
theorem der_tup (om : Om) (l : List Dat) : der om (.tup l) = .tup l := rfl
theorem der_wt (om : Om) (l : List Dat) : der om (.wt l) = .wt l := rfl
theorem der_lstS (om : Om) (l : List Dat) : der om (.lst l) = .lst l := rfl
theorem der_frl (om : Om) (l : List Dat) : der om (.frl l) = .frl l := rfl
theorem der_dct (om : Om) (ks vs : List Dat) : der om (.dct ks vs) = .dct ks vs := rfl
theorem der_ins (om : Om) (c : String) (vs : List Dat) : der om (.ins c vs) = .ins c vs := rfl
theorem eqA_str (n : Nat) (x y : List Nat) : eqA n (.str x) (.str y) = some (x == y) := by cases n <;> simp [eqA]
theorem eqA_int (n : Nat) (x y : Int) : eqA n (.int x) (.int y) = some (x == y) := by cases n <;> simp [eqA]
theorem kEq_str (x y : List Nat) (om : Om) : kEq (.str x) (.str y) om = .ok (.bl (x == y)) om := by simp [kEq, der, eqA_str, eqA_int]
theorem kEq_int (x y : Int) (om : Om) : kEq (.int x) (.int y) om = .ok (.bl (x == y)) om := by simp [kEq, der, eqA_str, eqA_int]
theorem kNe_int (x y : Int) (om : Om) : kNe (.int x) (.int y) om = .ok (.bl (!(x == y))) om := by simp [kNe, okP, der, eqA_int]
def okT (x : List Nat) : Bool := x.all (· < 0x110000)
theorem kNe_str {x y : List Nat} (om : Om) (hx : okT x = true) (hy : okT y = true) : kNe (.str x) (.str y) om = .ok (.bl (!(x == y))) om := by
  unfold kNe
  have h1 : okP 60 (.str x) = true := hx
  have h2 : okP 60 (.str y) = true := hy
  simp [h1, h2, der, eqA_str]
theorem kCmp_int (pi : Int → Int → Bool) (ps : List Nat → List Nat → Bool) (a b : Int) (om : Om) : kCmp pi ps (.int a) (.int b) om = .ok (.bl (pi a b)) om := rfl
theorem kCmp_str (pi : Int → Int → Bool) (ps : List Nat → List Nat → Bool) (a b : List Nat) (om : Om) : kCmp pi ps (.str a) (.str b) om = .ok (.bl (ps a b)) om := rfl
theorem kInS_ev (c : Nat) (z : List Nat) (om : Om) : kInS (.str [c]) (.str z) om = .ok (.bl (decide (c ∈ z))) om := rfl
theorem kNotInS_ev (c : Nat) (z : List Nat) (om : Om) : kNotInS (.str [c]) (.str z) om = .ok (.bl (!decide (c ∈ z))) om := rfl
theorem kLen_str (l : List Nat) (om : Om) : kLen [.str l] om = if l.length ≤ 1000000 then .ok (.int l.length) om else .no := by
  simp only [kLen, lenD, der_str]
  by_cases h : l.length ≤ 1000000
  · simp [h]
  · simp [h]
theorem kLen_tup (l : List Dat) (om : Om) : kLen [.tup l] om = .ok (.int l.length) om := rfl
theorem kLen_lst (l : List Dat) (om : Om) : kLen [.lst l] om = .ok (.int l.length) om := rfl
theorem kLen_frl (l : List Dat) (om : Om) : kLen [.frl l] om = .ok (.int l.length) om := rfl
theorem kLen_cell {i : Nat} {l : List Dat} {om : Om} (h : om[i]? = some (.lst l)) : kLen [.cell i] om = .ok (.int l.length) om := by simp [kLen, lenD, der, h]
theorem kIx_tup (l : List Dat) (i : Int) (om : Om) : kIx (.tup l) (.int i) om = match atD l i with | some d => .ok d om | none => .no := rfl
theorem kIx_lst (l : List Dat) (i : Int) (om : Om) : kIx (.lst l) (.int i) om = match atD l i with | some d => .ok d om | none => .no := rfl
theorem kSl_tup (l : List Dat) (a b : Option Int) (om : Om) : kSl (.tup l) a b om = .ok (.tup (cutD l a b)) om := rfl
theorem kSl_lst (l : List Dat) (a b : Option Int) (om : Om) : kSl (.lst l) a b om = .ok (.lst (cutD l a b)) om := rfl
theorem kSl_str (l : List Nat) (a b : Option Int) (om : Om) : kSl (.str l) a b om = if l.length ≤ 1000000 then .ok (.str (cutD l a b)) om else .no := rfl
theorem kList_lst (l : List Dat) (om : Om) : kList [.lst l] om = .ok (.lst l) om := rfl
theorem kList_tup (l : List Dat) (om : Om) : kList [.tup l] om = .ok (.lst l) om := rfl
theorem kTuple_lst (l : List Dat) (om : Om) : kTuple [.lst l] om = .ok (.tup l) om := rfl
theorem kTuple_tup (l : List Dat) (om : Om) : kTuple [.tup l] om = .ok (.tup l) om := rfl
theorem kStr_int (i : Int) (om : Om) : kStr [.int i] om = if i.natAbs.log2 < 1920 then .ok (.str (digs i)) om else .no := rfl
theorem kIntOf_int (i : Int) (om : Om) : kIntOf [.int i] om = .ok (.int i) om := rfl
theorem kIntOf_bl (b : Bool) (om : Om) : kIntOf [.bl b] om = .ok (.int (if b then 1 else 0)) om := rfl
theorem kAbs_int (i : Int) (om : Om) : kAbs [.int i] om = .ok (.int (if i < 0 then -i else i)) om := rfl
theorem kMax2_int (i j : Int) (om : Om) : kMax2 [.int i, .int j] om = .ok (.int (if j > i then j else i)) om := rfl
theorem kMin2_int (i j : Int) (om : Om) : kMin2 [.int i, .int j] om = .ok (.int (if j < i then j else i)) om := rfl
theorem kNeg_int (i : Int) (om : Om) : kNeg (.int i) om = .ok (.int (-i)) om := rfl
theorem kAdd_int (a b : Int) (om : Om) : kAdd (.int a) (.int b) om = .ok (.int (a + b)) om := rfl
theorem kAdd_str (a b : List Nat) (om : Om) : kAdd (.str a) (.str b) om = if a.length + b.length ≤ 1000000 then .ok (.str (a ++ b)) om else .no := rfl
theorem kAdd_tup (a b : List Dat) (om : Om) : kAdd (.tup a) (.tup b) om = if a.length + b.length ≤ 1000000 then .ok (.tup (a ++ b)) om else .no := rfl
theorem kAdd_lst (a b : List Dat) (om : Om) : kAdd (.lst a) (.lst b) om = if a.length + b.length ≤ 1000000 then .ok (.lst (a ++ b)) om else .no := rfl
def okI (om : Om) : Option Int → R Dat
  | some c => .ok (.int c) om
  | none => .no
theorem okI_some (om : Om) (c : Int) : okI om (some c) = .ok (.int c) om := rfl
theorem okI_none (om : Om) : okI om none = .no := rfl
theorem kInt_ev (f : Int → Int → Option Int) (a b : Int) (om : Om) : kInt f (.int a) (.int b) om = okI om (f a b) := by
  simp only [kInt]
  cases f a b <;> rfl
theorem kSub_int (a b : Int) (om : Om) : kSub (.int a) (.int b) om = .ok (.int (a - b)) om := rfl
theorem kMul_int (a b : Int) (om : Om) : kMul (.int a) (.int b) om = okI om (fMul a b) := kInt_ev _ _ _ _
theorem kFdiv_int (a b : Int) (om : Om) : kFdiv (.int a) (.int b) om = okI om (fFdiv a b) := kInt_ev _ _ _ _
theorem kMod_int (a b : Int) (om : Om) : kMod (.int a) (.int b) om = okI om (fMod a b) := kInt_ev _ _ _ _
theorem kPow_int (a b : Int) (om : Om) : kPow (.int a) (.int b) om = okI om (fPow a b) := kInt_ev _ _ _ _
theorem kSplit_ev (a b : List Nat) (om : Om) : kSplit (.str a) (.str b) om = if b ≠ [] ∧ b.all (· < 256) = true ∧ a.length + 2 ≤ 1000000 then .ok (.lst ((TL.spl b 0 [] a).map .str)) om else .no := rfl
theorem isNonD_non : isNonD .non = true := rfl
theorem isNonD_str (l : List Nat) : isNonD (.str l) = false := rfl
theorem isNonD_int (l : Int) : isNonD (.int l) = false := rfl
theorem isNonD_bl (l : Bool) : isNonD (.bl l) = false := rfl
theorem isNonD_tup (l : List Dat) : isNonD (.tup l) = false := rfl
theorem isNonD_lst (l : List Dat) : isNonD (.lst l) = false := rfl
theorem isNonD_dct (k l : List Dat) : isNonD (.dct k l) = false := rfl
theorem strsD_map (ls : List (List Nat)) : strsD (ls.map .str) = some ls := by
  induction ls with
  | nil => rfl
  | cons x r ih => simp [strsD, ih]
theorem kJoin_lst (a : List Nat) (ls : List (List Nat)) (om : Om) (h : (ls.map (·.length)).sum + ls.length * a.length ≤ 1000000) : kJoin (.str a) (.lst (ls.map .str)) om = .ok (.str (TL.joinL a ls)) om := by
  simp [kJoin, itemsD, strsD_map, h]
theorem blsD_map (bs : List Bool) : blsD (bs.map .bl) = some bs := by
  induction bs with
  | nil => rfl
  | cons x r ih => simp [blsD, ih]
theorem kAll_map (bs : List Bool) (om : Om) : kAll [.lst (bs.map .bl)] om = .ok (.bl (bs.all id)) om := by simp [kAll, blsD_map]
theorem kAny_map (bs : List Bool) (om : Om) : kAny [.lst (bs.map .bl)] om = .ok (.bl (bs.any id)) om := by simp [kAny, blsD_map]
/-! ### walks -/
theorem eLc_ev (fi : En → Om → R (List Dat)) (g : GD) (t : En → Om → R Bool) (f : DV) (own : List Nat) (env : En) (om : Om) : eLc fi g t f own env om = (fi env om).bind fun xs om => (lcL g t f xs (wipeE env own) om []).bind fun ys om => .ok (.lst ys) om := rfl
theorem wipeE_nil (env : En) : wipeE env [] = env := rfl
theorem wipeE_cons (env : En) (v : Nat) (vs : List Nat) : wipeE env (v :: vs) = (wipeE env vs).set v none := rfl
/-- a comprehension whose element changes nothing -/
theorem lcL_map {g : GD} {f : DV} {env : En} {om : Om} (F : Dat → Dat) : ∀ {xs acc : List Dat}, acc.length + xs.length ≤ 1000000 → (∀ x ∈ xs, ∃ env1, g x env om = .ok env1 om ∧ f env1 om = .ok (F x) om) → lcL g tYesD f xs env om acc = .ok (acc ++ xs.map F) om
  | [], acc, _, _ => by simp [lcL]
  | x :: xs, acc, hl, h => by
    obtain ⟨env1, h1, h2⟩ := h x (by simp)
    have hl' : acc.length + (xs.length + 1) ≤ 1000000 := by simpa using hl
    rw [lcL, h1]
    simp only [tYesD, h2]
    rw [if_pos (by omega), lcL_map F (by simp; omega) fun y hy => h y (by simp [hy])]
    simp
/-- the same, over a mapped list -/
theorem lcL_mapM {α : Type} {g : GD} {f : DV} {env : En} {om : Om} {xs : List α} (I F : α → Dat) (hl : xs.length ≤ 1000000) (h : ∀ x ∈ xs, ∃ env1, g (I x) env om = .ok env1 om ∧ f env1 om = .ok (F x) om) : lcL g tYesD f (xs.map I) env om [] = .ok (xs.map F) om := by
  have gen : ∀ (ys : List α) (acc : List Dat), (∀ y ∈ ys, y ∈ xs) → acc.length + ys.length ≤ 1000000 → lcL g tYesD f (ys.map I) env om acc = .ok (acc ++ ys.map F) om := by
    intro ys
    induction ys with
    | nil => intro acc _ _; simp [lcL]
    | cons y ys ih =>
      intro acc hm hl
      obtain ⟨env1, h1, h2⟩ := h y (hm y (by simp))
      have hl' : acc.length + (ys.length + 1) ≤ 1000000 := by simpa using hl
      rw [List.map_cons, lcL, h1]
      simp only [tYesD, h2]
      rw [if_pos (by omega), ih _ (fun z hz => hm z (by simp [hz])) (by simp; omega)]
      simp
  simpa using gen xs [] (fun _ h => h) (by simpa using hl)
theorem kitB_at (a t : String) (b : Bool) (h : kitB a t = some b) (d : Dat) (om : Om) (hd : tyOf (der om d) = some a) : kIsi t d om = .ok (.bl b) om := by simp [kIsi, hd, h]
theorem isi_str_str (x : List Nat) (om : Om) : kIsi "str" (.str x) om = .ok (.bl true) om := kitB_at "str" "str" _ rfl _ _ rfl
theorem isi_str_non (om : Om) : kIsi "str" .non om = .ok (.bl false) om := kitB_at "NoneType" "str" _ rfl _ _ rfl
theorem isi_str_int (i : Int) (om : Om) : kIsi "str" (.int i) om = .ok (.bl false) om := kitB_at "int" "str" _ rfl _ _ rfl
theorem isi_str_bl (i : Bool) (om : Om) : kIsi "str" (.bl i) om = .ok (.bl false) om := kitB_at "bool" "str" _ rfl _ _ rfl
theorem isi_str_tup (i : List Dat) (om : Om) : kIsi "str" (.tup i) om = .ok (.bl false) om := kitB_at "tuple" "str" _ rfl _ _ rfl
theorem isi_str_lst (i : List Dat) (om : Om) : kIsi "str" (.lst i) om = .ok (.bl false) om := kitB_at "list" "str" _ rfl _ _ rfl
theorem isi_str_dct (i j : List Dat) (om : Om) : kIsi "str" (.dct i j) om = .ok (.bl false) om := kitB_at "dict" "str" _ rfl _ _ rfl
theorem isi_int_int (i : Int) (om : Om) : kIsi "int" (.int i) om = .ok (.bl true) om := kitB_at "int" "int" _ rfl _ _ rfl
theorem isi_int_bl (i : Bool) (om : Om) : kIsi "int" (.bl i) om = .ok (.bl true) om := kitB_at "bool" "int" _ rfl _ _ rfl
theorem isi_int_str (i : List Nat) (om : Om) : kIsi "int" (.str i) om = .ok (.bl false) om := kitB_at "str" "int" _ rfl _ _ rfl
theorem isi_int_non (om : Om) : kIsi "int" .non om = .ok (.bl false) om := kitB_at "NoneType" "int" _ rfl _ _ rfl
theorem isi_int_tup (i : List Dat) (om : Om) : kIsi "int" (.tup i) om = .ok (.bl false) om := kitB_at "tuple" "int" _ rfl _ _ rfl
theorem isi_int_lst (i : List Dat) (om : Om) : kIsi "int" (.lst i) om = .ok (.bl false) om := kitB_at "list" "int" _ rfl _ _ rfl
theorem isi_int_dct (i j : List Dat) (om : Om) : kIsi "int" (.dct i j) om = .ok (.bl false) om := kitB_at "dict" "int" _ rfl _ _ rfl
theorem isi_bool_int (i : Int) (om : Om) : kIsi "bool" (.int i) om = .ok (.bl false) om := kitB_at "int" "bool" _ rfl _ _ rfl
theorem isi_bool_bl (i : Bool) (om : Om) : kIsi "bool" (.bl i) om = .ok (.bl true) om := kitB_at "bool" "bool" _ rfl _ _ rfl
theorem isi_tuple_tup (i : List Dat) (om : Om) : kIsi "tuple" (.tup i) om = .ok (.bl true) om := kitB_at "tuple" "tuple" _ rfl _ _ rfl
theorem isi_tuple_non (om : Om) : kIsi "tuple" .non om = .ok (.bl false) om := kitB_at "NoneType" "tuple" _ rfl _ _ rfl
theorem isi_tuple_str (x : List Nat) (om : Om) : kIsi "tuple" (.str x) om = .ok (.bl false) om := kitB_at "str" "tuple" _ rfl _ _ rfl
theorem isi_tuple_int (i : Int) (om : Om) : kIsi "tuple" (.int i) om = .ok (.bl false) om := kitB_at "int" "tuple" _ rfl _ _ rfl
theorem isi_tuple_bl (i : Bool) (om : Om) : kIsi "tuple" (.bl i) om = .ok (.bl false) om := kitB_at "bool" "tuple" _ rfl _ _ rfl
theorem isi_tuple_lst (i : List Dat) (om : Om) : kIsi "tuple" (.lst i) om = .ok (.bl false) om := kitB_at "list" "tuple" _ rfl _ _ rfl
theorem isi_tuple_dct (i j : List Dat) (om : Om) : kIsi "tuple" (.dct i j) om = .ok (.bl false) om := kitB_at "dict" "tuple" _ rfl _ _ rfl
theorem isi_dict_dct (i j : List Dat) (om : Om) : kIsi "dict" (.dct i j) om = .ok (.bl true) om := kitB_at "dict" "dict" _ rfl _ _ rfl
theorem isi_dict_non (om : Om) : kIsi "dict" .non om = .ok (.bl false) om := kitB_at "NoneType" "dict" _ rfl _ _ rfl
theorem isi_dict_str (x : List Nat) (om : Om) : kIsi "dict" (.str x) om = .ok (.bl false) om := kitB_at "str" "dict" _ rfl _ _ rfl
theorem isi_dict_int (i : Int) (om : Om) : kIsi "dict" (.int i) om = .ok (.bl false) om := kitB_at "int" "dict" _ rfl _ _ rfl
theorem isi_dict_bl (i : Bool) (om : Om) : kIsi "dict" (.bl i) om = .ok (.bl false) om := kitB_at "bool" "dict" _ rfl _ _ rfl
theorem isi_dict_tup (i : List Dat) (om : Om) : kIsi "dict" (.tup i) om = .ok (.bl false) om := kitB_at "tuple" "dict" _ rfl _ _ rfl
theorem isi_dict_lst (i : List Dat) (om : Om) : kIsi "dict" (.lst i) om = .ok (.bl false) om := kitB_at "list" "dict" _ rfl _ _ rfl
def asTx : Dat → Om → R (List Dat)
  | .str l, om => .ok (l.map fun c => .str [c]) om
  | _, _ => .no
theorem asTx_str (l : List Nat) (om : Om) : asTx (.str l) om = .ok (l.map fun c => .str [c]) om := rfl
theorem iText_ev2 (f : DV) (env : En) (om : Om) : iText f env om = (f env om).bind asTx := by
  unfold iText
  cases f env om with
  | ok d om => cases d <;> rfl
  | _ => rfl
def asSq : Dat → Om → R (List Dat)
  | .tup l, om => .ok l om
  | .lst l, om => .ok l om
  | _, _ => .no
theorem asSq_tup (l : List Dat) (om : Om) : asSq (.tup l) om = .ok l om := rfl
theorem asSq_lst (l : List Dat) (om : Om) : asSq (.lst l) om = .ok l om := rfl
theorem iSeq_ev2 (f : DV) (env : En) (om : Om) : iSeq f env om = (f env om).bind asSq := by
  unfold iSeq
  cases f env om with
  | ok d om => cases d <;> rfl
  | _ => rfl
def asEn : Dat → Om → R (List Dat)
  | .lst l, om => .ok (enumD 0 l) om
  | _, _ => .no
theorem asEn_lst (l : List Dat) (om : Om) : asEn (.lst l) om = .ok (enumD 0 l) om := rfl
theorem iEnumD_ev (f : DV) (env : En) (om : Om) : iEnumD f env om = (f env om).bind asEn := by
  unfold iEnumD
  cases f env om with
  | ok d om => cases d <;> rfl
  | _ => rfl
def asRg : Dat → Om → R (List Dat)
  | .int n, om => if -1000000 ≤ n ∧ n ≤ 1000000 then .ok ((List.range n.toNat).map fun (i : Nat) => .int (i : Int)) om else .no
  | _, _ => .no
theorem asRg_int (n : Int) (om : Om) : asRg (.int n) om = if -1000000 ≤ n ∧ n ≤ 1000000 then .ok ((List.range n.toNat).map fun (i : Nat) => .int (i : Int)) om else .no := rfl
theorem iRange1_ev (f : DV) (env : En) (om : Om) : iRange1 f env om = (f env om).bind asRg := by
  unfold iRange1
  cases f env om with
  | ok d om => cases d <;> rfl
  | _ => rfl
def asKs : Dat → Om → R (List Dat)
  | .dct k _, om => .ok k om
  | _, _ => .no
def asVs : Dat → Om → R (List Dat)
  | .dct _ k, om => .ok k om
  | _, _ => .no
theorem asKs_dct (k v : List Dat) (om : Om) : asKs (.dct k v) om = .ok k om := rfl
theorem asVs_dct (k v : List Dat) (om : Om) : asVs (.dct k v) om = .ok v om := rfl
theorem iKeysD_ev (f : DV) (env : En) (om : Om) : iKeysD f env om = (f env om).bind asKs := by
  unfold iKeysD
  cases f env om with
  | ok d om => cases d <;> rfl
  | _ => rfl
theorem iValsD_ev (f : DV) (env : En) (om : Om) : iValsD f env om = (f env om).bind asVs := by
  unfold iValsD
  cases f env om with
  | ok d om => cases d <;> rfl
  | _ => rfl
end DL

namespace DL
open PySem PySem.Spec PyProof.Rows L2
def evs0 := And.intro @asB_ok (And.intro @asB_exc (And.intro @asB_no (And.intro @tst_ev (And.intro @rvar_some (And.intro @eVar_ev (And.intro @eC_ev (And.intro @e1_ev (And.intro @e2_ev (And.intro @aNil_ev (And.intro @aCons_ev (@eTup_ev)))))))))))
def evs1 := And.intro @eLst_ev (And.intro @eLstC_ev (And.intro @tAndD_ev (And.intro @tOrD_ev (And.intro @tNotD_ev (And.intro @eIf_ev (And.intro @eNot_ev (And.intro @eAnd_ev (And.intro @eOr_ev (And.intro @eCall_ev (And.intro @eB_ev (@eChain_ev)))))))))))
def evs2 := And.intro @asS_str (And.intro @eM1_ev (And.intro @eFmt_ev (And.intro @joinF_nil (And.intro @joinF_cons (And.intro @fmtD_str (And.intro @fmtD_int (And.intro @oNone_ev (And.intro @oSome_ev (And.intro @asI_int (And.intro @eSl_ev (@rseq_nx)))))))))))
def evs3 := And.intro @rseq_ret (And.intro @rseq_exc (And.intro @rseq_brk (And.intro @rseq_cnt (And.intro @rseq_no (And.intro @sSeq_ev (And.intro @sNil_ev (And.intro @rs_ok (And.intro @rs_exc (And.intro @rs_no (And.intro @sRet_ev (@sRetN_ev)))))))))))
def evs4 := And.intro @rbool_ok (And.intro @rbool_exc (And.intro @rbool_no (And.intro @sIf_ev (And.intro @sExpr_ev (And.intro @gN_ev (And.intro @gsN_ev (And.intro @gsC_ev (And.intro @gT_tup (And.intro @gT_lst (And.intro @gStar_lst (@rasg_ok)))))))))))
def evs5 := And.intro @sAsg_ev (And.intro @sRaiseN_ev (And.intro @sRaise1_ev (And.intro @sTry_ev (And.intro @rtry_nx (And.intro @rtry_ret (And.intro @rfin_ret (And.intro @rfin_nx (And.intro @rfin_exc (And.intro @rfin_no (And.intro @finR_same (@finE_same)))))))))))
def evs6 := And.intro @finR_keep (And.intro @bind_ite (And.intro @asB_ite (And.intro @rseq_ite (And.intro @rbool_ite (And.intro @rs_ite (And.intro @rfin_ite (And.intro @rtry_ite (And.intro @rasg_ite (And.intro @and_ite (And.intro @or_ite (@andB_ite)))))))))))
def evs7 := And.intro @orB_ite (And.intro @der_non (And.intro @der_bl (And.intro @der_int (And.intro @der_str (And.intro @der_tup (And.intro @der_wt (And.intro @der_lstS (And.intro @der_frl (And.intro @der_dct (And.intro @der_ins (@eqA_str)))))))))))
def evs8 := And.intro @eqA_int (And.intro @kEq_str (And.intro @kEq_int (And.intro @kNe_int (And.intro @kCmp_int (And.intro @kCmp_str (And.intro @kInS_ev (And.intro @kNotInS_ev (And.intro @kLen_str (And.intro @kLen_tup (And.intro @kLen_lst (@kLen_frl)))))))))))
def evs9 := And.intro @kIx_tup (And.intro @kIx_lst (And.intro @kSl_tup (And.intro @kSl_lst (And.intro @kSl_str (And.intro @kList_lst (And.intro @kList_tup (And.intro @kTuple_lst (And.intro @kTuple_tup (And.intro @kStr_int (And.intro @kIntOf_int (@kIntOf_bl)))))))))))
def evs10 := And.intro @kAbs_int (And.intro @kMax2_int (And.intro @kMin2_int (And.intro @kNeg_int (And.intro @kAdd_int (And.intro @kAdd_str (And.intro @kAdd_tup (And.intro @kAdd_lst (And.intro @okI_some (And.intro @okI_none (And.intro @kInt_ev (@kSub_int)))))))))))
def evs11 := And.intro @kMul_int (And.intro @kFdiv_int (And.intro @kMod_int (And.intro @kPow_int (And.intro @isNonD_non (And.intro @isNonD_str (And.intro @isNonD_int (And.intro @isNonD_bl (And.intro @isNonD_tup (And.intro @isNonD_lst (@isNonD_dct))))))))))
def evs12 := And.intro @eLc_ev (And.intro @wipeE_nil (And.intro @wipeE_cons (And.intro @isi_str_str (And.intro @isi_str_non (And.intro @isi_str_int (And.intro @isi_str_bl (And.intro @isi_str_tup (And.intro @isi_str_lst (And.intro @isi_str_dct (And.intro @isi_int_int (@isi_int_bl)))))))))))
def evs13 := And.intro @isi_int_str (And.intro @isi_int_non (And.intro @isi_int_tup (And.intro @isi_int_lst (And.intro @isi_int_dct (And.intro @isi_bool_int (And.intro @isi_bool_bl (And.intro @isi_tuple_tup (And.intro @isi_tuple_non (And.intro @isi_tuple_str (And.intro @isi_tuple_int (@isi_tuple_bl)))))))))))
def evs14 := And.intro @isi_tuple_lst (And.intro @isi_tuple_dct (And.intro @isi_dict_dct (And.intro @isi_dict_non (And.intro @isi_dict_str (And.intro @isi_dict_int (And.intro @isi_dict_bl (And.intro @isi_dict_tup (And.intro @isi_dict_lst (And.intro @asTx_str (And.intro @iText_ev2 (@asSq_tup)))))))))))
def evs15 := And.intro @asSq_lst (And.intro @iSeq_ev2 (And.intro @asEn_lst (And.intro @iEnumD_ev (And.intro @asRg_int (And.intro @iRange1_ev (And.intro @asKs_dct (And.intro @asVs_dct (And.intro @iKeysD_ev (@iValsD_ev)))))))))
def evs0a := And.intro evs0 (And.intro evs1 (And.intro evs2 (And.intro evs3 (And.intro evs4 (And.intro evs5 (And.intro evs6 (And.intro evs7 (And.intro evs8 (And.intro evs9 (And.intro evs10 (And.intro evs11 (And.intro evs12 (And.intro evs13 (And.intro evs14 (evs15)))))))))))))))
def evl0 := And.intro @R.bind_ok (And.intro @R.bind_exc (And.intro @R.bind_no (And.intro @List.map_cons.{0,0} (And.intro @List.map_nil.{0,0} (And.intro @List.nil_append.{0} (And.intro @List.cons_append.{0} (And.intro @List.append_nil.{0} (And.intro @List.length_cons.{0} (And.intro @List.length_nil.{0} (And.intro @List.length_set.{0} (@List.length_append.{0})))))))))))
def evl1 := And.intro @List.length_map.{0,0} (And.intro @List.getElem?_cons_zero.{0} (And.intro @List.getElem?_cons_succ.{0} (And.intro @List.getElem?_nil.{0} (And.intro @List.set_cons_zero.{0} (And.intro @List.set_cons_succ.{0} (And.intro @eq_self.{1} (And.intro @and_true (And.intro @true_and (And.intro @if_true.{1} (And.intro @if_false.{1} (@Bool.not_true)))))))))))
def evl2 := And.intro @Bool.not_false (And.intro @Bool.true_and (And.intro @Bool.and_true (And.intro @Bool.false_and (And.intro @Bool.and_false (And.intro @Bool.true_or (And.intro @Bool.or_true (And.intro @Bool.false_or (@Bool.or_false))))))))
def evs := And.intro evl2 (And.intro evl1 (And.intro evl0 (evs0a)))
end DL
namespace DL
theorem kAll_all {α : Type} (xs : List α) (p : α → Bool) (om : Om) : kAll [.lst (xs.map fun c => .bl (p c))] om = .ok (.bl (xs.all p)) om := by
  have := kAll_map (xs.map p) om
  rw [List.map_map] at this
  show kAll [.lst (xs.map (Dat.bl ∘ p))] om = _
  rw [this]
  simp [List.all_map]
theorem kAny_any {α : Type} (xs : List α) (p : α → Bool) (om : Om) : kAny [.lst (xs.map fun c => .bl (p c))] om = .ok (.bl (xs.any p)) om := by
  have := kAny_map (xs.map p) om
  rw [List.map_map] at this
  show kAny [.lst (xs.map (Dat.bl ∘ p))] om = _
  rw [this]
  simp [List.any_map]
theorem atD_0 {α : Type} (a : α) (l : List α) : atD (a :: l) 0 = some a := by simp [atD]
theorem atD_1 {α : Type} (a b : α) (l : List α) : atD (a :: b :: l) 1 = some b := by simp [atD]; omega
theorem atD_2 {α : Type} (a b c : α) (l : List α) : atD (a :: b :: c :: l) 2 = some c := by simp [atD]; omega
theorem atD_nat {α : Type} (l : List α) (i : Nat) : atD l (i : Int) = l[i]? := by
  unfold atD
  rw [if_pos (by omega)]
  by_cases h : i < l.length
  · rw [if_pos (by omega)]; rfl
  · rw [if_neg (by omega), List.getElem?_eq_none (by omega)]
theorem if_bool (b : Bool) {α : Type} (x : α) : (if b = true then x else x) = x := by split <;> rfl
def starR (o : Option (List Dat)) (k : List Dat → R (List Dat)) : R (List Dat) := match o with
  | some xs => k xs
  | none => .no
theorem starR_some (xs : List Dat) (k : List Dat → R (List Dat)) : starR (some xs) k = k xs := rfl
theorem aStar_ev (f : DV) (g : En → Om → R (List Dat)) (env : En) (om : Om) : aStar f g env om = (f env om).bind fun x om => starR (itemsD om x) fun xs => (g env om).bind fun ys om => .ok (xs ++ ys) om := rfl
theorem itemsD_tup (om : Om) (xs : List Dat) : itemsD om (.tup xs) = some xs := rfl
theorem itemsD_lst (om : Om) (xs : List Dat) : itemsD om (.lst xs) = some xs := rfl
theorem itemsD_wt (om : Om) (xs : List Dat) : itemsD om (.wt xs) = some xs := rfl
def evstar := And.intro @starR_some (And.intro @aStar_ev (And.intro @itemsD_tup (And.intro @itemsD_lst @itemsD_wt)))
theorem okP_tup_nil (om : Om) (n : Nat) : okP n (.tup []) = true ∨ n = 0 := by
  cases n with
  | zero => exact .inr rfl
  | succ n => left; simp [okP, okPs]
theorem eqA_tup_nil (n : Nat) (xs : List Dat) : eqA (n + 1) (.tup xs) (.tup []) = some (xs.length == 0) := by
  rw [eqA]
  cases xs <;> simp [eqAs]
theorem kNe_tup_nil (xs : List Dat) (om : Om) (h : okPs 59 xs = true) : kNe (.tup xs) (.tup []) om = .ok (.bl (!(xs.length == 0))) om := by
  unfold kNe
  have h1 : okP 60 (.tup xs) = true := by rw [okP]; exact h
  have h2 : okP 60 (.tup []) = true := by rw [okP]; rfl
  simp only [der_tup, eqA_tup_nil, h1, h2, and_self, if_true]
theorem eqA_lst_nil (n : Nat) (xs : List Dat) : eqA (n + 1) (.lst xs) (.lst []) = some (xs.length == 0) := by
  rw [eqA]
  cases xs <;> simp [eqAs]
theorem kNe_lst_nil (xs : List Dat) (om : Om) (h : okPs 59 xs = true) : kNe (.lst xs) (.lst []) om = .ok (.bl (!(xs.length == 0))) om := by
  unfold kNe
  have h1 : okP 60 (.lst xs) = true := by rw [okP]; exact h
  have h2 : okP 60 (.lst []) = true := by rw [okP]; rfl
  simp only [der_lstS, eqA_lst_nil, h1, h2, and_self, if_true]
theorem okPs_map {α : Type} (n : Nat) (f : α → Dat) : ∀ xs : List α, (∀ x ∈ xs, okP n (f x) = true) → okPs n (xs.map f) = true
  | [], _ => by cases n <;> rfl
  | x :: r, h => by
    rw [List.map_cons, okPs, h x (by simp), okPs_map n f r fun y hy => h y (by simp [hy])]; rfl
theorem okP_str (n : Nat) (x : List Nat) : okP n (.str x) = okT x := by cases n <;> rfl
theorem okP_non (n : Nat) : okP n .non = true := by cases n <;> rfl
theorem okP_int (n : Nat) (i : Int) : okP n (.int i) = true := by cases n <;> rfl
end DL
end Part_EV
section Part_SP
set_option maxRecDepth 100000
/-! a text cut at a sign, and joined -/
namespace DL
open PySem PySem.Spec PyProof.Rows L2

def sp (c : Nat) : List Nat → List (List Nat)
  | [] => [[]]
  | x :: r => if x = c then [] :: sp c r else match sp c r with
    | [] => [[x]]
    | p :: ps => (x :: p) :: ps
theorem sp_ne (c : Nat) : ∀ x : List Nat, sp c x ≠ []
  | [] => by simp [sp]
  | x :: r => by
    unfold sp
    split
    · simp
    · split <;> simp
theorem sp_cons (c : Nat) (x : List Nat) : ∃ p ps, sp c x = p :: ps := by
  cases h : sp c x with
  | nil => exact absurd h (sp_ne c x)
  | cons p ps => exact ⟨p, ps, rfl⟩
theorem pre_one (c x : Nat) (r : List Nat) : TL.pre [c] (x :: r) = decide (x = c) := by
  unfold TL.pre
  simp
  by_cases h : x = c <;> simp [h]
theorem spl_sp (c : Nat) : ∀ (x acc : List Nat), TL.spl [c] 0 acc x = match sp c x with
    | [] => [acc]
    | p :: ps => (acc ++ p) :: ps
  | [], acc => by simp [TL.spl, sp]
  | x :: r, acc => by
    unfold TL.spl sp
    rw [pre_one]
    by_cases h : x = c
    · subst h
      simp
      rw [spl_sp x r []]
      obtain ⟨p, ps, e⟩ := sp_cons x r
      rw [e]; simp
    · simp [h]
      rw [spl_sp c r (acc ++ [x])]
      obtain ⟨p, ps, e⟩ := sp_cons c r
      rw [e]; simp
theorem spl_eq (c : Nat) (x : List Nat) : TL.spl [c] 0 [] x = sp c x := by
  rw [spl_sp]
  obtain ⟨p, ps, e⟩ := sp_cons c x
  rw [e]; simp
theorem kSplit_sp (c : Nat) (x : List Nat) (om : Om) (hc : c < 256) (hl : x.length + 2 ≤ 1000000) : kSplit (.str x) (.str [c]) om = .ok (.lst ((sp c x).map .str)) om := by
  rw [kSplit_ev, spl_eq, if_pos ⟨by simp, by simp [hc], hl⟩]
theorem sp_join (c : Nat) : ∀ x : List Nat, TL.joinL [c] (sp c x) = x
  | [] => rfl
  | x :: r => by
    unfold sp
    have ih := sp_join c r
    by_cases h : x = c
    · subst h
      rw [if_pos rfl]
      obtain ⟨p, ps, e⟩ := sp_cons x r
      rw [e] at ih ⊢
      simp [TL.joinL, ih]
    · rw [if_neg h]
      obtain ⟨p, ps, e⟩ := sp_cons c r
      rw [e] at ih ⊢
      simp only
      cases ps with
      | nil => simp [TL.joinL] at ih ⊢; exact ih
      | cons q qs => simp [TL.joinL] at ih ⊢; exact ih
theorem sp_no (c : Nat) : ∀ (x p : List Nat), p ∈ sp c x → c ∉ p
  | [], p, h => by simp [sp] at h; simp [h]
  | x :: r, p, h => by
    unfold sp at h
    by_cases e : x = c
    · subst e
      rw [if_pos rfl] at h
      rcases List.mem_cons.mp h with h | h
      · simp [h]
      · exact sp_no _ r p h
    · rw [if_neg e] at h
      obtain ⟨q, qs, eq⟩ := sp_cons c r
      rw [eq] at h
      simp only at h
      rcases List.mem_cons.mp h with h | h
      · subst h
        have := sp_no c r q (by rw [eq]; simp)
        simp [this]
        exact fun z => e z.symm
      · exact sp_no c r p (by rw [eq]; simp [h])
theorem sp_of_no (c : Nat) : ∀ x : List Nat, c ∉ x → sp c x = [x]
  | [], _ => rfl
  | x :: r, h => by
    unfold sp
    have h1 : x ≠ c := fun e => h (by simp [e])
    rw [if_neg h1, sp_of_no c r fun z => h (by simp [z])]
theorem sp_app (c : Nat) : ∀ (x r : List Nat), c ∉ x → sp c (x ++ c :: r) = x :: sp c r
  | [], r, _ => by simp [sp]
  | x :: t, r, h => by
    have h1 : x ≠ c := fun e => h (by simp [e])
    rw [List.cons_append, sp, if_neg h1, sp_app c t r fun z => h (by simp [z])]
theorem join_sp (c : Nat) : ∀ ls : List (List Nat), ls ≠ [] → (∀ p ∈ ls, c ∉ p) → sp c (TL.joinL [c] ls) = ls
  | [], h, _ => absurd rfl h
  | [p], _, h => by simp [TL.joinL]; exact sp_of_no c p (h p (by simp))
  | p :: q :: r, _, h => by
    show sp c (p ++ ([c] ++ TL.joinL [c] (q :: r))) = _
    rw [List.singleton_append, sp_app c p _ (h p (by simp)), join_sp c (q :: r) (by simp) fun z hz => h z (by simp [hz])]
theorem joinL_len (c : Nat) : ∀ ls : List (List Nat), (ls.map (·.length)).sum + ls.length = (TL.joinL [c] ls).length + (if ls = [] then 0 else 1)
  | [] => rfl
  | [p] => by simp [TL.joinL]
  | p :: q :: r => by
    have ih := joinL_len c (q :: r)
    simp [TL.joinL] at ih ⊢
    omega
theorem joinL_mem (c : Nat) : ∀ (ls : List (List Nat)) (p : List Nat), p ∈ ls → ∀ z ∈ p, z ∈ TL.joinL [c] ls
  | [p], q, h, z, hz => by simp at h; subst h; simpa [TL.joinL] using hz
  | p :: q :: r, w, h, z, hz => by
    simp only [TL.joinL, List.mem_append]
    rcases List.mem_cons.mp h with h | h
    · subst h; exact .inl hz
    · exact .inr (.inr (joinL_mem c (q :: r) w h z hz))
theorem sp_sum (c : Nat) (x : List Nat) : ((sp c x).map (·.length)).sum + (sp c x).length = x.length + 1 := by
  have := joinL_len c (sp c x)
  rw [sp_join, if_neg (sp_ne c x)] at this
  exact this
theorem sp_count (c : Nat) (x : List Nat) : (sp c x).length ≤ x.length + 1 := by
  have := sp_sum c x
  omega
theorem mem_sum : ∀ (l : List (List Nat)) (p : List Nat), p ∈ l → p.length ≤ (l.map (·.length)).sum
  | q :: r, p, h => by
    rcases List.mem_cons.mp h with h | h
    · subst h; simp
    · have := mem_sum r p h
      simp; omega
theorem sp_len (c : Nat) (x p : List Nat) (h : p ∈ sp c x) : p.length ≤ x.length := by
  have := sp_sum c x
  have := mem_sum _ _ h
  have : (sp c x).length ≥ 1 := by
    obtain ⟨q, qs, e⟩ := sp_cons c x
    rw [e]; simp
  omega
theorem sp_mem (c : Nat) (x p : List Nat) (h : p ∈ sp c x) (z : Nat) (hz : z ∈ p) : z ∈ x := by
  have := joinL_mem c (sp c x) p h z hz
  rwa [sp_join] at this
theorem okT_sp {c : Nat} {x p : List Nat} (hx : okT x = true) (h : p ∈ sp c x) : okT p = true := by
  unfold okT at *
  rw [List.all_eq_true] at *
  exact fun z hz => hx z (sp_mem c x p h z hz)
theorem sp_one_iff (c : Nat) (x : List Nat) : (sp c x).length = 1 ↔ c ∉ x := by
  constructor
  · intro h
    match e : sp c x, h with
    | [p], _ =>
      have h1 := sp_join c x
      rw [e] at h1
      simp [TL.joinL] at h1
      subst h1
      exact sp_no c p p (by rw [e]; simp)
  · intro h
    rw [sp_of_no c x h]; rfl
end DL
end Part_SP
section Part_KEY
set_option maxRecDepth 100000
/-! texts and pairs of texts as keys: each once, in order -/
namespace DL
open PySem PySem.Spec PyProof.Rows L2
def sD (ws : List (List Nat)) : List Dat := ws.map .str
def pD (p : List Nat × List Nat) : Dat := .tup [.str p.1, .str p.2]
section
variable {κ : Type}
def insK (le : κ → κ → Bool) (x : κ) : List κ → List κ
  | [] => [x]
  | y :: r => if le x y = true then x :: y :: r else y :: insK le x r
def sortK (le : κ → κ → Bool) : List κ → List κ
  | [] => []
  | x :: r => insK le x (sortK le r)
theorem insW_map {le : Dat → Dat → Bool} {le' : κ → κ → Bool} {f : κ → Dat} (h : ∀ a b, le (f a) (f b) = le' a b) (x : κ) : ∀ ks : List κ, insW le (f x) (ks.map f) = (insK le' x ks).map f
  | [] => rfl
  | y :: r => by
    simp only [List.map_cons, insW, insK, h]
    split
    · rfl
    · simp [insW_map h x r]
theorem sortW_map {le : Dat → Dat → Bool} {le' : κ → κ → Bool} {f : κ → Dat} (h : ∀ a b, le (f a) (f b) = le' a b) : ∀ ks : List κ, sortW le (ks.map f) = (sortK le' ks).map f
  | [] => rfl
  | x :: r => by
    simp only [List.map_cons, sortW, sortK, sortW_map h r, insW_map h]
theorem insK_perm {le : κ → κ → Bool} {x : κ} : ∀ l : List κ, (insK le x l).Perm (x :: l)
  | [] => .refl _
  | y :: r => by
    unfold insK
    split
    · exact .refl _
    · exact ((insK_perm r).cons y).trans (.swap x y r)
theorem sortK_perm {le : κ → κ → Bool} : ∀ l : List κ, (sortK le l).Perm l
  | [] => .refl _
  | x :: r => (insK_perm _).trans ((sortK_perm r).cons x)
theorem sortK_mem {le : κ → κ → Bool} {l : List κ} {x : κ} : x ∈ sortK le l ↔ x ∈ l := (sortK_perm l).mem_iff
theorem sortK_len {le : κ → κ → Bool} {l : List κ} : (sortK le l).length = l.length := (sortK_perm l).length_eq
/-- a strict order -/
structure Ord (lt : κ → κ → Bool) : Prop where
  irr : ∀ a, lt a a = false
  tr : ∀ a b c, lt a b = true → lt b c = true → lt a c = true
  tri : ∀ a b, lt a b = false → lt b a = false → a = b
variable {lt : κ → κ → Bool}
theorem Ord.asy (o : Ord lt) {a b : κ} (h : lt a b = true) : lt b a = false := by
  cases h2 : lt b a with
  | false => rfl
  | true => have := o.tr a b a h h2; rw [o.irr] at this; cases this
/-- not behind -/
def leO (lt : κ → κ → Bool) (a b : κ) : Bool := !lt b a
theorem Ord.letr (o : Ord lt) {a b c : κ} (h : leO lt a b = true) (h2 : leO lt b c = true) : leO lt a c = true := by
  unfold leO at *
  simp only [Bool.not_eq_true'] at *
  cases h3 : lt c a with
  | false => rfl
  | true =>
    cases h4 : lt a b with
    | true => have := o.tr c a b h3 h4; rw [this] at h2; cases h2
    | false => have := o.tri a b h4 h; subst this; rw [h3] at h2; cases h2
theorem sortK_of {l : List κ} (h : l.Pairwise fun a b => leO lt a b = true) : sortK (leO lt) l = l := by
  induction l with
  | nil => rfl
  | cons x r ih =>
    obtain ⟨h1, h2⟩ := List.pairwise_cons.mp h
    rw [sortK, ih h2]
    cases r with
    | nil => rfl
    | cons y t => rw [insK, if_pos (h1 y (by simp))]
theorem insK_pair (o : Ord lt) {x : κ} : ∀ {l : List κ}, l.Pairwise (fun a b => leO lt a b = true) → (insK (leO lt) x l).Pairwise fun a b => leO lt a b = true
  | [], _ => by simp [insK]
  | y :: r, p => by
    obtain ⟨p1, p2⟩ := List.pairwise_cons.mp p
    unfold insK
    split
    · rename_i h
      refine List.pairwise_cons.mpr ⟨fun z hz => ?_, p⟩
      rcases List.mem_cons.mp hz with rfl | hz
      · exact h
      · exact o.letr h (p1 z hz)
    · rename_i h
      refine List.pairwise_cons.mpr ⟨fun z hz => ?_, insK_pair o p2⟩
      rcases List.mem_cons.mp ((insK_perm _).mem_iff.mp hz) with rfl | hz
      · have : lt y z = true := by unfold leO at h; simpa using h
        unfold leO; rw [o.asy this]; rfl
      · exact p1 z hz
theorem sortK_pair (o : Ord lt) : ∀ l : List κ, (sortK (leO lt) l).Pairwise fun a b => leO lt a b = true
  | [] => .nil
  | x :: r => insK_pair o (sortK_pair o r)
theorem asc_nodup (o : Ord lt) {l : List κ} (h : l.Pairwise fun a b => lt a b = true) : l.Nodup := h.imp fun {a b} hab e => by subst e; rw [o.irr] at hab; cases hab
theorem asc_le (o : Ord lt) {l : List κ} (h : l.Pairwise fun a b => lt a b = true) : l.Pairwise fun a b => leO lt a b = true := h.imp fun {a b} hab => by unfold leO; rw [o.asy hab]; rfl
theorem asc_of (o : Ord lt) {l : List κ} (h : l.Pairwise fun a b => leO lt a b = true) (n : l.Nodup) : l.Pairwise fun a b => lt a b = true :=
  (h.and n).imp fun {a b} ⟨h1, h2⟩ => by
    unfold leO at h1
    cases h3 : lt a b with
    | true => rfl
    | false => exact absurd (o.tri a b h3 (by simpa using h1)) h2
variable [DecidableEq κ]
theorem nubK_of : ∀ {l : List κ}, l.Nodup → nubK l = l
  | [], _ => rfl
  | x :: r, h => by
    obtain ⟨h1, h2⟩ := List.nodup_cons.mp h
    rw [nubK, nubK_of h2, if_neg h1]
theorem nubK_le : ∀ l : List κ, (nubK l).length ≤ l.length
  | [] => Nat.le_refl _
  | x :: r => by
    unfold nubK
    have := nubK_le r
    split <;> simp <;> omega
theorem nubK_len : ∀ l : List κ, (nubK l).length = l.length ↔ l.Nodup
  | [] => by simp [nubK]
  | x :: r => by
    unfold nubK
    have h1 := nubK_le r
    have ih := nubK_len r
    split
    · rename_i h
      rw [nubK_mem] at h
      simp [h]; omega
    · rename_i h
      rw [nubK_mem] at h
      simp [h, ih]
/-- each once and in order: just the ascending ones stay as they are -/
theorem sort_nub (o : Ord lt) (l : List κ) : l = sortK (leO lt) (nubK l) ↔ l.Pairwise fun a b => lt a b = true := by
  constructor
  · intro h
    rw [h]
    exact asc_of o (sortK_pair o _) ((sortK_perm _).nodup_iff.mpr (nubK_nodup l))
  · intro h
    rw [nubK_of (asc_nodup o h), sortK_of (asc_le o h)]
end
/-! ### texts -/
abbrev ltS (a b : List Nat) : Bool := decide (a < b)
theorem ltS_ord : Ord ltS where
  irr a := by simp [ltS, List.lt_irrefl]
  tr a b c h1 h2 := by
    simp [ltS] at *
    exact List.lt_trans h1 h2
  tri a b h1 h2 := by
    simp only [ltS, decide_eq_false_iff_not] at *
    exact List.le_antisymm (by simpa using h2) (by simpa using h1)
abbrev ltP (a b : List Nat × List Nat) : Bool := if a.1 = b.1 then ltS a.2 b.2 else ltS a.1 b.1
theorem ltP_ord : Ord ltP where
  irr a := by simp [ltP, ltS, List.lt_irrefl]
  tr a b c h1 h2 := by
    unfold ltP at *
    by_cases e1 : a.1 = b.1
    · by_cases e2 : b.1 = c.1
      · rw [if_pos e1] at h1
        rw [if_pos e2] at h2
        rw [if_pos (e1.trans e2)]
        exact ltS_ord.tr _ _ _ h1 h2
      · rw [if_neg e2] at h2
        rw [e1, if_neg e2]; exact h2
    · rw [if_neg e1] at h1
      by_cases e2 : b.1 = c.1
      · rw [← e2, if_neg e1]; exact h1
      · rw [if_neg e2] at h2
        have h3 := ltS_ord.tr _ _ _ h1 h2
        have : a.1 ≠ c.1 := fun e => by rw [e, ltS_ord.irr] at h3; cases h3
        rw [if_neg this]; exact h3
  tri a b h1 h2 := by
    unfold ltP at *
    by_cases e1 : a.1 = b.1
    · rw [if_pos e1] at h1
      rw [if_pos e1.symm] at h2
      exact Prod.ext e1 (ltS_ord.tri _ _ h1 h2)
    · rw [if_neg e1] at h1
      rw [if_neg fun e => e1 e.symm] at h2
      exact absurd (ltS_ord.tri _ _ h1 h2) e1
theorem dLe_str (a b : List Nat) : dLe (.str a) (.str b) = leO ltS a b := rfl
theorem dLe_pD (a b : List Nat × List Nat) : dLe (pD a) (pD b) = leO ltP a b := by
  unfold dLe leO pD
  congr 1
  simp only [dLt, dLts, k0, dLt0, ltP]
  by_cases e : b.1 = a.1
  · simp [e]
    by_cases e2 : b.2 = a.2 <;> simp [e2, List.lt_irrefl]
  · simp [e]
theorem k1_str (a b : List Nat) : k1 (.str a) (.str b) = decide (a = b) := by
  simp only [k1]
  by_cases e : a = b <;> simp [e]
theorem k1_pD (a b : List Nat × List Nat) : k1 (pD a) (pD b) = decide (a = b) := by
  obtain ⟨a1, a2⟩ := a
  obtain ⟨b1, b2⟩ := b
  simp only [pD, k1, k0s, k0]
  by_cases e : a1 = b1 <;> by_cases e2 : a2 = b2 <;> simp [e, e2]
theorem nub_str (ws : List (List Nat)) : nubD (sD ws) = sD (nubK ws) := nub_map k1_str ws
theorem nub_pD (ws : List (List Nat × List Nat)) : nubD (ws.map pD) = (nubK ws).map pD := nub_map k1_pD ws
theorem sort_str (ws : List (List Nat)) : sortI (sD ws) = sD (sortK (leO ltS) ws) := sortW_map dLe_str ws
theorem sort_pD (ws : List (List Nat × List Nat)) : sortI (ws.map pD) = (sortK (leO ltP) ws).map pD := sortW_map dLe_pD ws
theorem keysD_str : ∀ ws : List (List Nat), (keysD (sD ws)).isSome = true
  | [] => rfl
  | w :: r => by
    have ih := keysD_str r
    unfold sD at ih ⊢
    rw [List.map_cons, keysD]
    cases h : keysD (r.map .str) with
    | none => rw [h] at ih; cases ih
    | some ks => rfl
theorem keysT_pD : ∀ ws : List (List Nat × List Nat), (keysT (ws.map pD)).isSome = true
  | [] => rfl
  | w :: r => by
    have ih := keysT_pD r
    rw [List.map_cons, keysT]
    cases h : keysT (r.map pD) with
    | none => rw [h] at ih; cases ih
    | some ks => rfl
theorem keyable_str {ws : List (List Nat)} (h : ws.length ≤ 4000) : keyable (sD ws) = true := by
  unfold keyable
  rw [keysD_str]
  have : (sD ws).length = ws.length := by simp [sD]
  rw [this, decide_eq_true (by omega)]
  rfl
theorem keyable_pD {ws : List (List Nat × List Nat)} (h : ws.length ≤ 60) : keyable (ws.map pD) = true := by
  unfold keyable
  rw [keysT_pD, List.length_map]
  simp; right; omega
theorem srtOk_str (ws : List (List Nat)) : srtOk (sD ws) = true := by
  unfold srtOk
  have : (sD ws).all isStr = true := by
    rw [List.all_eq_true]
    intro d hd
    obtain ⟨w, _, rfl⟩ := List.mem_map.mp hd
    rfl
  rw [this]; rfl
theorem srtOk_pD (ws : List (List Nat × List Nat)) : srtOk (ws.map pD) = true := by
  unfold srtOk
  have : (ws.map pD).all isTupS = true := by
    rw [List.all_eq_true]
    intro d hd
    obtain ⟨w, _, rfl⟩ := List.mem_map.mp hd
    rfl
  rw [this]; simp
theorem eqAs_str (n : Nat) : ∀ (a b : List (List Nat)), a.length = b.length → eqAs n (sD a) (sD b) = some (a == b)
  | [], [], _ => by simp [sD, eqAs]
  | [], _ :: _, h => by simp at h
  | _ :: _, [], h => by simp at h
  | x :: xs, y :: ys, h => by
    have ih := eqAs_str n xs ys (by simpa using h)
    unfold sD at ih ⊢
    rw [List.map_cons, List.map_cons, eqAs, eqA_str, ih]
    simp only [List.cons_beq_cons]
theorem eqA_lst_str (n : Nat) (a b : List (List Nat)) : eqA (n + 1) (.lst (sD a)) (.lst (sD b)) = some (a == b) := by
  rw [eqA]
  have l1 : (sD a).length = a.length := by simp [sD]
  have l2 : (sD b).length = b.length := by simp [sD]
  rw [l1, l2]
  split
  · rename_i h; exact eqAs_str n a b h
  · rename_i h
    have : a ≠ b := fun e => h (by rw [e])
    simp [this]
theorem eqA_tup_pD (n : Nat) (a b : List Nat × List Nat) : eqA (n + 1) (pD a) (pD b) = some (a == b) := by
  obtain ⟨a1, a2⟩ := a
  obtain ⟨b1, b2⟩ := b
  unfold pD
  rw [eqA]
  simp only [eqAs, eqA_str, Option.map_some]
  simp only [Bool.and_true, List.length_cons, List.length_nil, BEq.rfl]
  rfl
theorem eqAs_pD (n : Nat) : ∀ (a b : List (List Nat × List Nat)), a.length = b.length → eqAs (n + 1) (a.map pD) (b.map pD) = some (a == b)
  | [], [], _ => by simp [eqAs]
  | [], _ :: _, h => by simp at h
  | _ :: _, [], h => by simp at h
  | x :: xs, y :: ys, h => by
    have ih := eqAs_pD n xs ys (by simpa using h)
    rw [List.map_cons, List.map_cons, eqAs, eqA_tup_pD, ih]
    simp only [List.cons_beq_cons]
theorem eqA_lst_pD (n : Nat) (a b : List (List Nat × List Nat)) : eqA (n + 2) (.lst (a.map pD)) (.lst (b.map pD)) = some (a == b) := by
  rw [eqA, List.length_map, List.length_map]
  split
  · rename_i h; exact eqAs_pD n a b h
  · rename_i h
    have : a ≠ b := fun e => h (by rw [e])
    simp [this]
/-- l == sorted(set(l)) -/
theorem kSortSetI_str (ws : List (List Nat)) (om : Om) (h : ws.length ≤ 4000) : (kSortSetI (.tup (sD ws)) om = .ok (.lst (sD (sortK (leO ltS) (nubK ws)))) om) ∧ kSortSetI (.lst (sD ws)) om = .ok (.lst (sD (sortK (leO ltS) (nubK ws)))) om := by
  unfold kSortSetI
  simp only [itemsD, keyable_str h, nub_str, srtOk_str, and_self, if_true, sort_str]
theorem kSortSetI_pD (ws : List (List Nat × List Nat)) (om : Om) (h : ws.length ≤ 60) : (kSortSetI (.tup (ws.map pD)) om = .ok (.lst ((sortK (leO ltP) (nubK ws)).map pD)) om) ∧ kSortSetI (.lst (ws.map pD)) om = .ok (.lst ((sortK (leO ltP) (nubK ws)).map pD)) om := by
  unfold kSortSetI
  simp only [itemsD, keyable_pD h, nub_pD, srtOk_pD, and_self, if_true, sort_pD]
theorem kLenSet_str (ws : List (List Nat)) (om : Om) (h : ws.length ≤ 4000) : (kLenSet (.tup (sD ws)) om = .ok (.int (nubK ws).length) om) ∧ kLenSet (.lst (sD ws)) om = .ok (.int (nubK ws).length) om := by
  unfold kLenSet
  have : (sD (nubK ws)).length = (nubK ws).length := by simp [sD]
  simp only [itemsD, keyable_str h, nub_str, if_true, this, and_self]
def ascS (ws : List (List Nat)) : Bool := decide (ws.Pairwise fun a b => ltS a b = true)
def ascP (ws : List (List Nat × List Nat)) : Bool := decide (ws.Pairwise fun a b => ltP a b = true)
theorem asc_str (ws : List (List Nat)) : (ws == sortK (leO ltS) (nubK ws)) = ascS ws := by
  have h := sort_nub ltS_ord ws
  unfold ascS
  by_cases e : ws.Pairwise fun a b => ltS a b = true
  · rw [decide_eq_true e]; exact beq_iff_eq.mpr (h.mpr e)
  · rw [decide_eq_false e]
    cases h2 : ws == sortK (leO ltS) (nubK ws) with
    | false => rfl
    | true => exact absurd (h.mp (beq_iff_eq.mp h2)) e
theorem asc_pD (ws : List (List Nat × List Nat)) : (ws == sortK (leO ltP) (nubK ws)) = ascP ws := by
  have h := sort_nub ltP_ord ws
  unfold ascP
  by_cases e : ws.Pairwise fun a b => ltP a b = true
  · rw [decide_eq_true e]; exact beq_iff_eq.mpr (h.mpr e)
  · rw [decide_eq_false e]
    cases h2 : ws == sortK (leO ltP) (nubK ws) with
    | false => rfl
    | true => exact absurd (h.mp (beq_iff_eq.mp h2)) e
end DL
end Part_KEY
section Part_EV2
set_option maxRecDepth 100000
/-! walks step by step, cells, what a call hands back -/
namespace DL
open PySem PySem.Spec PyProof.Rows L2
theorem forL_nil (g : GD) (b : SD) (env : En) (om : Om) : forL g b [] env om = .nx env om := rfl
theorem forL_nx {g : GD} {b : SD} {x : Dat} {xs : List Dat} {env env1 env2 : En} {om om1 om2 : Om} (h1 : g x env om = .ok env1 om1) (h2 : b env1 om1 = .nx env2 om2) : forL g b (x :: xs) env om = forL g b xs env2 om2 := by
  rw [forL, h1]; simp only [h2]
theorem forL_ret {g : GD} {b : SD} {x : Dat} {xs : List Dat} {env env1 : En} {om om1 om2 : Om} {d : Dat} (h1 : g x env om = .ok env1 om1) (h2 : b env1 om1 = .ret d om2) : forL g b (x :: xs) env om = .ret d om2 := by
  rw [forL, h1]; simp only [h2]
theorem forL_exc {g : GD} {b : SD} {x : Dat} {xs : List Dat} {env env1 env2 : En} {om om1 om2 : Om} {e : Exc} (h1 : g x env om = .ok env1 om1) (h2 : b env1 om1 = .exc e env2 om2) : forL g b (x :: xs) env om = .exc e env2 om2 := by
  rw [forL, h1]; simp only [h2]
theorem sFor_ok {fi : En → Om → R (List Dat)} {g : GD} {b : SD} {env : En} {om om1 : Om} {xs : List Dat} (h : fi env om = .ok xs om1) : sFor fi g b env om = forL g b xs env om1 := by
  unfold sFor; rw [h]
theorem sFor_exc {fi : En → Om → R (List Dat)} {g : GD} {b : SD} {env : En} {om om1 : Om} {e : Exc} (h : fi env om = .exc e om1) : sFor fi g b env om = .exc e env om1 := by
  unfold sFor; rw [h]
theorem cellM_at {k : Nat → List Dat → Dat → Om → R Dat} {f g : DV} {env : En} {om om2 : Om} {i : Nat} {xs ys : List Dat} {d : Dat} (h1 : f env om = .ok (.cell i) om) (h2 : om[i]? = some (.lst xs)) (h3 : g env om = .ok d om2) (h4 : om2[i]? = some (.lst ys)) : eCellM k f g env om = k i ys d om2 := by
  unfold eCellM
  rw [h1]
  simp only [R.bind_ok, h2, h3, h4]
theorem get_last (om : Om) (d : Dat) : (om ++ [d])[om.length]? = some d := by simp
theorem set_last (om : Om) (c d : Dat) : (om ++ [c]).set om.length d = om ++ [d] := by simp
theorem take_last (om : Om) (c : Dat) : (om ++ [c]).take om.length = om := by simp
/-! ### data without cells -/
def flat : Nat → Dat → Bool
  | 0, d => match d with
    | .non => true
    | .bl _ => true
    | .int _ => true
    | .str _ => true
    | _ => false
  | k + 1, d => match d with
    | .non => true
    | .bl _ => true
    | .int _ => true
    | .str _ => true
    | .tup xs => xs.all (flat k)
    | .lst xs => xs.all (flat k)
    | .frl xs => xs.all (flat k)
    | .wt xs => xs.all (flat k)
    | .dct _ ds => ds.all (flat k)
    | .ins _ ds => ds.all (flat k)
    | .cell _ => false
theorem mapO_id {f : Dat → Option Dat} : ∀ {xs : List Dat}, (∀ x ∈ xs, f x = some x) → mapO f xs = some xs
  | [], _ => rfl
  | x :: r, h => by rw [mapO, h x (by simp), mapO_id fun y hy => h y (by simp [hy])]
theorem fin1_flat (n : Nat) (om : Om) : ∀ (k : Nat) (d : Dat), flat k d = true → fin1 n om k d = some d
  | 0, d, h => by
    cases d <;> first | rfl | simp [flat] at h
  | k + 1, d, h => by
    have m : ∀ xs : List Dat, xs.all (flat k) = true → mapO (fin1 n om k) xs = some xs := fun xs hx => mapO_id fun x hm => fin1_flat n om k x (List.all_eq_true.mp hx x hm)
    cases d with
    | non => rfl
    | bl b => rfl
    | int i => rfl
    | str x => rfl
    | tup xs => rw [fin1, m xs (by simpa [flat] using h)]; rfl
    | wt xs => rw [fin1, m xs (by simpa [flat] using h)]; rfl
    | lst xs => rw [fin1, m xs (by simpa [flat] using h)]; rfl
    | frl xs => rw [fin1, m xs (by simpa [flat] using h)]; rfl
    | dct ks ds => rw [fin1, m ds (by simpa [flat] using h)]; rfl
    | ins c fs => rw [fin1, m fs (by simpa [flat] using h)]; rfl
    | cell i => simp [flat] at h
theorem flat_more : ∀ {k m : Nat} {d : Dat}, k ≤ m → flat k d = true → flat m d = true
  | 0, m, d, _, h => by cases d <;> first | (cases m <;> rfl) | simp [flat] at h
  | k + 1, 0, d, hm, h => by omega
  | k + 1, m + 1, d, hm, h => by
    have g : ∀ xs : List Dat, xs.all (flat k) = true → xs.all (flat m) = true := fun xs hx => by
      rw [List.all_eq_true] at *
      exact fun x hh => flat_more (by omega) (hx x hh)
    cases d with
    | tup xs => exact g xs h
    | wt xs => exact g xs h
    | lst xs => exact g xs h
    | frl xs => exact g xs h
    | dct ks ds => exact g ds h
    | ins c ds => exact g ds h
    | cell i => simp [flat] at h
    | _ => rfl
theorem okN_flat {n : Nat} : ∀ (k : Nat) (d : Dat), flat k d = true → okN n d = true
  | 0, d, h => by cases d <;> first | rfl | simp [flat] at h
  | k + 1, d, h => by
    have g : ∀ xs : List Dat, xs.all (flat k) = true → okNs n xs = true := fun xs => by
      induction xs with
      | nil => intro _; rfl
      | cons x r ih =>
        intro hx
        simp only [List.all_cons, Bool.and_eq_true] at hx
        rw [okNs, okN_flat k x hx.1, ih hx.2]; rfl
    cases d with
    | tup xs => exact g xs h
    | wt xs => exact g xs h
    | lst xs => exact g xs h
    | frl xs => exact g xs h
    | dct ks ds => exact g ds h
    | ins c ds => exact g ds h
    | cell i => simp [flat] at h
    | _ => rfl
mutual
theorem okN_more {n m : Nat} : ∀ {d : Dat}, okN n d = true → n ≤ m → okN m d = true
  | .tup xs, h, hm => okNs_more (xs := xs) h hm
  | .wt xs, h, hm => okNs_more (xs := xs) h hm
  | .lst xs, h, hm => okNs_more (xs := xs) h hm
  | .frl xs, h, hm => okNs_more (xs := xs) h hm
  | .dct _ xs, h, hm => okNs_more (xs := xs) h hm
  | .ins _ xs, h, hm => okNs_more (xs := xs) h hm
  | .cell i, h, hm => by
    simp [okN] at *; omega
  | .non, _, _ => rfl
  | .bl _, _, _ => rfl
  | .int _, _, _ => rfl
  | .str _, _, _ => rfl
theorem okNs_more {n m : Nat} : ∀ {xs : List Dat}, okNs n xs = true → n ≤ m → okNs m xs = true
  | [], _, _ => rfl
  | x :: r, h, hm => by
    simp only [okNs, Bool.and_eq_true] at *
    exact ⟨okN_more h.1 hm, okNs_more h.2 hm⟩
end
/-- all cells point into the store -/
def okOm (om : Om) : Prop := okNs om.length om = true
theorem finR_more {om t : Om} {d : Dat} (ok : okOm om) (h : flat 60 d = true) : finR false om.length d (om ++ t) = .ok d om := by
  unfold finR
  by_cases e : (om ++ t).length = om.length
  · have : t = [] := by simpa using e
    subst this
    simp
  · rw [if_neg (by simp only [Bool.false_eq_true, false_or]; exact e), fin1_flat _ _ _ _ h]
    have : (om ++ t).take om.length = om := by simp
    simp only [this]
    exact if_pos ok
theorem finE_more {om t : Om} {e : Exc} (ok : okOm om) (h : ∀ d, e.arg = some d → flat 60 d = true) : finE false om.length e (om ++ t) = .exc e om := by
  unfold finE
  by_cases q : (om ++ t).length = om.length
  · have : t = [] := by simpa using q
    subst this
    simp
  · rw [if_neg (by simp only [Bool.false_eq_true, false_or]; exact q)]
    have e1 : (om ++ t).take om.length = om := by simp
    cases e with
    | mk c a =>
      cases a with
      | none =>
        simp only [finO, e1]
        exact if_pos ok
      | some d =>
        simp only [finO, fin1_flat _ _ _ _ (h d rfl), Option.map_some, e1]
        exact if_pos ok
theorem flat_tup (k : Nat) (xs : List Dat) : flat (k + 1) (.tup xs) = xs.all (flat k) := rfl
theorem flat_str (k : Nat) (x : List Nat) : flat k (.str x) = true := by cases k <;> rfl
theorem flat_int (k : Nat) (x : Int) : flat k (.int x) = true := by cases k <;> rfl
theorem flat_non (k : Nat) : flat k .non = true := by cases k <;> rfl
theorem flat_bl (k : Nat) (b : Bool) : flat k (.bl b) = true := by cases k <;> rfl
theorem flat_pD (k : Nat) (p : List Nat × List Nat) : flat (k + 1) (pD p) = true := by simp [pD, flat, flat_str]
end DL
end Part_EV2
section Part_C1
set_option maxRecDepth 100000
namespace K70
open PySem PySem.Spec PyProof.Rows L2 DL
abbrev W := List Nat
abbrev LTR : List Nat := [97, 98, 99, 100, 101, 102, 103, 104, 105, 106, 107, 108, 109, 110, 111, 112, 113, 114, 115, 116, 117, 118, 119, 120, 121, 122]
abbrev DGT : List Nat := [48, 49, 50, 51, 52, 53, 54, 55, 56, 57]
def isW (x : W) : Bool := decide (1 ≤ x.length) && decide (x.length ≤ 8) && x.all fun c => decide (c ∈ LTR)
theorem is_word_str (x : W) (om : Om) (hl : x.length ≤ 1000000) : f_is_word [.str x] om = .ok (.bl (isW x)) om := by
  have e : lcL (gN 1) tYesD (e2 kInS (eVar 1) (eC dLETTERS)) (x.map fun c => .str [c]) [some (.str x), none] om [] = .ok (x.map fun c => .bl (decide (c ∈ LTR))) om :=
    lcL_mapM (α := Nat) _ _ hl fun c hc => ⟨_, rfl, by simp only [evs, ↓reduceIte, Nat.reduceAdd, Nat.reduceSub, List.reduceReplicate, Nat.reduceLeDiff, Bool.false_eq_true, reduceCtorEq, dLETTERS]⟩
  unfold f_is_word b_is_word
  simp only [evs, ↓reduceIte, Nat.reduceAdd, Nat.reduceSub, List.reduceReplicate, Nat.reduceLeDiff, Bool.false_eq_true, reduceCtorEq, fnD_ev, hl, dMAX_LETTERS, e, kAll_all]
  unfold isW
  congr 4
  · simp; omega
  · simp; omega
theorem is_word_non (om : Om) : f_is_word [.non] om = .ok (.bl false) om := by
  unfold f_is_word b_is_word
  simp only [evs, ↓reduceIte, Nat.reduceAdd, Nat.reduceSub, List.reduceReplicate, Nat.reduceLeDiff, Bool.false_eq_true, reduceCtorEq, fnD_ev]
/-! ### numbers -/
def numS : W → Option Nat
  | [a] => if a ∈ DGT then some (a - 48) else none
  | [a, b] => if a ∈ DGT ∧ b ∈ DGT ∧ a ≠ 48 then some (10 * (a - 48) + (b - 48)) else none
  | _ => none
def numT (n : Nat) : W := if n < 10 then [48 + n] else [48 + n / 10, 48 + n % 10]
theorem digs_numT : ∀ n : Nat, n < 100 → digs (n : Int) = numT n := by decide +kernel
theorem numS_numT : ∀ n : Nat, n < 100 → numS (numT n) = some n := by decide +kernel
theorem numT_numS {x : W} {n : Nat} (h : numS x = some n) : numT n = x ∧ n < 100 := by
  unfold numS at h
  split at h
  · rename_i a
    split at h
    · rename_i ha
      cases h
      have : ∀ a ∈ DGT, numT (a - 48) = [a] ∧ a - 48 < 100 := by decide +kernel
      exact this a ha
    · cases h
  · rename_i a b
    split at h
    · rename_i ha
      cases h
      have : ∀ a ∈ DGT, ∀ b ∈ DGT, a ≠ 48 → numT (10 * (a - 48) + (b - 48)) = [a, b] ∧ 10 * (a - 48) + (b - 48) < 100 := by decide +kernel
      exact this a ha.1 b ha.2.1 ha.2.2
    · cases h
  · cases h
def numD : Option Nat → Dat
  | some n => .int n
  | none => .non
theorem int_one : ∀ a ∈ DGT, PySem.intText? ⟨[a].toArray⟩ = some ((a - 48 : Nat) : Int) := by decide +kernel
theorem int_two : ∀ a ∈ DGT, ∀ b ∈ DGT, PySem.intText? ⟨[a, b].toArray⟩ = some ((10 * (a - 48) + (b - 48) : Nat) : Int) := by decide +kernel
theorem one_fact : ∀ a ∈ DGT, (((a - 48 : Nat) : Int).natAbs.log2 < 1920) ∧ digs ((a - 48 : Nat) : Int) = [a] := by decide +kernel
theorem two_fact : ∀ a ∈ DGT, ∀ b ∈ DGT, (((10 * (a - 48) + (b - 48) : Nat) : Int).natAbs.log2 < 1920) ∧ (digs ((10 * (a - 48) + (b - 48) : Nat) : Int) == [a, b]) = decide (a ≠ 48) := by decide +kernel
theorem number_told_str (x : W) (om : Om) (hl : x.length ≤ 1000000) : f_number_told [.str x] om = .ok (numD (numS x)) om := by
  have e : lcL (gN 1) tYesD (e2 kInS (eVar 1) (eC dDIGITS)) (x.map fun c => .str [c]) [some (.str x), none] om [] = .ok (x.map fun c => .bl (decide (c ∈ DGT))) om :=
    lcL_mapM (α := Nat) _ _ hl fun c hc => ⟨_, rfl, by simp only [evs, ↓reduceIte, Nat.reduceAdd, Nat.reduceSub, List.reduceReplicate, Nat.reduceLeDiff, Bool.false_eq_true, reduceCtorEq, dDIGITS]⟩
  unfold f_number_told b_number_told
  simp only [evs, ↓reduceIte, Nat.reduceAdd, Nat.reduceSub, List.reduceReplicate, Nat.reduceLeDiff, Bool.false_eq_true, reduceCtorEq, fnD_ev, hl, e, kAll_all]
  match x with
  | [] => simp [numS, numD, evs]
  | [a] =>
    by_cases ha : a ∈ DGT
    · have h1 := int_one a ha
      obtain ⟨h2, h3⟩ := one_fact a ha
      have h4 : (1 : Int) ≤ ((1 : Nat) : Int) ∧ ((1 : Nat) : Int) ≤ 2 := by omega
      simp only [evs, ↓reduceIte, Nat.reduceAdd, Nat.reduceSub, List.reduceReplicate, Nat.reduceLeDiff, Bool.false_eq_true, reduceCtorEq, ha, decide_true, List.all_cons, List.all_nil, kIntOf, h1, h2, h3, BEq.rfl, h4.1, h4.2, numS, numD]
    · have h4 : (1 : Int) ≤ ((1 : Nat) : Int) ∧ ((1 : Nat) : Int) ≤ 2 := by omega
      simp only [evs, ↓reduceIte, Nat.reduceAdd, Nat.reduceSub, List.reduceReplicate, Nat.reduceLeDiff, Bool.false_eq_true, reduceCtorEq, ha, decide_true, decide_false, List.all_cons, List.all_nil, h4.1, h4.2, numS, numD]
  | [a, b] =>
    have h4 : (1 : Int) ≤ ((2 : Nat) : Int) ∧ ((2 : Nat) : Int) ≤ 2 := by omega
    by_cases ha : a ∈ DGT
    · by_cases hb : b ∈ DGT
      · have h1 := int_two a ha b hb
        obtain ⟨h2, h3⟩ := two_fact a ha b hb
        simp only [evs, ↓reduceIte, Nat.reduceAdd, Nat.reduceSub, List.reduceReplicate, Nat.reduceLeDiff, Bool.false_eq_true, reduceCtorEq, ha, hb, decide_true, List.all_cons, List.all_nil, kIntOf, h1, h2, h3, BEq.rfl, h4.1, h4.2, numS, numD]
        by_cases h5 : a = 48 <;> simp [h5, numD]
      · simp only [evs, ↓reduceIte, Nat.reduceAdd, Nat.reduceSub, List.reduceReplicate, Nat.reduceLeDiff, Bool.false_eq_true, reduceCtorEq, ha, hb, decide_true, decide_false, List.all_cons, List.all_nil, h4.1, h4.2, numS, numD, false_and]
    · simp only [evs, ↓reduceIte, Nat.reduceAdd, Nat.reduceSub, List.reduceReplicate, Nat.reduceLeDiff, Bool.false_eq_true, reduceCtorEq, ha, decide_true, decide_false, List.all_cons, List.all_nil, h4.1, h4.2, numS, numD, false_and]
  | a :: b :: c :: r =>
    have h4 : ¬ (((r.length + 1 + 1 + 1 : Nat) : Int) ≤ 2) := by omega
    simp only [evs, ↓reduceIte, Nat.reduceAdd, Nat.reduceSub, List.reduceReplicate, Nat.reduceLeDiff, Bool.false_eq_true, reduceCtorEq, h4, decide_false, numS, numD]
/-! ### pairs -/
theorem is_words_str (ws : List W) (n : Int) (om : Om) (hl : ws.length ≤ 1000000) (hw : ∀ w ∈ ws, w.length ≤ 1000000) : f_is_words [.tup (sD ws), .int n] om = .ok (.bl ((ws.length : Int) == n && ws.all isW)) om := by
  have e : lcL (gN 2) tYesD (eCall 1 [] f_is_word (aCons (eVar 2) (aNil))) (ws.map .str) [some (.tup (sD ws)), some (.int n), none] om [] = .ok (ws.map fun w => .bl (isW w)) om :=
    lcL_mapM (α := W) _ _ hl fun c hc => ⟨_, rfl, by simp only [evs, ↓reduceIte, Nat.reduceAdd, Nat.reduceSub, List.reduceReplicate, Nat.reduceLeDiff, Bool.false_eq_true, reduceCtorEq, is_word_str c om (hw c hc)]⟩
  unfold f_is_words b_is_words
  have e2 := e
  unfold sD at e2 ⊢
  simp only [evs, ↓reduceIte, Nat.reduceAdd, Nat.reduceSub, List.reduceReplicate, Nat.reduceLeDiff, Bool.false_eq_true, reduceCtorEq, fnD_ev, e2, kAll_all, List.length_map]
theorem is_words_non (n : Int) (om : Om) : f_is_words [.non, .int n] om = .ok (.bl false) om := by
  unfold f_is_words b_is_words
  simp only [evs, ↓reduceIte, Nat.reduceAdd, Nat.reduceSub, List.reduceReplicate, Nat.reduceLeDiff, Bool.false_eq_true, reduceCtorEq, fnD_ev]
def leW (a b : W) : Bool := !decide (b < a)
theorem low_pair (p : W × W) (om : Om) (h1 : p.1.length ≤ 1000000) (h2 : p.2.length ≤ 1000000) : f_is_low_pair [pD p] om = .ok (.bl (isW p.1 && isW p.2 && leW p.1 p.2)) om := by
  have e := is_words_str [p.1, p.2] 2 om (by simp) (by simp [h1, h2])
  unfold f_is_low_pair b_is_low_pair
  unfold sD at e
  simp only [evs, ↓reduceIte, Nat.reduceAdd, Nat.reduceSub, List.reduceReplicate, Nat.reduceLeDiff, Bool.false_eq_true, reduceCtorEq] at e
  unfold pD
  simp only [evs, ↓reduceIte, Nat.reduceAdd, Nat.reduceSub, List.reduceReplicate, Nat.reduceLeDiff, Bool.false_eq_true, reduceCtorEq, fnD_ev, e, atD_0, atD_1, List.all_cons, List.all_nil]
  unfold leW
  simp
theorem low_pair_non (om : Om) : f_is_low_pair [.non] om = .ok (.bl false) om := by
  unfold f_is_low_pair b_is_low_pair
  simp only [evs, ↓reduceIte, Nat.reduceAdd, Nat.reduceSub, List.reduceReplicate, Nat.reduceLeDiff, Bool.false_eq_true, reduceCtorEq, fnD_ev, is_words_non]
/-- halves -/
def hv (c : Nat) (x : W) : Option (W × W) := match sp c x with
  | [a, b] => some (a, b)
  | _ => none
def oD : Option (W × W) → Dat
  | some p => pD p
  | none => .non
theorem halves_by (c : Nat) (x : W) (om : Om) (hc : c < 256) (hl : x.length ≤ 900000) : f_halves_by [.str x, .str [c]] om = .ok (oD (hv c x)) om := by
  unfold f_halves_by b_halves_by
  simp only [evs, ↓reduceIte, Nat.reduceAdd, Nat.reduceSub, List.reduceReplicate, Nat.reduceLeDiff, Bool.false_eq_true, reduceCtorEq, fnD_ev, kSplit_sp c x om hc (by omega)]
  unfold hv
  have h3 := sp_count c x
  match e : sp c x with
  | [] => exact absurd e (sp_ne c x)
  | [a] => simp [evs, oD]
  | [a, b] => simp [evs, oD, pD, atD_0, atD_1]
  | a :: b :: d :: r =>
    have : ¬ ((r.length : Int) + 1 + 1 + 1 = 2) := by omega
    simp [evs, oD, this]
theorem hv_some {c : Nat} {x : W} {p : W × W} (h : hv c x = some p) : x = p.1 ++ c :: p.2 ∧ c ∉ p.1 ∧ c ∉ p.2 := by
  unfold hv at h
  split at h
  · rename_i a b e
    cases h
    have := sp_join c x
    rw [e] at this
    refine ⟨?_, sp_no c x a (by simp [e]), sp_no c x b (by simp [e])⟩
    rw [← this]; simp [TL.joinL]
  · cases h
theorem hv_mk {c : Nat} {a b : W} (h1 : c ∉ a) (h2 : c ∉ b) : hv c (a ++ c :: b) = some (a, b) := by
  unfold hv
  rw [sp_app c a b h1, sp_of_no c b h2]
theorem hv_len {c : Nat} {x : W} {p : W × W} (h : hv c x = some p) : p.1.length + p.2.length + 1 = x.length := by
  rw [(hv_some h).1]; simp; omega
def prS (x : W) : Option (W × W) := match hv 45 x with
  | some p => if isW p.1 = true ∧ isW p.2 = true ∧ leW p.1 p.2 = true then some p else none
  | none => none
theorem pair_told (x : W) (om : Om) (hl : x.length ≤ 900000) : f_pair_told [.str x] om = .ok (oD (prS x)) om := by
  unfold f_pair_told b_pair_told
  simp only [evs, ↓reduceIte, Nat.reduceAdd, Nat.reduceSub, List.reduceReplicate, Nat.reduceLeDiff, Bool.false_eq_true, reduceCtorEq, fnD_ev, halves_by 45 x om (by omega) hl]
  unfold prS
  match e : hv 45 x with
  | none => simp only [evs, ↓reduceIte, Nat.reduceAdd, Nat.reduceSub, List.reduceReplicate, Nat.reduceLeDiff, Bool.false_eq_true, reduceCtorEq, oD]
  | some p =>
    have h := hv_len e
    have h2 := low_pair p om (by omega) (by omega)
    unfold pD at h2
    unfold oD pD
    simp only [evs, ↓reduceIte, Nat.reduceAdd, Nat.reduceSub, List.reduceReplicate, Nat.reduceLeDiff, Bool.false_eq_true, reduceCtorEq, h2]
    by_cases h3 : isW p.1 = true ∧ isW p.2 = true ∧ leW p.1 p.2 = true
    · simp [h3]
    · rw [if_neg h3, if_neg]
      simp only [Bool.and_eq_true]
      exact fun z => h3 ⟨z.1.1, z.1.2, z.2⟩
/-! ### ways -/
def fwS (ws : List W) : Bool := decide (2 ≤ ws.length) && ws.all isW && decide ws.Nodup
theorem far_way (ws : List W) (om : Om) (hl : ws.length ≤ 4000) (hw : ∀ w ∈ ws, w.length ≤ 1000000) : f_is_far_way [.tup (sD ws)] om = .ok (.bl (fwS ws)) om := by
  have e := is_words_str ws ws.length om (by omega) hw
  have h0 : (sD ws).length = ws.length := by simp [sD]
  unfold f_is_far_way b_is_far_way
  simp only [evs, ↓reduceIte, Nat.reduceAdd, Nat.reduceSub, List.reduceReplicate, Nat.reduceLeDiff, Bool.false_eq_true, reduceCtorEq, fnD_ev, h0, e, (kLenSet_str ws om hl).1]
  unfold fwS
  have h1 : ((ws.length : Int) < 2) ↔ ws.length < 2 := by omega
  by_cases h : ws.length < 2
  · have h2 : (ws.length : Int) < 2 := by omega
    have h3 : ¬ 2 ≤ ws.length := by omega
    simp [h2, h3]
  · have h2 : ¬ (ws.length : Int) < 2 := by omega
    have h3 : 2 ≤ ws.length := by omega
    simp only [h2, h3, decide_true, decide_false]
    by_cases h4 : ws.all isW = true
    · simp only [evs, ↓reduceIte, Nat.reduceAdd, Nat.reduceSub, List.reduceReplicate, Nat.reduceLeDiff, Bool.false_eq_true, reduceCtorEq, h4, BEq.rfl]
      have h5 : (((nubK ws).length : Int) == (ws.length : Int)) = decide ws.Nodup := by
        by_cases h6 : ws.Nodup
        · rw [(nubK_len ws).mpr h6]; simp [h6]
        · have : (nubK ws).length ≠ ws.length := fun e => h6 ((nubK_len ws).mp e)
          simp [h6]; omega
      rw [h5]
    · simp only [Bool.not_eq_true] at h4
      simp only [evs, ↓reduceIte, Nat.reduceAdd, Nat.reduceSub, List.reduceReplicate, Nat.reduceLeDiff, Bool.false_eq_true, reduceCtorEq, h4]
/-! ### triples -/
def triD (p : W × W) (n : Option Nat) : Dat := .tup [.str p.1, .str p.2, numD n]
theorem is_integer_int (i : Int) (om : Om) : f_is_integer [.int i] om = .ok (.bl (decide (-(10 ^ 60) < i) && decide (i < 10 ^ 60))) om := by
  unfold f_is_integer b_is_integer
  simp only [evs, ↓reduceIte, Nat.reduceAdd, Nat.reduceSub, List.reduceReplicate, Nat.reduceLeDiff, Bool.false_eq_true, reduceCtorEq, fnD_ev, dLONGEST]
theorem is_within_int (i a b : Int) (om : Om) (h1 : -(10 ^ 60) < i) (h2 : i < 10 ^ 60) : f_is_within [.int i, .int a, .int b] om = .ok (.bl (decide (a ≤ i) && decide (i ≤ b))) om := by
  unfold f_is_within b_is_within
  simp only [evs, ↓reduceIte, Nat.reduceAdd, Nat.reduceSub, List.reduceReplicate, Nat.reduceLeDiff, Bool.false_eq_true, reduceCtorEq, fnD_ev, is_integer_int, h1, h2, decide_true]
theorem cut_two {α : Type} (a b c : α) : DL.cutD [a, b, c] none (some 2) = [a, b] := by simp [DL.cutD, sIxD]
theorem counted (p : W × W) (n : Nat) (om : Om) (hn : n < 100) (h1 : p.1.length ≤ 1000000) (h2 : p.2.length ≤ 1000000) : f_is_counted [.tup [.str p.1, .str p.2, .int n]] om = .ok (.bl (isW p.1 && isW p.2 && ltS p.1 p.2)) om := by
  have e := is_words_str [p.1, p.2] 2 om (by simp) (by simp [h1, h2])
  unfold sD at e
  simp only [evs, ↓reduceIte, Nat.reduceAdd, Nat.reduceSub, List.reduceReplicate, Nat.reduceLeDiff, Bool.false_eq_true, reduceCtorEq] at e
  have e3 := is_within_int n 0 99 om (by omega) (by omega)
  have h3 : (0 : Int) ≤ n := by omega
  have h4 : (n : Int) ≤ 99 := by omega
  unfold f_is_counted b_is_counted
  simp only [evs, ↓reduceIte, Nat.reduceAdd, Nat.reduceSub, List.reduceReplicate, Nat.reduceLeDiff, Bool.false_eq_true, reduceCtorEq, fnD_ev, cut_two, e, e3, atD_0, atD_1, atD_2, h3, h4, decide_true, List.all_cons, List.all_nil]
  cases h5 : isW p.1 <;> cases h6 : isW p.2 <;> simp [h5, h6]
def cnS (c : Nat) (x : W) : Option ((W × W) × Nat) := match hv 58 x with
  | some (a, b) => match hv c a, numS b with
    | some p, some n => some (p, n)
    | _, _ => none
  | none => none
def cnD : Option ((W × W) × Nat) → Dat
  | some (p, n) => .tup [pD p, .int n]
  | none => .non
theorem counted_told (c : Nat) (x : W) (om : Om) (hc : c < 256) (hl : x.length ≤ 900000) : f_counted_told [.str x, .str [c]] om = .ok (cnD (cnS c x)) om := by
  unfold f_counted_told b_counted_told cnS
  simp only [evs, ↓reduceIte, Nat.reduceAdd, Nat.reduceSub, List.reduceReplicate, Nat.reduceLeDiff, Bool.false_eq_true, reduceCtorEq, fnD_ev, halves_by 58 x om (by omega) hl]
  match e : hv 58 x with
  | none => simp only [evs, ↓reduceIte, Nat.reduceAdd, Nat.reduceSub, List.reduceReplicate, Nat.reduceLeDiff, Bool.false_eq_true, reduceCtorEq, oD, cnD]
  | some (a, b) =>
    have h := hv_len e
    simp only at h
    simp only [evs, ↓reduceIte, Nat.reduceAdd, Nat.reduceSub, List.reduceReplicate, Nat.reduceLeDiff, Bool.false_eq_true, reduceCtorEq, oD, pD, atD_0, atD_1, halves_by c a om hc (by omega), number_told_str b om (by omega)]
    cases h1 : hv c a with
    | none => simp only [evs, ↓reduceIte, Nat.reduceAdd, Nat.reduceSub, List.reduceReplicate, Nat.reduceLeDiff, Bool.false_eq_true, reduceCtorEq, oD, cnD]
    | some p =>
      cases h2 : numS b with
      | none => simp only [evs, ↓reduceIte, Nat.reduceAdd, Nat.reduceSub, List.reduceReplicate, Nat.reduceLeDiff, Bool.false_eq_true, reduceCtorEq, oD, pD, numD, cnD]
      | some n => simp only [evs, ↓reduceIte, Nat.reduceAdd, Nat.reduceSub, List.reduceReplicate, Nat.reduceLeDiff, Bool.false_eq_true, reduceCtorEq, oD, pD, numD, cnD]
end K70
end Part_C1
section Part_C2
set_option maxRecDepth 100000
namespace K70
open PySem PySem.Spec PyProof.Rows L2 DL
theorem isW_len {x : W} (h : isW x = true) : 1 ≤ x.length ∧ x.length ≤ 8 := by
  unfold isW at h
  simp only [Bool.and_eq_true, decide_eq_true_eq] at h
  exact h.1
theorem isW_ltr {x : W} (h : isW x = true) {c : Nat} (hc : c ∈ x) : 97 ≤ c ∧ c ≤ 122 := by
  unfold isW at h
  simp only [Bool.and_eq_true] at h
  have := List.all_eq_true.mp h.2 c hc
  have k : ∀ c ∈ LTR, 97 ≤ c ∧ c ≤ 122 := by decide
  exact k c (by simpa using this)
theorem isW_okT {x : W} (h : isW x = true) : okT x = true := by
  unfold okT
  rw [List.all_eq_true]
  intro c hc
  have := isW_ltr h hc
  simp; omega
theorem isW_no {x : W} (h : isW x = true) {c : Nat} (hc : c < 97) : c ∉ x := fun z => by
  have := isW_ltr h z
  omega
/-! ### tuples of pairs -/
def lowO : Option (W × W) → Bool
  | some p => isW p.1 && isW p.2 && leW p.1 p.2
  | none => false
theorem low_pair_o (o : Option (W × W)) (om : Om) (h : ∀ p, o = some p → p.1.length ≤ 1000000 ∧ p.2.length ≤ 1000000) : f_is_low_pair [oD o] om = .ok (.bl (lowO o)) om := by
  cases o with
  | none => exact low_pair_non om
  | some p => exact low_pair p om (h p rfl).1 (h p rfl).2
theorem pair_tuple (os : List (Option (W × W))) (om : Om) (hl : os.length ≤ 1000000) (h : ∀ p, some p ∈ os → p.1.length ≤ 1000000 ∧ p.2.length ≤ 1000000) : f_is_pair_tuple [.tup (os.map oD)] om = .ok (.bl (os.all lowO)) om := by
  have e : lcL (gN 1) tYesD (eCall 1 [] f_is_low_pair (aCons (eVar 1) (aNil))) (os.map oD) [some (.tup (os.map oD)), none] om [] = .ok (os.map fun o => .bl (lowO o)) om :=
    lcL_mapM _ _ hl fun c hc => ⟨_, rfl, by simp only [evs, ↓reduceIte, Nat.reduceAdd, Nat.reduceSub, List.reduceReplicate, Nat.reduceLeDiff, Bool.false_eq_true, reduceCtorEq, low_pair_o c om fun p hp => h p (by rw [← hp]; exact hc)]⟩
  unfold f_is_pair_tuple b_is_pair_tuple
  simp only [evs, ↓reduceIte, Nat.reduceAdd, Nat.reduceSub, List.reduceReplicate, Nat.reduceLeDiff, Bool.false_eq_true, reduceCtorEq, fnD_ev, e, kAll_all]
theorem oD_some (ps : List (W × W)) : ps.map pD = (ps.map some).map oD := by rw [List.map_map]; rfl
/-! ### steps -/
inductive Itm where
  | w (x : W) | pr (p : W × W) | way (ws : List W) | tri (p : W × W) (n : Nat) | en (a : W) (n : Nat) | st (p : W × W) (n : Nat) | tie (a b : W) | pin (a : W) (ps : List (W × W))
deriving DecidableEq
abbrev TIE : W := [116, 105, 101]
abbrev PIN : W := [112, 105, 110, 99, 104]
def Itm.toD : Itm → Dat
  | .w x => .str x
  | .pr p => pD p
  | .way ws => .tup (sD ws)
  | .tri p n => .tup [.str p.1, .str p.2, .int n]
  | .en a n => .tup [.str a, .int n]
  | .st p n => .tup [pD p, .int n]
  | .tie a b => .tup [.str TIE, .str a, .str b]
  | .pin a ps => .tup [.str PIN, .str a, .tup (ps.map pD)]
def itD : Option Itm → Dat
  | some i => i.toD
  | none => .non
def pins (ts : List W) : Option (List (W × W)) := if ts ≠ [] ∧ ts.all (fun t => (prS t).isSome) = true then some (ts.filterMap prS) else none
def stS (x : W) : Option Itm := if 43 ∈ x then (match hv 43 x with
    | some (a, b) => if isW a = true ∧ isW b = true then some (.tie a b) else none
    | none => none)
  else match sp 61 x with
    | p :: ts => if isW p = true then (pins ts).map (.pin p) else none
    | [] => none
theorem prS_len {x : W} {p : W × W} (h : prS x = some p) : p.1.length ≤ x.length ∧ p.2.length ≤ x.length := by
  unfold prS at h
  split at h
  · rename_i q e
    split at h
    · cases h
      have := hv_len e
      omega
    · cases h
  · cases h
theorem prS_low {x : W} {p : W × W} (h : prS x = some p) : lowO (some p) = true := by
  unfold prS at h
  split at h
  · split at h
    · rename_i h2
      cases h
      simp [lowO, h2]
    · cases h
  · cases h
theorem prS_hv {x : W} {p : W × W} (h : prS x = some p) : hv 45 x = some p := by
  unfold prS at h
  split at h
  · rename_i e
    split at h
    · cases h; exact e
    · cases h
  · cases h
theorem lowO_prS (x : W) : lowO (prS x) = (prS x).isSome := by
  cases h : prS x with
  | none => rfl
  | some p => rw [prS_low h]; rfl
theorem is_step_non (om : Om) : f_is_step [.non] om = .ok (.bl false) om := by
  unfold f_is_step b_is_step
  simp only [evs, ↓reduceIte, Nat.reduceAdd, Nat.reduceSub, List.reduceReplicate, Nat.reduceLeDiff, Bool.false_eq_true, reduceCtorEq, fnD_ev]
theorem is_step_tie (a b : W) (om : Om) (h1 : a.length ≤ 1000000) (h2 : b.length ≤ 1000000) : f_is_step [.tup [.str TIE, .str a, .str b]] om = .ok (.bl (isW a && isW b)) om := by
  unfold f_is_step b_is_step
  simp only [evs, ↓reduceIte, Nat.reduceAdd, Nat.reduceSub, List.reduceReplicate, Nat.reduceLeDiff, Bool.false_eq_true, reduceCtorEq, fnD_ev, atD_0, atD_1, atD_2, is_word_str a om h1, is_word_str b om h2, BEq.rfl]
  cases h : isW a <;> simp [h]
theorem is_step_pin (a : W) (os : List (Option (W × W))) (om : Om) (h1 : a.length ≤ 1000000) (hl : os.length ≤ 1000000) (h : ∀ p, some p ∈ os → p.1.length ≤ 1000000 ∧ p.2.length ≤ 1000000) :
    f_is_step [.tup [.str PIN, .str a, .tup (os.map oD)]] om = .ok (.bl (isW a && (os.all lowO && !(os.length == 0)))) om := by
  unfold f_is_step b_is_step
  simp only [evs, ↓reduceIte, Nat.reduceAdd, Nat.reduceSub, List.reduceReplicate, Nat.reduceLeDiff, Bool.false_eq_true, reduceCtorEq, fnD_ev, atD_0, atD_1, atD_2, is_word_str a om h1, pair_tuple os om hl h]
  have e : (PIN == TIE) = false := by decide
  cases h2 : isW a with
  | false => rfl
  | true =>
    simp only [evs, ↓reduceIte, Nat.reduceAdd, Nat.reduceSub, List.reduceReplicate, Nat.reduceLeDiff, Bool.false_eq_true, reduceCtorEq, h2, BEq.rfl, e]
    cases h3 : os.all lowO with
    | false => simp [evs, h3]
    | true =>
      have ok : okPs 59 (os.map oD) = true := okPs_map _ _ _ fun o ho => by
        have := List.all_eq_true.mp h3 o ho
        cases o with
        | none => cases this
        | some p =>
          simp only [lowO, Bool.and_eq_true] at this
          show okP 59 (.tup [.str p.1, .str p.2]) = true
          rw [okP]
          simp only [okPs, okP_str, isW_okT this.1.1, isW_okT this.1.2, Bool.and_true]
      simp only [evs, ↓reduceIte, Nat.reduceAdd, Nat.reduceSub, List.reduceReplicate, Nat.reduceLeDiff, Bool.false_eq_true, reduceCtorEq, kNe_tup_nil _ _ ok]
      simp [evs, h3]
theorem kTuple_l (l : List Dat) (om : Om) : kTuple [.lst l] om = .ok (.tup l) om := rfl
theorem fm_os (ts : List W) (h : ts.all (fun t => (prS t).isSome) = true) : ((ts.filterMap prS).map pD) = (ts.map prS).map oD := by
  induction ts with
  | nil => rfl
  | cons t r ih =>
    simp only [List.all_cons, Bool.and_eq_true] at h
    obtain ⟨p, hp⟩ := Option.isSome_iff_exists.mp h.1
    rw [List.filterMap_cons, hp, List.map_cons, List.map_cons, List.map_cons, ih h.2, hp]
    rfl
theorem step_item (x : W) (om : Om) (hl : x.length ≤ 4000) : ∃ d, f_step_told [.str x] om = .ok d om ∧ (∃ b, f_is_step [d] om = .ok (.bl b) om ∧ (if b = true then d else .non) = itD (stS x)) := by
  unfold f_step_told b_step_told stS
  by_cases h : 43 ∈ x
  · simp only [evs, ↓reduceIte, Nat.reduceAdd, Nat.reduceSub, List.reduceReplicate, Nat.reduceLeDiff, Bool.false_eq_true, reduceCtorEq, fnD_ev, h, decide_true, if_pos, halves_by 43 x om (by omega) (by omega : x.length ≤ 900000)]
    cases e : hv 43 x with
    | none => exact ⟨_, by simp only [evs, ↓reduceIte, Nat.reduceAdd, Nat.reduceSub, List.reduceReplicate, Nat.reduceLeDiff, Bool.false_eq_true, reduceCtorEq, oD], false, is_step_non om, rfl⟩
    | some p =>
      obtain ⟨a, b⟩ := p
      have hh := hv_len e
      simp only at hh
      refine ⟨.tup [.str TIE, .str a, .str b], by simp only [evs, ↓reduceIte, Nat.reduceAdd, Nat.reduceSub, List.reduceReplicate, Nat.reduceLeDiff, Bool.false_eq_true, reduceCtorEq, oD, pD, evstar], isW a && isW b, is_step_tie a b om (by omega) (by omega), ?_⟩
      simp only [Bool.and_eq_true]
      split <;> rfl
  · simp only [evs, ↓reduceIte, Nat.reduceAdd, Nat.reduceSub, List.reduceReplicate, Nat.reduceLeDiff, Bool.false_eq_true, reduceCtorEq, fnD_ev, h, decide_false, kSplit_sp 61 x om (by omega) (by omega)]
    obtain ⟨p, ts, e⟩ := sp_cons 61 x
    have hp : p.length ≤ 4000 := Nat.le_trans (sp_len 61 x p (by rw [e]; simp)) hl
    have ht : ∀ t ∈ ts, t.length ≤ 4000 := fun t ht => Nat.le_trans (sp_len 61 x t (by rw [e]; simp [ht])) hl
    have hn : ts.length ≤ 4000 := by
      have := sp_count 61 x
      rw [e] at this
      simp at this; omega
    rw [e]
    have el : ∀ env : En, env.length = 5 → lcL (gN 4) tYesD (eCall 1 [] f_pair_told (aCons (eVar 4) (aNil))) (ts.map .str) env om [] = .ok (ts.map fun t => oD (prS t)) om := fun env he =>
      lcL_mapM (α := W) _ _ (by omega) fun t h => ⟨_, rfl, by
        match env, he with
        | [a, b, c, d, f], _ => simp only [evs, ↓reduceIte, Nat.reduceAdd, Nat.reduceSub, List.reduceReplicate, Nat.reduceLeDiff, Bool.false_eq_true, reduceCtorEq, pair_told t om (by have := ht t h; omega)]⟩
    refine ⟨.tup [.str PIN, .str p, .tup (ts.map fun t => oD (prS t))], ?_, ?_⟩
    · have h2 : ts.length + 1 ≤ 1000000 := by omega
      simp only [evs, ↓reduceIte, Nat.reduceAdd, Nat.reduceSub, List.reduceReplicate, Nat.reduceLeDiff, Bool.false_eq_true, reduceCtorEq, gStar_lst, el [some (.str x), none, some (.str p), some (.lst (ts.map .str)), none] rfl]
    · refine ⟨isW p && ((ts.map prS).all lowO && !((ts.map prS).length == 0)), ?_, ?_⟩
      · have := is_step_pin p (ts.map prS) om (by omega) (by simp; omega) (fun q hq => by
          obtain ⟨t, h1, h2⟩ := List.mem_map.mp hq
          have := prS_len h2
          have := ht t h1
          omega)
        rw [List.map_map] at this
        exact this
      · have e1 : (ts.map prS).all lowO = ts.all fun t => (prS t).isSome := by
          rw [List.all_map]
          congr 1
          funext t
          exact lowO_prS t
        rw [e1]
        simp only
        cases h2 : isW p with
        | false => simp [itD]
        | true =>
          unfold pins
          cases h3 : ts.all fun t => (prS t).isSome with
          | false => simp [itD]
          | true =>
            cases ts with
            | nil => simp [itD]
            | cons t r =>
              simp only [List.map_cons, List.length_cons, ne_eq, reduceCtorEq, not_false_eq_true, and_self, if_true, Option.map_some, itD, Itm.toD]
              have := fm_os (t :: r) h3
              simp only [List.map_cons] at this
              rw [this]
              simp
end K70
end Part_C2
section Part_C3
set_option maxRecDepth 100000
namespace K70
open PySem PySem.Spec PyProof.Rows L2 DL
theorem isW_kNe {a b : W} (om : Om) (h1 : isW a = true) (h2 : isW b = true) : kNe (.str a) (.str b) om = .ok (.bl (!(a == b))) om := kNe_str om (isW_okT h1) (isW_okT h2)
def nD (ns : List Nat) : List Dat := ns.map fun (n : Nat) => .int (n : Int)
def stOk (p : W × W) : Bool := isW p.1 && isW p.2 && !(p.1 == p.2)
theorem within_go (a : Int) (ns : List Nat) (om : Om) (h : ∀ n ∈ ns, n < 100) (hl : ns.length ≤ 1000000) (x0 x1 x2 : Option Dat) : lcL (gN 2) tYesD (eCall 3 [] f_is_within (aCons (eVar 2) (aCons (eC (.int a)) (aCons (eC (.int 99)) (aNil))))) (nD ns) [x0, x1, x2] om [] = .ok (ns.map fun (n : Nat) => .bl (decide (a ≤ (n : Int)))) om :=
  lcL_mapM (α := Nat) _ _ hl fun n hn => ⟨_, rfl, by
    have h1 := h n hn
    have h2 := is_within_int n a 99 om (by omega) (by omega)
    have h3 : (n : Int) ≤ 99 := by omega
    simp only [evs, ↓reduceIte, Nat.reduceAdd, Nat.reduceSub, List.reduceReplicate, Nat.reduceLeDiff, Bool.false_eq_true, reduceCtorEq, h2, h3, decide_true]⟩
theorem street_dict (ps : List (W × W)) (ns : List Nat) (om : Om) (hp : ∀ p ∈ ps, p.1.length ≤ 1000000 ∧ p.2.length ≤ 1000000) (hn : ∀ n ∈ ns, n < 100) (h1 : ps.length ≤ 1000000) (h2 : ns.length ≤ 1000000) : f_is_street_dict [.dct (ps.map pD) (nD ns)] om = .ok (.bl (ps.all stOk && ns.all fun n => decide (1 ≤ n))) om := by
  have e : ∀ x0 x1 x2 : Option Dat, lcL (gN 1) tYesD (eAnd (eCall 2 [] f_is_words (aCons (eVar 1) (aCons (eC (.int 2)) (aNil)))) (e2 kNe (e2 kIx (eVar 1) (eC (.int 0))) (e2 kIx (eVar 1) (eC (.int 1))))) (ps.map pD) [x0, x1, x2] om [] = .ok (ps.map fun p => .bl (stOk p)) om := fun x0 x1 x2 =>
    lcL_mapM _ _ h1 fun p hh => ⟨_, rfl, by
      have h3 := is_words_str [p.1, p.2] 2 om (by simp) (by simp [hp p hh])
      unfold sD at h3
      simp only [evs, ↓reduceIte, Nat.reduceAdd, Nat.reduceSub, List.reduceReplicate, Nat.reduceLeDiff, Bool.false_eq_true, reduceCtorEq] at h3
      unfold pD stOk
      simp only [evs, ↓reduceIte, Nat.reduceAdd, Nat.reduceSub, List.reduceReplicate, Nat.reduceLeDiff, Bool.false_eq_true, reduceCtorEq, h3, atD_0, atD_1, List.all_cons, List.all_nil]
      have h4 : (((2 : Nat) : Int) == 2) = true := by decide
      cases h5 : isW p.1 with
      | false => simp only [evs, ↓reduceIte, Nat.reduceAdd, Nat.reduceSub, List.reduceReplicate, Nat.reduceLeDiff, Bool.false_eq_true, reduceCtorEq, h4]
      | true => cases h6 : isW p.2 with
        | false => simp only [evs, ↓reduceIte, Nat.reduceAdd, Nat.reduceSub, List.reduceReplicate, Nat.reduceLeDiff, Bool.false_eq_true, reduceCtorEq, h4]
        | true => simp only [evs, ↓reduceIte, Nat.reduceAdd, Nat.reduceSub, List.reduceReplicate, Nat.reduceLeDiff, Bool.false_eq_true, reduceCtorEq, h4, isW_kNe om h5 h6]⟩
  unfold f_is_street_dict b_is_street_dict
  simp only [evs, ↓reduceIte, Nat.reduceAdd, Nat.reduceSub, List.reduceReplicate, Nat.reduceLeDiff, Bool.false_eq_true, reduceCtorEq, fnD_ev, e, kAll_all]
  cases h3 : ps.all stOk with
  | false => simp only [evs, ↓reduceIte, Nat.reduceAdd, Nat.reduceSub, List.reduceReplicate, Nat.reduceLeDiff, Bool.false_eq_true, reduceCtorEq]
  | true =>
    simp only [evs, ↓reduceIte, Nat.reduceAdd, Nat.reduceSub, List.reduceReplicate, Nat.reduceLeDiff, Bool.false_eq_true, reduceCtorEq, within_go 1 ns om hn h2, kAll_all]
    have h4 : (fun n : Nat => decide ((1 : Int) ≤ (n : Int))) = fun n => decide (1 ≤ n) := by
      funext n
      by_cases h : 1 ≤ n
      · have : (1 : Int) ≤ n := by omega
        simp [h]; omega
      · simp [h]; omega
    rw [h4]
theorem number_dict (ws : List W) (ns : List Nat) (om : Om) (hp : ∀ w ∈ ws, w.length ≤ 1000000) (hn : ∀ n ∈ ns, n < 100) (h1 : ws.length ≤ 1000000) (h2 : ns.length ≤ 1000000) : f_is_number_dict [.dct (sD ws) (nD ns)] om = .ok (.bl (ws.all isW)) om := by
  have e : ∀ x0 x1 x2 : Option Dat, lcL (gN 1) tYesD (eCall 1 [] f_is_word (aCons (eVar 1) (aNil))) (sD ws) [x0, x1, x2] om [] = .ok (ws.map fun w => .bl (isW w)) om := fun x0 x1 x2 =>
    lcL_mapM _ _ h1 fun w hh => ⟨_, rfl, by
      simp only [evs, ↓reduceIte, Nat.reduceAdd, Nat.reduceSub, List.reduceReplicate, Nat.reduceLeDiff, Bool.false_eq_true, reduceCtorEq, is_word_str w om (hp w hh)]⟩
  unfold f_is_number_dict b_is_number_dict
  simp only [evs, ↓reduceIte, Nat.reduceAdd, Nat.reduceSub, List.reduceReplicate, Nat.reduceLeDiff, Bool.false_eq_true, reduceCtorEq, fnD_ev, e, kAll_all]
  cases h3 : ws.all isW with
  | false => simp only [evs, ↓reduceIte, Nat.reduceAdd, Nat.reduceSub, List.reduceReplicate, Nat.reduceLeDiff, Bool.false_eq_true, reduceCtorEq]
  | true =>
    simp only [evs, ↓reduceIte, Nat.reduceAdd, Nat.reduceSub, List.reduceReplicate, Nat.reduceLeDiff, Bool.false_eq_true, reduceCtorEq, within_go 0 ns om hn h2, kAll_all]
    have h4 : (ns.all fun n : Nat => decide ((0 : Int) ≤ (n : Int))) = true := by simp
    rw [h4]
theorem dict_one (p : W × W) (d : Dat) (om : Om) : kDict [.lst [.tup [pD p, d]]] om = .ok (.dct [pD p] [d]) om := rfl
theorem mkD_go {κ : Type} [DecidableEq κ] {f : κ → Dat} (hf : ∀ a b, k1 (f a) (f b) = decide (a = b)) : ∀ (ps : List (κ × Dat)) (as : List κ) (bs : List Dat), (as ++ ps.map (·.1)).Nodup →
    (ps.map fun p => (f p.1, p.2)).foldl (fun acc p => putD acc p.1 p.2) (as.map f, bs) = ((as ++ ps.map (·.1)).map f, bs ++ ps.map (·.2))
  | [], as, bs, _ => by simp
  | (k, v) :: r, as, bs, h => by
    rw [List.map_cons, List.foldl_cons]
    have hk : ¬ ((as.map f).any fun z => k1 z (f k)) = true := by
      rw [List.any_map]
      intro z
      obtain ⟨a, ha, e⟩ := List.any_eq_true.mp z
      simp only [Function.comp, hf, decide_eq_true_eq] at e
      subst e
      rw [List.nodup_append] at h
      exact h.2.2 a ha a (by simp) rfl
    have e : putD (as.map f, bs) (f k) v = ((as ++ [k]).map f, bs ++ [v]) := by
      unfold putD
      simp only
      rw [if_neg hk]
      simp
    simp only
    rw [e, mkD_go hf r (as ++ [k]) (bs ++ [v]) (by simpa using h)]
    simp
theorem mkD_nodup {κ : Type} [DecidableEq κ] {f : κ → Dat} (hf : ∀ a b, k1 (f a) (f b) = decide (a = b)) (ps : List (κ × Dat)) (h : (ps.map (·.1)).Nodup) : mkD (ps.map fun p => (f p.1, p.2)) = ((ps.map (·.1)).map f, ps.map (·.2)) := by
  have := mkD_go hf ps [] [] (by simpa using h)
  simpa [mkD] using this
/-! ### items -/
inductive F7 where
  | lot | pairs | ways | tree | ends | streets | growth
deriving DecidableEq
def F7.nm : F7 → W
  | .lot => [108, 111, 116]
  | .pairs => [112, 97, 105, 114, 115]
  | .ways => [119, 97, 121, 115]
  | .tree => [116, 114, 101, 101]
  | .ends => [101, 110, 100, 115]
  | .streets => [115, 116, 114, 101, 101, 116, 115]
  | .growth => [103, 114, 111, 119, 116, 104]
def parse (f : F7) (x : W) (at0 : Bool) : Option Itm := match f with
  | .lot => if isW x = true then some (.w x) else none
  | .pairs => (prS x).map .pr
  | .ways => if fwS (sp 62 x) = true then some (.way (sp 62 x)) else none
  | .tree => match cnS 45 x with
    | some (p, n) => if isW p.1 = true ∧ isW p.2 = true ∧ ltS p.1 p.2 = true then some (.tri p n) else none
    | none => none
  | .ends => match hv 58 x with
    | some (a, b) => match numS b with
      | some n => if isW a = true then some (.en a n) else none
      | none => none
    | none => none
  | .streets => match cnS 62 x with
    | some (p, n) => if stOk p = true ∧ 1 ≤ n then some (.st p n) else none
    | none => none
  | .growth => if at0 = true then (if isW x = true then some (.w x) else none) else stS x
theorem cnS_num {c : Nat} {x : W} {p : W × W} {n : Nat} (h : cnS c x = some (p, n)) : n < 100 ∧ p.1.length ≤ x.length ∧ p.2.length ≤ x.length := by
  unfold cnS at h
  split at h
  · rename_i a b e
    split at h
    · rename_i q m h1 h2
      cases h
      have e1 := hv_len e
      have e2 := hv_len h1
      simp only at e1
      exact ⟨(numT_numS h2).2, by omega, by omega⟩
    · cases h
  · cases h
theorem isNonD_pD (p : W × W) : isNonD (pD p) = false := rfl
theorem itD_toD (i : Itm) : isNonD i.toD = false := by cases i <;> rfl
theorem item_told (f : F7) (x : W) (n : Nat) (om : Om) (hl : x.length ≤ 3000) : f_item_told [.str f.nm, .str x, .int n] om = .ok (itD (parse f x (n == 0))) om := by
  have hl1 : x.length ≤ 1000000 := by omega
  have hl2 : x.length ≤ 900000 := by omega
  unfold f_item_told b_item_told
  rw [fnD_ev]
  cases f with
  | lot =>
    simp only [evs, ↓reduceIte, Nat.reduceAdd, Nat.reduceSub, List.reduceReplicate, Nat.reduceLeDiff, Bool.false_eq_true, reduceCtorEq, F7.nm, BEq.rfl, is_word_str x om hl1]
    unfold parse
    cases h : isW x <;> rfl
  | growth =>
    have e_lot : (F7.growth.nm == F7.lot.nm) = false := by decide
    have e_pairs : (F7.growth.nm == F7.pairs.nm) = false := by decide
    have e_ways : (F7.growth.nm == F7.ways.nm) = false := by decide
    have e_tree : (F7.growth.nm == F7.tree.nm) = false := by decide
    have e_ends : (F7.growth.nm == F7.ends.nm) = false := by decide
    have e_streets : (F7.growth.nm == F7.streets.nm) = false := by decide
    unfold F7.nm at *
    simp only at e_lot e_pairs e_ways e_tree e_ends e_streets
    have e0 : ((n : Int) == 0) = (n == 0) := by
      cases n with
      | zero => rfl
      | succ k => simp; omega
    simp only [evs, ↓reduceIte, Nat.reduceAdd, Nat.reduceSub, List.reduceReplicate, Nat.reduceLeDiff, Bool.false_eq_true, reduceCtorEq, e_lot, e_pairs, e_ways, e_tree, e_ends, e_streets, BEq.rfl, e0]
    unfold parse
    cases h : n == 0 with
    | true =>
      simp only [evs, ↓reduceIte, Nat.reduceAdd, Nat.reduceSub, List.reduceReplicate, Nat.reduceLeDiff, Bool.false_eq_true, reduceCtorEq, is_word_str x om hl1]
      cases h : isW x <;> rfl
    | false =>
      obtain ⟨d, h1, b, h2, h3⟩ := step_item x om (by omega)
      simp only [evs, ↓reduceIte, Nat.reduceAdd, Nat.reduceSub, List.reduceReplicate, Nat.reduceLeDiff, Bool.false_eq_true, reduceCtorEq, h1, h2]
      rw [← h3]
      cases b <;> simp [evs]
  | pairs =>
    have e_lot : (F7.pairs.nm == F7.lot.nm) = false := by decide
    have e_growth : (F7.pairs.nm == F7.growth.nm) = false := by decide
    have e_ways : (F7.pairs.nm == F7.ways.nm) = false := by decide
    have e_tree : (F7.pairs.nm == F7.tree.nm) = false := by decide
    have e_ends : (F7.pairs.nm == F7.ends.nm) = false := by decide
    have e_streets : (F7.pairs.nm == F7.streets.nm) = false := by decide
    unfold F7.nm at *
    simp only at e_lot e_growth e_ways e_tree e_ends e_streets
    simp only [evs, ↓reduceIte, Nat.reduceAdd, Nat.reduceSub, List.reduceReplicate, Nat.reduceLeDiff, Bool.false_eq_true, reduceCtorEq, e_lot, e_growth, e_ways, e_tree, e_ends, e_streets, BEq.rfl, pair_told x om hl2]
    unfold parse
    cases h : prS x <;> rfl
  | ways =>
    have e_lot : (F7.ways.nm == F7.lot.nm) = false := by decide
    have e_growth : (F7.ways.nm == F7.growth.nm) = false := by decide
    have e_pairs : (F7.ways.nm == F7.pairs.nm) = false := by decide
    have e_tree : (F7.ways.nm == F7.tree.nm) = false := by decide
    have e_ends : (F7.ways.nm == F7.ends.nm) = false := by decide
    have e_streets : (F7.ways.nm == F7.streets.nm) = false := by decide
    unfold F7.nm at *
    simp only at e_lot e_growth e_pairs e_tree e_ends e_streets
    have h2 := sp_count 62 x
    have e := far_way (sp 62 x) om (by omega) fun w hw => Nat.le_trans (sp_len 62 x w hw) hl1
    unfold sD at e
    simp only [evs, ↓reduceIte, Nat.reduceAdd, Nat.reduceSub, List.reduceReplicate, Nat.reduceLeDiff, Bool.false_eq_true, reduceCtorEq, e_lot, e_growth, e_pairs, e_tree, e_ends, e_streets, BEq.rfl, kSplit_sp 62 x om (by omega) (by omega), kTuple_l, e]
    unfold parse
    cases h : fwS (sp 62 x) <;> simp [itD, Itm.toD, evs, sD, h]
  | tree =>
    have e_lot : (F7.tree.nm == F7.lot.nm) = false := by decide
    have e_growth : (F7.tree.nm == F7.growth.nm) = false := by decide
    have e_pairs : (F7.tree.nm == F7.pairs.nm) = false := by decide
    have e_ways : (F7.tree.nm == F7.ways.nm) = false := by decide
    have e_ends : (F7.tree.nm == F7.ends.nm) = false := by decide
    have e_streets : (F7.tree.nm == F7.streets.nm) = false := by decide
    unfold F7.nm at *
    simp only at e_lot e_growth e_pairs e_ways e_ends e_streets
    simp only [evs, ↓reduceIte, Nat.reduceAdd, Nat.reduceSub, List.reduceReplicate, Nat.reduceLeDiff, Bool.false_eq_true, reduceCtorEq, e_lot, e_growth, e_pairs, e_ways, e_ends, e_streets, BEq.rfl, counted_told 45 x om (by omega) hl2]
    unfold parse
    cases h : cnS 45 x with
    | none => simp only [evs, ↓reduceIte, Nat.reduceAdd, Nat.reduceSub, List.reduceReplicate, Nat.reduceLeDiff, Bool.false_eq_true, reduceCtorEq, cnD, itD]
    | some q =>
      obtain ⟨p, m⟩ := q
      have h1 := cnS_num h
      have e := counted p m om h1.1 (by omega) (by omega)
      unfold cnD
      simp only [evs, ↓reduceIte, Nat.reduceAdd, Nat.reduceSub, List.reduceReplicate, Nat.reduceLeDiff, Bool.false_eq_true, reduceCtorEq, evstar, atD_0, atD_1, pD, e]
      cases h2 : isW p.1 <;> cases h3 : isW p.2 <;> cases h4 : ltS p.1 p.2 <;> simp [evs, itD, Itm.toD]
  | ends =>
    have e_lot : (F7.ends.nm == F7.lot.nm) = false := by decide
    have e_growth : (F7.ends.nm == F7.growth.nm) = false := by decide
    have e_pairs : (F7.ends.nm == F7.pairs.nm) = false := by decide
    have e_ways : (F7.ends.nm == F7.ways.nm) = false := by decide
    have e_tree : (F7.ends.nm == F7.tree.nm) = false := by decide
    have e_streets : (F7.ends.nm == F7.streets.nm) = false := by decide
    unfold F7.nm at *
    simp only at e_lot e_growth e_pairs e_ways e_tree e_streets
    simp only [evs, ↓reduceIte, Nat.reduceAdd, Nat.reduceSub, List.reduceReplicate, Nat.reduceLeDiff, Bool.false_eq_true, reduceCtorEq, e_lot, e_growth, e_pairs, e_ways, e_tree, e_streets, BEq.rfl, halves_by 58 x om (by omega) hl2]
    unfold parse
    cases h : hv 58 x with
    | none => simp only [evs, ↓reduceIte, Nat.reduceAdd, Nat.reduceSub, List.reduceReplicate, Nat.reduceLeDiff, Bool.false_eq_true, reduceCtorEq, oD, itD]
    | some q =>
      obtain ⟨a, b⟩ := q
      have h1 := hv_len h
      simp only at h1
      unfold oD pD
      simp only [evs, ↓reduceIte, Nat.reduceAdd, Nat.reduceSub, List.reduceReplicate, Nat.reduceLeDiff, Bool.false_eq_true, reduceCtorEq, atD_0, atD_1, number_told_str b om (by omega)]
      cases h2 : numS b with
      | none => simp only [evs, ↓reduceIte, Nat.reduceAdd, Nat.reduceSub, List.reduceReplicate, Nat.reduceLeDiff, Bool.false_eq_true, reduceCtorEq, numD, itD]
      | some m =>
        simp only [evs, ↓reduceIte, Nat.reduceAdd, Nat.reduceSub, List.reduceReplicate, Nat.reduceLeDiff, Bool.false_eq_true, reduceCtorEq, numD, is_word_str a om (by omega)]
        cases h3 : isW a <;> simp [evs, itD, Itm.toD]
  | streets =>
    have e_lot : (F7.streets.nm == F7.lot.nm) = false := by decide
    have e_growth : (F7.streets.nm == F7.growth.nm) = false := by decide
    have e_pairs : (F7.streets.nm == F7.pairs.nm) = false := by decide
    have e_ways : (F7.streets.nm == F7.ways.nm) = false := by decide
    have e_tree : (F7.streets.nm == F7.tree.nm) = false := by decide
    have e_ends : (F7.streets.nm == F7.ends.nm) = false := by decide
    unfold F7.nm at *
    simp only at e_lot e_growth e_pairs e_ways e_tree e_ends
    simp only [evs, ↓reduceIte, Nat.reduceAdd, Nat.reduceSub, List.reduceReplicate, Nat.reduceLeDiff, Bool.false_eq_true, reduceCtorEq, e_lot, e_growth, e_pairs, e_ways, e_tree, e_ends, BEq.rfl, counted_told 62 x om (by omega) hl2]
    unfold parse
    cases h : cnS 62 x with
    | none => simp only [evs, ↓reduceIte, Nat.reduceAdd, Nat.reduceSub, List.reduceReplicate, Nat.reduceLeDiff, Bool.false_eq_true, reduceCtorEq, cnD, itD]
    | some q =>
      obtain ⟨p, m⟩ := q
      have h1 := cnS_num h
      have e := street_dict [p] [m] om (by simp; omega) (by simp; omega) (by simp) (by simp)
      unfold nD at e
      simp only [evs, ↓reduceIte, Nat.reduceAdd, Nat.reduceSub, List.reduceReplicate, Nat.reduceLeDiff, Bool.false_eq_true, reduceCtorEq] at e
      unfold cnD
      simp only [evs, ↓reduceIte, Nat.reduceAdd, Nat.reduceSub, List.reduceReplicate, Nat.reduceLeDiff, Bool.false_eq_true, reduceCtorEq, dict_one, e, List.all_cons, List.all_nil]
      cases h2 : stOk p <;> by_cases h3 : 1 ≤ m <;> simp [evs, itD, Itm.toD, h3]
end K70
end Part_C3
section Part_C4
set_option maxRecDepth 100000
namespace K70
open PySem PySem.Spec PyProof.Rows L2 DL
mutual
theorem dEq_refl : ∀ a : Dat, dEq a a = true
  | .non => rfl
  | .bl a => by simp [dEq]
  | .int a => by simp [dEq]
  | .str a => by simp [dEq]
  | .tup a => by simp [dEq, dEqs_refl a]
  | .wt a => by simp [dEq, dEqs_refl a]
  | .lst a => by simp [dEq, dEqs_refl a]
  | .frl a => by simp [dEq, dEqs_refl a]
  | .dct a b => by simp [dEq, dEqs_refl a, dEqs_refl b]
  | .ins c a => by simp [dEq, dEqs_refl a]
  | .cell i => by simp [dEq]
theorem dEqs_refl : ∀ a : List Dat, dEqs a a = true
  | [] => rfl
  | a :: r => by simp [dEqs, dEq_refl a, dEqs_refl r]
end
theorem held_of {om : Om} {i : Nat} {xs : List Dat} (h : om[i]? = some (.lst xs)) : held om i xs = true := by
  unfold held
  rw [h]
  exact dEqs_refl xs
theorem lcLC_mapM {α : Type} {g : GD} {f : DV} {env : En} {om : Om} {ci : Nat} {xs : List α} (I F : α → Dat) (hc : om[ci]? = some (.lst (xs.map I))) (hl : xs.length ≤ 1000000) (h : ∀ x ∈ xs, ∃ env1, g (I x) env om = .ok env1 om ∧ f env1 om = .ok (F x) om) : lcLC g tYesD f ci (xs.map I) (xs.map I) env om [] = .ok (xs.map F) om := by
  have hh := held_of hc
  have gen : ∀ (ys : List α) (acc : List Dat), (∀ y ∈ ys, y ∈ xs) → acc.length + ys.length ≤ 1000000 → lcLC g tYesD f ci (xs.map I) (ys.map I) env om acc = .ok (acc ++ ys.map F) om := by
    intro ys
    induction ys with
    | nil => intro acc _ _; simp [lcLC, hh]
    | cons y ys ih =>
      intro acc hm hl
      obtain ⟨env1, h1, h2⟩ := h y (hm y (by simp))
      have hl' : acc.length + (ys.length + 1) ≤ 1000000 := by simpa using hl
      rw [List.map_cons, lcLC, if_pos hh, h1]
      simp only [tYesD, h2]
      rw [if_pos (by omega), ih _ (fun z hz => hm z (by simp [hz])) (by simp; omega)]
      simp
  simpa using gen xs [] (fun _ h => h) (by simpa using hl)
/-! ### what an item is, and its text -/
def good (f : F7) (at0 : Bool) : Itm → Bool
  | .w x => (f == .lot || f == .growth && at0) && isW x
  | .pr p => f == .pairs && lowO (some p)
  | .way ws => f == .ways && fwS ws
  | .tri p n => f == .tree && (isW p.1 && isW p.2 && ltS p.1 p.2 && decide (n < 100))
  | .en a n => f == .ends && (isW a && decide (n < 100))
  | .st p n => f == .streets && (stOk p && decide (1 ≤ n) && decide (n < 100))
  | .tie a b => f == .growth && !at0 && (isW a && isW b)
  | .pin a ps => f == .growth && !at0 && (isW a && !(ps.isEmpty) && ps.all fun p => lowO (some p))
def prT (p : W × W) : W := p.1 ++ 45 :: p.2
def Itm.txt : Itm → W
  | .w x => x
  | .pr p => prT p
  | .way ws => TL.joinL [62] ws
  | .tri p n => prT p ++ 58 :: numT n
  | .en a n => a ++ 58 :: numT n
  | .st p n => (p.1 ++ 62 :: p.2) ++ 58 :: numT n
  | .tie a b => a ++ 43 :: b
  | .pin a ps => TL.joinL [61] (a :: ps.map prT)
theorem numT_dgt : ∀ n : Nat, n < 100 → ∀ c ∈ numT n, 48 ≤ c ∧ c ≤ 57 := by decide +kernel
theorem prS_prT {p : W × W} (h : lowO (some p) = true) : prS (prT p) = some p := by
  simp only [lowO, Bool.and_eq_true] at h
  unfold prS prT
  rw [hv_mk (isW_no h.1.1 (by omega)) (isW_no h.1.2 (by omega))]
  simp [h]
theorem prT_prS {x : W} {p : W × W} (h : prS x = some p) : prT p = x ∧ lowO (some p) = true := ⟨(hv_some (prS_hv h)).1.symm, prS_low h⟩
theorem low_of {p : W × W} (h : lowO (some p) = true) : isW p.1 = true ∧ isW p.2 = true := by
  simp only [lowO, Bool.and_eq_true] at h
  exact h.1
theorem prT_no {p : W × W} (h : lowO (some p) = true) {c : Nat} (h1 : c < 97) (h2 : c ≠ 45) : c ∉ prT p := by
  have h3 := low_of h
  unfold prT
  simp [isW_no h3.1 h1, isW_no h3.2 h1, h2]
theorem numT_no {n : Nat} (hn : n < 100) {c : Nat} (h : c < 48 ∨ 57 < c) : c ∉ numT n := fun z => by
  have := numT_dgt n hn c z
  omega
theorem cnS_mk {c : Nat} {p : W × W} {n : Nat} (h1 : isW p.1 = true) (h2 : isW p.2 = true) (hc : c < 97) (hd : c ≠ 58) (hn : n < 100) : cnS c ((p.1 ++ c :: p.2) ++ 58 :: numT n) = some (p, n) := by
  unfold cnS
  have a1 : 58 ∉ p.1 ++ c :: p.2 := by simp [isW_no h1 (c := 58) (by omega), isW_no h2 (c := 58) (by omega)]; exact fun e => hd e.symm
  rw [hv_mk a1 (numT_no hn (by omega))]
  simp only
  rw [hv_mk (isW_no h1 hc) (isW_no h2 hc), numS_numT n hn]
theorem cnS_txt {c : Nat} {x : W} {p : W × W} {n : Nat} (h : cnS c x = some (p, n)) : (p.1 ++ c :: p.2) ++ 58 :: numT n = x ∧ n < 100 := by
  unfold cnS at h
  split at h
  · rename_i a b e
    split at h
    · rename_i q m h1 h2
      cases h
      have e1 := (hv_some e).1
      have e2 := (hv_some h1).1
      simp only at e1
      obtain ⟨e3, e4⟩ := numT_numS h2
      rw [← e2, e3, ← e1]
      exact ⟨rfl, e4⟩
    · cases h
  · cases h
theorem fwS_of {ws : List W} (h : fwS ws = true) : 2 ≤ ws.length ∧ (∀ w ∈ ws, isW w = true) ∧ ws.Nodup := by
  unfold fwS at h
  simp only [Bool.and_eq_true, decide_eq_true_eq] at h
  exact ⟨h.1.1, List.all_eq_true.mp h.1.2, h.2⟩
theorem pins_sound {ts : List W} {ps : List (W × W)} (h : pins ts = some ps) : ps.map prT = ts ∧ ps ≠ [] ∧ ∀ p ∈ ps, lowO (some p) = true := by
  unfold pins at h
  split at h
  · rename_i h1
    cases h
    obtain ⟨h1, h2⟩ := h1
    have gen : ∀ ts : List W, ts.all (fun t => (prS t).isSome) = true → (ts.filterMap prS).map prT = ts ∧ ∀ p ∈ ts.filterMap prS, lowO (some p) = true := by
      intro ts
      induction ts with
      | nil => intro _; simp
      | cons t r ih =>
        intro h
        simp only [List.all_cons, Bool.and_eq_true] at h
        obtain ⟨p, hp⟩ := Option.isSome_iff_exists.mp h.1
        obtain ⟨i1, i2⟩ := ih h.2
        rw [List.filterMap_cons, hp]
        refine ⟨by rw [List.map_cons, i1, (prT_prS hp).1], fun q hq => ?_⟩
        rcases List.mem_cons.mp hq with rfl | hq
        · exact (prT_prS hp).2
        · exact i2 q hq
    obtain ⟨g1, g2⟩ := gen ts h2
    refine ⟨g1, fun e => h1 ?_, g2⟩
    rw [e] at g1
    exact g1.symm
  · cases h
theorem pins_mk {ps : List (W × W)} (h1 : ps ≠ []) (h2 : ∀ p ∈ ps, lowO (some p) = true) : pins (ps.map prT) = some ps := by
  unfold pins
  have a1 : (ps.map prT).all (fun t => (prS t).isSome) = true := by
    rw [List.all_map, List.all_eq_true]
    intro p hp
    simp [prS_prT (h2 p hp)]
  have a2 : (ps.map prT).filterMap prS = ps := by
    rw [List.filterMap_map]
    have : ∀ l : List (W × W), (∀ p ∈ l, lowO (some p) = true) → l.filterMap (fun p => prS (prT p)) = l := by
      intro l
      induction l with
      | nil => intro _; rfl
      | cons p r ih =>
        intro h
        rw [List.filterMap_cons]
        have e := ih fun q hq => h q (by simp [hq])
        simp only [prS_prT (h p (by simp))]
        rw [e]
    exact this ps h2
  rw [if_pos ⟨by simpa using h1, a1⟩, a2]
theorem stS_sound {x : W} {i : Itm} (h : stS x = some i) : good .growth false i = true ∧ i.txt = x := by
  unfold stS at h
  split at h
  · split at h
    · rename_i a b e
      split at h
      · rename_i h2
        cases h
        exact ⟨by simp [good, h2], (hv_some e).1.symm⟩
      · cases h
    · cases h
  · split at h
    · rename_i p ts e
      split at h
      · rename_i h2
        obtain ⟨ps, h3, rfl⟩ := Option.map_eq_some_iff.mp h
        obtain ⟨g1, g2, g3⟩ := pins_sound h3
        refine ⟨?_, ?_⟩
        · simp [good, h2, g2]
          exact fun a b hab => g3 _ hab
        · show TL.joinL [61] (p :: ps.map prT) = x
          rw [g1, ← e, sp_join]
      · cases h
    · cases h
theorem stS_mk {i : Itm} (h : good .growth false i = true) : stS i.txt = some i := by
  cases i with
  | tie a b =>
    simp only [good, Bool.and_eq_true] at h
    show stS (a ++ 43 :: b) = _
    unfold stS
    rw [if_pos (by simp), hv_mk (isW_no h.2.1 (by omega)) (isW_no h.2.2 (by omega))]
    simp only
    rw [if_pos h.2]
  | pin a ps =>
    simp only [good, Bool.and_eq_true, Bool.not_eq_true', List.isEmpty_eq_false_iff] at h
    have g := List.all_eq_true.mp h.2.2
    show stS (TL.joinL [61] (a :: ps.map prT)) = _
    have hn : 43 ∉ TL.joinL [61] (a :: ps.map prT) := by
      intro z
      have : ∀ (l : List W), 43 ∈ TL.joinL [61] l → ∃ p ∈ l, 43 ∈ p := by
        intro l
        induction l with
        | nil => intro z; simp [TL.joinL] at z
        | cons p r ih =>
          intro z
          cases r with
          | nil => exact ⟨p, by simp, by simpa [TL.joinL] using z⟩
          | cons q t =>
            simp only [TL.joinL, List.mem_append] at z
            rcases z with z | z | z
            · exact ⟨p, by simp, z⟩
            · simp at z
            · obtain ⟨w, h1, h2⟩ := ih z
              exact ⟨w, by simp at h1 ⊢; exact .inr h1, h2⟩
      obtain ⟨w, h1, h2⟩ := this _ z
      rcases List.mem_cons.mp h1 with rfl | h1
      · exact isW_no h.2.1.1 (by omega) h2
      · obtain ⟨p, hp, rfl⟩ := List.mem_map.mp h1
        exact prT_no (g p hp) (by omega) (by omega) h2
    unfold stS
    rw [if_neg hn, join_sp 61 _ (by simp) (fun w hw => by
      rcases List.mem_cons.mp hw with rfl | hw
      · exact isW_no h.2.1.1 (by omega)
      · obtain ⟨p, hp, rfl⟩ := List.mem_map.mp hw
        exact prT_no (g p hp) (by omega) (by omega))]
    simp only
    rw [if_pos h.2.1.1, pins_mk h.2.1.2 g]
    rfl
  | _ => simp [good] at h
theorem parse_sound {f : F7} {x : W} {a : Bool} {i : Itm} (h : parse f x a = some i) : good f a i = true ∧ i.txt = x := by
  unfold parse at h
  split at h
  · split at h
    · rename_i h2; cases h; exact ⟨by simp [good, h2], rfl⟩
    · cases h
  · obtain ⟨p, h3, rfl⟩ := Option.map_eq_some_iff.mp h
    exact ⟨by simp [good, prT_prS h3], (prT_prS h3).1⟩
  · split at h
    · rename_i h2; cases h
      exact ⟨by simp [good, h2], sp_join 62 x⟩
    · cases h
  · split at h
    · rename_i p n e
      split at h
      · rename_i h2
        cases h
        obtain ⟨e1, e2⟩ := cnS_txt e
        refine ⟨?_, e1⟩
        simp only [good, h2, e2, decide_true, BEq.rfl, Bool.and_true]
      · cases h
    · cases h
  · split at h
    · rename_i a b e
      split at h
      · rename_i n e2
        split at h
        · rename_i h2
          cases h
          obtain ⟨e3, e4⟩ := numT_numS e2
          refine ⟨by simp [good, h2, e4], ?_⟩
          show a ++ 58 :: numT n = x
          rw [e3]; exact (hv_some e).1.symm
        · cases h
      · cases h
    · cases h
  · split at h
    · rename_i p n e
      split at h
      · rename_i h2
        cases h
        obtain ⟨e1, e2⟩ := cnS_txt e
        exact ⟨by simp [good, h2, e2], e1⟩
      · cases h
    · cases h
  · split at h
    · rename_i ha
      split at h
      · rename_i h2; cases h; exact ⟨by simp [good, h2, ha], rfl⟩
      · cases h
    · rename_i ha
      simp only [Bool.not_eq_true] at ha
      subst ha
      exact stS_sound h
theorem parse_mk {f : F7} {a : Bool} {i : Itm} (h : good f a i = true) : parse f i.txt a = some i := by
  cases i with
  | w x =>
    simp only [good, Bool.and_eq_true, Bool.or_eq_true, beq_iff_eq] at h
    rcases h.1 with rfl | ⟨rfl, rfl⟩
    · simp [parse, Itm.txt, h.2]
    · simp [parse, Itm.txt, h.2]
  | pr p =>
    simp only [good, Bool.and_eq_true, beq_iff_eq] at h
    obtain ⟨rfl, h⟩ := h
    simp [parse, Itm.txt, prS_prT h]
  | way ws =>
    simp only [good, Bool.and_eq_true, beq_iff_eq] at h
    obtain ⟨rfl, h⟩ := h
    obtain ⟨h1, h2, h3⟩ := fwS_of h
    have : sp 62 (TL.joinL [62] ws) = ws := join_sp 62 ws (fun e => by rw [e] at h1; simp at h1) fun w hw => isW_no (h2 w hw) (by omega)
    simp [parse, Itm.txt, this, h]
  | tri p n =>
    simp only [good, Bool.and_eq_true, beq_iff_eq, decide_eq_true_eq] at h
    obtain ⟨rfl, ⟨⟨h1, h2⟩, h3⟩, h4⟩ := h
    have := cnS_mk (c := 45) h1 h2 (by omega) (by omega) h4
    have e : Itm.txt (.tri p n) = (p.1 ++ 45 :: p.2) ++ 58 :: numT n := rfl
    rw [e]
    unfold parse
    simp only [this, h1, h2]
    simp [h3]
  | en a n =>
    simp only [good, Bool.and_eq_true, beq_iff_eq, decide_eq_true_eq] at h
    obtain ⟨rfl, h1, h2⟩ := h
    have e : Itm.txt (.en a n) = a ++ 58 :: numT n := rfl
    rw [e]
    unfold parse
    simp only [hv_mk (isW_no h1 (c := 58) (by omega)) (numT_no h2 (c := 58) (by omega)), numS_numT n h2, h1]
    rfl
  | st p n =>
    simp only [good, Bool.and_eq_true, beq_iff_eq, decide_eq_true_eq] at h
    obtain ⟨rfl, ⟨h1, h2⟩, h3⟩ := h
    have h4 := h1
    unfold stOk at h4
    simp only [Bool.and_eq_true] at h4
    have := cnS_mk (c := 62) h4.1.1 h4.1.2 (by omega) (by omega) h3
    have e : Itm.txt (.st p n) = (p.1 ++ 62 :: p.2) ++ 58 :: numT n := rfl
    rw [e]
    unfold parse
    simp only [this, h1, h2]
    rfl
  | tie a b =>
    simp only [good, Bool.and_eq_true, beq_iff_eq, Bool.not_eq_true'] at h
    obtain ⟨⟨rfl, rfl⟩, h1⟩ := h
    show stS _ = _
    rw [stS_mk (by simp [good, h1])]
  | pin a ps =>
    have h0 := h
    simp only [good, Bool.and_eq_true, beq_iff_eq, Bool.not_eq_true'] at h
    obtain ⟨⟨rfl, rfl⟩, h1⟩ := h
    show stS _ = _
    rw [stS_mk h0]
end K70
end Part_C4
section Part_C5
set_option maxRecDepth 100000
namespace K70
open PySem PySem.Spec PyProof.Rows L2 DL
def kW : Itm → W
  | .w x => x
  | .en a _ => a
  | _ => []
def kP : Itm → W × W
  | .st p _ => p
  | _ => ([], [])
def nxS (ks : List W) (k : W) : Bool := match ks.getLast? with
  | none => true
  | some j => ltS j k
def nxP (ks : List (W × W)) (k : W × W) : Bool := match ks.getLast? with
  | none => true
  | some j => ltP j k
def okNext (f : F7) (acc : List Itm) (i : Itm) : Bool := match f with
  | .lot => nxS (acc.map kW) (kW i)
  | .ends => nxS (acc.map kW) (kW i)
  | .streets => nxP (acc.map kP) (kP i)
  | _ => true
def last2 {α : Type} (l : List α) : List α := l.drop (l.length - 2)
theorem last2_map {α β : Type} (f : α → β) (l : List α) : last2 (l.map f) = (last2 l).map f := by unfold last2; rw [List.length_map, List.map_drop]
theorem last2_len {α : Type} (l : List α) : (last2 l).length ≤ 2 := by unfold last2; rw [List.length_drop]; omega
theorem last2_mem {α : Type} {l : List α} {x : α} (h : x ∈ last2 l) : x ∈ l := List.mem_of_mem_drop h
theorem last2_concat {α : Type} (l : List α) (x : α) : last2 (l ++ [x]) = match l.getLast? with
    | none => [x]
    | some y => [y, x] := by
  rcases List.eq_nil_or_concat l with rfl | ⟨t, y, rfl⟩
  · rfl
  · simp [last2]
theorem asc_last (ks : List W) (k : W) : ascS (last2 (ks ++ [k])) = nxS ks k := by
  rw [last2_concat]
  unfold nxS
  cases ks.getLast? with
  | none => simp [ascS]
  | some j => simp [ascS]
theorem ascP_last (ks : List (W × W)) (k : W × W) : ascP (last2 (ks ++ [k])) = nxP ks k := by
  rw [last2_concat]
  unfold nxP
  cases ks.getLast? with
  | none => simp [ascP]
  | some j => simp [ascP]
theorem cut_last {α : Type} (l : List α) : DL.cutD l (some (-2)) none = last2 l := by
  unfold DL.cutD last2
  have : sIxD l.length 0 (some (-2)) = l.length - 2 := by
    unfold sIxD
    simp; omega
  rw [this]
  have : sIxD l.length l.length none = l.length := rfl
  rw [this, List.take_of_length_le]
  rw [List.length_drop]; omega
theorem okPs_str (n : Nat) (ws : List W) (h : ∀ w ∈ ws, isW w = true) : okPs n (sD ws) = true := okPs_map _ _ _ fun w hw => by rw [okP_str]; exact isW_okT (h w hw)
theorem okPs_pD (n : Nat) (ps : List (W × W)) (h : ∀ p ∈ ps, isW p.1 = true ∧ isW p.2 = true) : okPs (n + 1) (ps.map pD) = true := okPs_map _ _ _ fun p hp => by
  show okP (n + 1) (.tup [.str p.1, .str p.2]) = true
  rw [okP]
  simp only [okPs, okP_str, isW_okT (h p hp).1, isW_okT (h p hp).2, Bool.and_true]
theorem kNe_sorted (ws : List W) (om : Om) (h : ∀ w ∈ ws, isW w = true) : kNe (.lst (sD ws)) (.lst (sD (sortK (leO ltS) (nubK ws)))) om = .ok (.bl (!ascS ws)) om := by
  unfold kNe
  have h1 : okP 60 (.lst (sD ws)) = true := by rw [okP]; exact okPs_str _ _ h
  have h2 : okP 60 (.lst (sD (sortK (leO ltS) (nubK ws)))) = true := by
    rw [okP]
    exact okPs_str _ _ fun w hw => h w (nubK_mem.mp (sortK_mem.mp hw))
  simp only [der_lstS, eqA_lst_str, h1, h2, and_self, if_true, asc_str]
theorem kNe_sortedP (ps : List (W × W)) (om : Om) (h : ∀ p ∈ ps, isW p.1 = true ∧ isW p.2 = true) : kNe (.lst (ps.map pD)) (.lst ((sortK (leO ltP) (nubK ps)).map pD)) om = .ok (.bl (!ascP ps)) om := by
  unfold kNe
  have h1 : okP 60 (.lst (ps.map pD)) = true := by rw [okP]; exact okPs_pD _ _ h
  have h2 : okP 60 (.lst ((sortK (leO ltP) (nubK ps)).map pD)) = true := by
    rw [okP]
    exact okPs_pD _ _ fun w hw => h w (nubK_mem.mp (sortK_mem.mp hw))
  simp only [der_lstS, eqA_lst_pD, h1, h2, and_self, if_true, asc_pD]
/-! ### reading -/
def readGo (f : F7) : Nat → List Itm → List W → Sum Nat (List Itm)
  | _, acc, [] => .inr acc
  | n, acc, x :: r => match parse f x (n == 0) with
    | none => .inl n
    | some i => if okNext f acc i = true then readGo f (n + 1) (acc ++ [i]) r else .inl n
def readP (f : F7) (x : W) : Sum Nat (List Itm) := if x = [45] ∧ f ≠ .growth then .inr [] else readGo f 0 [] (sp 32 x)
def goodGo (f : F7) : Nat → List Itm → List Itm → Prop
  | _, _, [] => True
  | n, acc, i :: r => good f (n == 0) i = true ∧ okNext f acc i = true ∧ goodGo f (n + 1) (acc ++ [i]) r
def goods (f : F7) (acc : List Itm) : Prop := ∀ i ∈ acc, ∃ b, good f b i = true
theorem good_w {b : Bool} {i : Itm} (h : good .lot b i = true) : ∃ x, i = .w x ∧ isW x = true := by
  cases i <;> simp [good] at h
  exact ⟨_, rfl, h⟩
theorem good_en {b : Bool} {i : Itm} (h : good .ends b i = true) : ∃ a n, i = .en a n ∧ isW a = true ∧ n < 100 := by
  cases i <;> simp [good] at h
  exact ⟨_, _, rfl, h.1, h.2⟩
theorem good_st {b : Bool} {i : Itm} (h : good .streets b i = true) : ∃ p n, i = .st p n ∧ stOk p = true ∧ 1 ≤ n ∧ n < 100 := by
  cases i <;> simp [good] at h
  exact ⟨_, _, rfl, h.1.1, h.1.2, h.2⟩
theorem stOk_w {p : W × W} (h : stOk p = true) : isW p.1 = true ∧ isW p.2 = true ∧ p.1 ≠ p.2 := by
  unfold stOk at h
  simp only [Bool.and_eq_true, Bool.not_eq_true', beq_eq_false_iff_ne] at h
  exact ⟨h.1.1, h.1.2, h.2⟩
def kTest (f : F7) (acc : List Itm) : Bool := match f with
  | .lot => ascS (last2 (acc.map kW))
  | .ends => ascS (last2 (acc.map kW))
  | .streets => ascP (last2 (acc.map kP))
  | _ => true
/-- the keys' test behind an item -/
theorem keys_test (f : F7) (acc : List Itm) (k : Nat) (om : Om) (x0 x1 x3 x4 x5 x6 : Option Dat) (hg : goods f acc) (hl : acc.length ≤ 100000) (ho : om[k]? = some (.lst (acc.map Itm.toD))) :
    ∃ d, f_keys_of [.str f.nm, .cell k] om = .ok d om ∧ ∃ xs, kSl d (some (-2)) none om = .ok (.lst xs) om ∧ ∃ ys, kSortSetI (.lst xs) om = .ok (.lst ys) om ∧
      kNe (.lst xs) (.lst ys) om = .ok (.bl (!(kTest f acc))) om := by
  have none : ∀ g : F7, g ≠ .lot → g ≠ .ends → g ≠ .streets → f_keys_of [.str g.nm, .cell k] om = .ok (.lst []) om := by
    intro g h1 h2 h3
    have e1 : (g.nm == [108, 111, 116]) = false := by cases g <;> simp_all [F7.nm]
    have q2 : inD om (.str g.nm) (.tup [.str [101, 110, 100, 115], .str [115, 116, 114, 101, 101, 116, 115]]) = some false := by cases g <;> first | exact absurd rfl h1 | exact absurd rfl h2 | exact absurd rfl h3 | rfl
    unfold f_keys_of b_keys_of
    simp only [evs, ↓reduceIte, Nat.reduceAdd, Nat.reduceSub, List.reduceReplicate, Nat.reduceLeDiff, Bool.false_eq_true, reduceCtorEq, fnD_ev, e1, kIn, q2]
  have rest : ∃ xs, kSl (.lst []) (some (-2)) (Option.none) om = .ok (.lst xs) om ∧ ∃ ys, kSortSetI (.lst xs) om = .ok (.lst ys) om ∧ kNe (.lst xs) (.lst ys) om = .ok (.bl (!true)) om :=
    ⟨[], rfl, [], (kSortSetI_str [] om (by simp)).2, kNe_sorted [] om (by simp)⟩
  cases f with
  | lot =>
    have e : acc.map Itm.toD = sD (acc.map kW) := by
      unfold sD
      rw [List.map_map]
      exact List.map_congr_left fun i hi => by
        obtain ⟨b, hb⟩ := hg i hi
        obtain ⟨x, rfl, _⟩ := good_w hb
        rfl
    have hw : ∀ w ∈ last2 (acc.map kW), isW w = true := fun w hw => by
      obtain ⟨i, hi, rfl⟩ := List.mem_map.mp (last2_mem hw)
      obtain ⟨b, hb⟩ := hg i hi
      obtain ⟨x, rfl, h⟩ := good_w hb
      exact h
    refine ⟨.cell k, ?_, sD (last2 (acc.map kW)), ?_, _, (kSortSetI_str _ om (by have := last2_len (acc.map kW); omega)).2, kNe_sorted _ om hw⟩
    · unfold f_keys_of b_keys_of
      simp only [evs, ↓reduceIte, Nat.reduceAdd, Nat.reduceSub, List.reduceReplicate, Nat.reduceLeDiff, Bool.false_eq_true, reduceCtorEq, fnD_ev, F7.nm, BEq.rfl]
    · unfold kSl der
      simp only [ho, e]
      rw [cut_last]
      unfold sD
      rw [last2_map]
  | ends =>
    have hk : f_keys_of [.str F7.ends.nm, .cell k] om = .ok (.lst (sD (acc.map kW))) om := by
      have e1 : (F7.ends.nm == [108, 111, 116]) = false := by decide
      have q2 : inD om (.str F7.ends.nm) (.tup [.str [101, 110, 100, 115], .str [115, 116, 114, 101, 101, 116, 115]]) = some true := rfl
      unfold f_keys_of b_keys_of
      have e3 : lcLC (gN 2) tYesD (e2 kIx (eVar 2) (eC (.int 0))) k (acc.map Itm.toD) (acc.map Itm.toD) [some (.str F7.ends.nm), some (.cell k), Option.none] om [] = .ok (acc.map fun i => .str (kW i)) om :=
        lcLC_mapM _ _ ho (by omega) fun i hi => ⟨_, rfl, by
          obtain ⟨b, hb⟩ := hg i hi
          obtain ⟨x, n, rfl, _⟩ := good_en hb
          unfold Itm.toD
          simp only [evs, ↓reduceIte, Nat.reduceAdd, Nat.reduceSub, List.reduceReplicate, Nat.reduceLeDiff, Bool.false_eq_true, reduceCtorEq, atD_0, kW]⟩
      simp only [evs, ↓reduceIte, Nat.reduceAdd, Nat.reduceSub, List.reduceReplicate, Nat.reduceLeDiff, Bool.false_eq_true, reduceCtorEq, fnD_ev, e1, kIn, q2, eLcC, iCell, ho, e3]
      unfold sD
      rw [List.map_map]; rfl
    have hw : ∀ w ∈ last2 (acc.map kW), isW w = true := fun w hw => by
      obtain ⟨i, hi, rfl⟩ := List.mem_map.mp (last2_mem hw)
      obtain ⟨b, hb⟩ := hg i hi
      obtain ⟨x, n, rfl, h, _⟩ := good_en hb
      exact h
    refine ⟨_, hk, sD (last2 (acc.map kW)), ?_, _, (kSortSetI_str _ om (by have := last2_len (acc.map kW); omega)).2, kNe_sorted _ om hw⟩
    rw [kSl_lst, cut_last]
    unfold sD
    rw [last2_map]
  | streets =>
    have hk : f_keys_of [.str F7.streets.nm, .cell k] om = .ok (.lst ((acc.map kP).map pD)) om := by
      have e1 : (F7.streets.nm == [108, 111, 116]) = false := by decide
      have q2 : inD om (.str F7.streets.nm) (.tup [.str [101, 110, 100, 115], .str [115, 116, 114, 101, 101, 116, 115]]) = some true := rfl
      unfold f_keys_of b_keys_of
      have e3 : lcLC (gN 2) tYesD (e2 kIx (eVar 2) (eC (.int 0))) k (acc.map Itm.toD) (acc.map Itm.toD) [some (.str F7.streets.nm), some (.cell k), Option.none] om [] = .ok (acc.map fun i => pD (kP i)) om :=
        lcLC_mapM _ _ ho (by omega) fun i hi => ⟨_, rfl, by
          obtain ⟨b, hb⟩ := hg i hi
          obtain ⟨x, n, rfl, _⟩ := good_st hb
          unfold Itm.toD
          simp only [evs, ↓reduceIte, Nat.reduceAdd, Nat.reduceSub, List.reduceReplicate, Nat.reduceLeDiff, Bool.false_eq_true, reduceCtorEq, atD_0, kP]⟩
      simp only [evs, ↓reduceIte, Nat.reduceAdd, Nat.reduceSub, List.reduceReplicate, Nat.reduceLeDiff, Bool.false_eq_true, reduceCtorEq, fnD_ev, e1, kIn, q2, eLcC, iCell, ho, e3]
      rw [List.map_map]; rfl
    have hw : ∀ w ∈ last2 (acc.map kP), isW w.1 = true ∧ isW w.2 = true := fun w hw => by
      obtain ⟨i, hi, rfl⟩ := List.mem_map.mp (last2_mem hw)
      obtain ⟨b, hb⟩ := hg i hi
      obtain ⟨x, n, rfl, h, _⟩ := good_st hb
      have := stOk_w h
      exact ⟨this.1, this.2.1⟩
    refine ⟨_, hk, (last2 (acc.map kP)).map pD, ?_, _, (kSortSetI_pD _ om (by have := last2_len (acc.map kP); omega)).2, kNe_sortedP _ om hw⟩
    rw [kSl_lst, cut_last, last2_map]
  | pairs => exact ⟨_, none _ (by simp) (by simp) (by simp), rest⟩
  | ways => exact ⟨_, none _ (by simp) (by simp) (by simp), rest⟩
  | tree => exact ⟨_, none _ (by simp) (by simp) (by simp), rest⟩
  | growth => exact ⟨_, none _ (by simp) (by simp) (by simp), rest⟩
end K70
end Part_C5
section Part_C6
set_option maxRecDepth 100000
namespace K70
open PySem PySem.Spec PyProof.Rows L2 DL
theorem flat_toD (k : Nat) (i : Itm) : flat (k + 3) i.toD = true := by
  cases i with
  | w x => rfl
  | pr p => exact flat_pD _ _
  | way ws =>
    show (sD ws).all (flat (k + 2)) = true
    rw [List.all_eq_true]
    intro d hd
    obtain ⟨w, _, rfl⟩ := List.mem_map.mp hd
    exact flat_str _ _
  | tri p n => simp [Itm.toD, flat]
  | en a n => simp [Itm.toD, flat]
  | st p n =>
    show ([pD p, .int n] : List Dat).all (flat (k + 2)) = true
    simp only [List.all_cons, List.all_nil, flat_pD, flat_int, Bool.and_true]
  | tie a b => simp [Itm.toD, flat]
  | pin a ps =>
    show ([.str PIN, .str a, .tup (ps.map pD)] : List Dat).all (flat (k + 2)) = true
    have : (ps.map pD).all (flat (k + 1)) = true := by
      rw [List.all_eq_true]
      intro d hd
      obtain ⟨p, _, rfl⟩ := List.mem_map.mp hd
      exact flat_pD _ _
    simp only [List.all_cons, List.all_nil, flat_str, flat_tup, this, Bool.and_true]
theorem require_form (f : F7) (om : Om) : f_require_form [.str f.nm] om = .ok .non om := by
  have h : inD om (.str f.nm) dFORMS = some true := by cases f <;> rfl
  unfold f_require_form b_require_form
  simp only [evs, ↓reduceIte, Nat.reduceAdd, Nat.reduceSub, List.reduceReplicate, Nat.reduceLeDiff, Bool.false_eq_true, reduceCtorEq, fnD_ev, kNotIn, h]
/-- the value that items make -/
def isDc (f : F7) : Bool := f == .ends || f == .streets
def kD (f : F7) (i : Itm) : Dat := match f with
  | .ends => .str (kW i)
  | _ => pD (kP i)
def vN : Itm → Nat
  | .en _ n => n
  | .st _ n => n
  | _ => 0
def valD (f : F7) (is : List Itm) : Dat := if isDc f = true then .dct (is.map (kD f)) (nD (is.map vN)) else .tup (is.map Itm.toD)
theorem flat_val (f : F7) (is : List Itm) : flat 60 (valD f is) = true := by
  unfold valD
  split
  · show (nD (is.map vN)).all (flat 59) = true
    rw [List.all_eq_true]
    intro d hd
    obtain ⟨w, _, rfl⟩ := List.mem_map.mp hd
    rfl
  · show (is.map Itm.toD).all (flat 59) = true
    rw [List.all_eq_true]
    intro d hd
    obtain ⟨w, _, rfl⟩ := List.mem_map.mp hd
    exact flat_toD 56 w
theorem goods_app {f : F7} {acc : List Itm} {i : Itm} {b : Bool} (h : goods f acc) (hi : good f b i = true) : goods f (acc ++ [i]) := fun j hj => by
  rcases List.mem_append.mp hj with hj | hj
  · exact h j hj
  · rw [List.mem_singleton] at hj
    exact ⟨b, by rw [hj]; exact hi⟩
theorem okNext_eq (f : F7) (acc : List Itm) (i : Itm) : kTest f (acc ++ [i]) = okNext f acc i := by
  cases f <;> simp only [kTest, okNext, List.map_append, List.map_cons, List.map_nil, asc_last, ascP_last]
abbrev rG : GD := gT 2 (gsC (gN 3) (gsC (gN 4) (gsN)))
abbrev rB : SD := (sSeq (sAsg (eCall 3 [] f_item_told (aCons (eVar 0) (aCons (eVar 4) (aCons (eVar 3) (aNil))))) (gN 5)) (sSeq (sIf (tst (e1 (fun d om => .ok (.bl (isNonD d)) om) (eVar 5))) (sRaise1 "ParseError" (eVar 3)) (sNil)) (sSeq (sExpr (eCellM kAppend (eVar 2) (eVar 5))) (sSeq (sAsg (eCall 2 [] f_keys_of (aCons (eVar 0) (aCons (eVar 2) (aNil)))) (gN 6)) (sIf (tst (e2 kNe (eSl (eVar 6) (oSome (e1 kNeg (eC (.int 2)))) (oNone)) (e1 kSortSetI (eSl (eVar 6) (oSome (e1 kNeg (eC (.int 2)))) (oNone))))) (sRaise1 "ParseError" (eVar 3)) (sNil))))))
def rEnd (f : F7) (om0 : Om) (e0 e1 e2 : Option Dat) (r : RS) : Sum Nat (List Itm) → Prop
  | .inl j => ∃ env d, r = .exc ⟨"ParseError", some (.int j)⟩ env (om0 ++ [d])
  | .inr is => ∃ e3 e4 e5 e6, r = .nx [e0, e1, e2, e3, e4, e5, e6] (om0 ++ [.lst (is.map Itm.toD)])
theorem read_loop (f : F7) (om0 : Om) (txt : Dat) : ∀ (r : List W) (n : Nat) (acc : List Itm) (e3 e4 e5 e6 : Option Dat), goods f acc → acc.length + r.length ≤ 4000 → (∀ x ∈ r, x.length ≤ 3000) →
    rEnd f om0 (some (.str f.nm)) (some txt) (some (.cell om0.length)) (forL rG rB (enumD n (sD r)) [some (.str f.nm), some txt, some (.cell om0.length), e3, e4, e5, e6] (om0 ++ [.lst (acc.map Itm.toD)])) (readGo f n acc r)
  | [], n, acc, e3, e4, e5, e6, _, _, _ => ⟨e3, e4, e5, e6, rfl⟩
  | x :: r, n, acc, e3, e4, e5, e6, hg, hl, hx => by
    have hl1 : acc.length + (r.length + 1) ≤ 4000 := by simpa using hl
    have h1 : rG (.tup [.int (n : Int), .str x]) [some (.str f.nm), some txt, some (.cell om0.length), e3, e4, e5, e6] (om0 ++ [.lst (acc.map Itm.toD)]) = .ok [some (.str f.nm), some txt, some (.cell om0.length), some (.int n), some (.str x), e5, e6] (om0 ++ [.lst (acc.map Itm.toD)]) := by
      unfold rG
      simp only [evs, ↓reduceIte, Nat.reduceAdd, Nat.reduceSub, List.reduceReplicate, Nat.reduceLeDiff, Bool.false_eq_true, reduceCtorEq]
    have e : enumD n (sD (x :: r)) = .tup [.int (n : Int), .str x] :: enumD (n + 1) (sD r) := rfl
    rw [e]
    have ht := item_told f x n (om0 ++ [.lst (acc.map Itm.toD)]) (hx x (by simp))
    unfold readGo
    cases hp : parse f x (n == 0) with
    | none =>
      rw [hp] at ht
      have h2 : rB [some (.str f.nm), some txt, some (.cell om0.length), some (.int n), some (.str x), e5, e6] (om0 ++ [.lst (acc.map Itm.toD)]) = .exc ⟨"ParseError", some (.int n)⟩ [some (.str f.nm), some txt, some (.cell om0.length), some (.int n), some (.str x), some .non, e6] (om0 ++ [.lst (acc.map Itm.toD)]) := by
        unfold rB
        simp only [evs, ↓reduceIte, Nat.reduceAdd, Nat.reduceSub, List.reduceReplicate, Nat.reduceLeDiff, Bool.false_eq_true, reduceCtorEq, ht, itD]
      rw [forL_exc h1 h2]
      exact ⟨_, _, rfl⟩
    | some i =>
      rw [hp] at ht
      obtain ⟨gi, _⟩ := parse_sound hp
      have hg2 : goods f (acc ++ [i]) := goods_app hg gi
      have gl := get_last om0 (.lst (acc.map Itm.toD))
      have ha : ∀ env : En, env[2]? = some (some (.cell om0.length)) → env[5]? = some (some i.toD) → eCellM kAppend (eVar 2) (eVar 5) env (om0 ++ [.lst (acc.map Itm.toD)]) = .ok .non (om0 ++ [.lst ((acc ++ [i]).map Itm.toD)]) := fun env q1 q2 => by
        rw [cellM_at (i := om0.length) (xs := acc.map Itm.toD) (ys := acc.map Itm.toD) (d := i.toD) (om2 := om0 ++ [.lst (acc.map Itm.toD)]) (by simp only [evs, ↓reduceIte, Nat.reduceAdd, Nat.reduceSub, List.reduceReplicate, Nat.reduceLeDiff, Bool.false_eq_true, reduceCtorEq, q1]) gl (by simp only [evs, ↓reduceIte, Nat.reduceAdd, Nat.reduceSub, List.reduceReplicate, Nat.reduceLeDiff, Bool.false_eq_true, reduceCtorEq, q2]) gl]
        unfold kAppend
        rw [if_pos (by rw [List.length_map]; omega), set_last, List.map_append]
        rfl
      obtain ⟨d, k1, xs, k2, ys, k3, k4⟩ := keys_test f (acc ++ [i]) om0.length (om0 ++ [.lst ((acc ++ [i]).map Itm.toD)]) none none none none none none hg2 (by simp; omega) (get_last _ _)
      rw [okNext_eq] at k4
      have ha' := ha [some (.str f.nm), some txt, some (.cell om0.length), some (.int n), some (.str x), some i.toD, e6] rfl rfl
      simp only
      cases hk : okNext f acc i with
      | false =>
        rw [hk] at k4
        have h2 : rB [some (.str f.nm), some txt, some (.cell om0.length), some (.int n), some (.str x), e5, e6] (om0 ++ [.lst (acc.map Itm.toD)]) = .exc ⟨"ParseError", some (.int n)⟩ [some (.str f.nm), some txt, some (.cell om0.length), some (.int n), some (.str x), some i.toD, some d] (om0 ++ [.lst ((acc ++ [i]).map Itm.toD)]) := by
          unfold rB
          simp only [evs, ↓reduceIte, Nat.reduceAdd, Nat.reduceSub, List.reduceReplicate, Nat.reduceLeDiff, Bool.false_eq_true, reduceCtorEq, ht, itD, itD_toD, ha', k1, k2, k3, k4]
        rw [forL_exc h1 h2]
        exact ⟨_, _, rfl⟩
      | true =>
        rw [hk] at k4
        have h2 : rB [some (.str f.nm), some txt, some (.cell om0.length), some (.int n), some (.str x), e5, e6] (om0 ++ [.lst (acc.map Itm.toD)]) = .nx [some (.str f.nm), some txt, some (.cell om0.length), some (.int n), some (.str x), some i.toD, some d] (om0 ++ [.lst ((acc ++ [i]).map Itm.toD)]) := by
          unfold rB
          simp only [evs, ↓reduceIte, Nat.reduceAdd, Nat.reduceSub, List.reduceReplicate, Nat.reduceLeDiff, Bool.false_eq_true, reduceCtorEq, ht, itD, itD_toD, ha', k1, k2, k3, k4]
        rw [forL_nx h1 h2]
        exact read_loop f om0 txt r (n + 1) (acc ++ [i]) _ _ _ _ hg2 (by simp; omega) fun y hy => hx y (by simp [hy])
end K70
end Part_C6
section Part_C7
set_option maxRecDepth 100000
namespace K70
open PySem PySem.Spec PyProof.Rows L2 DL
theorem readGo_sound {f : F7} : ∀ {xs : List W} {n : Nat} {acc is : List Itm}, readGo f n acc xs = .inr is → ∃ js, is = acc ++ js ∧ goodGo f n acc js ∧ js.map Itm.txt = xs
  | [], n, acc, is, h => by
    cases h
    exact ⟨[], by simp, trivial, rfl⟩
  | x :: r, n, acc, is, h => by
    unfold readGo at h
    cases hp : parse f x (n == 0) with
    | none => rw [hp] at h; cases h
    | some i =>
      rw [hp] at h
      simp only at h
      split at h
      · rename_i hk
        obtain ⟨js, e1, e2, e3⟩ := readGo_sound h
        obtain ⟨g1, g2⟩ := parse_sound hp
        exact ⟨i :: js, by rw [e1]; simp, ⟨g1, hk, e2⟩, by rw [List.map_cons, g2, e3]⟩
      · cases h
theorem readGo_mk {f : F7} : ∀ {js : List Itm} {n : Nat} {acc : List Itm}, goodGo f n acc js → readGo f n acc (js.map Itm.txt) = .inr (acc ++ js)
  | [], n, acc, _ => by simp [readGo]
  | i :: r, n, acc, ⟨g1, g2, g3⟩ => by
    rw [List.map_cons, readGo, parse_mk g1]
    simp only
    rw [if_pos g2, readGo_mk g3]
    simp
theorem goodGo_mem {f : F7} : ∀ {js : List Itm} {n : Nat} {acc : List Itm}, goodGo f n acc js → ∀ i ∈ js, ∃ b, good f b i = true
  | [], _, _, _, i, h => by cases h
  | j :: r, n, acc, ⟨g1, _, g3⟩, i, h => by
    rcases List.mem_cons.mp h with rfl | h
    · exact ⟨_, g1⟩
    · exact goodGo_mem g3 i h
theorem asc_snoc {κ : Type} {lt : κ → κ → Bool} (o : Ord lt) {ks : List κ} {k : κ} (h : ks.Pairwise fun a b => lt a b = true) (h2 : ∀ j, ks.getLast? = some j → lt j k = true) : (ks ++ [k]).Pairwise fun a b => lt a b = true := by
  rcases List.eq_nil_or_concat ks with rfl | ⟨t, y, rfl⟩
  · simp
  · have h2 := h2 y (by simp)
    have h' : (t ++ [y]).Pairwise fun a b => lt a b = true := by simpa using h
    have e : t.concat y ++ [k] = (t ++ [y]) ++ [k] := by simp
    rw [e]
    refine List.pairwise_append.mpr ⟨h', by simp, fun a ha b hb => ?_⟩
    rw [List.mem_singleton] at hb
    subst hb
    rcases List.mem_append.mp ha with ha | ha
    · exact o.tr _ _ _ ((List.pairwise_append.mp h').2.2 a ha y (by simp)) h2
    · rw [List.mem_singleton] at ha
      subst ha; exact h2
theorem goodGo_ascS {f : F7} (hf : f = .lot ∨ f = .ends) : ∀ {js : List Itm} {n : Nat} {acc : List Itm}, goodGo f n acc js → ((acc.map kW).Pairwise fun a b => ltS a b = true) → ((acc ++ js).map kW).Pairwise fun a b => ltS a b = true
  | [], _, _, _, h => by simpa using h
  | j :: r, n, acc, ⟨_, g2, g3⟩, h => by
    have e : acc ++ j :: r = (acc ++ [j]) ++ r := by simp
    rw [e]
    refine goodGo_ascS hf g3 ?_
    rw [List.map_append]
    refine asc_snoc ltS_ord h fun k hk => ?_
    have g4 : nxS (acc.map kW) (kW j) = true := by rcases hf with rfl | rfl <;> exact g2
    unfold nxS at g4
    rw [hk] at g4
    exact g4
theorem goodGo_ascP : ∀ {js : List Itm} {n : Nat} {acc : List Itm}, goodGo .streets n acc js → ((acc.map kP).Pairwise fun a b => ltP a b = true) → ((acc ++ js).map kP).Pairwise fun a b => ltP a b = true
  | [], _, _, _, h => by simpa using h
  | j :: r, n, acc, ⟨_, g2, g3⟩, h => by
    have e : acc ++ j :: r = (acc ++ [j]) ++ r := by simp
    rw [e]
    refine goodGo_ascP g3 ?_
    rw [List.map_append]
    refine asc_snoc ltP_ord h fun k hk => ?_
    have g4 : nxP (acc.map kP) (kP j) = true := g2
    unfold nxP at g4
    rw [hk] at g4
    exact g4
/-- items that make a value -/
structure GoodAll (f : F7) (is : List Itm) : Prop where
  go : goodGo f 0 [] is
  ne : f = .growth → is ≠ []
theorem GoodAll.mem {f : F7} {is : List Itm} (h : GoodAll f is) : ∀ i ∈ is, ∃ b, good f b i = true := goodGo_mem h.go
theorem GoodAll.ascS {f : F7} {is : List Itm} (h : GoodAll f is) (hf : f = .lot ∨ f = .ends) : (is.map kW).Pairwise fun a b => ltS a b = true := by
  simpa using goodGo_ascS hf h.go (by simp)
theorem GoodAll.ascP {is : List Itm} (h : GoodAll .streets is) : (is.map kP).Pairwise fun a b => ltP a b = true := by
  simpa using goodGo_ascP h.go (by simp)
def textOf (is : List Itm) : W := if is = [] then [45] else TL.joinL [32] (is.map Itm.txt)
theorem no_dash (f : F7) (b : Bool) : parse f [45] b = none := by cases f <;> cases b <;> decide +kernel
theorem sp_dash : sp 32 [45] = [[45]] := by decide
theorem readP_sound {f : F7} {x : W} {is : List Itm} (h : readP f x = .inr is) : GoodAll f is ∧ textOf is = x := by
  unfold readP at h
  split at h
  · rename_i h1
    cases h
    exact ⟨⟨trivial, fun e => absurd e h1.2⟩, by simp [textOf, h1.1]⟩
  · rename_i h1
    obtain ⟨js, e1, e2, e3⟩ := readGo_sound h
    simp only [List.nil_append] at e1
    subst e1
    have hne : is ≠ [] := by
      rintro rfl
      exact sp_ne 32 x e3.symm
    exact ⟨⟨e2, fun _ => hne⟩, by unfold textOf; rw [if_neg hne, e3, sp_join]⟩
theorem join_no {c : Nat} (s : Nat) (hs : c ≠ s) : ∀ (ls : List W), (∀ p ∈ ls, c ∉ p) → c ∉ TL.joinL [s] ls
  | [], _ => by simp [TL.joinL]
  | [p], h => by simpa [TL.joinL] using h p (by simp)
  | p :: q :: r, h => by
    simp only [TL.joinL, List.mem_append, not_or]
    exact ⟨h p (by simp), by simpa using hs, join_no s hs (q :: r) fun z hz => h z (by simp [hz])⟩
theorem txt_no {f : F7} {b : Bool} {i : Itm} (h : good f b i = true) : 32 ∉ i.txt := by
  cases i with
  | w x =>
    simp only [good, Bool.and_eq_true] at h
    exact isW_no h.2 (by omega)
  | pr p =>
    simp only [good, Bool.and_eq_true] at h
    exact prT_no h.2 (by omega) (by omega)
  | way ws =>
    simp only [good, Bool.and_eq_true] at h
    exact join_no 62 (by omega) ws fun w hw => isW_no ((fwS_of h.2).2.1 w hw) (by omega)
  | tri p n =>
    simp only [good, Bool.and_eq_true, decide_eq_true_eq] at h
    show 32 ∉ (p.1 ++ 45 :: p.2) ++ 58 :: numT n
    simp [isW_no h.2.1.1.1 (c := 32) (by omega), isW_no h.2.1.1.2 (c := 32) (by omega), numT_no h.2.2 (c := 32) (by omega)]
  | en a n =>
    simp only [good, Bool.and_eq_true, decide_eq_true_eq] at h
    show 32 ∉ a ++ 58 :: numT n
    simp [isW_no h.2.1 (c := 32) (by omega), numT_no h.2.2 (c := 32) (by omega)]
  | st p n =>
    simp only [good, Bool.and_eq_true, decide_eq_true_eq] at h
    have := stOk_w h.2.1.1
    show 32 ∉ (p.1 ++ 62 :: p.2) ++ 58 :: numT n
    simp [isW_no this.1 (c := 32) (by omega), isW_no this.2.1 (c := 32) (by omega), numT_no h.2.2 (c := 32) (by omega)]
  | tie a b =>
    simp only [good, Bool.and_eq_true] at h
    show 32 ∉ a ++ 43 :: b
    simp [isW_no h.2.1 (c := 32) (by omega), isW_no h.2.2 (c := 32) (by omega)]
  | pin a ps =>
    simp only [good, Bool.and_eq_true] at h
    refine join_no 61 (by omega) _ fun w hw => ?_
    rcases List.mem_cons.mp hw with rfl | hw
    · exact isW_no h.2.1.1 (by omega)
    · obtain ⟨p, hp, rfl⟩ := List.mem_map.mp hw
      exact prT_no (List.all_eq_true.mp h.2.2 p hp) (by omega) (by omega)
theorem readP_mk {f : F7} {is : List Itm} (h : GoodAll f is) : readP f (textOf is) = .inr is := by
  unfold textOf readP
  by_cases hne : is = []
  · subst hne
    have hf : f ≠ .growth := fun e => h.ne e rfl
    simp [hf]
  · rw [if_neg hne]
    have hs : sp 32 (TL.joinL [32] (is.map Itm.txt)) = is.map Itm.txt := join_sp 32 _ (by simpa using hne) fun p hp => by
      obtain ⟨i, hi, rfl⟩ := List.mem_map.mp hp
      obtain ⟨b, hb⟩ := h.mem i hi
      exact txt_no hb
    have hd : TL.joinL [32] (is.map Itm.txt) ≠ [45] := by
      intro e
      rw [e, sp_dash] at hs
      have g := readGo_mk h.go
      rw [← hs] at g
      unfold readGo at g
      rw [no_dash] at g
      cases g
    rw [if_neg fun z => hd z.1, hs, readGo_mk h.go]
    rfl
theorem pairs_en {is : List Itm} (h : ∀ i ∈ is, ∃ b, good .ends b i = true) : pairsD (is.map Itm.toD) = some ((is.map fun i => (kW i, Dat.int (vN i))).map fun p => (.str p.1, p.2)) := by
  induction is with
  | nil => rfl
  | cons i r ih =>
    obtain ⟨b, hb⟩ := h i (by simp)
    obtain ⟨a, n, rfl, _⟩ := good_en hb
    rw [List.map_cons]
    show (pairsD (r.map Itm.toD)).map _ = _
    rw [ih fun j hj => h j (by simp [hj])]
    rfl
theorem pairs_st {is : List Itm} (h : ∀ i ∈ is, ∃ b, good .streets b i = true) : pairsD (is.map Itm.toD) = some ((is.map fun i => (kP i, Dat.int (vN i))).map fun p => (pD p.1, p.2)) := by
  induction is with
  | nil => rfl
  | cons i r ih =>
    obtain ⟨b, hb⟩ := h i (by simp)
    obtain ⟨a, n, rfl, _⟩ := good_st hb
    rw [List.map_cons]
    show (pairsD (r.map Itm.toD)).map _ = _
    rw [ih fun j hj => h j (by simp [hj])]
    rfl
theorem dict_lst {f : F7} {is : List Itm} (h : GoodAll f is) (hf : isDc f = true) (d : Dat) (om : Om) (ho : lstD om d = some (is.map Itm.toD)) : kDict [d] om = .ok (valD f is) om := by
  unfold kDict
  simp only [ho]
  unfold valD
  rw [if_pos hf]
  cases f with
  | ends =>
    rw [pairs_en h.mem]
    have h1 : (keysD (List.map (·.1) (List.map (fun p : W × Dat => (Dat.str p.1, p.2)) (is.map fun i => (kW i, Dat.int (vN i)))))).isSome = true := by
      have := keysD_str (is.map kW)
      unfold sD at this
      rw [List.map_map] at this
      rw [List.map_map, List.map_map]
      exact this
    simp only [h1, true_or, if_true]
    rw [mkD_nodup k1_str _ (by
      rw [List.map_map]
      exact asc_nodup ltS_ord (h.ascS (.inr rfl)))]
    simp only [List.map_map]
    unfold nD
    rw [List.map_map]
    rfl
  | streets =>
    rw [pairs_st h.mem]
    have h1 : (keysT (List.map (·.1) (List.map (fun p : (W × W) × Dat => (pD p.1, p.2)) (is.map fun i => (kP i, Dat.int (vN i)))))).isSome = true := by
      have := keysT_pD (is.map kP)
      rw [List.map_map] at this
      rw [List.map_map, List.map_map]
      exact this
    simp only [h1, or_true, if_true]
    rw [mkD_nodup k1_pD _ (by
      rw [List.map_map]
      exact asc_nodup ltP_ord h.ascP)]
    simp only [List.map_map]
    unfold nD
    rw [List.map_map]
    rfl
  | _ => simp [isDc] at hf
theorem dict_of {f : F7} {is : List Itm} (h : GoodAll f is) (hf : isDc f = true) (k : Nat) (om : Om) (ho : om[k]? = some (.lst (is.map Itm.toD))) : kDict [.cell k] om = .ok (valD f is) om :=
  dict_lst h hf (.cell k) om (by simp only [lstD, ho])
def readR (f : F7) (x : W) (om : Om) : R Dat := match readP f x with
  | .inl j => .exc ⟨"ParseError", some (.int j)⟩ om
  | .inr is => .ok (valD f is) om
theorem read_str (f : F7) (x : W) (om : Om) (ok : okOm om) (hx : okT x = true) (hl : x.length ≤ 3000) : f_read [.str f.nm, .str x] om = readR f x om := by
  have hin : inD (om ++ [.lst []]) (.str f.nm) (.tup [.str [101, 110, 100, 115], .str [115, 116, 114, 101, 101, 116, 115]]) = some (isDc f) := by cases f <;> rfl
  have hin2 : ∀ d, inD (om ++ [d]) (.str f.nm) (.tup [.str [101, 110, 100, 115], .str [115, 116, 114, 101, 101, 116, 115]]) = some (isDc f) := by intro d; cases f <;> rfl
  have hg : (f.nm == [103, 114, 111, 119, 116, 104]) = decide (f = .growth) := by cases f <;> rfl
  have hne : ∀ om', kNe (.str x) (.str [45]) om' = .ok (.bl (!(x == [45]))) om' := fun om' => kNe_str om' hx (by decide)
  -- what is walked
  have hw : ∀ env : En, env[0]? = some (some (.str f.nm)) → env[1]? = some (some (.str x)) → (iEnumD (eIf (tOrD (tst (e2 kNe (eVar 1) (eC dNOTHING))) (tst (e2 kEq (eVar 0) (eC (.str [103, 114, 111, 119, 116, 104]))))) (eM1 kSplit (eVar 1) (eC (.str [32]))) (eLst (aNil)))) env (om ++ [.lst []]) = .ok (enumD 0 (sD (if x = [45] ∧ f ≠ .growth then [] else sp 32 x))) (om ++ [.lst []]) := fun env q0 q1 => by
    simp only [evs, ↓reduceIte, Nat.reduceAdd, Nat.reduceSub, List.reduceReplicate, Nat.reduceLeDiff, Bool.false_eq_true, reduceCtorEq, q0, q1, dNOTHING, hne, hg, kSplit_sp 32 x _ (by omega) (by omega)]
    by_cases h1 : x = [45]
    · by_cases h2 : f = .growth
      · simp [h1, h2, evs, sD]
      · simp [h1, h2, evs, sD]
    · simp [h1, evs, sD]
  have hlen : (if x = [45] ∧ f ≠ .growth then [] else sp 32 x).length ≤ 4000 := by
    split
    · simp
    · have := sp_count 32 x; omega
  have hmem : ∀ y ∈ (if x = [45] ∧ f ≠ .growth then [] else sp 32 x), y.length ≤ 3000 := by
    intro y hy
    split at hy
    · cases hy
    · exact Nat.le_trans (sp_len 32 x y hy) hl
  have loop := read_loop f om (.str x) (if x = [45] ∧ f ≠ .growth then [] else sp 32 x) 0 [] none none none none (fun i hi => by cases hi) (by simpa using hlen) hmem
  have he : readGo f 0 [] (if x = [45] ∧ f ≠ .growth then [] else sp 32 x) = readP f x := by
    unfold readP
    split
    · rfl
    · rfl
  rw [he] at loop
  have hw' := hw [some (.str f.nm), some (.str x), some (.cell om.length), none, none, none, none] rfl rfl
  unfold f_read b_read
  rw [fnD_ev]
  simp only [evs, Nat.reduceAdd, Nat.reduceSub, List.reduceReplicate, ↓reduceIte, require_form, Nat.reduceLeDiff, Bool.false_eq_true]
  simp only [evs] at hw'
  rw [sFor_ok (by simp only [evs]; exact hw')]
  unfold readR
  cases hr : readP f x with
  | inl j =>
    rw [hr] at loop
    obtain ⟨env, d, e⟩ := loop
    simp only [List.map_nil] at e
    rw [e]
    simp only [evs]
    exact finE_more ok fun d hd => by cases hd; rfl
  | inr is =>
    rw [hr] at loop
    obtain ⟨e3, e4, e5, e6, e⟩ := loop
    simp only [List.map_nil] at e
    rw [e]
    obtain ⟨ga, _⟩ := readP_sound hr
    simp only [evs, ↓reduceIte, Nat.reduceAdd, Nat.reduceSub, List.reduceReplicate, Nat.reduceLeDiff, Bool.false_eq_true, reduceCtorEq, kIn, hin2]
    cases hd : isDc f with
    | true =>
      simp only [evs, ↓reduceIte, Nat.reduceAdd, Nat.reduceSub, List.reduceReplicate, Nat.reduceLeDiff, Bool.false_eq_true, reduceCtorEq, dict_of ga hd om.length _ (get_last _ _)]
      exact finR_more ok (flat_val f is)
    | false =>
      have ht : kTuple [.cell om.length] (om ++ [.lst (is.map Itm.toD)]) = .ok (.tup (is.map Itm.toD)) (om ++ [.lst (is.map Itm.toD)]) := by
        unfold kTuple itemsD
        simp
      simp only [evs, ↓reduceIte, Nat.reduceAdd, Nat.reduceSub, List.reduceReplicate, Nat.reduceLeDiff, Bool.false_eq_true, reduceCtorEq, ht]
      have := flat_val f is
      unfold valD at this ⊢
      simp only [hd, Bool.false_eq_true, if_false] at this ⊢
      exact finR_more ok this
end K70
end Part_C7
section Part_C8
set_option maxRecDepth 100000
namespace K70
open PySem PySem.Spec PyProof.Rows L2 DL
theorem low_len {p : W × W} (h : lowO (some p) = true) : p.1.length ≤ 8 ∧ p.2.length ≤ 8 := by
  have := low_of h
  exact ⟨(isW_len this.1).2, (isW_len this.2).2⟩
theorem pair_texts (ps : List (W × W)) (om : Om) (hl : ps.length ≤ 100000) (h : ∀ p ∈ ps, lowO (some p) = true) : f_pair_texts [.tup (ps.map pD)] om = .ok (.lst (sD (ps.map prT))) om := by
  have e : ∀ x0 x1 x2 : Option Dat, lcL (gT 2 (gsC (gN 1) (gsC (gN 2) (gsN)))) tYesD (joinF [eFmt (eVar 1), eC (.str [45]), eFmt (eVar 2)] []) (ps.map pD) [x0, x1, x2] om [] = .ok (ps.map fun p => .str (prT p)) om := fun x0 x1 x2 =>
    lcL_mapM _ _ (by omega) fun p hp => ⟨[x0, some (.str p.1), some (.str p.2)], by unfold pD; simp only [evs, ↓reduceIte, Nat.reduceAdd, Nat.reduceSub, List.reduceReplicate, Nat.reduceLeDiff, Bool.false_eq_true, reduceCtorEq], by
      have h1 := low_len (h p hp)
      have a1 : p.1.length ≤ 1000000 := by omega
      have a2 : p.2.length ≤ 1000000 := by omega
      have a3 : p.1.length ≤ 999999 := by omega
      have a4 : p.1.length + 1 + p.2.length ≤ 1000000 := by omega
      simp only [evs, ↓reduceIte, Nat.reduceAdd, Nat.reduceSub, List.reduceReplicate, Nat.reduceLeDiff, Bool.false_eq_true, reduceCtorEq, a1, a2, Nat.zero_add, a3, a4, List.append_assoc]
      unfold prT
      rfl⟩
  unfold f_pair_texts b_pair_texts
  simp only [evs, ↓reduceIte, Nat.reduceAdd, Nat.reduceSub, List.reduceReplicate, Nat.reduceLeDiff, Bool.false_eq_true, reduceCtorEq, fnD_ev, e]
  unfold sD
  rw [List.map_map]; rfl
theorem joins_ok (c : Nat) (ls : List W) (om : Om) (h : (TL.joinL [c] ls).length ≤ 900000) : kJoin (.str [c]) (.lst (sD ls)) om = .ok (.str (TL.joinL [c] ls)) om := by
  refine kJoin_lst [c] ls om ?_
  have := joinL_len c ls
  simp only [List.length_cons, List.length_nil]
  split at this <;> omega
theorem numT_len (n : Nat) : (numT n).length ≤ 2 := by unfold numT; split <;> simp
theorem step_text (i : Itm) (om : Om) (h : good .growth false i = true) (hl : i.txt.length ≤ 100000) : f_step_text [i.toD] om = .ok (.str i.txt) om := by
  cases i with
  | tie a b =>
    simp only [good, Bool.and_eq_true] at h
    have h1 := isW_len h.2.1
    have h2 := isW_len h.2.2
    have a1 : a.length ≤ 1000000 := by omega
    have a2 : b.length ≤ 1000000 := by omega
    have a3 : a.length ≤ 999999 := by omega
    have a4 : a.length + 1 + b.length ≤ 1000000 := by omega
    unfold f_step_text b_step_text Itm.toD
    simp only [evs, ↓reduceIte, Nat.reduceAdd, Nat.reduceSub, List.reduceReplicate, Nat.reduceLeDiff, Bool.false_eq_true, reduceCtorEq, fnD_ev, atD_0, atD_1, atD_2, BEq.rfl, a1, a2, a3, a4, Nat.zero_add, List.append_assoc]
    rfl
  | pin a ps =>
    simp only [good, Bool.and_eq_true] at h
    have g := List.all_eq_true.mp h.2.2
    have hn : (TL.joinL [61] (a :: ps.map prT)).length ≤ 100000 := hl
    have hc := joinL_len 61 (a :: ps.map prT)
    have hm : ps.length ≤ 100000 := by
      simp at hc
      have : ps.length + 1 ≤ (TL.joinL [61] (a :: ps.map prT)).length + 1 := by omega
      omega
    have e1 : (PIN == TIE) = false := by decide
    have e2 := joins_ok 61 (a :: ps.map prT) om (by omega)
    have e3 : ps.length + 1 ≤ 1000000 := by omega
    unfold f_step_text b_step_text Itm.toD
    unfold sD at e2
    simp only [List.map_cons] at e2
    simp only [evs, ↓reduceIte, Nat.reduceAdd, Nat.reduceSub, List.reduceReplicate, Nat.reduceLeDiff, Bool.false_eq_true, reduceCtorEq, fnD_ev, evstar, atD_0, atD_1, atD_2, e1, pair_texts ps om hm g, sD, e3, e2]
    rfl
  | _ => simp [good] at h
theorem is_step_good (i : Itm) (om : Om) (h : good .growth false i = true) (hl : i.txt.length ≤ 100000) : f_is_step [i.toD] om = .ok (.bl true) om := by
  cases i with
  | tie a b =>
    simp only [good, Bool.and_eq_true] at h
    have h1 := isW_len h.2.1
    have h2 := isW_len h.2.2
    have := is_step_tie a b om (by omega) (by omega)
    rw [h.2.1, h.2.2] at this
    exact this
  | pin a ps =>
    simp only [good, Bool.and_eq_true, Bool.not_eq_true', List.isEmpty_eq_false_iff] at h
    have g := List.all_eq_true.mp h.2.2
    have hn : (TL.joinL [61] (a :: ps.map prT)).length ≤ 100000 := hl
    have hc := joinL_len 61 (a :: ps.map prT)
    have hm : ps.length ≤ 100000 := by
      simp at hc
      have : ps.length + 1 ≤ (TL.joinL [61] (a :: ps.map prT)).length + 1 := by omega
      omega
    have ha := isW_len h.2.1.1
    have := is_step_pin a (ps.map some) om (by omega) (by simp; omega) (fun p hp => by
      have : p ∈ ps := by simpa using hp
      have := low_len (g p this)
      omega)
    rw [← oD_some] at this
    have e1 : (ps.map some).all lowO = true := by
      rw [List.all_map, List.all_eq_true]
      exact g
    have e2 : ((ps.map some).length == 0) = false := by
      have := h.2.1.2
      cases ps with
      | nil => exact absurd rfl this
      | cons p r => simp
    rw [h.2.1.1, e1, e2] at this
    exact this
  | _ => simp [good] at h
/-! ### whether a value has a form -/
theorem good_pr {b : Bool} {i : Itm} (h : good .pairs b i = true) : ∃ p, i = .pr p ∧ lowO (some p) = true := by
  cases i <;> simp [good] at h
  exact ⟨_, rfl, h⟩
theorem good_way {b : Bool} {i : Itm} (h : good .ways b i = true) : ∃ p, i = .way p ∧ fwS p = true := by
  cases i <;> simp [good] at h
  exact ⟨_, rfl, h⟩
theorem good_tri {b : Bool} {i : Itm} (h : good .tree b i = true) : ∃ p n, i = .tri p n ∧ isW p.1 = true ∧ isW p.2 = true ∧ ltS p.1 p.2 = true ∧ n < 100 := by
  cases i <;> simp only [good] at h <;> first | (simp at h; done) | skip
  rename_i p n
  simp only [Bool.and_eq_true, decide_eq_true_eq] at h
  exact ⟨p, n, rfl, h.2.1.1.1, h.2.1.1.2, by simpa using h.2.1.2, h.2.2⟩
theorem goodGo_false {f : F7} : ∀ {js : List Itm} {n : Nat} {acc : List Itm}, goodGo f (n + 1) acc js → ∀ i ∈ js, good f false i = true
  | [], _, _, _, i, h => by cases h
  | j :: r, n, acc, ⟨g1, _, g3⟩, i, h => by
    rcases List.mem_cons.mp h with rfl | h
    · exact g1
    · exact goodGo_false g3 i h
theorem good_growth {is : List Itm} (h : GoodAll .growth is) : ∃ x js, is = .w x :: js ∧ isW x = true ∧ ∀ i ∈ js, good .growth false i = true := by
  obtain ⟨hg, hn⟩ := h
  cases is with
  | nil => exact absurd rfl (hn rfl)
  | cons i js =>
    obtain ⟨g1, _, g3⟩ := hg
    have h1 : good .growth true i = true := g1
    cases i <;> simp [good] at h1
    exact ⟨_, js, rfl, h1, goodGo_false g3⟩
/-- no part is longer than this -/
def small (is : List Itm) : Prop := is.length ≤ 4000 ∧ ∀ i ∈ is, i.txt.length ≤ 3000
theorem joinL_ge (c : Nat) (ls : List W) : ∀ p ∈ ls, p.length ≤ (TL.joinL [c] ls).length := fun p hp => by
  have h1 := joinL_len c ls
  have h2 := mem_sum ls p hp
  have h3 : ls ≠ [] := by rintro rfl; cases hp
  have h4 : 1 ≤ ls.length := by cases ls with
    | nil => exact absurd rfl h3
    | cons _ _ => simp
  rw [if_neg h3] at h1
  omega
theorem small_of {is : List Itm} (h : (textOf is).length ≤ 3000) : small is := by
  unfold textOf at h
  by_cases hn : is = []
  · subst hn; exact ⟨by simp, by simp⟩
  · rw [if_neg hn] at h
    refine ⟨?_, fun i hi => Nat.le_trans (joinL_ge 32 (is.map Itm.txt) i.txt (List.mem_map.mpr ⟨i, hi, rfl⟩)) h⟩
    have h1 := joinL_len 32 (is.map Itm.txt)
    rw [if_neg (by simpa using hn), List.length_map] at h1
    omega
theorem eqv_sorted (ws : List W) (om : Om) : kEq (.lst (sD ws)) (.lst (sD (sortK (leO ltS) (nubK ws)))) om = .ok (.bl (ascS ws)) om := by
  unfold kEq
  simp only [der_lstS, eqA_lst_str, asc_str]
theorem way_len {ws : List W} (h : (Itm.txt (.way ws)).length ≤ 3000) : ws.length ≤ 4000 := by
  have h1 := joinL_len 62 ws
  have h2 : (TL.joinL [62] ws).length ≤ 3000 := h
  split at h1 <;> omega
def pO : Itm → Option (W × W)
  | .pr p => some p
  | _ => none
theorem okP_pD (n : Nat) {p : W × W} (h : lowO (some p) = true) : okP (n + 1) (pD p) = true := by
  show okP (n + 1) (.tup [.str p.1, .str p.2]) = true
  have := low_of h
  rw [okP]
  simp only [okPs, okP_str, isW_okT this.1, isW_okT this.2, Bool.and_true]
theorem okP_toD (n : Nat) (i : Itm) (h : good .growth false i = true) : okP (n + 4) i.toD = true := by
  cases i with
  | tie a b =>
    simp only [good, Bool.and_eq_true] at h
    show okP (n + 4) (.tup [.str TIE, .str a, .str b]) = true
    rw [okP]
    simp only [okPs, okP_str, isW_okT h.2.1, isW_okT h.2.2, Bool.and_true]
    decide
  | pin a ps =>
    simp only [good, Bool.and_eq_true] at h
    have g := List.all_eq_true.mp h.2.2
    show okP (n + 4) (.tup [.str PIN, .str a, .tup (ps.map pD)]) = true
    rw [okP]
    have e : okP (n + 3) (.tup (ps.map pD)) = true := by
      rw [okP]
      exact okPs_map _ _ _ fun p hp => okP_pD _ (g p hp)
    simp only [okPs, okP_str, isW_okT h.2.1.1, e, Bool.and_true]
    decide
  | _ => simp [good] at h
theorem has_form (f : F7) (is : List Itm) (om : Om) (h : GoodAll f is) (sm : small is) : f_has_form [.str f.nm, valD f is] om = .ok (.bl true) om := by
  have m := h.mem
  unfold f_has_form b_has_form
  rw [fnD_ev]
  cases f with
  | ends =>
    have e := number_dict (is.map kW) (is.map vN) om (fun w hw => by
      obtain ⟨i, hi, rfl⟩ := List.mem_map.mp hw
      obtain ⟨b, hb⟩ := m i hi
      obtain ⟨a, n, rfl, h1, _⟩ := good_en hb
      have := isW_len h1
      show a.length ≤ _
      omega) (fun n hn => by
      obtain ⟨i, hi, rfl⟩ := List.mem_map.mp hn
      obtain ⟨b, hb⟩ := m i hi
      obtain ⟨a, n, rfl, h1, h2⟩ := good_en hb
      exact h2) (by simp; have := sm.1; omega) (by simp; have := sm.1; omega)
    have e2 : (is.map kW).all isW = true := by
      rw [List.all_map, List.all_eq_true]
      intro i hi
      obtain ⟨b, hb⟩ := m i hi
      obtain ⟨a, n, rfl, h1, h2⟩ := good_en hb
      exact h1
    rw [e2] at e
    unfold sD at e
    rw [List.map_map] at e
    have e3 : valD .ends is = .dct (is.map (Dat.str ∘ kW)) (nD (is.map vN)) := rfl
    rw [e3]
    simp only [evs, ↓reduceIte, Nat.reduceAdd, Nat.reduceSub, List.reduceReplicate, Nat.reduceLeDiff, Bool.false_eq_true, reduceCtorEq, F7.nm, BEq.rfl, e]
  | streets =>
    have e := street_dict (is.map kP) (is.map vN) om (fun w hw => by
      obtain ⟨i, hi, rfl⟩ := List.mem_map.mp hw
      obtain ⟨b, hb⟩ := m i hi
      obtain ⟨p, n, rfl, h1, _⟩ := good_st hb
      have := stOk_w h1
      have a1 := isW_len this.1
      have a2 := isW_len this.2.1
      show p.1.length ≤ _ ∧ p.2.length ≤ _
      omega) (fun n hn => by
      obtain ⟨i, hi, rfl⟩ := List.mem_map.mp hn
      obtain ⟨b, hb⟩ := m i hi
      obtain ⟨a, n, rfl, h1, _, h2⟩ := good_st hb
      exact h2) (by simp; have := sm.1; omega) (by simp; have := sm.1; omega)
    have e2 : (is.map kP).all stOk = true := by
      rw [List.all_map, List.all_eq_true]
      intro i hi
      obtain ⟨b, hb⟩ := m i hi
      obtain ⟨a, n, rfl, h1, h2⟩ := good_st hb
      exact h1
    have e4 : ((is.map vN).all fun n => decide (1 ≤ n)) = true := by
      rw [List.all_map, List.all_eq_true]
      intro i hi
      obtain ⟨b, hb⟩ := m i hi
      obtain ⟨a, n, rfl, h1, h2, _⟩ := good_st hb
      exact decide_eq_true h2
    rw [e2, e4] at e
    rw [List.map_map] at e
    have e3 : valD .streets is = .dct (is.map (pD ∘ kP)) (nD (is.map vN)) := rfl
    rw [e3]
    have e1 : (F7.streets.nm == F7.ends.nm) = false := by decide
    unfold F7.nm at *
    simp only at e1
    simp only [evs, ↓reduceIte, Nat.reduceAdd, Nat.reduceSub, List.reduceReplicate, Nat.reduceLeDiff, Bool.false_eq_true, reduceCtorEq, e1, BEq.rfl, e]
  | lot =>
    have e0 : is.map Itm.toD = sD (is.map kW) := by
      unfold sD
      rw [List.map_map]
      exact List.map_congr_left fun i hi => by
        obtain ⟨b, hb⟩ := m i hi
        obtain ⟨x, rfl, _⟩ := good_w hb
        rfl
    have hw : ∀ w ∈ is.map kW, isW w = true := fun w hw => by
      obtain ⟨i, hi, rfl⟩ := List.mem_map.mp hw
      obtain ⟨b, hb⟩ := m i hi
      obtain ⟨x, rfl, h1⟩ := good_w hb
      exact h1
    have e := is_words_str (is.map kW) (is.map kW).length om (by simp; have := sm.1; omega) (fun w hh => by have := isW_len (hw w hh); omega)
    have e2 : (is.map kW).all isW = true := List.all_eq_true.mpr hw
    have e3 : valD .lot is = .tup (is.map Itm.toD) := rfl
    have e5 := (kSortSetI_str (is.map kW) om (by simp; exact sm.1)).1
    have e6 : ascS (is.map kW) = true := by
      unfold ascS
      exact decide_eq_true (h.ascS (.inl rfl))
    rw [e3, e0]
    generalize is.map kW = ws at *
    have e7 : (sD ws).length = ws.length := by simp [sD]
    have f1 : (F7.lot.nm == F7.ends.nm) = false := by decide
    have f2 : (F7.lot.nm == F7.streets.nm) = false := by decide
    unfold F7.nm at *
    simp only at f1 f2
    rw [e2, BEq.rfl] at e
    simp only [evs, ↓reduceIte, Nat.reduceAdd, Nat.reduceSub, List.reduceReplicate, Nat.reduceLeDiff, Bool.false_eq_true, reduceCtorEq, f1, f2, BEq.rfl, e7, e, e5, eqv_sorted, e6]
  | pairs =>
    have e0 : is.map Itm.toD = (is.map pO).map oD := by
      rw [List.map_map]
      exact List.map_congr_left fun i hi => by
        obtain ⟨b, hb⟩ := m i hi
        obtain ⟨x, rfl, _⟩ := good_pr hb
        rfl
    have e := pair_tuple (is.map pO) om (by simp; have := sm.1; omega) (fun p hp => by
      obtain ⟨i, hi, q⟩ := List.mem_map.mp hp
      obtain ⟨b, hb⟩ := m i hi
      obtain ⟨x, rfl, h1⟩ := good_pr hb
      cases q
      have := low_len h1
      omega)
    have e2 : (is.map pO).all lowO = true := by
      rw [List.all_map, List.all_eq_true]
      intro i hi
      obtain ⟨b, hb⟩ := m i hi
      obtain ⟨x, rfl, h1⟩ := good_pr hb
      exact h1
    rw [e2, ← e0] at e
    have e3 : valD .pairs is = .tup (is.map Itm.toD) := rfl
    rw [e3]
    have f_ends : (F7.pairs.nm == F7.ends.nm) = false := by decide
    have f_streets : (F7.pairs.nm == F7.streets.nm) = false := by decide
    have f_lot : (F7.pairs.nm == F7.lot.nm) = false := by decide
    unfold F7.nm at *
    simp only at f_ends f_streets f_lot
    simp only [evs, ↓reduceIte, Nat.reduceAdd, Nat.reduceSub, List.reduceReplicate, Nat.reduceLeDiff, Bool.false_eq_true, reduceCtorEq, f_ends, f_streets, f_lot, BEq.rfl, e]
  | ways =>
    have e : ∀ x0 x1 x2 x3 x4 : Option Dat, lcL (gN 2) tYesD (eCall 1 [] f_is_far_way (aCons (eVar 2) (aNil))) (is.map Itm.toD) [x0, x1, x2, x3, x4] om [] = .ok (is.map fun i => .bl true) om := fun x0 x1 x2 x3 x4 =>
      lcL_mapM _ _ (by have := sm.1; omega) fun i hi => ⟨_, rfl, by
        obtain ⟨b, hb⟩ := m i hi
        obtain ⟨ws, rfl, h1⟩ := good_way hb
        have := far_way ws om (way_len (sm.2 _ hi)) (fun w hw => by have := isW_len ((fwS_of h1).2.1 w hw); omega)
        rw [h1] at this
        unfold Itm.toD
        simp only [evs, ↓reduceIte, Nat.reduceAdd, Nat.reduceSub, List.reduceReplicate, Nat.reduceLeDiff, Bool.false_eq_true, reduceCtorEq, this]⟩
    have e3 : valD .ways is = .tup (is.map Itm.toD) := rfl
    have e4 : (is.all fun _ => true) = true := by simp
    rw [e3]
    have f_ends : (F7.ways.nm == F7.ends.nm) = false := by decide
    have f_streets : (F7.ways.nm == F7.streets.nm) = false := by decide
    have f_lot : (F7.ways.nm == F7.lot.nm) = false := by decide
    have f_pairs : (F7.ways.nm == F7.pairs.nm) = false := by decide
    unfold F7.nm at *
    simp only at f_ends f_streets f_lot f_pairs
    simp only [evs, ↓reduceIte, Nat.reduceAdd, Nat.reduceSub, List.reduceReplicate, Nat.reduceLeDiff, Bool.false_eq_true, reduceCtorEq, f_ends, f_streets, f_lot, f_pairs, BEq.rfl, e, kAll_all, e4]
  | tree =>
    have e : ∀ x0 x1 x2 x3 x4 : Option Dat, lcL (gN 3) tYesD (eCall 1 [] f_is_counted (aCons (eVar 3) (aNil))) (is.map Itm.toD) [x0, x1, x2, x3, x4] om [] = .ok (is.map fun i => .bl true) om := fun x0 x1 x2 x3 x4 =>
      lcL_mapM _ _ (by have := sm.1; omega) fun i hi => ⟨_, rfl, by
        obtain ⟨b, hb⟩ := m i hi
        obtain ⟨p, n, rfl, h1, h2, h3, h4⟩ := good_tri hb
        have a1 := isW_len h1
        have a2 := isW_len h2
        have := counted p n om h4 (by omega) (by omega)
        rw [h1, h2, h3] at this
        unfold Itm.toD
        simp only [evs, ↓reduceIte, Nat.reduceAdd, Nat.reduceSub, List.reduceReplicate, Nat.reduceLeDiff, Bool.false_eq_true, reduceCtorEq, this]⟩
    have e3 : valD .tree is = .tup (is.map Itm.toD) := rfl
    have e4 : (is.all fun _ => true) = true := by simp
    rw [e3]
    have f_ends : (F7.tree.nm == F7.ends.nm) = false := by decide
    have f_streets : (F7.tree.nm == F7.streets.nm) = false := by decide
    have f_lot : (F7.tree.nm == F7.lot.nm) = false := by decide
    have f_pairs : (F7.tree.nm == F7.pairs.nm) = false := by decide
    have f_ways : (F7.tree.nm == F7.ways.nm) = false := by decide
    unfold F7.nm at *
    simp only at f_ends f_streets f_lot f_pairs f_ways
    simp only [evs, ↓reduceIte, Nat.reduceAdd, Nat.reduceSub, List.reduceReplicate, Nat.reduceLeDiff, Bool.false_eq_true, reduceCtorEq, f_ends, f_streets, f_lot, f_pairs, f_ways, BEq.rfl, e, kAll_all, e4]
  | growth =>
    obtain ⟨x, js, rfl, h1, h2⟩ := good_growth h
    have e : ∀ x0 x1 x2 x3 x4 : Option Dat, lcL (gN 4) tYesD (eCall 1 [] f_is_step (aCons (eVar 4) (aNil))) (js.map Itm.toD) [x0, x1, x2, x3, x4] om [] = .ok (js.map fun i => .bl true) om := fun x0 x1 x2 x3 x4 =>
      lcL_mapM _ _ (by have := sm.1; simp at this; omega) fun i hi => ⟨_, rfl, by
        have := is_step_good i om (h2 i hi) (by have := sm.2 i (by simp [hi]); omega)
        simp only [evs, ↓reduceIte, Nat.reduceAdd, Nat.reduceSub, List.reduceReplicate, Nat.reduceLeDiff, Bool.false_eq_true, reduceCtorEq, this]⟩
    have e3 : valD .growth (.w x :: js) = .tup (.str x :: js.map Itm.toD) := rfl
    have e4 : (js.all fun _ => true) = true := by simp
    have e5 : kNe (.tup (.str x :: js.map Itm.toD)) (.tup []) om = .ok (.bl true) om := by
      rw [kNe_tup_nil _ _ (by
        rw [okPs, okP_str, isW_okT h1, okPs_map _ _ _ fun i hi => okP_toD 55 i (h2 i hi)]; rfl)]
      rfl
    have e6 : DL.cutD (.str x :: js.map Itm.toD) (some 1) none = js.map Itm.toD := by
      unfold DL.cutD
      have : sIxD (Dat.str x :: js.map Itm.toD).length 0 (some 1) = 1 := by unfold sIxD; simp
      rw [this]
      have : sIxD (Dat.str x :: js.map Itm.toD).length (Dat.str x :: js.map Itm.toD).length none = js.length + 1 := by unfold sIxD; simp
      rw [this]
      simp only [List.drop_succ_cons, List.drop_zero, Nat.add_sub_cancel]
      exact List.take_of_length_le (by simp)
    have e7 := is_word_str x om (by have := isW_len h1; omega)
    rw [h1] at e7
    rw [e3]
    have f_ends : (F7.growth.nm == F7.ends.nm) = false := by decide
    have f_streets : (F7.growth.nm == F7.streets.nm) = false := by decide
    have f_lot : (F7.growth.nm == F7.lot.nm) = false := by decide
    have f_pairs : (F7.growth.nm == F7.pairs.nm) = false := by decide
    have f_ways : (F7.growth.nm == F7.ways.nm) = false := by decide
    have f_tree : (F7.growth.nm == F7.tree.nm) = false := by decide
    unfold F7.nm at *
    simp only at f_ends f_streets f_lot f_pairs f_ways f_tree
    simp only [evs, ↓reduceIte, Nat.reduceAdd, Nat.reduceSub, List.reduceReplicate, Nat.reduceLeDiff, Bool.false_eq_true, reduceCtorEq, f_ends, f_streets, f_lot, f_pairs, f_ways, f_tree, e5, e6, e7, atD_0, e, kAll_all, e4]
end K70
end Part_C8
section Part_C9
set_option maxRecDepth 100000
namespace K70
open PySem PySem.Spec PyProof.Rows L2 DL
theorem log2_small (n : Nat) (h : n < 100) : ((n : Int).natAbs.log2 < 1920) := by
  have : ((n : Int).natAbs) = n := rfl
  rw [this]
  have : ∀ n : Nat, n < 100 → n.log2 < 1920 := by decide
  exact this n h
theorem look_at {κ : Type} [DecidableEq κ] {f : κ → Dat} (hf : ∀ a b, k1 (f a) (f b) = decide (a = b)) {α : Type} (g : α → κ) (v : α → Dat) : ∀ (is : List α), (is.map g).Nodup → ∀ i ∈ is, lookD (is.map fun i => f (g i)) (is.map v) (f (g i)) = some (v i)
  | [], _, i, h => by cases h
  | j :: r, hn, i, h => by
    rw [List.map_cons, List.map_cons, lookD, hf]
    rw [List.map_cons, List.nodup_cons] at hn
    rcases List.mem_cons.mp h with rfl | h
    · simp
    · have : g j ≠ g i := fun e => hn.1 (by rw [e]; exact List.mem_map.mpr ⟨i, h, rfl⟩)
      rw [if_neg (by simpa using this)]
      exact look_at hf g v r hn.2 i h
theorem sortedI_of (ds : List Dat) (om : Om) (h : srtOk ds = true) (hl : ds.length ≤ 1000000) (hs : sortI ds = ds) : kSortedI [.lst ds] om = .ok (.lst ds) om := by
  unfold kSortedI
  simp only [lstD]
  rw [if_pos ⟨h, hl⟩, hs]
theorem kD_ends (is : List Itm) : is.map (kD .ends) = sD (is.map kW) := by unfold sD; rw [List.map_map]; rfl
theorem kD_streets (is : List Itm) : is.map (kD .streets) = (is.map kP).map pD := by rw [List.map_map]; rfl
theorem kListDc_ev (ks vs : List Dat) (om : Om) : kListDc [.dct ks vs] om = .ok (.lst ks) om := rfl
theorem kDGet_ev {ks vs : List Dat} {y d : Dat} (om : Om) (h : lookD ks vs y = some d) : kDGet (.dct ks vs) y om = .ok d om := by
  unfold kDGet
  simp only [h]
theorem w_ite {x : Nat} {c : Prop} {α : Type} {a b : α} [Decidable c] (h : c) : (if c then a else b) = a := if_pos h
def pW : Itm → W × W
  | .pr p => p
  | _ => ([], [])
theorem item_texts (f : F7) (is : List Itm) (om : Om) (h : GoodAll f is) (sm : small is) : f_item_texts [.str f.nm, valD f is] om = .ok (.lst (sD (is.map Itm.txt))) om := by
  have m := h.mem
  have hl := sm.1
  unfold f_item_texts b_item_texts
  rw [fnD_ev]
  cases f with
  | lot =>
    have e3 : valD .lot is = .tup (is.map Itm.toD) := rfl
    have e0 : is.map Itm.toD = sD (is.map Itm.txt) := by
      unfold sD
      rw [List.map_map]
      exact List.map_congr_left fun i hi => by
        obtain ⟨b, hb⟩ := m i hi
        obtain ⟨x, rfl, _⟩ := good_w hb
        rfl
    rw [e3, e0]
    simp only [evs, ↓reduceIte, Nat.reduceAdd, Nat.reduceSub, List.reduceReplicate, Nat.reduceLeDiff, Bool.false_eq_true, reduceCtorEq, F7.nm, BEq.rfl]
  | pairs =>
    have e3 : valD .pairs is = .tup (is.map Itm.toD) := rfl
    have e0 : is.map Itm.toD = (is.map pW).map pD := by
      rw [List.map_map]
      exact List.map_congr_left fun i hi => by
        obtain ⟨b, hb⟩ := m i hi
        obtain ⟨x, rfl, _⟩ := good_pr hb
        rfl
    have e1 : (is.map pW).map prT = is.map Itm.txt := by
      rw [List.map_map]
      exact List.map_congr_left fun i hi => by
        obtain ⟨b, hb⟩ := m i hi
        obtain ⟨x, rfl, _⟩ := good_pr hb
        rfl
    have e := pair_texts (is.map pW) om (by simp; omega) fun p hp => by
      obtain ⟨i, hi, rfl⟩ := List.mem_map.mp hp
      obtain ⟨b, hb⟩ := m i hi
      obtain ⟨x, rfl, h1⟩ := good_pr hb
      exact h1
    rw [e1, ← e0] at e
    rw [e3]
    have f_lot : (F7.pairs.nm == F7.lot.nm) = false := by decide
    unfold F7.nm at *
    simp only at f_lot
    simp only [evs, ↓reduceIte, Nat.reduceAdd, Nat.reduceSub, List.reduceReplicate, Nat.reduceLeDiff, Bool.false_eq_true, reduceCtorEq, f_lot, BEq.rfl, e]
  | ways =>
    have e : ∀ x0 x1 x2 x3 x4 x5 x6 x7 : Option Dat, lcL (gN 2) tYesD (eM1 kJoin (eC (.str [62])) (eB kList (aCons (eVar 2) (aNil)))) (is.map Itm.toD) [x0, x1, x2, x3, x4, x5, x6, x7] om [] = .ok (is.map fun i => .str i.txt) om := fun x0 x1 x2 x3 x4 x5 x6 x7 =>
      lcL_mapM _ _ (by omega) fun i hi => ⟨_, rfl, by
        obtain ⟨b, hb⟩ := m i hi
        obtain ⟨ws, rfl, h1⟩ := good_way hb
        have := joins_ok 62 ws om (by have := sm.2 _ hi; exact Nat.le_trans this (by omega))
        unfold Itm.toD
        simp only [evs, ↓reduceIte, Nat.reduceAdd, Nat.reduceSub, List.reduceReplicate, Nat.reduceLeDiff, Bool.false_eq_true, reduceCtorEq, this]
        rfl⟩
    have e3 : valD .ways is = .tup (is.map Itm.toD) := rfl
    rw [e3]
    have f_lot : (F7.ways.nm == F7.lot.nm) = false := by decide
    have f_pairs : (F7.ways.nm == F7.pairs.nm) = false := by decide
    unfold F7.nm at *
    simp only at f_lot f_pairs
    simp only [evs, ↓reduceIte, Nat.reduceAdd, Nat.reduceSub, List.reduceReplicate, Nat.reduceLeDiff, Bool.false_eq_true, reduceCtorEq, f_lot, f_pairs, BEq.rfl, e]
    unfold sD
    rw [List.map_map]; rfl
  | tree =>
    have e : ∀ x0 x1 x2 x3 x4 x5 x6 x7 : Option Dat, lcL (gT 3 (gsC (gN 3) (gsC (gN 4) (gsC (gN 5) (gsN))))) tYesD (joinF [eFmt (eVar 3), eC (.str [45]), eFmt (eVar 4), eC (.str [58]), eFmt (eVar 5)] []) (is.map Itm.toD) [x0, x1, x2, x3, x4, x5, x6, x7] om [] = .ok (is.map fun i => .str i.txt) om := fun x0 x1 x2 x3 x4 x5 x6 x7 =>
      lcL_mapM _ _ (by omega) fun i hi => by
        obtain ⟨b, hb⟩ := m i hi
        obtain ⟨p, n, rfl, h1, h2, h3, h4⟩ := good_tri hb
        refine ⟨[x0, x1, x2, some (.str p.1), some (.str p.2), some (.int n), x6, x7], by unfold Itm.toD; simp only [evs, ↓reduceIte, Nat.reduceAdd, Nat.reduceSub, List.reduceReplicate, Nat.reduceLeDiff, Bool.false_eq_true, reduceCtorEq], ?_⟩
        have a1 := isW_len h1
        have a2 := isW_len h2
        have b1 : p.1.length ≤ 1000000 := by omega
        have b2 : p.2.length ≤ 1000000 := by omega
        have b3 : p.1.length ≤ 999999 := by omega
        have b4 : p.1.length + 1 + p.2.length ≤ 1000000 := by omega
        have b5 : p.1.length + 1 + p.2.length ≤ 999999 := by omega
        have b6 : p.1.length + 1 + p.2.length + 1 + (numT n).length ≤ 1000000 := by have := numT_len n; omega
        simp only [evs, ↓reduceIte, Nat.reduceAdd, Nat.reduceSub, List.reduceReplicate, Nat.reduceLeDiff, Bool.false_eq_true, reduceCtorEq, b1, b2, b3, b4, b5, b6, Nat.zero_add, log2_small n h4, digs_numT n h4]
        simp [Itm.txt, prT]
    have e3 : valD .tree is = .tup (is.map Itm.toD) := rfl
    rw [e3]
    have f_lot : (F7.tree.nm == F7.lot.nm) = false := by decide
    have f_pairs : (F7.tree.nm == F7.pairs.nm) = false := by decide
    have f_ways : (F7.tree.nm == F7.ways.nm) = false := by decide
    unfold F7.nm at *
    simp only at f_lot f_pairs f_ways
    simp only [evs, ↓reduceIte, Nat.reduceAdd, Nat.reduceSub, List.reduceReplicate, Nat.reduceLeDiff, Bool.false_eq_true, reduceCtorEq, f_lot, f_pairs, f_ways, BEq.rfl, e]
    unfold sD
    rw [List.map_map]; rfl
  | ends =>
    have as := h.ascS (.inr rfl)
    have e3 : valD .ends is = .dct (is.map (kD .ends)) (nD (is.map vN)) := rfl
    have s1 : sortI (is.map (kD .ends)) = is.map (kD .ends) := by
      rw [kD_ends, sort_str, sortK_of (asc_le ltS_ord as)]
    have s2 := sortedI_of (is.map (kD .ends)) om (by rw [kD_ends]; exact srtOk_str _) (by simp; omega) s1
    have lk : ∀ i ∈ is, lookD (is.map (kD .ends)) (nD (is.map vN)) (.str (kW i)) = some (.int (vN i)) := fun i hi => by
      have := look_at k1_str kW (fun i => Dat.int (vN i)) is (asc_nodup ltS_ord as) i hi
      unfold nD
      rw [List.map_map]
      exact this
    have e : ∀ x0 x2 x3 x4 x5 x6 x7 : Option Dat, lcL (gN 6) tYesD (joinF [eFmt (eVar 6), eC (.str [58]), eFmt (e2 kDGet (eVar 1) (eVar 6))] []) (is.map (kD .ends)) [x0, some (.dct (is.map (kD .ends)) (nD (is.map vN))), x2, x3, x4, x5, x6, x7] om [] = .ok (is.map fun i => .str i.txt) om := fun x0 x2 x3 x4 x5 x6 x7 =>
      lcL_mapM _ _ (by omega) fun i hi => ⟨_, rfl, by
        have l1 := kDGet_ev om (lk i hi)
        obtain ⟨b, hb⟩ := m i hi
        obtain ⟨a, n, rfl, h1, h2⟩ := good_en hb
        have a1 := isW_len h1
        have b1 : a.length ≤ 1000000 := by omega
        have b3 : a.length ≤ 999999 := by omega
        have b6 : a.length + 1 + (numT n).length ≤ 1000000 := by have := numT_len n; omega
        have q : kD .ends (.en a n) = .str a := rfl
        simp only [kW, vN] at l1
        simp only [evs, ↓reduceIte, Nat.reduceAdd, Nat.reduceSub, List.reduceReplicate, Nat.reduceLeDiff, Bool.false_eq_true, reduceCtorEq, q, l1, b1, b3, b6, Nat.zero_add, log2_small n h2, digs_numT n h2]
        simp [Itm.txt]⟩
    rw [e3]
    have f_lot : (F7.ends.nm == F7.lot.nm) = false := by decide
    have f_pairs : (F7.ends.nm == F7.pairs.nm) = false := by decide
    have f_ways : (F7.ends.nm == F7.ways.nm) = false := by decide
    have f_tree : (F7.ends.nm == F7.tree.nm) = false := by decide
    unfold F7.nm at *
    simp only at f_lot f_pairs f_ways f_tree
    simp only [evs, ↓reduceIte, Nat.reduceAdd, Nat.reduceSub, List.reduceReplicate, Nat.reduceLeDiff, Bool.false_eq_true, reduceCtorEq, f_lot, f_pairs, f_ways, f_tree, BEq.rfl, kListDc_ev, s2, e]
    unfold sD
    rw [List.map_map]; rfl
  | streets =>
    have as := h.ascP
    have e3 : valD .streets is = .dct (is.map (kD .streets)) (nD (is.map vN)) := rfl
    have s1 : sortI (is.map (kD .streets)) = is.map (kD .streets) := by
      rw [kD_streets, sort_pD, sortK_of (asc_le ltP_ord as)]
    have s2 := sortedI_of (is.map (kD .streets)) om (by rw [kD_streets]; exact srtOk_pD _) (by simp; omega) s1
    have lk : ∀ i ∈ is, lookD (is.map (kD .streets)) (nD (is.map vN)) (pD (kP i)) = some (.int (vN i)) := fun i hi => by
      have := look_at k1_pD kP (fun i => Dat.int (vN i)) is (asc_nodup ltP_ord as) i hi
      unfold nD
      rw [List.map_map]
      exact this
    have e : ∀ x0 x2 x3 x4 x5 x6 x7 : Option Dat, lcL (gT 2 (gsC (gN 3) (gsC (gN 4) (gsN)))) tYesD (joinF [eFmt (eVar 3), eC (.str [62]), eFmt (eVar 4), eC (.str [58]), eFmt (e2 kDGet (eVar 1) (eTup (aCons (eVar 3) (aCons (eVar 4) (aNil)))))] []) (is.map (kD .streets)) [x0, some (.dct (is.map (kD .streets)) (nD (is.map vN))), x2, x3, x4, x5, x6, x7] om [] = .ok (is.map fun i => .str i.txt) om := fun x0 x2 x3 x4 x5 x6 x7 =>
      lcL_mapM _ _ (by omega) fun i hi => by
        have l1 := kDGet_ev om (lk i hi)
        obtain ⟨b, hb⟩ := m i hi
        obtain ⟨p, n, rfl, h1, _, h2⟩ := good_st hb
        have h3 := stOk_w h1
        have a1 := isW_len h3.1
        have a2 := isW_len h3.2.1
        have b1 : p.1.length ≤ 1000000 := by omega
        have b2 : p.2.length ≤ 1000000 := by omega
        have b3 : p.1.length ≤ 999999 := by omega
        have b4 : p.1.length + 1 + p.2.length ≤ 1000000 := by omega
        have b5 : p.1.length + 1 + p.2.length ≤ 999999 := by omega
        have b6 : p.1.length + 1 + p.2.length + 1 + (numT n).length ≤ 1000000 := by have := numT_len n; omega
        have q : kD .streets (.st p n) = .tup [.str p.1, .str p.2] := rfl
        simp only [kP, vN, pD] at l1
        refine ⟨[x0, some (.dct (is.map (kD .streets)) (nD (is.map vN))), x2, some (.str p.1), some (.str p.2), x5, x6, x7], by simp only [evs, ↓reduceIte, Nat.reduceAdd, Nat.reduceSub, List.reduceReplicate, Nat.reduceLeDiff, Bool.false_eq_true, reduceCtorEq, q], ?_⟩
        simp only [evs, ↓reduceIte, Nat.reduceAdd, Nat.reduceSub, List.reduceReplicate, Nat.reduceLeDiff, Bool.false_eq_true, reduceCtorEq, l1, b1, b2, b3, b4, b5, b6, Nat.zero_add, log2_small n h2, digs_numT n h2]
        simp [Itm.txt]
    rw [e3]
    have f_lot : (F7.streets.nm == F7.lot.nm) = false := by decide
    have f_pairs : (F7.streets.nm == F7.pairs.nm) = false := by decide
    have f_ways : (F7.streets.nm == F7.ways.nm) = false := by decide
    have f_tree : (F7.streets.nm == F7.tree.nm) = false := by decide
    have f_ends : (F7.streets.nm == F7.ends.nm) = false := by decide
    unfold F7.nm at *
    simp only at f_lot f_pairs f_ways f_tree f_ends
    simp only [evs, ↓reduceIte, Nat.reduceAdd, Nat.reduceSub, List.reduceReplicate, Nat.reduceLeDiff, Bool.false_eq_true, reduceCtorEq, f_lot, f_pairs, f_ways, f_tree, f_ends, BEq.rfl, kListDc_ev, s2, e]
    unfold sD
    rw [List.map_map]; rfl
  | growth =>
    obtain ⟨x, js, rfl, h1, h2⟩ := good_growth h
    have hl2 : js.length + 1 ≤ 4000 := by simpa using hl
    have e : ∀ x0 x1 x2 x3 x4 x5 x6 x7 : Option Dat, lcL (gN 7) tYesD (eCall 1 [] f_step_text (aCons (eVar 7) (aNil))) (js.map Itm.toD) [x0, x1, x2, x3, x4, x5, x6, x7] om [] = .ok (js.map fun i => .str i.txt) om := fun x0 x1 x2 x3 x4 x5 x6 x7 =>
      lcL_mapM _ _ (by omega) fun i hi => ⟨_, rfl, by
        have := step_text i om (h2 i hi) (by have := sm.2 i (by simp [hi]); omega)
        simp only [evs, ↓reduceIte, Nat.reduceAdd, Nat.reduceSub, List.reduceReplicate, Nat.reduceLeDiff, Bool.false_eq_true, reduceCtorEq, this]⟩
    have e3 : valD .growth (.w x :: js) = .tup (.str x :: js.map Itm.toD) := rfl
    have e6 : DL.cutD (.str x :: js.map Itm.toD) (some 1) none = js.map Itm.toD := by
      unfold DL.cutD
      have : sIxD (Dat.str x :: js.map Itm.toD).length 0 (some 1) = 1 := by unfold sIxD; simp
      rw [this]
      have : sIxD (Dat.str x :: js.map Itm.toD).length (Dat.str x :: js.map Itm.toD).length none = js.length + 1 := by unfold sIxD; simp
      rw [this]
      simp only [List.drop_succ_cons, List.drop_zero, Nat.add_sub_cancel]
      exact List.take_of_length_le (by simp)
    rw [e3]
    have b1 : js.length ≤ 999999 := by omega
    have f_lot : (F7.growth.nm == F7.lot.nm) = false := by decide
    have f_pairs : (F7.growth.nm == F7.pairs.nm) = false := by decide
    have f_ways : (F7.growth.nm == F7.ways.nm) = false := by decide
    have f_tree : (F7.growth.nm == F7.tree.nm) = false := by decide
    have f_ends : (F7.growth.nm == F7.ends.nm) = false := by decide
    have f_streets : (F7.growth.nm == F7.streets.nm) = false := by decide
    unfold F7.nm at *
    simp only at f_lot f_pairs f_ways f_tree f_ends f_streets
    simp only [evs, ↓reduceIte, Nat.reduceAdd, Nat.reduceSub, List.reduceReplicate, Nat.reduceLeDiff, Bool.false_eq_true, reduceCtorEq, f_lot, f_pairs, f_ways, f_tree, f_ends, f_streets, evstar, atD_0, e6, e, b1]
    unfold sD
    simp only [List.map_cons]
    rw [List.map_map]; rfl
theorem okPs_txt {f : F7} {is : List Itm} (h : ∀ i ∈ is, okT i.txt = true) : okPs 59 (sD (is.map Itm.txt)) = true := okPs_map _ _ _ fun w hw => by
  obtain ⟨i, hi, rfl⟩ := List.mem_map.mp hw
  rw [okP_str]
  exact h i hi
theorem okT_app {a b : W} (h1 : okT a = true) (h2 : okT b = true) : okT (a ++ b) = true := by
  unfold okT at *
  rw [List.all_append, h1, h2]; rfl
theorem okT_cons {c : Nat} {b : W} (h1 : c < 0x110000) (h2 : okT b = true) : okT (c :: b) = true := by
  unfold okT at *
  rw [List.all_cons, h2, decide_eq_true h1]; rfl
theorem okT_join (c : Nat) (hc : c < 0x110000) : ∀ ls : List W, (∀ p ∈ ls, okT p = true) → okT (TL.joinL [c] ls) = true
  | [], _ => rfl
  | [p], h => h p (by simp)
  | p :: q :: r, h => okT_app (h p (by simp)) (okT_cons hc (okT_join c hc (q :: r) fun z hz => h z (by simp [hz])))
theorem okT_num : ∀ n : Nat, n < 100 → okT (numT n) = true := by decide +kernel
theorem okT_prT {p : W × W} (h : lowO (some p) = true) : okT (prT p) = true := by
  have := low_of h
  exact okT_app (isW_okT this.1) (okT_cons (by omega) (isW_okT this.2))
theorem okT_txt {f : F7} {b : Bool} {i : Itm} (h : good f b i = true) : okT i.txt = true := by
  cases i with
  | w x =>
    simp only [good, Bool.and_eq_true] at h
    exact isW_okT h.2
  | pr p =>
    simp only [good, Bool.and_eq_true] at h
    exact okT_prT h.2
  | way ws =>
    simp only [good, Bool.and_eq_true] at h
    exact okT_join 62 (by omega) ws fun w hw => isW_okT ((fwS_of h.2).2.1 w hw)
  | tri p n =>
    simp only [good, Bool.and_eq_true, decide_eq_true_eq] at h
    exact okT_app (okT_app (isW_okT h.2.1.1.1) (okT_cons (by omega) (isW_okT h.2.1.1.2))) (okT_cons (by omega) (okT_num n h.2.2))
  | en a n =>
    simp only [good, Bool.and_eq_true, decide_eq_true_eq] at h
    exact okT_app (isW_okT h.2.1) (okT_cons (by omega) (okT_num n h.2.2))
  | st p n =>
    simp only [good, Bool.and_eq_true, decide_eq_true_eq] at h
    have := stOk_w h.2.1.1
    exact okT_app (okT_app (isW_okT this.1) (okT_cons (by omega) (isW_okT this.2.1))) (okT_cons (by omega) (okT_num n h.2.2))
  | tie a b =>
    simp only [good, Bool.and_eq_true] at h
    exact okT_app (isW_okT h.2.1) (okT_cons (by omega) (isW_okT h.2.2))
  | pin a ps =>
    simp only [good, Bool.and_eq_true] at h
    refine okT_join 61 (by omega) _ fun w hw => ?_
    rcases List.mem_cons.mp hw with rfl | hw
    · exact isW_okT h.2.1.1
    · obtain ⟨p, hp, rfl⟩ := List.mem_map.mp hw
      exact okT_prT (List.all_eq_true.mp h.2.2 p hp)
theorem okT_text {f : F7} {is : List Itm} (h : GoodAll f is) : okT (textOf is) = true := by
  unfold textOf
  split
  · decide
  · exact okT_join 32 (by omega) _ fun p hp => by
      obtain ⟨i, hi, rfl⟩ := List.mem_map.mp hp
      obtain ⟨b, hb⟩ := h.mem i hi
      exact okT_txt hb
theorem write_good (f : F7) (is : List Itm) (om : Om) (h : GoodAll f is) (hl : (textOf is).length ≤ 3000) : f_write [.str f.nm, valD f is] om = .ok (.str (textOf is)) om := by
  have sm := small_of hl
  have ok : okPs 59 (sD (is.map Itm.txt)) = true := okPs_txt (f := f) fun i hi => by
    obtain ⟨b, hb⟩ := h.mem i hi
    exact okT_txt hb
  unfold f_write b_write
  simp only [evs, ↓reduceIte, Nat.reduceAdd, Nat.reduceSub, List.reduceReplicate, Nat.reduceLeDiff, Bool.false_eq_true, reduceCtorEq, fnD_ev, require_form, has_form f is om h sm, item_texts f is om h sm, kNe_lst_nil _ _ ok, dNOTHING]
  have e0 : (sD (is.map Itm.txt)).length = is.length := by simp [sD]
  rw [e0]
  unfold textOf at hl ⊢
  cases is with
  | nil => rfl
  | cons i r =>
    rw [if_neg (List.cons_ne_nil _ _)] at hl
    have := joins_ok 32 ((i :: r).map Itm.txt) om (by omega)
    have e : (!((i :: r).length == 0)) = true := by simp
    rw [e]
    simp only [evs, ↓reduceIte, Nat.reduceAdd, Nat.reduceSub, List.reduceReplicate, Nat.reduceLeDiff, Bool.false_eq_true, reduceCtorEq, List.map_cons] at this ⊢
    rw [this]
    simp only [evs, ↓reduceIte, Nat.reduceAdd, Nat.reduceSub, List.reduceReplicate, Nat.reduceLeDiff, Bool.false_eq_true, reduceCtorEq]
end K70
end Part_C9
section Part_DICE
set_option maxRecDepth 100000
/-! the laws' dice: a cell of three numbers -/
namespace DL
open PySem PySem.Spec PyProof.Rows L2
theorem lcL_inv {g : GD} {f : DV} {env : En} (P : List Dat → List Dat → Om → Prop) (step : ∀ x xs acc om, P (x :: xs) acc om → acc.length < 1000000 ∧ ∃ env1 om1 y om2, g x env om = .ok env1 om1 ∧ f env1 om1 = .ok y om2 ∧ P xs (acc ++ [y]) om2) :
    ∀ xs acc om, P xs acc om → ∃ ys om', lcL g tYesD f xs env om acc = .ok ys om' ∧ P [] ys om'
  | [], acc, om, h => ⟨acc, om, rfl, h⟩
  | x :: xs, acc, om, h => by
    obtain ⟨hl, env1, om1, y, om2, h1, h2, h3⟩ := step x xs acc om h
    obtain ⟨ys, om', e, p⟩ := lcL_inv P step xs (acc ++ [y]) om2 h3
    refine ⟨ys, om', ?_, p⟩
    rw [lcL, h1]
    simp only [tYesD, h2]
    rw [if_pos hl, e]
theorem forL_inv {g : GD} {b : SD} (P : List Dat → En → Om → Prop) (step : ∀ x xs env om, P (x :: xs) env om → ∃ env1 om1 env2 om2, g x env om = .ok env1 om1 ∧ b env1 om1 = .nx env2 om2 ∧ P xs env2 om2) :
    ∀ xs env om, P xs env om → ∃ env' om', forL g b xs env om = .nx env' om' ∧ P [] env' om'
  | [], env, om, h => ⟨env, om, rfl, h⟩
  | x :: xs, env, om, h => by
    obtain ⟨env1, om1, env2, om2, h1, h2, h3⟩ := step x xs env om h
    obtain ⟨env', om', e, p⟩ := forL_inv P step xs env2 om2 h3
    exact ⟨env', om', by rw [forL_nx h1 h2, e], p⟩
theorem kIx_cell {om : Om} {k : Nat} {xs : List Dat} {i : Int} {d : Dat} (h : om[k]? = some (.lst xs)) (h2 : atD xs i = some d) : kIx (.cell k) (.int i) om = .ok d om := by
  unfold kIx der
  simp only [h, h2]
theorem gSet_at {f g : DV} {d : Dat} {env : En} {om : Om} {j : Nat} {k : Int} {xs : List Dat} (h1 : f env om = .ok (.cell j) om) (h2 : g env om = .ok (.int k) om) (h3 : om[j]? = some (.lst xs)) (h4 : 0 ≤ k ∧ k < xs.length) : gSet f g d env om = .ok env (om.set j (.lst (xs.set k.toNat d))) := by
  unfold gSet
  simp only [h1, h2, h3]
  rw [if_pos h4]
/-- just the cell k may have changed -/
def Upd (k : Nat) (om om' : Om) : Prop := om'.length = om.length ∧ ∀ j, j ≠ k → om'[j]? = om[j]?
theorem Upd.refl {k : Nat} {om : Om} : Upd k om om := ⟨rfl, fun _ _ => rfl⟩
theorem Upd.trans {k : Nat} {a b c : Om} (h : Upd k a b) (h2 : Upd k b c) : Upd k a c := ⟨h2.1.trans h.1, fun j hj => (h2.2 j hj).trans (h.2 j hj)⟩
theorem Upd.set {k : Nat} {om : Om} {d : Dat} : Upd k om (om.set k d) := ⟨by simp, fun j hj => by rw [List.getElem?_set_ne fun e => hj e.symm]⟩
theorem okNs_iff (n : Nat) : ∀ xs : List Dat, okNs n xs = true ↔ ∀ x ∈ xs, okN n x = true
  | [] => by simp [okNs]
  | x :: r => by simp [okNs, okNs_iff n r]
/-- the dice at the cell k; it was thrown at most N times without digits -/
def Dice (k N : Nat) (om : Om) : Prop := ∃ a b c : Int, om[k]? = some (.lst [.int a, .int b, .int c]) ∧ 0 ≤ a ∧ 0 ≤ b ∧ b < 2 ^ 62 ∧ 0 ≤ c ∧ c ≤ (N : Int)
theorem Dice.more {k N M : Nat} {om : Om} (h : Dice k N om) (hm : N ≤ M) : Dice k M om := by
  obtain ⟨a, b, c, h1, h2, h3, h4, h5, h6⟩ := h
  exact ⟨a, b, c, h1, h2, h3, h4, h5, by omega⟩
theorem Dice.lt {k N : Nat} {om : Om} (h : Dice k N om) : k < om.length := by
  obtain ⟨a, b, c, h1, _⟩ := h
  exact (List.getElem?_eq_some_iff.mp h1).1
theorem okOm_upd {k N : Nat} {om om' : Om} (ok : okOm om) (u : Upd k om om') (d : Dice k N om') : okOm om' := by
  unfold okOm at *
  rw [u.1, okNs_iff] at *
  intro x hx
  obtain ⟨j, hj⟩ := List.getElem?_of_mem hx
  by_cases e : j = k
  · subst e
    obtain ⟨a, b, c, h1, _⟩ := d
    rw [h1] at hj
    cases hj
    rfl
  · rw [u.2 j e] at hj
    exact ok x (List.mem_of_getElem? hj)
/-- from om on the dice was thrown, and nothing else changed -/
structure Thr (k N : Nat) (om om' : Om) : Prop where
  u : Upd k om om'
  d : Dice k N om'
  ok : okOm om'
theorem Thr.len {k N : Nat} {om om' : Om} (h : Thr k N om om') : om'.length = om.length := h.u.1
theorem Thr.trans {k N M : Nat} {a b c : Om} (h : Thr k N a b) (h2 : Thr k M b c) : Thr k M a c := ⟨h.u.trans h2.u, h2.d, h2.ok⟩
theorem Thr.refl {k N : Nat} {om : Om} (ok : okOm om) (d : Dice k N om) : Thr k N om om := ⟨.refl, d, ok⟩
theorem Thr.self {k N : Nat} {om om' : Om} (h : Thr k N om om') : Thr k N om' om' := ⟨.refl, h.d, h.ok⟩
theorem Thr.more {k N M : Nat} {om om' : Om} (h : Thr k N om om') (hm : N ≤ M) : Thr k M om om' := ⟨h.u, h.d.more hm, h.ok⟩
theorem fMul_ok {a b : Int} (ha : a.natAbs < 2 ^ 3000) (hb : b.natAbs < 2 ^ 3000) : fMul a b = some (a * b) := by
  unfold fMul
  have l : ∀ n : Nat, n < 2 ^ 3000 → n.log2 < 3000 ∨ n = 0 := fun n hn => by
    by_cases h0 : n = 0
    · exact .inr h0
    · exact .inl ((Nat.log2_lt h0).mpr hn)
  have l0 : (0 : Nat).log2 = 0 := by decide
  have h1 : a.natAbs.log2 < 3000 := by
    rcases l _ ha with h | h
    · exact h
    · rw [h, l0]; omega
  have h2 : b.natAbs.log2 < 3000 := by
    rcases l _ hb with h | h
    · exact h
    · rw [h, l0]; omega
  rw [if_pos (by omega)]
theorem fMod_ok {a b : Int} (h : 0 < b) : fMod a b = some (a % b) := by unfold fMod; rw [if_pos h]
theorem fFdiv_ok {a b : Int} (h : 0 < b) (h2 : b < 2 ^ 60) : fFdiv a b = some (a / b) := by
  unfold fFdiv
  have : b.natAbs.log2 < 9000 := by
    have : b.natAbs < 2 ^ 60 := by omega
    have h0 : b.natAbs ≠ 0 := by omega
    have := (Nat.log2_lt h0).mpr this
    omega
  rw [if_pos ⟨h, this⟩]
theorem small_abs {a : Int} (h1 : 0 ≤ a) (h2 : a < 2 ^ 200) : a.natAbs < 2 ^ 3000 := by
  have : a.natAbs < 2 ^ 200 := by omega
  exact Nat.lt_of_lt_of_le this (Nat.pow_le_pow_right (by omega) (by omega))
theorem mul_small {a b : Int} (ha : 0 ≤ a) (hb : 0 ≤ b) (h1 : a < 2 ^ 70) (h2 : b < 2 ^ 70) : 0 ≤ a * b ∧ a * b < 2 ^ 140 := by
  refine ⟨Int.mul_nonneg ha hb, ?_⟩
  have : a * b ≤ a * 2 ^ 70 := Int.mul_le_mul_of_nonneg_left (by omega) ha
  have h3 : a * 2 ^ 70 < 2 ^ 70 * 2 ^ 70 := Int.mul_lt_mul_of_pos_right h1 (by omega)
  have : (2 : Int) ^ 70 * 2 ^ 70 = 2 ^ 140 := by decide
  omega
end DL
end Part_DICE
section Part_C10
set_option maxRecDepth 100000
namespace K70
open PySem PySem.Spec PyProof.Rows L2 DL
theorem roll (k N : Nat) (om : Om) (t : Nat) (ht : 1 ≤ t) (ht2 : t ≤ 1000000) (hN : N ≤ 1000000000) (d : Dice k N om) (ok : okOm om) : ∃ (r : Nat) (om' : Om), f_law_roll [.cell k, .int t] om = .ok (.int r) om' ∧ r < t ∧ Thr k (N + 1) om om' := by
  obtain ⟨a, b, c, h1, h2, h3, h4, h5, h6⟩ := d
  have ht0 : (0 : Int) < t := by omega
  have ht3 : (t : Int) < 2 ^ 60 := by omega
  have lt := (List.getElem?_eq_some_iff.mp h1).1
  have i0 := kIx_cell (i := 0) h1 (atD_0 _ _)
  have i1 := kIx_cell (i := 1) h1 (atD_1 _ _ _)
  have i2 := kIx_cell (i := 2) h1 (atD_2 _ _ _ _)
  unfold f_law_roll b_law_roll
  rw [fnD_ev]
  by_cases ha : 0 < a
  · have m := Int.emod_nonneg a (b := (t : Int)) (by omega)
    have m2 := Int.emod_lt_of_pos a ht0
    refine ⟨(a % t).toNat, om.set k (.lst [.int (a / t), .int b, .int c]), ?_, by omega, ?_⟩
    · have s : ∀ env : En, env[0]? = some (some (.cell k)) → ∀ d, gSet (eVar 0) (eC (.int 0)) d env om = .ok env (om.set k (.lst [d, .int b, .int c])) := fun env he d =>
        gSet_at (k := 0) (xs := [.int a, .int b, .int c]) (by simp only [evs, ↓reduceIte, Nat.reduceAdd, Nat.reduceSub, List.reduceReplicate, Nat.reduceLeDiff, Bool.false_eq_true, reduceCtorEq, he]) (by simp only [evs, ↓reduceIte, Nat.reduceAdd, Nat.reduceSub, List.reduceReplicate, Nat.reduceLeDiff, Bool.false_eq_true, reduceCtorEq]) h1 (by simp)
      have s1 := s [some (.cell k), some (.int t), some (.int (a % t)), none, none] rfl
      have e : (((a % (t : Int)).toNat : Nat) : Int) = a % t := by omega
      simp only [evs, ↓reduceIte, Nat.reduceAdd, Nat.reduceSub, List.reduceReplicate, Nat.reduceLeDiff, Bool.false_eq_true, reduceCtorEq, i0, ha, decide_true, fMod_ok ht0, fFdiv_ok ht0 ht3, s1, rasg_ok, e]
      exact finR_of (by simp)
    · have u : Upd k om (om.set k (.lst [.int (a / t), .int b, .int c])) := .set
      have dd : Dice k (N + 1) (om.set k (.lst [.int (a / t), .int b, .int c])) := ⟨a / t, b, c, by rw [List.getElem?_set_self lt], Int.ediv_nonneg h2 (by omega), h3, h4, h5, by omega⟩
      exact ⟨u, dd, okOm_upd ok u dd⟩
  · have hl2 : (om.set k (.lst [.int a, .int b, .int (c + 1)]))[k]? = some (.lst [.int a, .int b, .int (c + 1)]) := by rw [List.getElem?_set_self lt]
    have j1 := kIx_cell (i := 1) hl2 (atD_1 _ _ _)
    have j2 := kIx_cell (i := 2) hl2 (atD_2 _ _ _ _)
    have s : ∀ env : En, env[0]? = some (some (.cell k)) → ∀ d, gSet (eVar 0) (eC (.int 2)) d env om = .ok env (om.set k (.lst [.int a, .int b, d])) := fun env he d =>
        gSet_at (k := 2) (xs := [.int a, .int b, .int c]) (by simp only [evs, ↓reduceIte, Nat.reduceAdd, Nat.reduceSub, List.reduceReplicate, Nat.reduceLeDiff, Bool.false_eq_true, reduceCtorEq, he]) (by simp only [evs, ↓reduceIte, Nat.reduceAdd, Nat.reduceSub, List.reduceReplicate, Nat.reduceLeDiff, Bool.false_eq_true, reduceCtorEq]) h1 (by simp)
    have s1 := s [some (.cell k), some (.int t), none, none, none] rfl (.int (c + 1))
    have hc1 : 0 ≤ c + 1 := by omega
    have hc2 : c + 1 < 2 ^ 40 := by omega
    have q1 := mul_small (a := 998244319) (b := c + 1) (by omega) hc1 (by omega) (by omega)
    have f1 : fMul 998244319 (c + 1) = some (998244319 * (c + 1)) := fMul_ok (small_abs (by omega) (by omega)) (small_abs (by omega) (by omega))
    generalize hone : (b + 998244319 * (c + 1)) % 2305843009213693951 = one
    have o1 : 0 ≤ one := by rw [← hone]; exact Int.emod_nonneg _ (by omega)
    have o2 : one < 2305843009213693951 := by rw [← hone]; exact Int.emod_lt_of_pos _ (by omega)
    have f2 : fMul one one = some (one * one) := fMul_ok (small_abs (by omega) (by omega)) (small_abs (by omega) (by omega))
    generalize htw : one * one % 2305843009213693907 = tw
    have t1 : 0 ≤ tw := by rw [← htw]; exact Int.emod_nonneg _ (by omega)
    have t2 : tw < 2305843009213693907 := by rw [← htw]; exact Int.emod_lt_of_pos _ (by omega)
    have f3 : fMul tw one = some (tw * one) := fMul_ok (small_abs (by omega) (by omega)) (small_abs (by omega) (by omega))
    have f4 : fMul 9421 (c + 1) = some (9421 * (c + 1)) := fMul_ok (small_abs (by omega) (by omega)) (small_abs (by omega) (by omega))
    generalize hz : (tw * one + 9421 * (c + 1)) % 2305843009213693661 = z
    have hm1 : ∀ x : Int, fMod x 2305843009213693951 = some (x % 2305843009213693951) := fun x => fMod_ok (by omega)
    have hm2 : ∀ x : Int, fMod x 2305843009213693907 = some (x % 2305843009213693907) := fun x => fMod_ok (by omega)
    have hm3 : ∀ x : Int, fMod x 2305843009213693661 = some (x % 2305843009213693661) := fun x => fMod_ok (by omega)
    have hd : fFdiv z 8192 = some (z / 8192) := fFdiv_ok (by omega) (by omega)
    have m := Int.emod_nonneg (z / 8192) (b := (t : Int)) (by omega)
    have m2 := Int.emod_lt_of_pos (z / 8192) ht0
    refine ⟨(z / 8192 % t).toNat, om.set k (.lst [.int a, .int b, .int (c + 1)]), ?_, by omega, ?_⟩
    · have e : (((z / 8192 % (t : Int)).toNat : Nat) : Int) = z / 8192 % t := by omega
      simp only [evs, ↓reduceIte, Nat.reduceAdd, Nat.reduceSub, List.reduceReplicate, Nat.reduceLeDiff, Bool.false_eq_true, reduceCtorEq, i0, ha, decide_false, i2, s1, rasg_ok, j1, j2, f1, hm1, hone, f2, hm2, htw, f3, f4, hm3, hz, hd, fMod_ok ht0, e]
      exact finR_of (by simp)
    · have u : Upd k om (om.set k (.lst [.int a, .int b, .int (c + 1)])) := .set
      have dd : Dice k (N + 1) (om.set k (.lst [.int a, .int b, .int (c + 1)])) := ⟨a, b, c + 1, hl2, h2, h3, h4, hc1, by omega⟩
      exact ⟨u, dd, okOm_upd ok u dd⟩
theorem pick (k N : Nat) (om : Om) (xs : List Dat) (h0 : xs ≠ []) (hl : xs.length ≤ 1000000) (hN : N ≤ 1000000000) (d : Dice k N om) (ok : okOm om) : ∃ (x : Dat) (om' : Om), f_law_pick [.cell k, .lst xs] om = .ok x om' ∧ x ∈ xs ∧ Thr k (N + 1) om om' := by
  have h1 : 1 ≤ xs.length := by
    cases xs with
    | nil => exact absurd rfl h0
    | cons _ _ => simp
  obtain ⟨r, om', e, hr, th⟩ := roll k N om xs.length h1 hl hN d ok
  refine ⟨xs[r], om', ?_, List.getElem_mem hr, th⟩
  unfold f_law_pick b_law_pick
  rw [fnD_ev]
  simp only [evs, ↓reduceIte, Nat.reduceAdd, Nat.reduceSub, List.reduceReplicate, Nat.reduceLeDiff, Bool.false_eq_true, reduceCtorEq, e, atD_nat, List.getElem?_eq_getElem hr]
  exact finR_of th.len
theorem perm_erase {α : Type} : ∀ (l : List α) (r : Nat) (h : r < l.length), (l[r] :: l.eraseIdx r).Perm l
  | x :: t, 0, h => .refl _
  | x :: t, r + 1, h => by
    have := perm_erase t r (by simpa using h)
    simp only [List.getElem_cons_succ, List.eraseIdx_cons_succ]
    exact (List.Perm.swap _ _ _).trans (this.cons x)
theorem some_of (k N : Nat) (om : Om) (xs : List Dat) (size : Nat) (hl : xs.length ≤ 1000) (hs : size ≤ 1000) (hN : N + 1000 ≤ 1000000000) (hf : ∀ x ∈ xs, flat 50 x = true) (d : Dice k N om) (ok : okOm om) :
    ∃ (ys rest : List Dat) (om' : Om), f_law_some [.cell k, .lst xs, .int size] om = .ok (.lst ys) om' ∧ ys.length = min size xs.length ∧ (ys ++ rest).Perm xs ∧ Thr k (N + min size xs.length) om om' := by
  have hmin : ((if (xs.length : Int) < size then (xs.length : Int) else size) : Int) = ((min size xs.length : Nat) : Int) := by
    split <;> omega
  -- the state of the walk
  let P : List Dat → List Dat → Om → Prop := fun todo acc s => ∃ (left : List Dat) (om1 : Om), s = om1 ++ [.lst left] ∧ Thr k (N + acc.length) om om1 ∧ (acc ++ left).Perm xs ∧ acc.length + todo.length = min size xs.length
  have step : ∀ x todo acc s, P (x :: todo) acc s → acc.length < 1000000 ∧ ∃ env1 s1 y s2, gN 4 x [some (.cell k), some (.lst xs), some (.int size), some (.cell om.length), none] s = .ok env1 s1 ∧
      eCellM kPop (eVar 3) (eCall 2 [] f_law_roll (aCons (eVar 0) (aCons (eB kLen (aCons (eVar 3) (aNil))) (aNil)))) env1 s1 = .ok y s2 ∧ P todo (acc ++ [y]) s2 := by
    rintro x todo acc s ⟨left, om1, rfl, th, pm, hh⟩
    have hh2 : acc.length + (todo.length + 1) = min size xs.length := by simpa using hh
    have hpl := pm.length_eq
    rw [List.length_append] at hpl
    have hleft : 1 ≤ left.length := by omega
    have gl : (om1 ++ [Dat.lst left])[om.length]? = some (.lst left) := by rw [← th.len]; exact get_last _ _
    have ltk := th.d.lt
    have dd : Dice k (N + acc.length) (om1 ++ [.lst left]) := by
      obtain ⟨a, b, c, q, r⟩ := th.d
      exact ⟨a, b, c, by rw [List.getElem?_append_left ltk]; exact q, r⟩
    have okl : okOm (om1 ++ [.lst left]) := by
      unfold okOm
      rw [okNs_iff]
      intro z hz
      rcases List.mem_append.mp hz with hz | hz
      · have := (okNs_iff _ _).mp th.ok z hz
        exact okN_more this (by simp)
      · rw [List.mem_singleton] at hz
        subst hz
        show okNs _ left = true
        rw [okNs_iff]
        intro y hy
        exact okN_flat 50 y (hf y (pm.mem_iff.mp (List.mem_append_right _ hy)))
    obtain ⟨r, s2, e, hr, th2⟩ := roll k (N + acc.length) (om1 ++ [.lst left]) left.length hleft (by omega) (by omega) dd okl
    refine ⟨by omega, [some (.cell k), some (.lst xs), some (.int size), some (.cell om.length), some x], _, left[r], (s2.take om.length) ++ [.lst (left.eraseIdx r)], rfl, ?_, left.eraseIdx r, s2.take om.length, rfl, ?_, ?_, ?_⟩
    · have g2 : s2[om.length]? = some (.lst left) := by
        rw [th2.u.2 _ (by have := th.len; omega)]; exact gl
      have kl := kLen_cell gl
      rw [cellM_at (i := om.length) (xs := left) (ys := left) (d := .int r) (om2 := s2) (by simp only [evs, ↓reduceIte, Nat.reduceAdd, Nat.reduceSub, List.reduceReplicate, Nat.reduceLeDiff, Bool.false_eq_true, reduceCtorEq]) gl (by simp only [evs, ↓reduceIte, Nat.reduceAdd, Nat.reduceSub, List.reduceReplicate, Nat.reduceLeDiff, Bool.false_eq_true, reduceCtorEq, kl, e]) g2]
      unfold kPop
      simp only
      have : ((r : Int)).toNat = r := by omega
      rw [if_pos ⟨by omega, by omega⟩, this, List.getElem?_eq_getElem hr]
      simp only
      congr 1
      have hs2 : s2.length = om.length + 1 := by rw [th2.len, List.length_append, th.len]; rfl
      apply List.ext_getElem?
      intro j
      by_cases hj : j = om.length
      · subst hj
        rw [List.getElem?_set_self (by omega)]
        have : (s2.take om.length).length = om.length := by rw [List.length_take]; omega
        rw [List.getElem?_append_right (by omega), this]
        simp
      · rw [List.getElem?_set_ne (fun e => hj e.symm)]
        by_cases hj2 : j < om.length
        · rw [List.getElem?_append_left (by rw [List.length_take]; omega), List.getElem?_take_of_lt hj2]
        · rw [List.getElem?_eq_none (by omega), List.getElem?_eq_none (by rw [List.length_append, List.length_take]; simp; omega)]
    · have hs2 : s2.length = om.length + 1 := by rw [th2.len, List.length_append, th.len]; rfl
      have u : Upd k om (s2.take om.length) := by
        refine ⟨by rw [List.length_take]; omega, fun j hj => ?_⟩
        by_cases hj2 : j < om.length
        · rw [List.getElem?_take_of_lt hj2, th2.u.2 j hj, List.getElem?_append_left (by rw [th.len]; exact hj2), th.u.2 j hj]
        · rw [List.getElem?_eq_none (by rw [List.length_take]; omega), List.getElem?_eq_none (by omega)]
      have dd2 : Dice k (N + (acc ++ [left[r]]).length) (s2.take om.length) := by
        obtain ⟨a, b, c, q, r1, r2, r3, r4, r5⟩ := th2.d
        have ltk2 : k < om.length := by rw [← th.len]; exact ltk
        exact ⟨a, b, c, by rw [List.getElem?_take_of_lt ltk2]; exact q, r1, r2, r3, r4, by simp; omega⟩
      exact ⟨u, dd2, okOm_upd ok u dd2⟩
    · have p1 : (left[r] :: left.eraseIdx r).Perm left := perm_erase left r hr
      rw [List.append_assoc]
      exact ((p1.append_left acc)).trans pm
    · simp; omega
  have start : P ((List.range (min size xs.length)).map fun (i : Nat) => .int (i : Int)) [] (om ++ [.lst xs]) := ⟨xs, om, rfl, by simpa using Thr.refl ok d, by simp, by simp⟩
  obtain ⟨ys, s', e, left, om1, rfl, th, pm, hh⟩ := lcL_inv P step _ _ _ start
  have hlen : ys.length = min size xs.length := by simpa using hh
  refine ⟨ys, left, om1, ?_, hlen, pm, hlen ▸ th⟩
  have kl := kLen_cell (get_last om (.lst xs))
  have b1 : (-1000000 : Int) ≤ ((min size xs.length : Nat) : Int) ∧ ((min size xs.length : Nat) : Int) ≤ 1000000 := by omega
  have b2 : (((min size xs.length : Nat) : Int)).toNat = min size xs.length := by omega
  unfold f_law_some b_law_some
  rw [fnD_ev]
  have hkl : kListC [.lst xs] om = .ok (.cell om.length) (om ++ [.lst xs]) := by
    unfold kListC
    simp [lstD, itemsD]
  have hrange : ∀ env, env[2]? = some (some (.int size)) → env[3]? = some (some (.cell om.length)) → (iRange1 (eB kMin2 (aCons (eVar 2) (aCons (eB kLen (aCons (eVar 3) (aNil))) (aNil))))) env (om ++ [.lst xs]) = .ok ((List.range (min size xs.length)).map fun (i : Nat) => .int (i : Int)) (om ++ [.lst xs]) := fun env q1 q2 => by
    simp only [evs, ↓reduceIte, Nat.reduceAdd, Nat.reduceSub, List.reduceReplicate, Nat.reduceLeDiff, Bool.false_eq_true, reduceCtorEq, q1, q2, kl, kMin2_int, hmin, b1, b2]
  have hr := hrange [some (.cell k), some (.lst xs), some (.int size), some (.cell om.length), none] rfl rfl
  simp only [iRange1_ev] at hr
  simp only [evs, ↓reduceIte, Nat.reduceAdd, Nat.reduceSub, List.reduceReplicate, Nat.reduceLeDiff, Bool.false_eq_true, reduceCtorEq] at hr
  simp only [evs, ↓reduceIte, Nat.reduceAdd, Nat.reduceSub, List.reduceReplicate, Nat.reduceLeDiff, Bool.false_eq_true, reduceCtorEq, hkl, rasg_ok, kl, hmin, b1, b2, e]
  have flt : flat 60 (.lst ys) = true := by
    show ys.all (flat 59) = true
    rw [List.all_eq_true]
    intro y hy
    exact flat_more (by omega) (hf y (pm.mem_iff.mp (List.mem_append_left _ hy)))
  have := finR_more (om := om1) (t := [.lst left]) th.ok flt
  rw [th.len] at this
  exact this
end K70
end Part_C10
section Part_C11
set_option maxRecDepth 100000
namespace K70
open PySem PySem.Spec PyProof.Rows L2 DL
theorem goodGo_S {f : F7} (hf : f = .lot ∨ f = .ends) : ∀ (js : List Itm) (n : Nat) (acc : List Itm), (∀ i ∈ js, ∀ b, good f b i = true) → ((acc ++ js).map kW).Pairwise (fun a b => ltS a b = true) → goodGo f n acc js
  | [], _, _, _, _ => trivial
  | j :: r, n, acc, h, p => by
    have p' : ((acc ++ [j] ++ r).map kW).Pairwise (fun a b => ltS a b = true) := by simpa using p
    refine ⟨h j (by simp) _, ?_, goodGo_S hf r (n + 1) (acc ++ [j]) (fun i hi => h i (by simp [hi])) p'⟩
    have : nxS (acc.map kW) (kW j) = true := by
      unfold nxS
      rcases List.eq_nil_or_concat acc with rfl | ⟨t, y, rfl⟩
      · rfl
      · simp only [List.map_append, List.pairwise_append] at p
        have := p.2.2 (kW y) (by simp) (kW j) (by simp)
        simpa using this
    rcases hf with rfl | rfl <;> exact this
theorem goodGo_P : ∀ (js : List Itm) (n : Nat) (acc : List Itm), (∀ i ∈ js, ∀ b, good .streets b i = true) → ((acc ++ js).map kP).Pairwise (fun a b => ltP a b = true) → goodGo .streets n acc js
  | [], _, _, _, _ => trivial
  | j :: r, n, acc, h, p => by
    have p' : ((acc ++ [j] ++ r).map kP).Pairwise (fun a b => ltP a b = true) := by simpa using p
    refine ⟨h j (by simp) _, ?_, goodGo_P r (n + 1) (acc ++ [j]) (fun i hi => h i (by simp [hi])) p'⟩
    show nxP (acc.map kP) (kP j) = true
    unfold nxP
    rcases List.eq_nil_or_concat acc with rfl | ⟨t, y, rfl⟩
    · rfl
    · simp only [List.map_append, List.pairwise_append] at p
      have := p.2.2 (kP y) (by simp) (kP j) (by simp)
      simpa using this
theorem goodGo_any {f : F7} (h1 : f ≠ .lot) (h2 : f ≠ .ends) (h3 : f ≠ .streets) : ∀ (js : List Itm) (n : Nat) (acc : List Itm), (∀ i ∈ js, good f (n == 0) i = true ∧ good f false i = true) → goodGo f n acc js
  | [], _, _, _ => trivial
  | j :: r, n, acc, h => by
    refine ⟨(h j (by simp)).1, ?_, goodGo_any h1 h2 h3 r (n + 1) (acc ++ [j]) fun i hi => ⟨(h i (by simp [hi])).2, (h i (by simp [hi])).2⟩⟩
    cases f <;> first | rfl | exact absurd rfl h1 | exact absurd rfl h2 | exact absurd rfl h3
theorem perm_map_inv {α β : Type} {f : α → β} {a b : List β} (h : a.Perm b) : ∀ l : List α, b = l.map f → ∃ l' : List α, l'.Perm l ∧ a = l'.map f := by
  induction h with
  | nil => intro l e; exact ⟨[], by cases l <;> simp at e ⊢, rfl⟩
  | cons x p ih =>
    intro l e
    cases l with
    | nil => simp at e
    | cons y r =>
      simp only [List.map_cons, List.cons.injEq] at e
      obtain ⟨l', h1, h2⟩ := ih r e.2
      exact ⟨y :: l', h1.cons y, by rw [h2, e.1]; rfl⟩
  | swap x y l0 =>
    intro l e
    match l, e with
    | u :: v :: r, e =>
      simp only [List.map_cons, List.cons.injEq] at e
      exact ⟨v :: u :: r, .swap u v r, by rw [e.1, e.2.1, e.2.2]; rfl⟩
    | [u], e => simp at e
    | [], e => simp at e
  | trans p q ih1 ih2 =>
    intro l e
    obtain ⟨l2, h1, h2⟩ := ih2 l e
    obtain ⟨l3, h3, h4⟩ := ih1 l2 h2
    exact ⟨l3, h3.trans h1, h4⟩
abbrev words8 : List W := [[97], [98], [99], [100], [97, 98], [98, 97], [122, 122], [122, 122, 122, 122, 122, 122, 122, 122]]
theorem words8_w : ∀ x ∈ words8, isW x = true := by decide
theorem words8_nd : words8.Nodup := by decide
/-- drawn different words -/
theorem some_words (k N : Nat) (om : Om) (size : Nat) (hs : size ≤ 8) (hN : N + 1000 ≤ 1000000000) (d : Dice k N om) (ok : okOm om) :
    ∃ (ws : List W) (om' : Om), f_law_some [.cell k, .lst (sD words8), .int size] om = .ok (.lst (sD ws)) om' ∧ ws.length = size ∧ ws.Nodup ∧ (∀ w ∈ ws, isW w = true) ∧ Thr k (N + 8) om om' := by
  obtain ⟨ys, rest, om', e, hl, pm, th⟩ := some_of k N om (sD words8) size (by decide) (by omega) hN (by intro x hx; obtain ⟨w, _, rfl⟩ := List.mem_map.mp hx; exact flat_str _ _) d ok
  obtain ⟨l', h1, h2⟩ := perm_map_inv pm words8 rfl
  obtain ⟨as, bs, rfl, h3, h4⟩ := List.map_eq_append_iff.mp h2.symm
  refine ⟨as, om', by rw [e, ← h3]; rfl, ?_, ?_, fun w hw => words8_w w (h1.mem_iff.mp (List.mem_append_left _ hw)), th.more (by have : (sD words8).length = 8 := rfl; omega)⟩
  · have : ys.length = as.length := by rw [← h3]; simp
    rw [← this, hl]
    have : (sD words8).length = 8 := rfl
    omega
  · have := h1.nodup_iff.mpr words8_nd
    exact (List.nodup_append.mp this).1
theorem word (k N : Nat) (om : Om) (hN : N ≤ 1000000000) (d : Dice k N om) (ok : okOm om) : ∃ (x : W) (om' : Om), f_law_word [.cell k] om = .ok (.str x) om' ∧ isW x = true ∧ Thr k (N + 1) om om' := by
  obtain ⟨x, om', e, hx, th⟩ := pick k N om (sD words8) (by simp [sD]) (by decide) hN d ok
  obtain ⟨w, hw, rfl⟩ := List.mem_map.mp hx
  refine ⟨w, om', ?_, words8_w w hw, th⟩
  unfold f_law_word b_law_word
  rw [fnD_ev]
  unfold sD at e
  simp only [evs, ↓reduceIte, Nat.reduceAdd, Nat.reduceSub, List.reduceReplicate, Nat.reduceLeDiff, Bool.false_eq_true, reduceCtorEq] at e
  simp only [evs, ↓reduceIte, Nat.reduceAdd, Nat.reduceSub, List.reduceReplicate, Nat.reduceLeDiff, Bool.false_eq_true, reduceCtorEq, e]
  exact finR_of th.len
theorem kSortedI_ev (ds : List Dat) (om : Om) (h : srtOk ds = true) (hl : ds.length ≤ 1000000) : kSortedI [.lst ds] om = .ok (.lst (sortI ds)) om := by
  unfold kSortedI
  simp only [lstD]
  rw [if_pos ⟨h, hl⟩]
theorem kSortedI_str (ws : List W) (om : Om) (hl : ws.length ≤ 1000000) : kSortedI [.lst (sD ws)] om = .ok (.lst (sD (sortK (leO ltS) ws))) om := by
  rw [kSortedI_ev _ _ (srtOk_str ws) (by unfold sD; rw [List.length_map]; exact hl), sort_str]
theorem sort_two (a b : W) : ∃ x y, sortK (leO ltS) [a, b] = [x, y] ∧ leW x y = true ∧ (x = a ∧ y = b ∨ x = b ∧ y = a) := by
  show ∃ x y, insK (leO ltS) a [b] = [x, y] ∧ _
  unfold insK
  split
  · rename_i h
    exact ⟨a, b, rfl, h, .inl ⟨rfl, rfl⟩⟩
  · rename_i h
    refine ⟨b, a, rfl, ?_, .inr ⟨rfl, rfl⟩⟩
    unfold leO at h
    simp only [Bool.not_eq_true, Bool.not_eq_false'] at h
    have := ltS_ord.asy h
    unfold leW
    simp only [ltS] at this
    rw [this]; rfl
theorem low_pairs (k N : Nat) (om : Om) (size : Nat) (hs : size ≤ 100) (hN : N + 1000 ≤ 1000000000) (d : Dice k N om) (ok : okOm om) :
    ∃ (ps : List (W × W)) (om' : Om), f_law_low_pairs [.cell k, .int size] om = .ok (.lst (ps.map pD)) om' ∧ ps.length = size ∧ (∀ p ∈ ps, lowO (some p) = true) ∧ Thr k (N + 2 * size) om om' := by
  let P : List Dat → List Dat → Om → Prop := fun todo acc s => ∃ ps : List (W × W), acc = ps.map pD ∧ (∀ p ∈ ps, lowO (some p) = true) ∧ ps.length + todo.length = size ∧ Thr k (N + 2 * ps.length) om s
  have step : ∀ x todo acc s, P (x :: todo) acc s → acc.length < 1000000 ∧ ∃ env1 s1 y s2, gN 2 x [some (.cell k), some (.int size), none] s = .ok env1 s1 ∧
      eB kTuple (aCons (eB kSortedI (aCons (eLst (aCons (eCall 1 [] f_law_word (aCons (eVar 0) (aNil))) (aCons (eCall 1 [] f_law_word (aCons (eVar 0) (aNil))) (aNil)))) (aNil))) (aNil)) env1 s1 = .ok y s2 ∧ P todo (acc ++ [y]) s2 := by
    rintro x todo acc s ⟨ps, rfl, hp, hh, th⟩
    have hh2 : ps.length + (todo.length + 1) = size := by simpa using hh
    obtain ⟨a, s1, e1, ha, th1⟩ := word k (N + 2 * ps.length) s (by omega) th.d th.ok
    obtain ⟨b, s2, e2, hb, th2⟩ := word k (N + 2 * ps.length + 1) s1 (by omega) th1.d th1.ok
    obtain ⟨u, v, e3, hle, huv⟩ := sort_two a b
    refine ⟨by simp; omega, _, _, pD (u, v), s2, rfl, ?_, ps ++ [(u, v)], by simp, ?_, by simp; omega, ?_⟩
    · have := kSortedI_str [a, b] s2 (by simp)
      rw [e3] at this
      unfold sD at this
      simp only [evs, ↓reduceIte, Nat.reduceAdd, Nat.reduceSub, List.reduceReplicate, Nat.reduceLeDiff, Bool.false_eq_true, reduceCtorEq] at this
      simp only [evs, ↓reduceIte, Nat.reduceAdd, Nat.reduceSub, List.reduceReplicate, Nat.reduceLeDiff, Bool.false_eq_true, reduceCtorEq, e1, e2, this]
      rfl
    · intro p hp2
      rcases List.mem_append.mp hp2 with hp2 | hp2
      · exact hp p hp2
      · rw [List.mem_singleton] at hp2
        subst hp2
        rcases huv with ⟨rfl, rfl⟩ | ⟨rfl, rfl⟩ <;> simp [lowO, ha, hb, hle]
    · exact (th.trans (th1.trans th2)).more (by simp; omega)
  have start : P ((List.range size).map fun (i : Nat) => .int (i : Int)) [] om := ⟨[], rfl, by simp, by simp, by simpa using Thr.refl ok d⟩
  obtain ⟨ys, s', e, ps, rfl, hp, hh, th⟩ := lcL_inv P step _ _ _ start
  have hlen : ps.length = size := by simpa using hh
  refine ⟨ps, s', ?_, hlen, hp, hlen ▸ th⟩
  have b1 : (-1000000 : Int) ≤ (size : Int) ∧ (size : Int) ≤ 1000000 := by omega
  have b2 : ((size : Int)).toNat = size := by omega
  unfold f_law_low_pairs b_law_low_pairs
  rw [fnD_ev]
  simp only [evs, ↓reduceIte, Nat.reduceAdd, Nat.reduceSub, List.reduceReplicate, Nat.reduceLeDiff, Bool.false_eq_true, reduceCtorEq, b1, b2, e]
  exact finR_of th.len
end K70
end Part_C11
section Part_C12
set_option maxRecDepth 100000
namespace K70
open PySem PySem.Spec PyProof.Rows L2 DL
def Drawn (f : F7) (is : List Itm) : Prop := GoodAll f is ∧ is.length ≤ 4 ∧ ∀ i ∈ is, i.txt.length ≤ 100
theorem joinL_le (c : Nat) (m : Nat) : ∀ ls : List W, (∀ p ∈ ls, p.length ≤ m) → (TL.joinL [c] ls).length ≤ ls.length * (m + 1)
  | [], _ => by simp [TL.joinL]
  | [p], h => by
    have := h p (by simp)
    show p.length ≤ _
    simp; omega
  | p :: q :: r, h => by
    have h1 := h p (by simp)
    have ih := joinL_le c m (q :: r) fun z hz => h z (by simp [hz])
    simp only [TL.joinL, List.length_append, List.length_cons, List.length_nil] at ih ⊢
    have e : (r.length + 1 + 1) * (m + 1) = (r.length + 1) * (m + 1) + (m + 1) := by rw [Nat.add_mul (r.length + 1) 1]; simp
    rw [e]; omega
theorem Drawn.len {f : F7} {is : List Itm} (h : Drawn f is) : (textOf is).length ≤ 3000 := by
  unfold textOf
  split
  · simp
  · have := joinL_le 32 100 (is.map Itm.txt) fun p hp => by
      obtain ⟨i, hi, rfl⟩ := List.mem_map.mp hp
      exact h.2.2 i hi
    rw [List.length_map] at this
    have := h.2.1
    have : is.length * (100 + 1) ≤ 4 * 101 := Nat.mul_le_mul this (by omega)
    omega
theorem prT_len {p : W × W} (h : lowO (some p) = true) : (prT p).length ≤ 17 := by
  have := low_len h
  unfold prT
  simp; omega
/-- the head of the value's def: the size -/
abbrev vH : SD := sAsg (eTup (aCons (eCall 2 [] f_law_roll (aCons (eVar 0) (aCons (eC (.int 4)) (aNil)))) (aCons (eLst (aCons (eC (.str [97])) (aCons (eC (.str [98])) (aCons (eC (.str [99])) (aCons (eC (.str [100])) (aCons (eC (.str [97, 98])) (aCons (eC (.str [98, 97])) (aCons (eC (.str [122, 122])) (aCons (eC (.str [122, 122, 122, 122, 122, 122, 122, 122])) (aNil)))))))))) (aNil)))) (gT 2 (gsC (gN 2) (gsC (gN 3) (gsN))))
theorem v_head (k N : Nat) (om : Om) (f : Dat) (hN : N + 1000 ≤ 1000000000) (d : Dice k N om) (ok : okOm om) :
    ∃ (r : Nat) (om' : Om), vH [some (.cell k), some f, none, none, none, none, none, none, none, none, none] om = .nx [some (.cell k), some f, some (.int r), some (.lst (sD words8)), none, none, none, none, none, none, none] om' ∧ r < 4 ∧ Thr k (N + 1) om om' := by
  obtain ⟨r, om', e, hr, th⟩ := roll k N om 4 (by omega) (by omega) (by omega) d ok
  have e' : f_law_roll [.cell k, .int 4] om = .ok (.int r) om' := e
  refine ⟨r, om', ?_, hr, th⟩
  unfold vH
  simp only [evs, ↓reduceIte, Nat.reduceAdd, Nat.reduceSub, List.reduceReplicate, Nat.reduceLeDiff, Bool.false_eq_true, reduceCtorEq, e', rasg_ok]
  rfl
/-- four numbers -/
abbrev nums : List Nat := [0, 1, 2, 9, 10, 60, 99]
theorem nums_lt : ∀ n ∈ nums, n < 100 := by decide
abbrev vM : SD := sAsg (eLc (iRange1 (eC (.int 4))) (gN 7) (tYesD) (eCall 2 [] f_law_pick (aCons (eVar 0) (aCons (eLst (aCons (eC (.int 0)) (aCons (eC (.int 1)) (aCons (eC (.int 2)) (aCons (eC (.int 9)) (aCons (eC (.int 10)) (aCons (eC (.int 60)) (aCons (eC (.int 99)) (aNil))))))))) (aNil)))) [7]) (gN 4)
theorem v_nums (k N : Nat) (om : Om) (x1 x2 x3 : Option Dat) (hN : N + 1000 ≤ 1000000000) (d : Dice k N om) (ok : okOm om) :
    ∃ (ms : List Nat) (om' : Om), vM [some (.cell k), x1, x2, x3, none, none, none, none, none, none, none] om = .nx [some (.cell k), x1, x2, x3, some (.lst (nD ms)), none, none, none, none, none, none] om' ∧ ms.length = 4 ∧ (∀ n ∈ ms, n < 100) ∧ Thr k (N + 4) om om' := by
  let P : List Dat → List Dat → Om → Prop := fun todo acc s => ∃ ms : List Nat, acc = nD ms ∧ (∀ n ∈ ms, n < 100) ∧ ms.length + todo.length = 4 ∧ Thr k (N + ms.length) om s
  have step : ∀ x todo acc s, P (x :: todo) acc s → acc.length < 1000000 ∧ ∃ env1 s1 y s2, gN 7 x [some (.cell k), x1, x2, x3, none, none, none, none, none, none, none] s = .ok env1 s1 ∧
      eCall 2 [] f_law_pick (aCons (eVar 0) (aCons (eLst (aCons (eC (.int 0)) (aCons (eC (.int 1)) (aCons (eC (.int 2)) (aCons (eC (.int 9)) (aCons (eC (.int 10)) (aCons (eC (.int 60)) (aCons (eC (.int 99)) (aNil))))))))) (aNil))) env1 s1 = .ok y s2 ∧ P todo (acc ++ [y]) s2 := by
    rintro x todo acc s ⟨ms, rfl, hp, hh, th⟩
    have hh2 : ms.length + (todo.length + 1) = 4 := by simpa using hh
    obtain ⟨y, s2, e, hy, th2⟩ := pick k (N + ms.length) s (nD nums) (by simp [nD]) (by decide) (by omega) th.d th.ok
    obtain ⟨n, hn, rfl⟩ := List.mem_map.mp hy
    refine ⟨by unfold nD; simp; omega, _, _, .int n, s2, rfl, ?_, ms ++ [n], by unfold nD; simp, ?_, by simp; omega, (th.trans th2).more (by simp; omega)⟩
    · have e' : f_law_pick [.cell k, .lst [.int 0, .int 1, .int 2, .int 9, .int 10, .int 60, .int 99]] s = .ok (.int n) s2 := e
      simp only [evs, ↓reduceIte, Nat.reduceAdd, Nat.reduceSub, List.reduceReplicate, Nat.reduceLeDiff, Bool.false_eq_true, reduceCtorEq, e']
    · intro m hm
      rcases List.mem_append.mp hm with hm | hm
      · exact hp m hm
      · rw [List.mem_singleton] at hm
        subst hm
        exact nums_lt m hn
  have start : P ((List.range 4).map fun (i : Nat) => .int (i : Int)) [] om := ⟨[], rfl, by simp, by simp, by simpa using Thr.refl ok d⟩
  obtain ⟨ys, s', e, ms, rfl, hp, hh, th⟩ := lcL_inv P step _ _ _ start
  have hlen : ms.length = 4 := by simpa using hh
  refine ⟨ms, s', ?_, hlen, hp, hlen ▸ th⟩
  have b : (-1000000 : Int) ≤ 4 ∧ (4 : Int) ≤ 1000000 := by omega
  have b2 : (4 : Int).toNat = 4 := rfl
  unfold vM
  simp only [evs, ↓reduceIte, Nat.reduceAdd, Nat.reduceSub, List.reduceReplicate, Nat.reduceLeDiff, Bool.false_eq_true, reduceCtorEq, b, b2, e, rasg_ok]
theorem value_lot (k N : Nat) (om : Om) (hN : N + 2000 ≤ 1000000000) (d : Dice k N om) (ok : okOm om) : ∃ (is : List Itm) (om' : Om), f_law_form_value [.cell k, .str F7.lot.nm] om = .ok (valD .lot is) om' ∧ Drawn .lot is ∧ Thr k (N + 200) om om' := by
  obtain ⟨r, om1, e1, hr, th1⟩ := v_head k N om (.str F7.lot.nm) (by omega) d ok
  obtain ⟨ws, om2, e2, hl, hnd, hw, th2⟩ := some_words k (N + 1) om1 r (by omega) (by omega) th1.d th1.ok
  have pw : (sortK (leO ltS) ws).Pairwise fun a b => ltS a b = true := asc_of ltS_ord (sortK_pair ltS_ord ws) ((sortK_perm ws).nodup_iff.mpr hnd)
  have hw2 : ∀ w ∈ sortK (leO ltS) ws, isW w = true := fun w h => hw w (sortK_mem.mp h)
  have hlen : (sortK (leO ltS) ws).length = r := by rw [sortK_len, hl]
  refine ⟨(sortK (leO ltS) ws).map .w, om2, ?_, ⟨⟨?_, by simp⟩, by simp; omega, ?_⟩, (th1.trans th2).more (by omega)⟩
  · have e3 := kSortedI_str ws om2 (by omega)
    unfold f_law_form_value b_law_form_value
    rw [fnD_ev, sSeq_ev]
    have e5 : List.map some [Dat.cell k, Dat.str F7.lot.nm] ++ List.replicate (11 - 2) none = [some (.cell k), some (.str F7.lot.nm), none, none, none, none, none, none, none, none, none] := rfl
    rw [e5]
    show rfin false (List.length om) (rseq (vH _ om) _) = _
    rw [e1]
    simp only [evs, ↓reduceIte, Nat.reduceAdd, Nat.reduceSub, List.reduceReplicate, Nat.reduceLeDiff, Bool.false_eq_true, reduceCtorEq, F7.nm, BEq.rfl, e2, e3]
    have : valD .lot ((sortK (leO ltS) ws).map .w) = .tup (sD (sortK (leO ltS) ws)) := by
      show Dat.tup (List.map Itm.toD (List.map Itm.w _)) = _
      unfold sD
      rw [List.map_map]; rfl
    rw [this]
    exact finR_of (by rw [th2.len, th1.len])
  · refine goodGo_S (.inl rfl) _ 0 [] (fun i hi b => ?_) ?_
    · obtain ⟨w, h, rfl⟩ := List.mem_map.mp hi
      simp [good, hw2 w h]
    · rw [List.nil_append, List.map_map]
      have : (sortK (leO ltS) ws).map (kW ∘ Itm.w) = sortK (leO ltS) ws := by
        have : (kW ∘ Itm.w) = id := rfl
        rw [this, List.map_id]
      rw [this]; exact pw
  · intro i hi
    obtain ⟨w, h, rfl⟩ := List.mem_map.mp hi
    have := isW_len (hw2 w h)
    show w.length ≤ 100
    omega
abbrev env0 (k : Nat) (f : F7) : En := [some (.cell k), some (.str f.nm), none, none, none, none, none, none, none, none, none]
theorem env0_eq (k : Nat) (f : F7) : List.map some [Dat.cell k, Dat.str f.nm] ++ List.replicate (11 - 2) none = env0 k f := rfl
theorem rg_ok (n : Nat) (h : n ≤ 1000) : ((-1000000 : Int) ≤ (n : Int) ∧ (n : Int) ≤ 1000000) ∧ ((n : Int)).toNat = n := by omega
theorem value_pairs (k N : Nat) (om : Om) (hN : N + 2000 ≤ 1000000000) (d : Dice k N om) (ok : okOm om) : ∃ (is : List Itm) (om' : Om), f_law_form_value [.cell k, .str F7.pairs.nm] om = .ok (valD .pairs is) om' ∧ Drawn .pairs is ∧ Thr k (N + 200) om om' := by
  obtain ⟨r, om1, e1, hr, th1⟩ := v_head k N om (.str F7.pairs.nm) (by omega) d ok
  obtain ⟨ps, om2, e2, hl, hp, th2⟩ := low_pairs k (N + 1) om1 r (by omega) (by omega) th1.d th1.ok
  refine ⟨ps.map .pr, om2, ?_, ⟨⟨?_, by simp⟩, by simp; omega, ?_⟩, (th1.trans th2).more (by omega)⟩
  · unfold f_law_form_value b_law_form_value
    rw [fnD_ev, sSeq_ev, env0_eq]
    show rfin false (List.length om) (rseq (vH _ om) _) = _
    rw [e1]
    have f1 : (F7.pairs.nm == F7.lot.nm) = false := by decide
    unfold F7.nm at *
    simp only at f1
    simp only [evs, ↓reduceIte, Nat.reduceAdd, Nat.reduceSub, List.reduceReplicate, Nat.reduceLeDiff, Bool.false_eq_true, reduceCtorEq, f1, BEq.rfl, e2]
    have : valD .pairs (ps.map .pr) = .tup (ps.map pD) := by
      show Dat.tup (List.map Itm.toD (List.map Itm.pr _)) = _
      rw [List.map_map]; rfl
    rw [this]
    exact finR_of (by rw [th2.len, th1.len])
  · refine goodGo_any (by simp) (by simp) (by simp) _ 0 [] fun i hi => ?_
    obtain ⟨p, h, rfl⟩ := List.mem_map.mp hi
    simp [good, hp p h]
  · intro i hi
    obtain ⟨p, h, rfl⟩ := List.mem_map.mp hi
    have := prT_len (hp p h)
    show (prT p).length ≤ 100
    omega
theorem value_ways (k N : Nat) (om : Om) (hN : N + 2000 ≤ 1000000000) (d : Dice k N om) (ok : okOm om) : ∃ (is : List Itm) (om' : Om), f_law_form_value [.cell k, .str F7.ways.nm] om = .ok (valD .ways is) om' ∧ Drawn .ways is ∧ Thr k (N + 200) om om' := by
  obtain ⟨r, om1, e1, hr, th1⟩ := v_head k N om (.str F7.ways.nm) (by omega) d ok
  let P : List Dat → List Dat → Om → Prop := fun todo acc s => ∃ ws : List (List W), acc = ws.map (fun w => .tup (sD w)) ∧ (∀ w ∈ ws, fwS w = true ∧ w.length ≤ 4) ∧ ws.length + todo.length = r ∧ Thr k (N + 1 + 9 * ws.length) om1 s
  have step : ∀ x todo acc s, P (x :: todo) acc s → acc.length < 1000000 ∧ ∃ env1 s1 y s2, gN 7 x [some (.cell k), some (.str F7.ways.nm), some (.int r), some (.lst (sD words8)), none, none, none, none, none, none, none] s = .ok env1 s1 ∧
      (eB kTuple (aCons (eCall 3 [] f_law_some (aCons (eVar 0) (aCons (eVar 3) (aCons (e2 kAdd (eC (.int 2)) (eCall 2 [] f_law_roll (aCons (eVar 0) (aCons (eC (.int 3)) (aNil))))) (aNil))))) (aNil))) env1 s1 = .ok y s2 ∧ P todo (acc ++ [y]) s2 := by
    rintro x todo acc s ⟨ws, rfl, hp, hh, th⟩
    have hh2 : ws.length + (todo.length + 1) = r := by simpa using hh
    obtain ⟨q, s1, e2, hq, th2⟩ := roll k _ s 3 (by omega) (by omega) (by omega) th.d th.ok
    have e2' : f_law_roll [.cell k, .int 3] s = .ok (.int q) s1 := e2
    obtain ⟨w, s2, e3, hl, hnd, hw, th3⟩ := some_words k _ s1 (2 + q) (by omega) (by omega) th2.d th2.ok
    have e3' : f_law_some [.cell k, .lst (sD words8), .int (2 + (q : Int))] s1 = .ok (.lst (sD w)) s2 := by
      have : ((2 + q : Nat) : Int) = 2 + (q : Int) := by omega
      rw [← this]; exact e3
    refine ⟨by simp; omega, _, _, .tup (sD w), s2, rfl, by simp only [evs, ↓reduceIte, Nat.reduceAdd, Nat.reduceSub, List.reduceReplicate, Nat.reduceLeDiff, Bool.false_eq_true, reduceCtorEq, e2', e3'], ws ++ [w], by simp, ?_, by simp; omega, (th.trans (th2.trans th3)).more (by simp; omega)⟩
    intro v hv
    rcases List.mem_append.mp hv with hv | hv
    · exact hp v hv
    · rw [List.mem_singleton] at hv
      subst hv
      refine ⟨?_, by omega⟩
      unfold fwS
      simp only [Bool.and_eq_true, decide_eq_true_eq]
      exact ⟨⟨by omega, List.all_eq_true.mpr hw⟩, hnd⟩
  have start : P ((List.range r).map fun (i : Nat) => .int (i : Int)) [] om1 := ⟨[], rfl, by simp, by simp, by simpa using th1.self⟩
  obtain ⟨ys, om2, e2, ws, rfl, hp, hh, th⟩ := lcL_inv P step _ _ _ start
  have hlen : ws.length = r := by simpa using hh
  obtain ⟨b1, b2⟩ := rg_ok r (by omega)
  refine ⟨ws.map .way, om2, ?_, ⟨⟨?_, by simp⟩, by simp; omega, ?_⟩, (th1.trans th).more (by omega)⟩
  · unfold f_law_form_value b_law_form_value
    rw [fnD_ev, sSeq_ev, env0_eq]
    show rfin false (List.length om) (rseq (vH _ om) _) = _
    rw [e1]
    have f1 : (F7.ways.nm == F7.lot.nm) = false := by decide
    have f2 : (F7.ways.nm == F7.pairs.nm) = false := by decide
    unfold F7.nm at *
    simp only at f1 f2
    simp only [evs, ↓reduceIte, Nat.reduceAdd, Nat.reduceSub, List.reduceReplicate, Nat.reduceLeDiff, Bool.false_eq_true, reduceCtorEq, f1, f2, BEq.rfl, b1, b2, e2]
    have : valD .ways (ws.map .way) = .tup (ws.map fun w => .tup (sD w)) := by
      show Dat.tup (List.map Itm.toD (List.map Itm.way _)) = _
      rw [List.map_map]; rfl
    rw [this]
    exact finR_of (by rw [th.len, th1.len])
  · refine goodGo_any (by simp) (by simp) (by simp) _ 0 [] fun i hi => ?_
    obtain ⟨p, h, rfl⟩ := List.mem_map.mp hi
    simp [good, hp p h]
  · intro i hi
    obtain ⟨p, h, rfl⟩ := List.mem_map.mp hi
    obtain ⟨h1, h2⟩ := hp p h
    have := joinL_le 62 8 p fun w hw => (isW_len ((fwS_of h1).2.1 w hw)).2
    show (TL.joinL [62] p).length ≤ 100
    have : p.length * (8 + 1) ≤ 4 * 9 := Nat.mul_le_mul h2 (by omega)
    omega
theorem value_tree (k N : Nat) (om : Om) (hN : N + 2000 ≤ 1000000000) (d : Dice k N om) (ok : okOm om) : ∃ (is : List Itm) (om' : Om), f_law_form_value [.cell k, .str F7.tree.nm] om = .ok (valD .tree is) om' ∧ Drawn .tree is ∧ Thr k (N + 200) om om' := by
  obtain ⟨r, om1, e1, hr, th1⟩ := v_head k N om (.str F7.tree.nm) (by omega) d ok
  obtain ⟨ms, om2, q2, hm, hm2, th2⟩ := v_nums k (N + 1) om1 (some (.str F7.tree.nm)) (some (.int r)) (some (.lst (sD words8))) (by omega) th1.d th1.ok
  let P : List Dat → List Dat → Om → Prop := fun todo acc s => ∃ ps : List (W × W), acc = ps.map (fun p => .lst [.str p.1, .str p.2]) ∧ (∀ p ∈ ps, isW p.1 = true ∧ isW p.2 = true ∧ ltS p.1 p.2 = true) ∧ ps.length + todo.length = r ∧ Thr k (N + 5 + 8 * ps.length) om2 s
  have step : ∀ x todo acc s, P (x :: todo) acc s → acc.length < 1000000 ∧ ∃ env1 s1 y s2, gN 7 x [some (.cell k), some (.str F7.tree.nm), some (.int r), some (.lst (sD words8)), some (.lst (nD ms)), none, none, none, none, none, none] s = .ok env1 s1 ∧
      (eB kSortedI (aCons (eCall 3 [] f_law_some (aCons (eVar 0) (aCons (eVar 3) (aCons (eC (.int 2)) (aNil))))) (aNil))) env1 s1 = .ok y s2 ∧ P todo (acc ++ [y]) s2 := by
    rintro x todo acc s ⟨ps, rfl, hp, hh, th⟩
    have hh2 : ps.length + (todo.length + 1) = r := by simpa using hh
    obtain ⟨w, s2, e3, hl, hnd, hw, th3⟩ := some_words k _ s 2 (by omega) (by omega) th.d th.ok
    have e3' : f_law_some [.cell k, .lst (sD words8), .int 2] s = .ok (.lst (sD w)) s2 := e3
    obtain ⟨a, b, rfl⟩ : ∃ a b, w = [a, b] := by
      match w, hl with
      | [a, b], _ => exact ⟨a, b, rfl⟩
    obtain ⟨u, v, e4, hle, huv⟩ := sort_two a b
    have e5 := kSortedI_str [a, b] s2 (by simp)
    rw [e4] at e5
    refine ⟨by simp; omega, _, _, .lst [.str u, .str v], s2, rfl, by simp only [evs, ↓reduceIte, Nat.reduceAdd, Nat.reduceSub, List.reduceReplicate, Nat.reduceLeDiff, Bool.false_eq_true, reduceCtorEq, e3', e5]; rfl, ps ++ [(u, v)], by simp, ?_, by simp; omega, (th.trans th3).more (by simp; omega)⟩
    intro p hp2
    rcases List.mem_append.mp hp2 with hp2 | hp2
    · exact hp p hp2
    · rw [List.mem_singleton] at hp2
      subst hp2
      have hne : a ≠ b := by simpa using hnd
      have ha := hw a (by simp)
      have hb := hw b (by simp)
      have hlt : u ≠ v → ltS u v = true := fun hn => by
        unfold leW at hle
        cases h3 : ltS u v with
        | true => rfl
        | false => exact absurd (ltS_ord.tri u v h3 (by simpa [ltS] using hle)) hn
      rcases huv with ⟨rfl, rfl⟩ | ⟨rfl, rfl⟩
      · exact ⟨ha, hb, hlt hne⟩
      · exact ⟨hb, ha, hlt fun e => hne e.symm⟩
  have start : P ((List.range r).map fun (i : Nat) => .int (i : Int)) [] om2 := ⟨[], rfl, by simp, by simp, by simpa using th2.self⟩
  obtain ⟨ys, om3, e3, ps, rfl, hp, hh, th⟩ := lcL_inv P step _ _ _ start
  have hlen : ps.length = r := by simpa using hh
  obtain ⟨b1, b2⟩ := rg_ok r (by omega)
  let mk : Nat → Itm := fun i => .tri (ps.getD i ([], [])) (ms.getD i 0)
  have e4 : ∀ x0 x1 x2 x3 x6 x7 x8 x9 x10 : Option Dat, lcL (gN 9) tYesD (eTup (aCons (e2 kIx (e2 kIx (eVar 5) (eVar 9)) (eC (.int 0))) (aCons (e2 kIx (e2 kIx (eVar 5) (eVar 9)) (eC (.int 1))) (aCons (e2 kIx (eVar 4) (eVar 9)) (aNil))))) ((List.range r).map fun (i : Nat) => .int (i : Int))
      [x0, x1, x2, x3, some (.lst (nD ms)), some (.lst (ps.map fun p => .lst [.str p.1, .str p.2])), x6, x7, x8, x9, x10] om3 [] = .ok ((List.range r).map fun i => (mk i).toD) om3 := fun x0 x1 x2 x3 x6 x7 x8 x9 x10 =>
    lcL_mapM (α := Nat) _ _ (by simp; omega) fun i hi => ⟨_, rfl, by
      have hi2 : i < r := by simpa using hi
      have h1 : (ps.map fun p => Dat.lst [.str p.1, .str p.2])[i]? = some (.lst [.str (ps.getD i ([], [])).1, .str (ps.getD i ([], [])).2]) := by
        rw [List.getElem?_map, List.getElem?_eq_getElem (by omega)]
        simp [List.getD, List.getElem?_eq_getElem (show i < ps.length by omega)]
      have h2 : (nD ms)[i]? = some (.int (ms.getD i 0)) := by
        unfold nD
        rw [List.getElem?_map, List.getElem?_eq_getElem (by omega)]
        simp [List.getD, List.getElem?_eq_getElem (show i < ms.length by omega)]
      simp only [evs, ↓reduceIte, Nat.reduceAdd, Nat.reduceSub, List.reduceReplicate, Nat.reduceLeDiff, Bool.false_eq_true, reduceCtorEq, atD_nat, h1, h2, atD_0, atD_1]
      rfl⟩
  have hmk : ∀ i < r, good .tree true (mk i) = true ∧ good .tree false (mk i) = true ∧ (mk i).txt.length ≤ 100 := fun i hi => by
    have q : ps.getD i ([], []) ∈ ps := by
      simp only [List.getD, List.getElem?_eq_getElem (show i < ps.length by omega), Option.getD_some]
      exact List.getElem_mem _
    have q3 : ms.getD i 0 ∈ ms := by
      simp only [List.getD, List.getElem?_eq_getElem (show i < ms.length by omega), Option.getD_some]
      exact List.getElem_mem _
    obtain ⟨h1, h2, h3⟩ := hp _ q
    have h4 := hm2 _ q3
    have h3' := of_decide_eq_true h3
    refine ⟨by simp only [mk, good, h1, h2, h3, h4, decide_true, BEq.rfl, Bool.and_true], by simp only [mk, good, h1, h2, h3, h4, decide_true, BEq.rfl, Bool.and_true], ?_⟩
    have a1 := isW_len h1
    have a2 := isW_len h2
    have a3 := numT_len (ms.getD i 0)
    show ((ps.getD i ([], [])).1 ++ 45 :: (ps.getD i ([], [])).2 ++ 58 :: numT (ms.getD i 0)).length ≤ 100
    simp only [List.length_append, List.length_cons]
    omega
  refine ⟨(List.range r).map mk, om3, ?_, ⟨⟨?_, by simp⟩, by simp; omega, ?_⟩, (th1.trans (th2.trans th)).more (by omega)⟩
  · unfold f_law_form_value b_law_form_value
    rw [fnD_ev, sSeq_ev, env0_eq]
    show rfin false (List.length om) (rseq (vH _ om) _) = _
    rw [e1]
    have f1 : (F7.tree.nm == F7.lot.nm) = false := by decide
    have f2 : (F7.tree.nm == F7.pairs.nm) = false := by decide
    have f3 : (F7.tree.nm == F7.ways.nm) = false := by decide
    unfold F7.nm at *
    simp only at f1 f2 f3
    have b4 : (-1000000 : Int) ≤ 4 ∧ (4 : Int) ≤ 1000000 := by omega
    unfold vM at q2
    simp only [evs, ↓reduceIte, Nat.reduceAdd, Nat.reduceSub, List.reduceReplicate, Nat.reduceLeDiff, Bool.false_eq_true, reduceCtorEq, f1, f2, f3, BEq.rfl, b1, b2, b4] at q2 ⊢
    rw [q2]
    simp only [evs, ↓reduceIte, Nat.reduceAdd, Nat.reduceSub, List.reduceReplicate, Nat.reduceLeDiff, Bool.false_eq_true, reduceCtorEq, BEq.rfl, b1, b2, e3, e4]
    have : valD .tree ((List.range r).map mk) = .tup ((List.range r).map fun i => (mk i).toD) := by
      show Dat.tup (List.map Itm.toD (List.map mk _)) = _
      rw [List.map_map]; rfl
    rw [this]
    exact finR_of (by rw [th.len, th2.len, th1.len])
  · refine goodGo_any (by simp) (by simp) (by simp) _ 0 [] fun i hi => ?_
    obtain ⟨j, h, rfl⟩ := List.mem_map.mp hi
    have := hmk j (by simpa using h)
    exact ⟨this.1, this.2.1⟩
  · intro i hi
    obtain ⟨j, h, rfl⟩ := List.mem_map.mp hi
    exact (hmk j (by simpa using h)).2.2
end K70
end Part_C12
section Part_C13
set_option maxRecDepth 100000
namespace K70
open PySem PySem.Spec PyProof.Rows L2 DL
theorem zip_en : ∀ (ws : List W) (ms : List Nat), zipD (sD ws) (nD ms) = ((ws.zip ms).map fun p => Itm.en p.1 p.2).map Itm.toD
  | [], _ => rfl
  | _ :: _, [] => rfl
  | w :: ws, m :: ms => by
    have := zip_en ws ms
    unfold sD nD at *
    simp only [List.map_cons, zipD, List.zip_cons_cons, this]
    rfl
theorem zip_st : ∀ (ws : List (W × W)) (ms : List Nat), zipD (ws.map pD) (nD ms) = ((ws.zip ms).map fun p => Itm.st p.1 p.2).map Itm.toD
  | [], _ => rfl
  | _ :: _, [] => rfl
  | w :: ws, m :: ms => by
    have := zip_st ws ms
    unfold nD at *
    simp only [List.map_cons, zipD, List.zip_cons_cons, this]
    rfl
theorem zip_fst {α β : Type} : ∀ (a : List α) (b : List β), a.length ≤ b.length → (a.zip b).map (·.1) = a
  | [], _, _ => rfl
  | x :: a, [], h => by simp at h
  | x :: a, y :: b, h => by
    rw [List.zip_cons_cons, List.map_cons, zip_fst a b (by simpa using h)]
theorem kListZip_lst (xs ys : List Dat) (om : Om) (h : xs.length ≤ 1000000) : kListZip (.lst xs) (.lst ys) om = .ok (.lst (zipD xs ys)) om := by
  unfold kListZip
  simp only [lstD]
  rw [if_pos h]
theorem value_ends (k N : Nat) (om : Om) (hN : N + 2000 ≤ 1000000000) (d : Dice k N om) (ok : okOm om) : ∃ (is : List Itm) (om' : Om), f_law_form_value [.cell k, .str F7.ends.nm] om = .ok (valD .ends is) om' ∧ Drawn .ends is ∧ Thr k (N + 200) om om' := by
  obtain ⟨r, om1, e1, hr, th1⟩ := v_head k N om (.str F7.ends.nm) (by omega) d ok
  obtain ⟨ms, om2, q2, hm, hm2, th2⟩ := v_nums k (N + 1) om1 (some (.str F7.ends.nm)) (some (.int r)) (some (.lst (sD words8))) (by omega) th1.d th1.ok
  obtain ⟨ws, om3, e2, hl, hnd, hw, th3⟩ := some_words k _ om2 r (by omega) (by omega) th2.d th2.ok
  have pw : (sortK (leO ltS) ws).Pairwise fun a b => ltS a b = true := asc_of ltS_ord (sortK_pair ltS_ord ws) ((sortK_perm ws).nodup_iff.mpr hnd)
  have hw2 : ∀ w ∈ sortK (leO ltS) ws, isW w = true := fun w h => hw w (sortK_mem.mp h)
  have hlen : (sortK (leO ltS) ws).length = r := by rw [sortK_len, hl]
  obtain ⟨us, hus⟩ : ∃ us, us = sortK (leO ltS) ws := ⟨_, rfl⟩
  rw [← hus] at pw hw2 hlen
  have ex : Drawn .ends ((us.zip ms).map fun p => Itm.en p.1 p.2) := by
    refine ⟨⟨?_, by simp⟩, by simp; omega, ?_⟩
    · refine goodGo_S (.inr rfl) _ 0 [] (fun i hi b => ?_) ?_
      · obtain ⟨p, h, rfl⟩ := List.mem_map.mp hi
        have h1 := List.of_mem_zip h
        simp [good, hw2 _ h1.1, hm2 _ h1.2]
      · rw [List.nil_append, List.map_map]
        have : (us.zip ms).map (kW ∘ fun p => Itm.en p.1 p.2) = us := zip_fst us ms (by omega)
        rw [this]; exact pw
    · intro i hi
      obtain ⟨p, h, rfl⟩ := List.mem_map.mp hi
      have h1 := List.of_mem_zip h
      have a1 := isW_len (hw2 _ h1.1)
      have a2 := numT_len p.2
      show (p.1 ++ 58 :: numT p.2).length ≤ 100
      simp; omega
  refine ⟨_, om3, ?_, ex, (th1.trans (th2.trans th3)).more (by omega)⟩
  have e3 := kSortedI_str ws om3 (by omega)
  rw [← hus] at e3
  have e4 := kListZip_lst (sD us) (nD ms) om3 (by simp [sD]; omega)
  have e5 := dict_lst ex.1 rfl (.lst (zipD (sD us) (nD ms))) om3 (by rw [zip_en]; rfl)
  unfold f_law_form_value b_law_form_value
  rw [fnD_ev, sSeq_ev, env0_eq]
  show rfin false (List.length om) (rseq (vH _ om) _) = _
  rw [e1]
  have f1 : (F7.ends.nm == F7.lot.nm) = false := by decide
  have f2 : (F7.ends.nm == F7.pairs.nm) = false := by decide
  have f3 : (F7.ends.nm == F7.ways.nm) = false := by decide
  have f4 : (F7.ends.nm == F7.tree.nm) = false := by decide
  unfold F7.nm at *
  simp only at f1 f2 f3 f4
  have b4 : (-1000000 : Int) ≤ 4 ∧ (4 : Int) ≤ 1000000 := by omega
  unfold vM at q2
  simp only [evs, ↓reduceIte, Nat.reduceAdd, Nat.reduceSub, List.reduceReplicate, Nat.reduceLeDiff, Bool.false_eq_true, reduceCtorEq, f1, f2, f3, f4, BEq.rfl, b4] at q2 ⊢
  rw [q2]
  simp only [evs, ↓reduceIte, Nat.reduceAdd, Nat.reduceSub, List.reduceReplicate, Nat.reduceLeDiff, Bool.false_eq_true, reduceCtorEq, f1, f2, f3, f4, BEq.rfl, e2, e3]
  simp only [evs, ↓reduceIte, Nat.reduceAdd, Nat.reduceSub, List.reduceReplicate, Nat.reduceLeDiff, Bool.false_eq_true, reduceCtorEq, e4, e5]
  exact finR_of (by rw [th3.len, th2.len, th1.len])
theorem value_streets (k N : Nat) (om : Om) (hN : N + 2000 ≤ 1000000000) (d : Dice k N om) (ok : okOm om) : ∃ (is : List Itm) (om' : Om), f_law_form_value [.cell k, .str F7.streets.nm] om = .ok (valD .streets is) om' ∧ Drawn .streets is ∧ Thr k (N + 200) om om' := by
  obtain ⟨r, om1, e1, hr, th1⟩ := v_head k N om (.str F7.streets.nm) (by omega) d ok
  obtain ⟨ms, om2, q2, hm, hm2, th2⟩ := v_nums k (N + 1) om1 (some (.str F7.streets.nm)) (some (.int r)) (some (.lst (sD words8))) (by omega) th1.d th1.ok
  let P : List Dat → List Dat → Om → Prop := fun todo acc s => ∃ ps : List (W × W), acc = ps.map pD ∧ (∀ p ∈ ps, stOk p = true) ∧ ps.length + todo.length = r ∧ Thr k (N + 5 + 8 * ps.length) om2 s
  have step : ∀ x todo acc s, P (x :: todo) acc s → acc.length < 1000000 ∧ ∃ env1 s1 y s2, gN 7 x [some (.cell k), some (.str F7.streets.nm), some (.int r), some (.lst (sD words8)), some (.lst (nD ms)), none, none, none, none, none, none] s = .ok env1 s1 ∧
      (eB kTuple (aCons (eCall 3 [] f_law_some (aCons (eVar 0) (aCons (eVar 3) (aCons (eC (.int 2)) (aNil))))) (aNil))) env1 s1 = .ok y s2 ∧ P todo (acc ++ [y]) s2 := by
    rintro x todo acc s ⟨ps, rfl, hp, hh, th⟩
    have hh2 : ps.length + (todo.length + 1) = r := by simpa using hh
    obtain ⟨w, s2, e3, hl, hnd, hw, th3⟩ := some_words k _ s 2 (by omega) (by omega) th.d th.ok
    have e3' : f_law_some [.cell k, .lst (sD words8), .int 2] s = .ok (.lst (sD w)) s2 := e3
    obtain ⟨a, b, rfl⟩ : ∃ a b, w = [a, b] := by
      match w, hl with
      | [a, b], _ => exact ⟨a, b, rfl⟩
    refine ⟨by simp; omega, _, _, pD (a, b), s2, rfl, by simp only [evs, ↓reduceIte, Nat.reduceAdd, Nat.reduceSub, List.reduceReplicate, Nat.reduceLeDiff, Bool.false_eq_true, reduceCtorEq, e3']; rfl, ps ++ [(a, b)], by simp, ?_, by simp; omega, (th.trans th3).more (by simp; omega)⟩
    intro p hp2
    rcases List.mem_append.mp hp2 with hp2 | hp2
    · exact hp p hp2
    · rw [List.mem_singleton] at hp2
      subst hp2
      have hne : a ≠ b := by simpa using hnd
      unfold stOk
      simp [hw a (by simp), hw b (by simp), hne]
  have start : P ((List.range r).map fun (i : Nat) => .int (i : Int)) [] om2 := ⟨[], rfl, by simp, by simp, by simpa using th2.self⟩
  obtain ⟨ys, om3, e3, ps, rfl, hp, hh, th⟩ := lcL_inv P step _ _ _ start
  have hlen : ps.length = r := by simpa using hh
  obtain ⟨b1, b2⟩ := rg_ok r (by omega)
  obtain ⟨us, hus⟩ : ∃ us, us = sortK (leO ltP) (nubK ps) := ⟨_, rfl⟩
  have pw : us.Pairwise fun a b => ltP a b = true := by
    rw [hus]
    exact asc_of ltP_ord (sortK_pair ltP_ord _) ((sortK_perm _).nodup_iff.mpr (nubK_nodup ps))
  have hu : ∀ p ∈ us, stOk p = true := fun p h => by
    rw [hus] at h
    exact hp p (nubK_mem.mp (sortK_mem.mp h))
  have hul : us.length ≤ 3 := by
    rw [hus, sortK_len]
    have := nubK_le ps
    omega
  have ex : Drawn .streets ((us.zip (ms.map (max 1))).map fun p => Itm.st p.1 p.2) := by
    have hz : ∀ p ∈ us.zip (ms.map (max 1)), stOk p.1 = true ∧ 1 ≤ p.2 ∧ p.2 < 100 := fun p h => by
      have h1 := List.of_mem_zip h
      refine ⟨hu _ h1.1, ?_⟩
      obtain ⟨m, hm3, e⟩ := List.mem_map.mp h1.2
      have := hm2 m hm3
      omega
    refine ⟨⟨?_, by simp⟩, by simp; omega, ?_⟩
    · refine goodGo_P _ 0 [] (fun i hi b => ?_) ?_
      · obtain ⟨p, h, rfl⟩ := List.mem_map.mp hi
        have := hz p h
        simp [good, this.1, this.2]
      · rw [List.nil_append, List.map_map]
        have : (us.zip (ms.map (max 1))).map (kP ∘ fun p => Itm.st p.1 p.2) = us := zip_fst us _ (by simp; omega)
        rw [this]; exact pw
    · intro i hi
      obtain ⟨p, h, rfl⟩ := List.mem_map.mp hi
      have h1 := stOk_w (hz p h).1
      have a1 := isW_len h1.1
      have a2 := isW_len h1.2.1
      have a3 := numT_len p.2
      show (p.1.1 ++ 62 :: p.1.2 ++ 58 :: numT p.2).length ≤ 100
      simp only [List.length_append, List.length_cons]
      omega
  refine ⟨_, om3, ?_, ex, (th1.trans (th2.trans th)).more (by omega)⟩
  have e4 := (kSortSetI_pD ps om3 (by omega)).2
  rw [← hus] at e4
  have e5 : ∀ x0 x1 x2 x3 x4 x5 x6 x7 x8 x9 x10 : Option Dat, lcL (gN 10) tYesD (eB kMax2 (aCons (eC (.int 1)) (aCons (eVar 10) (aNil)))) (nD ms) [x0, x1, x2, x3, x4, x5, x6, x7, x8, x9, x10] om3 [] = .ok (ms.map fun (m : Nat) => .int ((max 1 m : Nat) : Int)) om3 := fun x0 x1 x2 x3 x4 x5 x6 x7 x8 x9 x10 =>
    lcL_mapM (α := Nat) _ _ (by omega) fun m hm3 => ⟨_, rfl, by
      have : (if (m : Int) > 1 then (m : Int) else 1) = ((max 1 m : Nat) : Int) := by split <;> omega
      simp only [evs, ↓reduceIte, Nat.reduceAdd, Nat.reduceSub, List.reduceReplicate, Nat.reduceLeDiff, Bool.false_eq_true, reduceCtorEq, this]⟩
  have e6 : (ms.map fun (m : Nat) => Dat.int ((max 1 m : Nat) : Int)) = nD (ms.map (max 1)) := by
    unfold nD
    rw [List.map_map]; rfl
  have e7 := kListZip_lst (us.map pD) (nD (ms.map (max 1))) om3 (by simp; omega)
  have e8 := dict_lst ex.1 rfl (.lst (zipD (us.map pD) (nD (ms.map (max 1))))) om3 (by rw [zip_st]; rfl)
  have e9 : nD ms = nD ms := rfl
  unfold f_law_form_value b_law_form_value
  rw [fnD_ev, sSeq_ev, env0_eq]
  show rfin false (List.length om) (rseq (vH _ om) _) = _
  rw [e1]
  have f1 : (F7.streets.nm == F7.lot.nm) = false := by decide
  have f2 : (F7.streets.nm == F7.pairs.nm) = false := by decide
  have f3 : (F7.streets.nm == F7.ways.nm) = false := by decide
  have f4 : (F7.streets.nm == F7.tree.nm) = false := by decide
  have f5 : (F7.streets.nm == F7.ends.nm) = false := by decide
  unfold F7.nm at *
  simp only at f1 f2 f3 f4 f5
  have b4 : (-1000000 : Int) ≤ 4 ∧ (4 : Int) ≤ 1000000 := by omega
  unfold vM at q2
  simp only [evs, ↓reduceIte, Nat.reduceAdd, Nat.reduceSub, List.reduceReplicate, Nat.reduceLeDiff, Bool.false_eq_true, reduceCtorEq, f1, f2, f3, f4, f5, BEq.rfl, b4] at q2 ⊢
  rw [q2]
  simp only [evs, ↓reduceIte, Nat.reduceAdd, Nat.reduceSub, List.reduceReplicate, Nat.reduceLeDiff, Bool.false_eq_true, reduceCtorEq, f1, f2, f3, f4, f5, BEq.rfl, b1, b2, e3, e4, e5, e6, e7, e8]
  exact finR_of (by rw [th.len, th2.len, th1.len])
abbrev gL : SD := (sSeq (sAsg (eB kTuple (aCons (eCall 2 [] f_law_low_pairs (aCons (eVar 0) (aCons (e2 kAdd (eC (.int 1)) (eCall 2 [] f_law_roll (aCons (eVar 0) (aCons (eC (.int 3)) (aNil))))) (aNil)))) (aNil))) (gN 8)) (sExpr (eCellM kAppend (eVar 6) (eCall 2 [] f_law_pick (aCons (eVar 0) (aCons (eLst (aCons (eTup (aCons (eC (.str [116, 105, 101])) (aCons (eCall 1 [] f_law_word (aCons (eVar 0) (aNil))) (aCons (eCall 1 [] f_law_word (aCons (eVar 0) (aNil))) (aNil))))) (aCons (eTup (aCons (eC (.str [112, 105, 110, 99, 104])) (aCons (eCall 1 [] f_law_word (aCons (eVar 0) (aNil))) (aCons (eVar 8) (aNil))))) (aNil)))) (aNil)))))))
theorem dice_app {k N : Nat} {om : Om} (d : Dice k N om) (c : Dat) : Dice k N (om ++ [c]) := by
  obtain ⟨a, b, e, h, r⟩ := d
  exact ⟨a, b, e, by rw [List.getElem?_append_left (List.getElem?_eq_some_iff.mp h).1]; exact h, r⟩
theorem okOm_app {om : Om} (ok : okOm om) {c : Dat} (h : okN om.length c = true) : okOm (om ++ [c]) := by
  unfold okOm at *
  rw [okNs_iff] at *
  intro x hx
  rcases List.mem_append.mp hx with hx | hx
  · exact okN_more (ok x hx) (by simp)
  · rw [List.mem_singleton] at hx
    subst hx
    exact okN_more h (by simp)
/-- the dice was thrown in a store with one more cell -/
theorem thr_take {k N : Nat} {om1 s : Om} {c : Dat} (ok1 : okOm om1) (d1 : k < om1.length) (th : Thr k N (om1 ++ [c]) s) : ∃ om2, s = om2 ++ [c] ∧ Thr k N om1 om2 := by
  have hl : s.length = om1.length + 1 := by rw [th.len]; simp
  have h1 : s[om1.length]? = some c := by rw [th.u.2 _ (by omega)]; exact get_last _ _
  refine ⟨s.take om1.length, ?_, ?_⟩
  · apply List.ext_getElem?
    intro j
    by_cases hj : j < om1.length
    · rw [List.getElem?_append_left (by rw [List.length_take]; omega), List.getElem?_take_of_lt hj]
    · by_cases hj2 : j = om1.length
      · subst hj2
        rw [h1, List.getElem?_append_right (by rw [List.length_take]; omega), List.length_take]
        have : om1.length - min om1.length s.length = 0 := by omega
        rw [this]; rfl
      · rw [List.getElem?_eq_none (by omega), List.getElem?_eq_none (by rw [List.length_append, List.length_take]; simp; omega)]
  · have u : Upd k om1 (s.take om1.length) := by
      refine ⟨by rw [List.length_take]; omega, fun j hj => ?_⟩
      by_cases hj2 : j < om1.length
      · rw [List.getElem?_take_of_lt hj2, th.u.2 j hj, List.getElem?_append_left hj2]
      · rw [List.getElem?_eq_none (by rw [List.length_take]; omega), List.getElem?_eq_none (by omega)]
    have dd : Dice k N (s.take om1.length) := by
      obtain ⟨a, b, e, h, r⟩ := th.d
      exact ⟨a, b, e, by rw [List.getElem?_take_of_lt d1]; exact h, r⟩
    exact ⟨u, dd, okOm_upd ok1 u dd⟩
theorem value_growth (k N : Nat) (om : Om) (hN : N + 2000 ≤ 1000000000) (d : Dice k N om) (ok : okOm om) : ∃ (is : List Itm) (om' : Om), f_law_form_value [.cell k, .str F7.growth.nm] om = .ok (valD .growth is) om' ∧ Drawn .growth is ∧ Thr k (N + 200) om om' := by
  obtain ⟨r, om1, e1, hr, th1⟩ := v_head k N om (.str F7.growth.nm) (by omega) d ok
  obtain ⟨ms, om2, q2, hm, hm2, th2⟩ := v_nums k (N + 1) om1 (some (.str F7.growth.nm)) (some (.int r)) (some (.lst (sD words8))) (by omega) th1.d th1.ok
  have kl := th2.d.lt
  let P : List Dat → En → Om → Prop := fun todo env s => ∃ (is : List Itm) (om3 : Om) (e5 e7 e8 e9 e10 : Option Dat), env = [some (.cell k), some (.str F7.growth.nm), some (.int r), some (.lst (sD words8)), some (.lst (nD ms)), e5, some (.cell om2.length), e7, e8, e9, e10] ∧ s = om3 ++ [.lst (is.map Itm.toD)] ∧
    (∀ i ∈ is, good .growth false i = true ∧ i.txt.length ≤ 100) ∧ is.length + todo.length = r ∧ Thr k (N + 5 + 30 * is.length) om2 om3
  have step : ∀ x todo env s, P (x :: todo) env s → ∃ env1 s1 env2 s2, gN 7 x env s = .ok env1 s1 ∧ gL env1 s1 = .nx env2 s2 ∧ P todo env2 s2 := by
    rintro x todo env s ⟨is, om3, e5, e7, e8, e9, e10, rfl, rfl, hp, hh, th⟩
    have hh2 : is.length + (todo.length + 1) = r := by simpa using hh
    have okc : okN om3.length (.lst (is.map Itm.toD)) = true := okN_flat 60 _ (by
      show (is.map Itm.toD).all (flat 59) = true
      rw [List.all_eq_true]
      intro d hd
      obtain ⟨w, _, rfl⟩ := List.mem_map.mp hd
      exact flat_toD 56 w)
    have k3 : k < om3.length := by rw [th.len]; exact kl
    obtain ⟨q, s1, a1, hq, u1⟩ := roll k _ (om3 ++ [.lst (is.map Itm.toD)]) 3 (by omega) (by omega) (by omega) (dice_app th.d _) (okOm_app th.ok okc)
    obtain ⟨ps, s2, a2, hps, hps2, u2⟩ := low_pairs k _ s1 (1 + q) (by omega) (by omega) u1.d u1.ok
    obtain ⟨w1, s3, a3, hw1, u3⟩ := word k _ s2 (by omega) u2.d u2.ok
    obtain ⟨w2, s4, a4, hw2, u4⟩ := word k _ s3 (by omega) u3.d u3.ok
    obtain ⟨w3, s5, a5, hw3, u5⟩ := word k _ s4 (by omega) u4.d u4.ok
    obtain ⟨y, s6, a6, hy, u6⟩ := pick k _ s5 [.tup [.str TIE, .str w1, .str w2], .tup [.str PIN, .str w3, .tup (ps.map pD)]] (by simp) (by simp) (by omega) u5.d u5.ok
    have a1' : f_law_roll [.cell k, .int 3] (om3 ++ [.lst (is.map Itm.toD)]) = .ok (.int q) s1 := a1
    have a2' : f_law_low_pairs [.cell k, .int (1 + (q : Int))] s1 = .ok (.lst (ps.map pD)) s2 := by
      have : ((1 + q : Nat) : Int) = 1 + (q : Int) := by omega
      rw [← this]; exact a2
    have uu := u1.trans (u2.trans (u3.trans (u4.trans (u5.trans u6))))
    obtain ⟨om4, hs6, th4⟩ := thr_take th.ok k3 uu
    have hyg : ∃ i : Itm, y = i.toD ∧ good .growth false i = true ∧ i.txt.length ≤ 100 := by
      have h1 := isW_len hw1
      have h2 := isW_len hw2
      have h3 := isW_len hw3
      rcases List.mem_cons.mp hy with rfl | hy
      · refine ⟨.tie w1 w2, rfl, by simp [good, hw1, hw2], ?_⟩
        show (w1 ++ 43 :: w2).length ≤ 100
        simp; omega
      · rw [List.mem_singleton] at hy
        subst hy
        refine ⟨.pin w3 ps, rfl, ?_, ?_⟩
        · have hne : ps ≠ [] := fun e => by rw [e] at hps; simp at hps; omega
          simp [good, hw3, hne]
          exact fun a b hab => hps2 _ hab
        · have := joinL_le 61 17 (w3 :: ps.map prT) fun p hp3 => by
            rcases List.mem_cons.mp hp3 with rfl | hp3
            · omega
            · obtain ⟨p, hp4, rfl⟩ := List.mem_map.mp hp3
              exact prT_len (hps2 p hp4)
          show (TL.joinL [61] (w3 :: ps.map prT)).length ≤ 100
          simp only [List.length_cons, List.length_map] at this
          have : (ps.length + 1) * (17 + 1) ≤ 4 * 18 := Nat.mul_le_mul (by omega) (by omega)
          omega
    obtain ⟨i, rfl, hg1, hg2⟩ := hyg
    have gA : (om3 ++ [Dat.lst (is.map Itm.toD)])[om2.length]? = some (.lst (is.map Itm.toD)) := by rw [← th.len]; exact get_last _ _
    have gs2 : s2[om2.length]? = some (.lst (is.map Itm.toD)) := by rw [u2.u.2 _ (by omega), u1.u.2 _ (by omega)]; exact gA
    have gs6 : s6[om2.length]? = some (.lst (is.map Itm.toD)) := by rw [hs6, ← th.len, ← th4.len]; exact get_last _ _
    have ap : eCellM kAppend (eVar 6) (eCall 2 [] f_law_pick (aCons (eVar 0) (aCons (eLst (aCons (eTup (aCons (eC (.str [116, 105, 101])) (aCons (eCall 1 [] f_law_word (aCons (eVar 0) (aNil))) (aCons (eCall 1 [] f_law_word (aCons (eVar 0) (aNil))) (aNil))))) (aCons (eTup (aCons (eC (.str [112, 105, 110, 99, 104])) (aCons (eCall 1 [] f_law_word (aCons (eVar 0) (aNil))) (aCons (eVar 8) (aNil))))) (aNil)))) (aNil))))
        [some (.cell k), some (.str F7.growth.nm), some (.int r), some (.lst (sD words8)), some (.lst (nD ms)), e5, some (.cell om2.length), some x, some (.tup (ps.map pD)), e9, e10] s2 = .ok .non (om4 ++ [.lst ((is ++ [i]).map Itm.toD)]) := by
      rw [cellM_at (i := om2.length) (xs := is.map Itm.toD) (ys := is.map Itm.toD) (d := i.toD) (om2 := s6) (by simp only [evs, ↓reduceIte, Nat.reduceAdd, Nat.reduceSub, List.reduceReplicate, Nat.reduceLeDiff, Bool.false_eq_true, reduceCtorEq]) gs2 (by simp only [evs, ↓reduceIte, Nat.reduceAdd, Nat.reduceSub, List.reduceReplicate, Nat.reduceLeDiff, Bool.false_eq_true, reduceCtorEq, a3, a4, a5, a6]) gs6]
      unfold kAppend
      rw [if_pos (by rw [List.length_map]; omega), hs6, ← th.len, ← th4.len, set_last, List.map_append]
      rfl
    refine ⟨_, _, [some (.cell k), some (.str F7.growth.nm), some (.int r), some (.lst (sD words8)), some (.lst (nD ms)), e5, some (.cell om2.length), some x, some (.tup (ps.map pD)), e9, e10], om4 ++ [.lst ((is ++ [i]).map Itm.toD)], rfl, ?_, is ++ [i], om4, e5, some x, some (.tup (ps.map pD)), e9, e10, rfl, rfl, ?_, by simp; omega, (th.trans th4).more (by simp; omega)⟩
    · unfold gL
      simp only [evs, ↓reduceIte, Nat.reduceAdd, Nat.reduceSub, List.reduceReplicate, Nat.reduceLeDiff, Bool.false_eq_true, reduceCtorEq, a1', a2', rasg_ok, ap]
    · intro j hj
      rcases List.mem_append.mp hj with hj | hj
      · exact hp j hj
      · rw [List.mem_singleton] at hj
        subst hj
        exact ⟨hg1, hg2⟩
  have start : P ((List.range r).map fun (i : Nat) => .int (i : Int)) [some (.cell k), some (.str F7.growth.nm), some (.int r), some (.lst (sD words8)), some (.lst (nD ms)), none, some (.cell om2.length), none, none, none, none] (om2 ++ [.lst []]) := ⟨[], om2, none, none, none, none, none, rfl, rfl, by simp, by simp, by simpa using th2.self⟩
  obtain ⟨env', s', e3, is, om3, x5, x7, x8, x9, x10, rfl, rfl, hp, hh, th⟩ := forL_inv P step _ _ _ start
  have hlen : is.length = r := by simpa using hh
  have okc : okN om3.length (.lst (is.map Itm.toD)) = true := okN_flat 60 _ (by
    show (is.map Itm.toD).all (flat 59) = true
    rw [List.all_eq_true]
    intro d hd
    obtain ⟨w, _, rfl⟩ := List.mem_map.mp hd
    exact flat_toD 56 w)
  have k3 : k < om3.length := by rw [th.len]; exact kl
  obtain ⟨w0, s6, a0, hw0, u0⟩ := word k _ (om3 ++ [.lst (is.map Itm.toD)]) (by omega) (dice_app th.d _) (okOm_app th.ok okc)
  obtain ⟨om4, hs6, th4⟩ := thr_take th.ok k3 u0
  obtain ⟨b1, b2⟩ := rg_ok r (by omega)
  have ex : Drawn .growth (.w w0 :: is) := by
    refine ⟨⟨⟨by simp [good, hw0], rfl, goodGo_any (by simp) (by simp) (by simp) _ _ _ fun i hi => ⟨(hp i hi).1, (hp i hi).1⟩⟩, by simp⟩, by simp; omega, ?_⟩
    intro i hi
    rcases List.mem_cons.mp hi with rfl | hi
    · have := isW_len hw0
      show w0.length ≤ 100
      omega
    · exact (hp i hi).2
  refine ⟨_, om4, ?_, ex, (th1.trans (th2.trans (th.trans th4))).more (by omega)⟩
  have e4 : kTuple [.cell om2.length] s6 = .ok (.tup (is.map Itm.toD)) s6 := by
    have : s6[om2.length]? = some (.lst (is.map Itm.toD)) := by rw [hs6, ← th.len, ← th4.len]; exact get_last _ _
    unfold kTuple itemsD
    simp only [this]
  have b5 : 1 + is.length ≤ 1000000 := by omega
  have b6 : 0 + 1 + is.length ≤ 1000000 := by omega
  unfold f_law_form_value b_law_form_value
  rw [fnD_ev, sSeq_ev, env0_eq]
  show rfin false (List.length om) (rseq (vH _ om) _) = _
  rw [e1]
  have f1 : (F7.growth.nm == F7.lot.nm) = false := by decide
  have f2 : (F7.growth.nm == F7.pairs.nm) = false := by decide
  have f3 : (F7.growth.nm == F7.ways.nm) = false := by decide
  have f4 : (F7.growth.nm == F7.tree.nm) = false := by decide
  have f5 : (F7.growth.nm == F7.ends.nm) = false := by decide
  have f6 : (F7.growth.nm == F7.streets.nm) = false := by decide
  unfold F7.nm at *
  simp only at f1 f2 f3 f4 f5 f6
  have b4 : (-1000000 : Int) ≤ 4 ∧ (4 : Int) ≤ 1000000 := by omega
  unfold vM at q2
  simp only [evs, ↓reduceIte, Nat.reduceAdd, Nat.reduceSub, List.reduceReplicate, Nat.reduceLeDiff, Bool.false_eq_true, reduceCtorEq, f1, f2, f3, f4, f5, f6, BEq.rfl, b4] at q2 ⊢
  rw [q2]
  simp only [evs, ↓reduceIte, Nat.reduceAdd, Nat.reduceSub, List.reduceReplicate, Nat.reduceLeDiff, Bool.false_eq_true, reduceCtorEq, f1, f2, f3, f4, f5, f6, BEq.rfl, rasg_ok]
  rw [sFor_ok (om1 := om2 ++ [.lst []]) (xs := (List.range r).map fun (i : Nat) => .int (i : Int)) (by simp only [evs, ↓reduceIte, Nat.reduceAdd, Nat.reduceSub, List.reduceReplicate, Nat.reduceLeDiff, Bool.false_eq_true, reduceCtorEq, b1, b2])]
  rw [e3]
  simp only [evs, ↓reduceIte, Nat.reduceAdd, Nat.reduceSub, List.reduceReplicate, Nat.reduceLeDiff, Bool.false_eq_true, reduceCtorEq, a0, e4, b5, b6]
  have : valD .growth (.w w0 :: is) = .tup (.str w0 :: is.map Itm.toD) := rfl
  rw [this]
  have fl : flat 60 (valD .growth (.w w0 :: is)) = true := flat_val _ _
  rw [this] at fl
  have := finR_more (om := om4) (t := [.lst (is.map Itm.toD)]) th4.ok fl
  rw [hs6]
  rw [th4.len, th.len, th2.len, th1.len] at this
  exact this
end K70
end Part_C13
section Part_C14
set_option maxRecDepth 100000
namespace K70
open PySem PySem.Spec PyProof.Rows L2 DL
theorem u_is_integer (a : Dat) (om : Om) : f_is_integer [a] om = rfin false om.length (b_is_integer [some a] om) := fnD_ev _ _ _ _ _ _
theorem u_is_within (a b c : Dat) (om : Om) : f_is_within [a, b, c] om = rfin false om.length (b_is_within [some a, some b, some c] om) := fnD_ev _ _ _ _ _ _
theorem u_is_word (a : Dat) (om : Om) : f_is_word [a] om = rfin false om.length (b_is_word [some a, none] om) := fnD_ev _ _ _ _ _ _
theorem u_is_words (a b : Dat) (om : Om) : f_is_words [a, b] om = rfin false om.length (b_is_words [some a, some b, none] om) := fnD_ev _ _ _ _ _ _
theorem u_is_low_pair (a : Dat) (om : Om) : f_is_low_pair [a] om = rfin false om.length (b_is_low_pair [some a] om) := fnD_ev _ _ _ _ _ _
theorem u_is_pair_tuple (a : Dat) (om : Om) : f_is_pair_tuple [a] om = rfin false om.length (b_is_pair_tuple [some a, none] om) := fnD_ev _ _ _ _ _ _
theorem u_is_far_way (a : Dat) (om : Om) : f_is_far_way [a] om = rfin false om.length (b_is_far_way [some a] om) := fnD_ev _ _ _ _ _ _
theorem u_is_counted (a : Dat) (om : Om) : f_is_counted [a] om = rfin false om.length (b_is_counted [some a] om) := fnD_ev _ _ _ _ _ _
theorem u_is_step (a : Dat) (om : Om) : f_is_step [a] om = rfin false om.length (b_is_step [some a] om) := fnD_ev _ _ _ _ _ _
theorem u_is_number_dict (a : Dat) (om : Om) : f_is_number_dict [a] om = rfin false om.length (b_is_number_dict [some a, none, none] om) := fnD_ev _ _ _ _ _ _
theorem u_is_street_dict (a : Dat) (om : Om) : f_is_street_dict [a] om = rfin false om.length (b_is_street_dict [some a, none, none] om) := fnD_ev _ _ _ _ _ _
theorem u_has_form (a b : Dat) (om : Om) : f_has_form [a, b] om = rfin false om.length (b_has_form [some a, some b, none, none, none] om) := fnD_ev _ _ _ _ _ _
def lcStep (g : GD) (t : En → Om → R Bool) (f : DV) (xs : List Dat) (env : En) (acc : List Dat) : R Dat → R (List Dat)
  | .ok y om => if acc.length < 1000000 then lcL g t f xs env om (acc ++ [y]) else .no
  | _ => .no
theorem lcL_n (g : GD) (t : En → Om → R Bool) (f : DV) (env : En) (om : Om) (acc : List Dat) : lcL g t f [] env om acc = .ok acc om := rfl
theorem lcStep_ok (g : GD) (t : En → Om → R Bool) (f : DV) (xs : List Dat) (env : En) (acc : List Dat) (y : Dat) (om : Om) : lcStep g t f xs env acc (.ok y om) = if acc.length < 1000000 then lcL g t f xs env om (acc ++ [y]) else .no := rfl
theorem lcL_c (g : GD) (f : DV) (x : Dat) (xs : List Dat) (env env1 : En) (om om1 : Om) (acc : List Dat) (h : g x env om = .ok env1 om1) : lcL g tYesD f (x :: xs) env om acc = lcStep g tYesD f xs env acc (f env1 om1) := by
  rw [lcL, h]
  simp only [tYesD]
  cases f env1 om1 <;> rfl
theorem lcL_cN (i : Nat) (f : DV) (x : Dat) (xs : List Dat) (env : En) (om : Om) (acc : List Dat) : lcL (gN i) tYesD f (x :: xs) env om acc = lcStep (gN i) tYesD f xs env acc (f (env.set i (some x)) om) := lcL_c _ _ _ _ _ _ _ _ _ rfl
def A : Dat := .str [97]
def B : Dat := .str [98]
theorem qs1 (om : Om) : kSortSetI (.tup [.str [98], .str [97]]) om = .ok (.lst [.str [97], .str [98]]) om := rfl
theorem qs2 (om : Om) : kSortSetI (.tup [.str [97], .str [97]]) om = .ok (.lst [.str [97]]) om := rfl
theorem qs3 (om : Om) : kEq (.lst [.str [98], .str [97]]) (.lst [.str [97], .str [98]]) om = .ok (.bl false) om := rfl
theorem qs4 (om : Om) : kEq (.lst [.str [97], .str [97]]) (.lst [.str [97]]) om = .ok (.bl false) om := rfl
theorem qs5 (om : Om) : kNe (.tup []) (.tup []) om = .ok (.bl false) om := rfl
theorem qs6 (d : Dat) (l : List Dat) (om : Om) (h : okPs 59 (d :: l) = true) : kNe (.tup (d :: l)) (.tup []) om = .ok (.bl true) om := kNe_tup_nil _ _ h
theorem cut_rest {α : Type} (a : α) (l : List α) : DL.cutD (a :: l) (some 1) none = l := by
  unfold DL.cutD
  have h1 : sIxD (a :: l).length 0 (some 1) = 1 := by unfold sIxD; simp
  have h2 : sIxD (a :: l).length (a :: l).length none = l.length + 1 := by unfold sIxD; simp
  rw [h1, h2]
  simp only [List.drop_succ_cons, List.drop_zero, Nat.add_sub_cancel]
  exact List.take_of_length_le (by simp)
def odd_lot : List Dat := [.non, .int 0, A, .lst [], .lst [A], .tup [.non], .tup [.tup [A]], .tup [.str [65]], .tup [.tup [.int 1, .int 2]], .tup [.tup [A, B, .int 100]], .bl true, .tup [.tup [A, B, .bl true]], .dct [A] [.int (-1)], .dct [A] [.bl true], .dct [.str [65]] [.int 1], .dct [.tup [A, B]] [.int 100], .dct [.tup [A, A]] [.int 1], .dct [.tup [A]] [.int 1], .dct [.int 0] [.int 0], .tup [.lst []], .dct [] [], .dct [A] [.int 1], .tup [B, A], .tup [A, A], .tup [.str [], A], .tup [.str [97, 98, 99, 100, 101, 102, 103, 104, 105]]]
theorem odd_no_lot (om : Om) : ∀ x ∈ odd_lot, f_has_form [.str F7.lot.nm, x] om = .ok (.bl false) om := by
  unfold odd_lot
  simp only [List.forall_mem_cons]
  refine ⟨?_, ?_, ?_, ?_, ?_, ?_, ?_, ?_, ?_, ?_, ?_, ?_, ?_, ?_, ?_, ?_, ?_, ?_, ?_, ?_, ?_, ?_, ?_, ?_, ?_, ?_, by intro x h; cases h⟩
  all_goals try simp (config := {decide := true}) only [evs, ↓reduceIte, Nat.reduceAdd, Nat.reduceSub, List.reduceReplicate, Nat.reduceLeDiff, Bool.false_eq_true, reduceCtorEq, fnD_ev, u_is_integer, b_is_integer, u_is_within, b_is_within, u_is_word, b_is_word, u_is_words, b_is_words, u_is_low_pair, b_is_low_pair, u_is_pair_tuple, b_is_pair_tuple, u_is_far_way, b_is_far_way, u_is_counted, b_is_counted, u_is_step, b_is_step, u_is_number_dict, b_is_number_dict, u_is_street_dict, b_is_street_dict, u_has_form, b_has_form, lcL_n, lcL_cN, lcStep_ok, dLETTERS, dMAX_LETTERS, dLONGEST, kAll, blsD, Option.map_some, List.all_cons, List.all_nil, id, kNe_str, okT, okPs, okP_str, okP_non, okP_int, kNe_tup_nil, List.all_cons, kLenSet, itemsD, keyable, keysD, keysT, keyD, keyT, qs1, qs2, qs3, qs4, qs5, qs6, atD_0, atD_1, atD_2, A, B, F7.nm, Option.isSome_some, Option.isSome_none, cut_two, cut_rest]
  all_goals try rfl
def odd_pairs : List Dat := [.non, .int 0, A, .lst [], .lst [A], .tup [.non], .tup [.tup [A]], .tup [.str [65]], .tup [.tup [.int 1, .int 2]], .tup [.tup [A, B, .int 100]], .bl true, .tup [.tup [A, B, .bl true]], .dct [A] [.int (-1)], .dct [A] [.bl true], .dct [.str [65]] [.int 1], .dct [.tup [A, B]] [.int 100], .dct [.tup [A, A]] [.int 1], .dct [.tup [A]] [.int 1], .dct [.int 0] [.int 0], .tup [.lst []], .dct [] [], .dct [A] [.int 1], .tup [A, B], .tup [.tup [B, A]], .tup [.tup [A, B, .str [99]]], .tup [.lst [A, B]]]
theorem odd_no_pairs (om : Om) : ∀ x ∈ odd_pairs, f_has_form [.str F7.pairs.nm, x] om = .ok (.bl false) om := by
  unfold odd_pairs
  simp only [List.forall_mem_cons]
  refine ⟨?_, ?_, ?_, ?_, ?_, ?_, ?_, ?_, ?_, ?_, ?_, ?_, ?_, ?_, ?_, ?_, ?_, ?_, ?_, ?_, ?_, ?_, ?_, ?_, ?_, ?_, by intro x h; cases h⟩
  all_goals try simp (config := {decide := true}) only [evs, ↓reduceIte, Nat.reduceAdd, Nat.reduceSub, List.reduceReplicate, Nat.reduceLeDiff, Bool.false_eq_true, reduceCtorEq, fnD_ev, u_is_integer, b_is_integer, u_is_within, b_is_within, u_is_word, b_is_word, u_is_words, b_is_words, u_is_low_pair, b_is_low_pair, u_is_pair_tuple, b_is_pair_tuple, u_is_far_way, b_is_far_way, u_is_counted, b_is_counted, u_is_step, b_is_step, u_is_number_dict, b_is_number_dict, u_is_street_dict, b_is_street_dict, u_has_form, b_has_form, lcL_n, lcL_cN, lcStep_ok, dLETTERS, dMAX_LETTERS, dLONGEST, kAll, blsD, Option.map_some, List.all_cons, List.all_nil, id, kNe_str, okT, okPs, okP_str, okP_non, okP_int, kNe_tup_nil, List.all_cons, kLenSet, itemsD, keyable, keysD, keysT, keyD, keyT, qs1, qs2, qs3, qs4, qs5, qs6, atD_0, atD_1, atD_2, A, B, F7.nm, Option.isSome_some, Option.isSome_none, cut_two, cut_rest]
  all_goals try rfl
def odd_ways : List Dat := [.non, .int 0, A, .lst [], .lst [A], .tup [.non], .tup [.tup [A]], .tup [.str [65]], .tup [.tup [.int 1, .int 2]], .tup [.tup [A, B, .int 100]], .bl true, .tup [.tup [A, B, .bl true]], .dct [A] [.int (-1)], .dct [A] [.bl true], .dct [.str [65]] [.int 1], .dct [.tup [A, B]] [.int 100], .dct [.tup [A, A]] [.int 1], .dct [.tup [A]] [.int 1], .dct [.int 0] [.int 0], .tup [.lst []], .dct [] [], .dct [A] [.int 1], .tup [A, B], .tup [.tup [A, B, A]], .tup [.tup [A]], .tup [.tup [A, A]], .tup [.lst [A, B]]]
theorem odd_no_ways (om : Om) : ∀ x ∈ odd_ways, f_has_form [.str F7.ways.nm, x] om = .ok (.bl false) om := by
  unfold odd_ways
  simp only [List.forall_mem_cons]
  refine ⟨?_, ?_, ?_, ?_, ?_, ?_, ?_, ?_, ?_, ?_, ?_, ?_, ?_, ?_, ?_, ?_, ?_, ?_, ?_, ?_, ?_, ?_, ?_, ?_, ?_, ?_, ?_, by intro x h; cases h⟩
  all_goals try simp (config := {decide := true}) only [evs, ↓reduceIte, Nat.reduceAdd, Nat.reduceSub, List.reduceReplicate, Nat.reduceLeDiff, Bool.false_eq_true, reduceCtorEq, fnD_ev, u_is_integer, b_is_integer, u_is_within, b_is_within, u_is_word, b_is_word, u_is_words, b_is_words, u_is_low_pair, b_is_low_pair, u_is_pair_tuple, b_is_pair_tuple, u_is_far_way, b_is_far_way, u_is_counted, b_is_counted, u_is_step, b_is_step, u_is_number_dict, b_is_number_dict, u_is_street_dict, b_is_street_dict, u_has_form, b_has_form, lcL_n, lcL_cN, lcStep_ok, dLETTERS, dMAX_LETTERS, dLONGEST, kAll, blsD, Option.map_some, List.all_cons, List.all_nil, id, kNe_str, okT, okPs, okP_str, okP_non, okP_int, kNe_tup_nil, List.all_cons, kLenSet, itemsD, keyable, keysD, keysT, keyD, keyT, qs1, qs2, qs3, qs4, qs5, qs6, atD_0, atD_1, atD_2, A, B, F7.nm, Option.isSome_some, Option.isSome_none, cut_two, cut_rest]
  all_goals try rfl
def odd_tree : List Dat := [.non, .int 0, A, .lst [], .lst [A], .tup [.non], .tup [.tup [A]], .tup [.str [65]], .tup [.tup [.int 1, .int 2]], .tup [.tup [A, B, .int 100]], .bl true, .tup [.tup [A, B, .bl true]], .dct [A] [.int (-1)], .dct [A] [.bl true], .dct [.str [65]] [.int 1], .dct [.tup [A, B]] [.int 100], .dct [.tup [A, A]] [.int 1], .dct [.tup [A]] [.int 1], .dct [.int 0] [.int 0], .tup [.lst []], .dct [] [], .dct [A] [.int 1], .tup [A, B], .tup [.tup [B, A, .int 1]], .tup [.tup [A, A, .int 1]], .tup [.tup [A, B]], .tup [.lst [A, B, .int 1]], .tup [.tup [A, B, .int (-1)]]]
theorem odd_no_tree (om : Om) : ∀ x ∈ odd_tree, f_has_form [.str F7.tree.nm, x] om = .ok (.bl false) om := by
  unfold odd_tree
  simp only [List.forall_mem_cons]
  refine ⟨?_, ?_, ?_, ?_, ?_, ?_, ?_, ?_, ?_, ?_, ?_, ?_, ?_, ?_, ?_, ?_, ?_, ?_, ?_, ?_, ?_, ?_, ?_, ?_, ?_, ?_, ?_, ?_, by intro x h; cases h⟩
  all_goals try simp (config := {decide := true}) only [evs, ↓reduceIte, Nat.reduceAdd, Nat.reduceSub, List.reduceReplicate, Nat.reduceLeDiff, Bool.false_eq_true, reduceCtorEq, fnD_ev, u_is_integer, b_is_integer, u_is_within, b_is_within, u_is_word, b_is_word, u_is_words, b_is_words, u_is_low_pair, b_is_low_pair, u_is_pair_tuple, b_is_pair_tuple, u_is_far_way, b_is_far_way, u_is_counted, b_is_counted, u_is_step, b_is_step, u_is_number_dict, b_is_number_dict, u_is_street_dict, b_is_street_dict, u_has_form, b_has_form, lcL_n, lcL_cN, lcStep_ok, dLETTERS, dMAX_LETTERS, dLONGEST, kAll, blsD, Option.map_some, List.all_cons, List.all_nil, id, kNe_str, okT, okPs, okP_str, okP_non, okP_int, kNe_tup_nil, List.all_cons, kLenSet, itemsD, keyable, keysD, keysT, keyD, keyT, qs1, qs2, qs3, qs4, qs5, qs6, atD_0, atD_1, atD_2, A, B, F7.nm, Option.isSome_some, Option.isSome_none, cut_two, cut_rest]
  all_goals try rfl
def odd_ends : List Dat := [.non, .int 0, A, .lst [], .lst [A], .tup [.non], .tup [.tup [A]], .tup [.str [65]], .tup [.tup [.int 1, .int 2]], .tup [.tup [A, B, .int 100]], .bl true, .tup [.tup [A, B, .bl true]], .dct [A] [.int (-1)], .dct [A] [.bl true], .dct [.str [65]] [.int 1], .dct [.tup [A, B]] [.int 100], .dct [.tup [A, A]] [.int 1], .dct [.tup [A]] [.int 1], .dct [.int 0] [.int 0], .tup [.lst []], .tup [A, B], .tup [], .tup [A], .dct [.tup [A, B]] [.int 1], .dct [A] [.int 100], .dct [A] [.str [49]]]
theorem odd_no_ends (om : Om) : ∀ x ∈ odd_ends, f_has_form [.str F7.ends.nm, x] om = .ok (.bl false) om := by
  unfold odd_ends
  simp only [List.forall_mem_cons]
  refine ⟨?_, ?_, ?_, ?_, ?_, ?_, ?_, ?_, ?_, ?_, ?_, ?_, ?_, ?_, ?_, ?_, ?_, ?_, ?_, ?_, ?_, ?_, ?_, ?_, ?_, ?_, by intro x h; cases h⟩
  all_goals try simp (config := {decide := true}) only [evs, ↓reduceIte, Nat.reduceAdd, Nat.reduceSub, List.reduceReplicate, Nat.reduceLeDiff, Bool.false_eq_true, reduceCtorEq, fnD_ev, u_is_integer, b_is_integer, u_is_within, b_is_within, u_is_word, b_is_word, u_is_words, b_is_words, u_is_low_pair, b_is_low_pair, u_is_pair_tuple, b_is_pair_tuple, u_is_far_way, b_is_far_way, u_is_counted, b_is_counted, u_is_step, b_is_step, u_is_number_dict, b_is_number_dict, u_is_street_dict, b_is_street_dict, u_has_form, b_has_form, lcL_n, lcL_cN, lcStep_ok, dLETTERS, dMAX_LETTERS, dLONGEST, kAll, blsD, Option.map_some, List.all_cons, List.all_nil, id, kNe_str, okT, okPs, okP_str, okP_non, okP_int, kNe_tup_nil, List.all_cons, kLenSet, itemsD, keyable, keysD, keysT, keyD, keyT, qs1, qs2, qs3, qs4, qs5, qs6, atD_0, atD_1, atD_2, A, B, F7.nm, Option.isSome_some, Option.isSome_none, cut_two, cut_rest]
  all_goals try rfl
def odd_streets : List Dat := [.non, .int 0, A, .lst [], .lst [A], .tup [.non], .tup [.tup [A]], .tup [.str [65]], .tup [.tup [.int 1, .int 2]], .tup [.tup [A, B, .int 100]], .bl true, .tup [.tup [A, B, .bl true]], .dct [A] [.int (-1)], .dct [A] [.bl true], .dct [.str [65]] [.int 1], .dct [.tup [A, B]] [.int 100], .dct [.tup [A, A]] [.int 1], .dct [.tup [A]] [.int 1], .dct [.int 0] [.int 0], .tup [.lst []], .tup [A, B], .tup [], .tup [A], .dct [.tup [A, B]] [.int 0], .dct [.str [97, 98]] [.int 1], .dct [.tup [A, B]] [.non], .dct [.tup [A, .str [66]]] [.int 1]]
theorem odd_no_streets (om : Om) : ∀ x ∈ odd_streets, f_has_form [.str F7.streets.nm, x] om = .ok (.bl false) om := by
  unfold odd_streets
  simp only [List.forall_mem_cons]
  refine ⟨?_, ?_, ?_, ?_, ?_, ?_, ?_, ?_, ?_, ?_, ?_, ?_, ?_, ?_, ?_, ?_, ?_, ?_, ?_, ?_, ?_, ?_, ?_, ?_, ?_, ?_, ?_, by intro x h; cases h⟩
  all_goals try simp (config := {decide := true}) only [evs, ↓reduceIte, Nat.reduceAdd, Nat.reduceSub, List.reduceReplicate, Nat.reduceLeDiff, Bool.false_eq_true, reduceCtorEq, fnD_ev, u_is_integer, b_is_integer, u_is_within, b_is_within, u_is_word, b_is_word, u_is_words, b_is_words, u_is_low_pair, b_is_low_pair, u_is_pair_tuple, b_is_pair_tuple, u_is_far_way, b_is_far_way, u_is_counted, b_is_counted, u_is_step, b_is_step, u_is_number_dict, b_is_number_dict, u_is_street_dict, b_is_street_dict, u_has_form, b_has_form, lcL_n, lcL_cN, lcStep_ok, dLETTERS, dMAX_LETTERS, dLONGEST, kAll, blsD, Option.map_some, List.all_cons, List.all_nil, id, kNe_str, okT, okPs, okP_str, okP_non, okP_int, kNe_tup_nil, List.all_cons, kLenSet, itemsD, keyable, keysD, keysT, keyD, keyT, qs1, qs2, qs3, qs4, qs5, qs6, atD_0, atD_1, atD_2, A, B, F7.nm, Option.isSome_some, Option.isSome_none, cut_two, cut_rest]
  all_goals try rfl
def odd_growth : List Dat := [.non, .int 0, A, .lst [], .lst [A], .tup [.non], .tup [.tup [A]], .tup [.str [65]], .tup [.tup [.int 1, .int 2]], .tup [.tup [A, B, .int 100]], .bl true, .tup [.tup [A, B, .bl true]], .dct [A] [.int (-1)], .dct [A] [.bl true], .dct [.str [65]] [.int 1], .dct [.tup [A, B]] [.int 100], .dct [.tup [A, A]] [.int 1], .dct [.tup [A]] [.int 1], .dct [.int 0] [.int 0], .tup [.lst []], .dct [] [], .dct [A] [.int 1], .tup [A, B], .tup [], .tup [A, .tup [.str PIN, B, .tup []]], .tup [A, .tup [.str TIE, B]], .tup [A, .tup [.str [116, 105, 101, 115], A, B]], .tup [A, .tup [.str TIE, A, .int 0]], .tup [A, .tup [.str PIN, B, .tup [.tup [B, A]]]], .tup [A, .lst [.str TIE, A, B]], .tup [.tup [.str TIE, A, B]], .tup [A, .int 0]]
theorem odd_no_growth (om : Om) : ∀ x ∈ odd_growth, f_has_form [.str F7.growth.nm, x] om = .ok (.bl false) om := by
  unfold odd_growth
  simp only [List.forall_mem_cons]
  refine ⟨?_, ?_, ?_, ?_, ?_, ?_, ?_, ?_, ?_, ?_, ?_, ?_, ?_, ?_, ?_, ?_, ?_, ?_, ?_, ?_, ?_, ?_, ?_, ?_, ?_, ?_, ?_, ?_, ?_, ?_, ?_, ?_, by intro x h; cases h⟩
  all_goals try simp (config := {decide := true}) only [evs, ↓reduceIte, Nat.reduceAdd, Nat.reduceSub, List.reduceReplicate, Nat.reduceLeDiff, Bool.false_eq_true, reduceCtorEq, fnD_ev, u_is_integer, b_is_integer, u_is_within, b_is_within, u_is_word, b_is_word, u_is_words, b_is_words, u_is_low_pair, b_is_low_pair, u_is_pair_tuple, b_is_pair_tuple, u_is_far_way, b_is_far_way, u_is_counted, b_is_counted, u_is_step, b_is_step, u_is_number_dict, b_is_number_dict, u_is_street_dict, b_is_street_dict, u_has_form, b_has_form, lcL_n, lcL_cN, lcStep_ok, dLETTERS, dMAX_LETTERS, dLONGEST, kAll, blsD, Option.map_some, List.all_cons, List.all_nil, id, kNe_str, okT, okPs, okP_str, okP_non, okP_int, kNe_tup_nil, List.all_cons, kLenSet, itemsD, keyable, keysD, keysT, keyD, keyT, qs1, qs2, qs3, qs4, qs5, qs6, atD_0, atD_1, atD_2, A, B, F7.nm, Option.isSome_some, Option.isSome_none, cut_two, cut_rest]
  all_goals try rfl
/-! ### the odd values -/
def Odd (b : SD) (f : Dat) (a out : List Dat) : Prop := ∀ s : Om, ∃ t : Om, b [some f, some (.cell s.length)] (s ++ [.lst a]) = .ret (.cell (s ++ t).length) (s ++ t ++ [.lst out])
theorem odd_ret (f : Dat) (a : List Dat) : Odd (sRet (eVar 1)) f a a := fun s => ⟨[], by simp only [evs, ↓reduceIte, Nat.reduceAdd, Nat.reduceSub, List.reduceReplicate, Nat.reduceLeDiff, Bool.false_eq_true, reduceCtorEq]⟩
theorem odd_add {f : Dat} {a b out : List Dat} {X : DV} {rest : SD} (hX : ∀ env om, X env om = .ok (.lst b) om) (hl : a.length + b.length ≤ 1000000) (h : Odd rest f (a ++ b) out) : Odd (sSeq (sAsg (e2 kAddC (eVar 1) X) (gN 1)) rest) f a out := fun s => by
  obtain ⟨t, e⟩ := h (s ++ [.lst a])
  refine ⟨[.lst a] ++ t, ?_⟩
  have k : kAddC (.cell s.length) (.lst b) (s ++ [.lst a]) = .ok (.cell (s ++ [Dat.lst a]).length) (s ++ [Dat.lst a] ++ [Dat.lst (a ++ b)]) := by
    unfold kAddC der
    simp only [get_last]
    rw [if_pos hl]
  simp only [sSeq_ev, sAsg_ev, e2_ev, eVar_ev, List.getElem?_cons_succ, List.getElem?_cons_zero, rvar_some, R.bind_ok, hX, k, rs_ok, gN_ev, rasg_ok, rseq_nx, List.set_cons_succ, List.set_cons_zero]
  rw [e]
  simp only [List.append_assoc]
theorem odd_app {f d : Dat} {a out : List Dat} {X : DV} {rest : SD} (hX : ∀ env om, X env om = .ok d om) (hl : a.length < 1000000) (h : Odd rest f (a ++ [d]) out) : Odd (sSeq (sExpr (eCellM kAppend (eVar 1) X)) rest) f a out := fun s => by
  obtain ⟨t, e⟩ := h s
  refine ⟨t, ?_⟩
  have k : eCellM kAppend (eVar 1) X [some f, some (.cell s.length)] (s ++ [.lst a]) = .ok .non (s ++ [.lst (a ++ [d])]) := by
    rw [cellM_at (i := s.length) (xs := a) (ys := a) (d := d) (om2 := s ++ [.lst a]) (by simp only [evs, ↓reduceIte, Nat.reduceAdd, Nat.reduceSub, List.reduceReplicate, Nat.reduceLeDiff, Bool.false_eq_true, reduceCtorEq]) (get_last _ _) (hX _ _) (get_last _ _)]
    unfold kAppend
    rw [if_pos hl, set_last]
  simp only [sSeq_ev, sExpr_ev, k, rs_ok, rseq_nx, e]
theorem odd_yes {f : Dat} {a out : List Dat} {T : En → Om → R Bool} {A rest : SD} (hT : ∀ x om, T [some f, x] om = .ok true om) (h : Odd (sSeq A rest) f a out) : Odd (sSeq (sIf T A sNil) rest) f a out := fun s => by
  obtain ⟨t, e⟩ := h s
  exact ⟨t, by rw [sSeq_ev] at e ⊢; simp only [sIf_ev, hT, rbool_ok, if_true]; exact e⟩
theorem odd_not {f : Dat} {a out : List Dat} {T : En → Om → R Bool} {A rest : SD} (hT : ∀ x om, T [some f, x] om = .ok false om) (h : Odd rest f a out) : Odd (sSeq (sIf T A sNil) rest) f a out := fun s => by
  obtain ⟨t, e⟩ := h s
  exact ⟨t, by rw [sSeq_ev]; simp only [sIf_ev, hT, rbool_ok, Bool.false_eq_true, if_false, sNil_ev, rseq_nx]; exact e⟩
theorem odd_seq {f : Dat} {a out : List Dat} {A B rest : SD} (h : Odd (sSeq A (sSeq B rest)) f a out) : Odd (sSeq (sSeq A B) rest) f a out := fun s => by
  obtain ⟨t, e⟩ := h s
  refine ⟨t, ?_⟩
  rw [sSeq_ev, sSeq_ev]
  rw [sSeq_ev] at e
  cases hA : A [some f, some (.cell s.length)] (s ++ [.lst a]) with
  | nx env om => rw [hA] at e; simp only [rseq_nx, sSeq_ev] at e ⊢; exact e
  | brk env om => rw [hA] at e; exact e
  | cnt env om => rw [hA] at e; exact e
  | ret d om => rw [hA] at e; exact e
  | exc x env om => rw [hA] at e; exact e
  | no => rw [hA] at e; exact e
theorem odd_fin {out : List Dat} (om : Om) (t : Om) (ok : okOm om) (h : out.all (flat 59) = true) : finR false om.length (.cell (om ++ t).length) (om ++ t ++ [.lst out]) = .ok (.lst out) om := by
  unfold finR
  rw [if_neg (by simp)]
  have h1 : ¬ (om ++ t).length < om.length := by simp
  have h2 : (om ++ t ++ [Dat.lst out])[(om ++ t).length]? = some (.lst out) := get_last _ _
  have h3 : mapO (fin1 om.length (om ++ t ++ [.lst out]) 59) out = some out := mapO_id fun x hx => fin1_flat _ _ _ _ (List.all_eq_true.mp h x hx)
  have h4 : fin1 om.length (om ++ t ++ [.lst out]) 60 (.cell (om ++ t).length) = some (.lst out) := by
    rw [fin1]
    simp only [h1, if_false, h2, h3, Option.map_some]
  have h5 : (om ++ t ++ [Dat.lst out]).take om.length = om := by simp
  rw [h4]
  simp only [h5]
  exact if_pos ok
theorem odd_run {f : Dat} {b : SD} {a out : List Dat} {X : DV} (om : Om) (ok : okOm om) (hX : ∀ env om, X env om = .ok (.cell om.length) (om ++ [.lst a])) (h : Odd b f a out) (hf : out.all (flat 59) = true) : fnD false 1 2 (sSeq (sAsg X (gN 1)) b) [f] om = .ok (.lst out) om := by
  rw [fnD_ev]
  obtain ⟨t, e⟩ := h om
  simp only [List.map_cons, List.map_nil, List.cons_append, List.nil_append, Nat.reduceSub, List.reduceReplicate, sSeq_ev, sAsg_ev, hX, rs_ok, gN_ev, rasg_ok, rseq_nx, List.set_cons_succ, List.set_cons_zero, e, rfin_ret]
  exact odd_fin om t ok hf
theorem odds_lot (om : Om) (ok : okOm om) : f_law_odd [.str F7.lot.nm] om = .ok (.lst odd_lot) om :=
  odd_run om ok (fun _ _ => rfl) (odd_app (fun _ _ => rfl) (by decide) (odd_add (fun _ _ => rfl) (by decide) (odd_yes (fun _ _ => rfl) (odd_add (fun _ _ => rfl) (by decide) (odd_not (fun _ _ => rfl) (odd_not (fun _ _ => rfl) (odd_yes (fun _ _ => rfl) (odd_add (fun _ _ => rfl) (by decide) (odd_not (fun _ _ => rfl) (odd_not (fun _ _ => rfl) (odd_not (fun _ _ => rfl) (odd_not (fun _ _ => rfl) (odd_not (fun _ _ => rfl) (odd_not (fun _ _ => rfl) (odd_ret _ _))))))))))))))) (by decide)
theorem odds_pairs (om : Om) (ok : okOm om) : f_law_odd [.str F7.pairs.nm] om = .ok (.lst odd_pairs) om :=
  odd_run om ok (fun _ _ => rfl) (odd_app (fun _ _ => rfl) (by decide) (odd_add (fun _ _ => rfl) (by decide) (odd_yes (fun _ _ => rfl) (odd_add (fun _ _ => rfl) (by decide) (odd_yes (fun _ _ => rfl) (odd_app (fun _ _ => rfl) (by decide) (odd_not (fun _ _ => rfl) (odd_not (fun _ _ => rfl) (odd_yes (fun _ _ => rfl) (odd_add (fun _ _ => rfl) (by decide) (odd_not (fun _ _ => rfl) (odd_not (fun _ _ => rfl) (odd_not (fun _ _ => rfl) (odd_not (fun _ _ => rfl) (odd_not (fun _ _ => rfl) (odd_ret _ _)))))))))))))))) (by decide)
theorem odds_ways (om : Om) (ok : okOm om) : f_law_odd [.str F7.ways.nm] om = .ok (.lst odd_ways) om :=
  odd_run om ok (fun _ _ => rfl) (odd_app (fun _ _ => rfl) (by decide) (odd_add (fun _ _ => rfl) (by decide) (odd_yes (fun _ _ => rfl) (odd_add (fun _ _ => rfl) (by decide) (odd_yes (fun _ _ => rfl) (odd_app (fun _ _ => rfl) (by decide) (odd_not (fun _ _ => rfl) (odd_not (fun _ _ => rfl) (odd_not (fun _ _ => rfl) (odd_yes (fun _ _ => rfl) (odd_add (fun _ _ => rfl) (by decide) (odd_not (fun _ _ => rfl) (odd_not (fun _ _ => rfl) (odd_not (fun _ _ => rfl) (odd_not (fun _ _ => rfl) (odd_ret _ _)))))))))))))))) (by decide)
theorem odds_tree (om : Om) (ok : okOm om) : f_law_odd [.str F7.tree.nm] om = .ok (.lst odd_tree) om :=
  odd_run om ok (fun _ _ => rfl) (odd_app (fun _ _ => rfl) (by decide) (odd_add (fun _ _ => rfl) (by decide) (odd_yes (fun _ _ => rfl) (odd_add (fun _ _ => rfl) (by decide) (odd_yes (fun _ _ => rfl) (odd_app (fun _ _ => rfl) (by decide) (odd_not (fun _ _ => rfl) (odd_not (fun _ _ => rfl) (odd_not (fun _ _ => rfl) (odd_not (fun _ _ => rfl) (odd_yes (fun _ _ => rfl) (odd_add (fun _ _ => rfl) (by decide) (odd_not (fun _ _ => rfl) (odd_not (fun _ _ => rfl) (odd_not (fun _ _ => rfl) (odd_ret _ _)))))))))))))))) (by decide)
theorem odds_ends (om : Om) (ok : okOm om) : f_law_odd [.str F7.ends.nm] om = .ok (.lst odd_ends) om :=
  odd_run om ok (fun _ _ => rfl) (odd_app (fun _ _ => rfl) (by decide) (odd_add (fun _ _ => rfl) (by decide) (odd_not (fun _ _ => rfl) (odd_yes (fun _ _ => rfl) (odd_app (fun _ _ => rfl) (by decide) (odd_yes (fun _ _ => rfl) (odd_add (fun _ _ => rfl) (by decide) (odd_not (fun _ _ => rfl) (odd_not (fun _ _ => rfl) (odd_not (fun _ _ => rfl) (odd_not (fun _ _ => rfl) (odd_yes (fun _ _ => rfl) (odd_add (fun _ _ => rfl) (by decide) (odd_not (fun _ _ => rfl) (odd_not (fun _ _ => rfl) (odd_ret _ _)))))))))))))))) (by decide)
theorem odds_streets (om : Om) (ok : okOm om) : f_law_odd [.str F7.streets.nm] om = .ok (.lst odd_streets) om :=
  odd_run om ok (fun _ _ => rfl) (odd_app (fun _ _ => rfl) (by decide) (odd_add (fun _ _ => rfl) (by decide) (odd_not (fun _ _ => rfl) (odd_yes (fun _ _ => rfl) (odd_app (fun _ _ => rfl) (by decide) (odd_yes (fun _ _ => rfl) (odd_add (fun _ _ => rfl) (by decide) (odd_not (fun _ _ => rfl) (odd_not (fun _ _ => rfl) (odd_not (fun _ _ => rfl) (odd_not (fun _ _ => rfl) (odd_not (fun _ _ => rfl) (odd_yes (fun _ _ => rfl) (odd_add (fun _ _ => rfl) (by decide) (odd_not (fun _ _ => rfl) (odd_ret _ _)))))))))))))))) (by decide)
theorem odds_growth (om : Om) (ok : okOm om) : f_law_odd [.str F7.growth.nm] om = .ok (.lst odd_growth) om :=
  odd_run om ok (fun _ _ => rfl) (odd_app (fun _ _ => rfl) (by decide) (odd_add (fun _ _ => rfl) (by decide) (odd_yes (fun _ _ => rfl) (odd_add (fun _ _ => rfl) (by decide) (odd_yes (fun _ _ => rfl) (odd_app (fun _ _ => rfl) (by decide) (odd_not (fun _ _ => rfl) (odd_not (fun _ _ => rfl) (odd_not (fun _ _ => rfl) (odd_not (fun _ _ => rfl) (odd_not (fun _ _ => rfl) (odd_not (fun _ _ => rfl) (odd_not (fun _ _ => rfl) (odd_yes (fun _ _ => rfl) (odd_seq (odd_add (fun _ _ => rfl) (by decide) (odd_seq (odd_app (fun _ _ => rfl) (by decide) (odd_add (fun _ _ => rfl) (by decide) (odd_ret _ _)))))))))))))))))))) (by decide)
end K70
end Part_C14
section Part_C15
set_option maxRecDepth 100000
namespace K70
open PySem PySem.Spec PyProof.Rows L2 DL
theorem law_pair_texts (ps : List (W × W)) (om : Om) (hl : ps.length ≤ 100000) (h : ∀ p ∈ ps, lowO (some p) = true) : f_law_pair_texts [.tup (ps.map pD)] om = .ok (.lst (sD (ps.map prT))) om := by
  have e : ∀ x0 x1 x2 : Option Dat, lcL (gT 2 (gsC (gN 1) (gsC (gN 2) (gsN)))) tYesD (e2 kAdd (e2 kAdd (eVar 1) (eC (.str [45]))) (eVar 2)) (ps.map pD) [x0, x1, x2] om [] = .ok (ps.map fun p => .str (prT p)) om := fun x0 x1 x2 =>
    lcL_mapM _ _ (by omega) fun p hp => ⟨[x0, some (.str p.1), some (.str p.2)], by unfold pD; simp only [evs, ↓reduceIte, Nat.reduceAdd, Nat.reduceSub, List.reduceReplicate, Nat.reduceLeDiff, Bool.false_eq_true, reduceCtorEq], by
      have h1 := low_len (h p hp)
      have a3 : p.1.length ≤ 999999 := by omega
      have a4 : p.1.length + 1 + p.2.length ≤ 1000000 := by omega
      simp only [evs, ↓reduceIte, Nat.reduceAdd, Nat.reduceSub, List.reduceReplicate, Nat.reduceLeDiff, Bool.false_eq_true, reduceCtorEq, a3, a4, Nat.zero_add, List.append_assoc]
      unfold prT
      rfl⟩
  unfold f_law_pair_texts b_law_pair_texts
  simp only [evs, ↓reduceIte, Nat.reduceAdd, Nat.reduceSub, List.reduceReplicate, Nat.reduceLeDiff, Bool.false_eq_true, reduceCtorEq, fnD_ev, e]
  unfold sD
  rw [List.map_map]; rfl
/-- the end of the law's own text -/
def tE : SD := (sRet (eIf (tst (e2 kNe (eVar 2) (eLst (aNil)))) (eM1 kJoin (eC (.str [32])) (eVar 2)) (eC (.str [45]))))
theorem t_end (is : List Itm) (f : F7) (h : GoodAll f is) (hl : (textOf is).length ≤ 3000) (d : Dat) (om : Om) (hd : der om d = .lst (sD (is.map Itm.txt))) (hi : itemsD om d = some (sD (is.map Itm.txt))) (x0 x1 x3 x4 x5 x6 x7 x8 x9 x10 : Option Dat) :
    tE [x0, x1, some d, x3, x4, x5, x6, x7, x8, x9, x10] om = .ret (.str (textOf is)) om := by
  have ok : okPs 59 (sD (is.map Itm.txt)) = true := okPs_txt (f := f) fun i hi => by
    obtain ⟨b, hb⟩ := h.mem i hi
    exact okT_txt hb
  have e1 : kNe d (.lst []) om = .ok (.bl (!((sD (is.map Itm.txt)).length == 0))) om := by
    rw [← kNe_lst_nil _ _ ok]
    unfold kNe
    rw [hd]
    rfl
  have e0 : (sD (is.map Itm.txt)).length = is.length := by simp [sD]
  rw [e0] at e1
  have e2 : is ≠ [] → kJoin (.str [32]) d om = .ok (.str (textOf is)) om := fun hn => by
    unfold textOf at hl ⊢
    rw [if_neg hn] at hl ⊢
    have := joins_ok 32 (is.map Itm.txt) om (by omega)
    unfold kJoin at this ⊢
    rw [hi]
    exact this
  unfold tE
  cases is with
  | nil =>
    simp only [evs, ↓reduceIte, Nat.reduceAdd, Nat.reduceSub, List.reduceReplicate, Nat.reduceLeDiff, Bool.false_eq_true, reduceCtorEq, e1]
    rfl
  | cons i r =>
    have e : (!((i :: r).length == 0)) = true := by simp
    rw [e] at e1
    simp only [evs, ↓reduceIte, Nat.reduceAdd, Nat.reduceSub, List.reduceReplicate, Nat.reduceLeDiff, Bool.false_eq_true, reduceCtorEq, e1, e2 (List.cons_ne_nil _ _)]
theorem sD_txt {α : Type} (is : List α) (g : α → W) : (is.map fun i => Dat.str (g i)) = sD (is.map g) := by unfold sD; rw [List.map_map]; rfl
theorem form_text (f : F7) (is : List Itm) (om : Om) (ok : okOm om) (h : GoodAll f is) (hl : (textOf is).length ≤ 3000) : f_law_form_text [.str f.nm, valD f is] om = .ok (.str (textOf is)) om := by
  have m := h.mem
  have sm := small_of hl
  have hl4 := sm.1
  have fin := fun (d : Dat) (x3 x4 x5 x6 x7 x8 x9 x10 : Option Dat) (hd : d = .lst (sD (is.map Itm.txt))) => t_end is f h hl d om (by rw [hd]; rfl) (by rw [hd]; rfl) (some (.str f.nm)) (some (valD f is)) x3 x4 x5 x6 x7 x8 x9 x10
  have finS : ∀ env : En, (∀ x0 x1 d x3 x4 x5 x6 x7 x8 x9 x10, env = [x0, x1, some d, x3, x4, x5, x6, x7, x8, x9, x10] → d = .lst (sD (is.map Itm.txt)) → tE env om = .ret (.str (textOf is)) om) := fun env x0 x1 d x3 x4 x5 x6 x7 x8 x9 x10 he hd => by
    rw [he]
    exact t_end is f h hl d om (by rw [hd]; rfl) (by rw [hd]; rfl) x0 x1 x3 x4 x5 x6 x7 x8 x9 x10
  unfold f_law_form_text b_law_form_text
  rw [fnD_ev, sSeq_ev]
  show rfin false om.length (rseq _ tE) = _
  cases f with
  | lot =>
    have e3 : valD .lot is = .tup (is.map Itm.toD) := rfl
    have e0 : is.map Itm.toD = sD (is.map Itm.txt) := by
      unfold sD
      rw [List.map_map]
      exact List.map_congr_left fun i hi => by
        obtain ⟨b, hb⟩ := m i hi
        obtain ⟨x, rfl, _⟩ := good_w hb
        rfl
    rw [e3, e0]
    simp only [evs, ↓reduceIte, Nat.reduceSub, List.reduceReplicate, F7.nm, BEq.rfl, rasg_ok]
    rw [finS _ _ _ _ _ _ _ _ _ _ _ _ rfl rfl]
    simp only [evs, ↓reduceIte, Nat.reduceAdd, Nat.reduceSub, List.reduceReplicate, Nat.reduceLeDiff, Bool.false_eq_true, reduceCtorEq]
  | pairs =>
    have e3 : valD .pairs is = .tup (is.map Itm.toD) := rfl
    have e0 : is.map Itm.toD = (is.map pW).map pD := by
      rw [List.map_map]
      exact List.map_congr_left fun i hi => by
        obtain ⟨b, hb⟩ := m i hi
        obtain ⟨x, rfl, _⟩ := good_pr hb
        rfl
    have e1 : (is.map pW).map prT = is.map Itm.txt := by
      rw [List.map_map]
      exact List.map_congr_left fun i hi => by
        obtain ⟨b, hb⟩ := m i hi
        obtain ⟨x, rfl, _⟩ := good_pr hb
        rfl
    have e := law_pair_texts (is.map pW) om (by simp; omega) fun p hp => by
      obtain ⟨i, hi, rfl⟩ := List.mem_map.mp hp
      obtain ⟨b, hb⟩ := m i hi
      obtain ⟨x, rfl, h1⟩ := good_pr hb
      exact h1
    rw [e1, ← e0] at e
    rw [e3]
    have f_lot : (F7.pairs.nm == F7.lot.nm) = false := by decide
    unfold F7.nm at *
    simp only at f_lot
    simp only [evs, ↓reduceIte, Nat.reduceSub, List.reduceReplicate, Bool.false_eq_true, f_lot, BEq.rfl, e, rasg_ok]
    rw [finS _ _ _ _ _ _ _ _ _ _ _ _ rfl rfl]
    simp only [evs, ↓reduceIte, Nat.reduceAdd, Nat.reduceSub, List.reduceReplicate, Nat.reduceLeDiff, Bool.false_eq_true, reduceCtorEq]
  | ways =>
    have e : ∀ x0 x1 x2 x3 x4 x5 x6 x7 x8 x9 x10 : Option Dat, lcL (gN 6) tYesD (eM1 kJoin (eC (.str [62])) (eB kList (aCons (eVar 6) (aNil)))) (is.map Itm.toD) [x0, x1, x2, x3, x4, x5, x6, x7, x8, x9, x10] om [] = .ok (sD (is.map Itm.txt)) om := fun x0 x1 x2 x3 x4 x5 x6 x7 x8 x9 x10 => by
      rw [← sD_txt]
      exact lcL_mapM _ _ (by omega) fun i hi => ⟨_, rfl, by
        obtain ⟨b, hb⟩ := m i hi
        obtain ⟨ws, rfl, h1⟩ := good_way hb
        have := joins_ok 62 ws om (by have := sm.2 _ hi; exact Nat.le_trans this (by omega))
        unfold Itm.toD
        simp only [evs, ↓reduceIte, Nat.reduceAdd, Nat.reduceSub, List.reduceReplicate, Nat.reduceLeDiff, Bool.false_eq_true, reduceCtorEq, this]
        rfl⟩
    have e3 : valD .ways is = .tup (is.map Itm.toD) := rfl
    rw [e3]
    have f_lot : (F7.ways.nm == F7.lot.nm) = false := by decide
    have f_pairs : (F7.ways.nm == F7.pairs.nm) = false := by decide
    unfold F7.nm at *
    simp only at f_lot f_pairs
    simp only [evs, ↓reduceIte, Nat.reduceSub, List.reduceReplicate, Bool.false_eq_true, f_lot, f_pairs, BEq.rfl, e, rasg_ok]
    rw [finS _ _ _ _ _ _ _ _ _ _ _ _ rfl rfl]
    simp only [evs, ↓reduceIte, Nat.reduceAdd, Nat.reduceSub, List.reduceReplicate, Nat.reduceLeDiff, Bool.false_eq_true, reduceCtorEq]
  | tree =>
    have e : ∀ x0 x1 x2 x3 x4 x5 x6 x7 x8 x9 x10 : Option Dat, lcL (gT 3 (gsC (gN 7) (gsC (gN 8) (gsC (gN 9) (gsN))))) tYesD (e2 kAdd (e2 kAdd (e2 kAdd (e2 kAdd (eVar 7) (eC (.str [45]))) (eVar 8)) (eC (.str [58]))) (eB kStr (aCons (eVar 9) (aNil)))) (is.map Itm.toD) [x0, x1, x2, x3, x4, x5, x6, x7, x8, x9, x10] om [] = .ok (sD (is.map Itm.txt)) om := fun x0 x1 x2 x3 x4 x5 x6 x7 x8 x9 x10 => by
      rw [← sD_txt]
      exact lcL_mapM _ _ (by omega) fun i hi => by
        obtain ⟨b, hb⟩ := m i hi
        obtain ⟨p, n, rfl, h1, h2, h3, h4⟩ := good_tri hb
        refine ⟨[x0, x1, x2, x3, x4, x5, x6, some (.str p.1), some (.str p.2), some (.int n), x10], by unfold Itm.toD; simp only [evs, ↓reduceIte, Nat.reduceAdd, Nat.reduceSub, List.reduceReplicate, Nat.reduceLeDiff, Bool.false_eq_true, reduceCtorEq], ?_⟩
        have a1 := isW_len h1
        have a2 := isW_len h2
        have b3 : p.1.length ≤ 999999 := by omega
        have b4 : p.1.length + 1 + p.2.length ≤ 1000000 := by omega
        have b5 : p.1.length + 1 + p.2.length ≤ 999999 := by omega
        have b6 : p.1.length + 1 + p.2.length + 1 + (numT n).length ≤ 1000000 := by have := numT_len n; omega
        simp only [evs, ↓reduceIte, Nat.reduceAdd, Nat.reduceSub, List.reduceReplicate, Nat.reduceLeDiff, Bool.false_eq_true, reduceCtorEq, b3, b4, b5, b6, Nat.zero_add, log2_small n h4, digs_numT n h4]
        simp [Itm.txt, prT]
    have e3 : valD .tree is = .tup (is.map Itm.toD) := rfl
    rw [e3]
    have f_lot : (F7.tree.nm == F7.lot.nm) = false := by decide
    have f_pairs : (F7.tree.nm == F7.pairs.nm) = false := by decide
    have f_ways : (F7.tree.nm == F7.ways.nm) = false := by decide
    unfold F7.nm at *
    simp only at f_lot f_pairs f_ways
    simp only [evs, ↓reduceIte, Nat.reduceSub, List.reduceReplicate, Bool.false_eq_true, f_lot, f_pairs, f_ways, BEq.rfl, e, rasg_ok]
    rw [finS _ _ _ _ _ _ _ _ _ _ _ _ rfl rfl]
    simp only [evs, ↓reduceIte, Nat.reduceAdd, Nat.reduceSub, List.reduceReplicate, Nat.reduceLeDiff, Bool.false_eq_true, reduceCtorEq]
  | ends =>
    have as := h.ascS (.inr rfl)
    have e3 : valD .ends is = .dct (is.map (kD .ends)) (nD (is.map vN)) := rfl
    have s1 : sortI (is.map (kD .ends)) = is.map (kD .ends) := by
      rw [kD_ends, sort_str, sortK_of (asc_le ltS_ord as)]
    have s2 : kSortedDcI [.dct (is.map (kD .ends)) (nD (is.map vN))] om = .ok (.lst (is.map (kD .ends))) om := by
      unfold kSortedDcI
      simp only
      rw [if_pos (by rw [kD_ends]; exact srtOk_str _), s1]
    have lk : ∀ i ∈ is, lookD (is.map (kD .ends)) (nD (is.map vN)) (.str (kW i)) = some (.int (vN i)) := fun i hi => by
      have := look_at k1_str kW (fun i => Dat.int (vN i)) is (asc_nodup ltS_ord as) i hi
      unfold nD
      rw [List.map_map]
      exact this
    have e : ∀ x0 x2 x3 x4 x5 x6 x7 x8 x9 x10 : Option Dat, lcL (gN 3) tYesD (e2 kAdd (e2 kAdd (eVar 3) (eC (.str [58]))) (eB kStr (aCons (e2 kDGet (eVar 1) (eVar 3)) (aNil)))) (is.map (kD .ends)) [x0, some (.dct (is.map (kD .ends)) (nD (is.map vN))), x2, x3, x4, x5, x6, x7, x8, x9, x10] om [] = .ok (sD (is.map Itm.txt)) om := fun x0 x2 x3 x4 x5 x6 x7 x8 x9 x10 => by
      rw [← sD_txt]
      exact lcL_mapM _ _ (by omega) fun i hi => ⟨_, rfl, by
        have l1 := kDGet_ev om (lk i hi)
        obtain ⟨b, hb⟩ := m i hi
        obtain ⟨a, n, rfl, h1, h2⟩ := good_en hb
        have a1 := isW_len h1
        have b3 : a.length ≤ 999999 := by omega
        have b6 : a.length + 1 + (numT n).length ≤ 1000000 := by have := numT_len n; omega
        have q : kD .ends (.en a n) = .str a := rfl
        simp only [kW, vN] at l1
        simp only [evs, ↓reduceIte, Nat.reduceAdd, Nat.reduceSub, List.reduceReplicate, Nat.reduceLeDiff, Bool.false_eq_true, reduceCtorEq, q, l1, b3, b6, Nat.zero_add, log2_small n h2, digs_numT n h2]
        simp [Itm.txt]⟩
    rw [e3]
    have f_lot : (F7.ends.nm == F7.lot.nm) = false := by decide
    have f_pairs : (F7.ends.nm == F7.pairs.nm) = false := by decide
    have f_ways : (F7.ends.nm == F7.ways.nm) = false := by decide
    have f_tree : (F7.ends.nm == F7.tree.nm) = false := by decide
    unfold F7.nm at *
    simp only at f_lot f_pairs f_ways f_tree
    simp only [evs, ↓reduceIte, Nat.reduceSub, List.reduceReplicate, Bool.false_eq_true, f_lot, f_pairs, f_ways, f_tree, BEq.rfl, s2, e, rasg_ok]
    rw [finS _ _ _ _ _ _ _ _ _ _ _ _ rfl rfl]
    simp only [evs, ↓reduceIte, Nat.reduceAdd, Nat.reduceSub, List.reduceReplicate, Nat.reduceLeDiff, Bool.false_eq_true, reduceCtorEq]
  | streets =>
    have as := h.ascP
    have e3 : valD .streets is = .dct (is.map (kD .streets)) (nD (is.map vN)) := rfl
    have s1 : sortI (is.map (kD .streets)) = is.map (kD .streets) := by
      rw [kD_streets, sort_pD, sortK_of (asc_le ltP_ord as)]
    have s2 : kSortedDcI [.dct (is.map (kD .streets)) (nD (is.map vN))] om = .ok (.lst (is.map (kD .streets))) om := by
      unfold kSortedDcI
      simp only
      rw [if_pos (by rw [kD_streets]; exact srtOk_pD _), s1]
    have lk : ∀ i ∈ is, lookD (is.map (kD .streets)) (nD (is.map vN)) (pD (kP i)) = some (.int (vN i)) := fun i hi => by
      have := look_at k1_pD kP (fun i => Dat.int (vN i)) is (asc_nodup ltP_ord as) i hi
      unfold nD
      rw [List.map_map]
      exact this
    have e : ∀ x0 x2 x3 x4 x5 x6 x7 x8 x9 x10 : Option Dat, lcL (gN 10) tYesD (e2 kAdd (e2 kAdd (e2 kAdd (e2 kAdd (e2 kIx (eVar 10) (eC (.int 0))) (eC (.str [62]))) (e2 kIx (eVar 10) (eC (.int 1)))) (eC (.str [58]))) (eB kStr (aCons (e2 kDGet (eVar 1) (eVar 10)) (aNil)))) (is.map (kD .streets)) [x0, some (.dct (is.map (kD .streets)) (nD (is.map vN))), x2, x3, x4, x5, x6, x7, x8, x9, x10] om [] = .ok (sD (is.map Itm.txt)) om := fun x0 x2 x3 x4 x5 x6 x7 x8 x9 x10 => by
      rw [← sD_txt]
      exact lcL_mapM _ _ (by omega) fun i hi => ⟨_, rfl, by
        have l1 := kDGet_ev om (lk i hi)
        obtain ⟨b, hb⟩ := m i hi
        obtain ⟨p, n, rfl, h1, _, h2⟩ := good_st hb
        have h3 := stOk_w h1
        have a1 := isW_len h3.1
        have a2 := isW_len h3.2.1
        have b3 : p.1.length ≤ 999999 := by omega
        have b4 : p.1.length + 1 + p.2.length ≤ 1000000 := by omega
        have b5 : p.1.length + 1 + p.2.length ≤ 999999 := by omega
        have b6 : p.1.length + 1 + p.2.length + 1 + (numT n).length ≤ 1000000 := by have := numT_len n; omega
        have q : kD .streets (.st p n) = .tup [.str p.1, .str p.2] := rfl
        simp only [kP, vN, pD] at l1
        simp only [evs, ↓reduceIte, Nat.reduceAdd, Nat.reduceSub, List.reduceReplicate, Nat.reduceLeDiff, Bool.false_eq_true, reduceCtorEq, q, atD_0, atD_1, l1, b3, b4, b5, b6, Nat.zero_add, log2_small n h2, digs_numT n h2]
        simp [Itm.txt]⟩
    rw [e3]
    have f_lot : (F7.streets.nm == F7.lot.nm) = false := by decide
    have f_pairs : (F7.streets.nm == F7.pairs.nm) = false := by decide
    have f_ways : (F7.streets.nm == F7.ways.nm) = false := by decide
    have f_tree : (F7.streets.nm == F7.tree.nm) = false := by decide
    have f_ends : (F7.streets.nm == F7.ends.nm) = false := by decide
    unfold F7.nm at *
    simp only at f_lot f_pairs f_ways f_tree f_ends
    simp only [evs, ↓reduceIte, Nat.reduceSub, List.reduceReplicate, Bool.false_eq_true, f_lot, f_pairs, f_ways, f_tree, f_ends, BEq.rfl, s2, e, rasg_ok]
    rw [finS _ _ _ _ _ _ _ _ _ _ _ _ rfl rfl]
    simp only [evs, ↓reduceIte, Nat.reduceAdd, Nat.reduceSub, List.reduceReplicate, Nat.reduceLeDiff, Bool.false_eq_true, reduceCtorEq]
  | growth =>
    obtain ⟨x, js, rfl, h1, h2⟩ := good_growth h
    have hl2 : js.length + 1 ≤ 4000 := by simpa using hl4
    have e3 : valD .growth (.w x :: js) = .tup (.str x :: js.map Itm.toD) := rfl
    let P : List Dat → En → Om → Prop := fun todo env s => ∃ (as bs : List Itm) (e3 e4 e5 : Option Dat), js = as ++ bs ∧ todo = bs.map Itm.toD ∧ env = [some (.str F7.growth.nm), some (valD .growth (.w x :: js)), some (.cell om.length), e3, e4, e5, none, none, none, none, none] ∧ s = om ++ [.lst (sD (x :: as.map Itm.txt))]
    have step : ∀ y todo env s, P (y :: todo) env s → ∃ env1 s1 env2 s2, (gT 3 (gsC (gN 3) (gsC (gN 4) (gsC (gN 5) (gsN))))) y env s = .ok env1 s1 ∧ (sExpr (eCellM kAppend (eVar 2) (eIf (tst (e2 kEq (eVar 3) (eC (.str [116, 105, 101])))) (e2 kAdd (e2 kAdd (eVar 4) (eC (.str [43]))) (eVar 5)) (eM1 kJoin (eC (.str [61])) (e2 kAdd (eLst (aCons (eVar 4) (aNil))) (eCall 1 [] f_law_pair_texts (aCons (eVar 5) (aNil)))))))) env1 s1 = .nx env2 s2 ∧ P todo env2 s2 := by
      rintro y todo env s ⟨as, bs, x3, x4, x5, hj, ht, rfl, rfl⟩
      cases bs with
      | nil => simp at ht
      | cons i bs =>
        simp only [List.map_cons, List.cons.injEq] at ht
        obtain ⟨rfl, rfl⟩ := ht
        have hi : i ∈ js := by rw [hj]; simp
        have hg := h2 i hi
        have hs := sm.2 i (by simp [hi])
        have hal : as.length < 4000 := by have := congrArg List.length hj; simp at this; omega
        have ap : ∀ (V : DV) (u v w : Option Dat), V [some (.str F7.growth.nm), some (valD .growth (.w x :: js)), some (.cell om.length), u, v, w, none, none, none, none, none] (om ++ [.lst (sD (x :: as.map Itm.txt))]) = .ok (.str i.txt) (om ++ [.lst (sD (x :: as.map Itm.txt))]) →
            eCellM kAppend (eVar 2) V [some (.str F7.growth.nm), some (valD .growth (.w x :: js)), some (.cell om.length), u, v, w, none, none, none, none, none] (om ++ [.lst (sD (x :: as.map Itm.txt))]) = .ok .non (om ++ [.lst (sD (x :: (as ++ [i]).map Itm.txt))]) := fun V u v w hV => by
          rw [cellM_at (i := om.length) (xs := sD (x :: as.map Itm.txt)) (ys := sD (x :: as.map Itm.txt)) (d := .str i.txt) (om2 := om ++ [.lst (sD (x :: as.map Itm.txt))]) (by simp only [evs, ↓reduceIte, Nat.reduceAdd, Nat.reduceSub, List.reduceReplicate, Nat.reduceLeDiff, Bool.false_eq_true, reduceCtorEq]) (get_last _ _) hV (get_last _ _)]
          unfold kAppend
          rw [if_pos (by simp [sD]; omega), set_last]
          unfold sD
          simp
        cases i with
        | tie a b =>
          simp only [good, Bool.and_eq_true] at hg
          have g1 := isW_len hg.2.1
          have g2 := isW_len hg.2.2
          have b1 : a.length ≤ 999999 := by omega
          have b2 : a.length + 1 + b.length ≤ 1000000 := by omega
          refine ⟨[some (.str F7.growth.nm), some (valD .growth (.w x :: js)), some (.cell om.length), some (.str TIE), some (.str a), some (.str b), none, none, none, none, none], om ++ [.lst (sD (x :: as.map Itm.txt))], _, _, by unfold Itm.toD; simp only [evs, ↓reduceIte, Nat.reduceAdd, Nat.reduceSub, List.reduceReplicate, Nat.reduceLeDiff, Bool.false_eq_true, reduceCtorEq], ?_, as ++ [.tie a b], bs, some (.str TIE), some (.str a), some (.str b), by rw [hj]; simp, rfl, rfl, rfl⟩
          rw [sExpr_ev, ap _ _ _ _ (by
            simp only [evs, ↓reduceIte, Nat.reduceAdd, Nat.reduceSub, List.reduceReplicate, Nat.reduceLeDiff, Bool.false_eq_true, reduceCtorEq, BEq.rfl, b1, b2, Nat.zero_add, List.append_assoc]
            rfl)]
          rfl
        | pin a ps =>
          simp only [good, Bool.and_eq_true] at hg
          have g := List.all_eq_true.mp hg.2.2
          have hn : (TL.joinL [61] (a :: ps.map prT)).length ≤ 3000 := hs
          have hc := joinL_len 61 (a :: ps.map prT)
          have hm : ps.length ≤ 100000 := by
            simp at hc
            have : ps.length + 1 ≤ (TL.joinL [61] (a :: ps.map prT)).length + 1 := by omega
            omega
          have q1 : (PIN == TIE) = false := by decide
          have q2 := joins_ok 61 (a :: ps.map prT) (om ++ [.lst (sD (x :: as.map Itm.txt))]) (by omega)
          have q3 := law_pair_texts ps (om ++ [.lst (sD (x :: as.map Itm.txt))]) hm g
          have q4 : 0 + 1 + (sD (ps.map prT)).length ≤ 1000000 := by simp [sD]; omega
          have q5 : sD (a :: ps.map prT) = .str a :: sD (ps.map prT) := rfl
          rw [q5] at q2
          refine ⟨[some (.str F7.growth.nm), some (valD .growth (.w x :: js)), some (.cell om.length), some (.str PIN), some (.str a), some (.tup (ps.map pD)), none, none, none, none, none], om ++ [.lst (sD (x :: as.map Itm.txt))], _, _, by unfold Itm.toD; simp only [evs, ↓reduceIte, Nat.reduceAdd, Nat.reduceSub, List.reduceReplicate, Nat.reduceLeDiff, Bool.false_eq_true, reduceCtorEq], ?_, as ++ [.pin a ps], bs, some (.str PIN), some (.str a), some (.tup (ps.map pD)), by rw [hj]; simp, rfl, rfl, rfl⟩
          rw [sExpr_ev, ap _ _ _ _ (by
            simp only [evs, ↓reduceIte, Nat.reduceAdd, Nat.reduceSub, List.reduceReplicate, Nat.reduceLeDiff, Bool.false_eq_true, reduceCtorEq, q1, q3, q4, q2]
            rfl)]
          rfl
        | _ => simp [good] at hg
    have start : P (js.map Itm.toD) [some (.str F7.growth.nm), some (valD .growth (.w x :: js)), some (.cell om.length), none, none, none, none, none, none, none, none] (om ++ [.lst [.str x]]) := ⟨[], js, none, none, none, rfl, rfl, rfl, rfl⟩
    obtain ⟨env', s', el, as, bs, y3, y4, y5, hj, ht, rfl, rfl⟩ := forL_inv P step _ _ _ start
    have hbs : bs = [] := by cases bs with
      | nil => rfl
      | cons b r => simp at ht
    subst hbs
    simp only [List.append_nil] at hj
    subst hj
    have q6 : x :: js.map Itm.txt = (Itm.w x :: js).map Itm.txt := rfl
    have te := t_end (.w x :: js) .growth h hl (.cell om.length) (om ++ [.lst (sD ((Itm.w x :: js).map Itm.txt))]) (by unfold der; simp) (by unfold itemsD; simp) (some (.str F7.growth.nm)) (some (valD .growth (.w x :: js))) y3 y4 y5 none none none none none
    have q7 : kIx (valD .growth (.w x :: js)) (.int 0) om = .ok (.str x) om := by rw [e3, kIx_tup, atD_0]
    have q8 : kSl (valD .growth (.w x :: js)) (some 1) none (om ++ [.lst [.str x]]) = .ok (.tup (js.map Itm.toD)) (om ++ [.lst [.str x]]) := by
      rw [e3, kSl_tup, cut_rest]
    rw [q6] at el
    have f_lot : (F7.growth.nm == F7.lot.nm) = false := by decide
    have f_pairs : (F7.growth.nm == F7.pairs.nm) = false := by decide
    have f_ways : (F7.growth.nm == F7.ways.nm) = false := by decide
    have f_tree : (F7.growth.nm == F7.tree.nm) = false := by decide
    have f_ends : (F7.growth.nm == F7.ends.nm) = false := by decide
    have f_streets : (F7.growth.nm == F7.streets.nm) = false := by decide
    unfold F7.nm at *
    simp only at f_lot f_pairs f_ways f_tree f_ends f_streets
    simp only [evs, ↓reduceIte, Nat.reduceSub, Nat.reduceAdd, Nat.reduceLeDiff, List.reduceReplicate, Bool.false_eq_true, f_lot, f_pairs, f_ways, f_tree, f_ends, f_streets, BEq.rfl, rasg_ok, q7]
    rw [sFor_ok (om1 := om ++ [.lst [.str x]]) (xs := js.map Itm.toD) (by simp only [evs, ↓reduceIte, Nat.reduceAdd, Nat.reduceSub, List.reduceReplicate, Nat.reduceLeDiff, Bool.false_eq_true, reduceCtorEq, q8]), el]
    simp only [rseq_nx]
    rw [te]
    simp only [rfin_ret]
    exact finR_more ok rfl
end K70
end Part_C15
section Part_C16
set_option maxRecDepth 100000
namespace K70
open PySem PySem.Spec PyProof.Rows L2 DL
/-! ### how long a value is when it is shown -/
theorem rpWs_map {α : Type} (g : α → Dat) (w : α → Nat) : ∀ (l : List α), (∀ x ∈ l, rpW (g x) + 2 ≤ w x) → rpWs (l.map g) ≤ (l.map w).sum
  | [], _ => by simp [rpWs]
  | x :: r, h => by
    have h1 := h x (by simp)
    have ih := rpWs_map g w r fun y hy => h y (by simp [hy])
    simp only [List.map_cons, rpWs, List.sum_cons]
    omega
theorem sum_le {α : Type} (f g : α → Nat) : ∀ l : List α, (∀ x ∈ l, f x ≤ g x) → (l.map f).sum ≤ (l.map g).sum
  | [], _ => by simp
  | x :: r, h => by
    have h1 := h x (by simp)
    have ih := sum_le f g r fun y hy => h y (by simp [hy])
    simp only [List.map_cons, List.sum_cons]
    omega
theorem sum_const {α : Type} (c : Nat) : ∀ l : List α, (l.map fun _ => c).sum = l.length * c
  | [] => by simp
  | x :: r => by
    simp only [List.map_cons, List.sum_cons, sum_const c r, List.length_cons, Nat.add_mul]
    omega
theorem rp_str (x : W) : rpW (.str x) = 10 * x.length + 2 := by simp [rpW]
theorem rp_pD (p : W × W) : rpW (pD p) = 10 * p.1.length + 10 * p.2.length + 11 := by
  simp [pD, rpW, rpWs]; omega
theorem joinL_few (c : Nat) (ls : List W) (h : (TL.joinL [c] ls).length ≤ 100) : ls.length ≤ 101 := by
  have := joinL_len c ls
  split at this <;> omega
theorem rp_toD {f : F7} {b : Bool} {i : Itm} (h : good f b i = true) (hl : i.txt.length ≤ 100) : rpW i.toD ≤ 30000 := by
  cases i with
  | w x =>
    have : x.length ≤ 100 := hl
    show rpW (.str x) ≤ _
    rw [rp_str]; omega
  | pr p =>
    simp only [good, Bool.and_eq_true] at h
    have := low_len h.2
    show rpW (pD p) ≤ _
    rw [rp_pD]; omega
  | way ws =>
    simp only [good, Bool.and_eq_true] at h
    have h1 : ws.length ≤ 101 := joinL_few 62 ws hl
    have h2 := rpWs_map Dat.str (fun _ => 100) ws fun w hw => by
      have := isW_len ((fwS_of h.2).2.1 w hw)
      rw [rp_str]; omega
    rw [sum_const] at h2
    have e : rpW (Itm.way ws).toD = rpWs (ws.map .str) + 3 := by simp [Itm.toD, rpW, sD]
    omega
  | tri p n =>
    simp only [good, Bool.and_eq_true] at h
    have a1 := isW_len h.2.1.1.1
    have a2 := isW_len h.2.1.1.2
    simp [Itm.toD, rpW, rpWs]; omega
  | en a n =>
    simp only [good, Bool.and_eq_true] at h
    have a1 := isW_len h.2.1
    simp [Itm.toD, rpW, rpWs]; omega
  | st p n =>
    simp only [good, Bool.and_eq_true] at h
    have a := stOk_w h.2.1.1
    have a1 := isW_len a.1
    have a2 := isW_len a.2.1
    have := rp_pD p
    simp [Itm.toD, rpW, rpWs]; omega
  | tie a b =>
    simp only [good, Bool.and_eq_true] at h
    have a1 := isW_len h.2.1
    have a2 := isW_len h.2.2
    simp [Itm.toD, rpW, rpWs]; omega
  | pin a ps =>
    simp only [good, Bool.and_eq_true] at h
    have a1 := isW_len h.2.1.1
    have g := List.all_eq_true.mp h.2.2
    have h1 : (a :: ps.map prT).length ≤ 101 := joinL_few 61 _ hl
    simp only [List.length_cons, List.length_map] at h1
    have h2 := rpWs_map pD (fun _ => 200) ps fun p hp => by
      have := low_len (g p hp)
      rw [rp_pD]; omega
    rw [sum_const] at h2
    have e : rpW (Itm.pin a ps).toD = rpWs [.str PIN, .str a, .tup (ps.map pD)] + 3 := by simp [Itm.toD, rpW]
    rw [e]
    simp [rpWs, rpW]; omega
theorem okSs_map {α : Type} (n : Nat) (f : α → Dat) : ∀ xs : List α, (∀ x ∈ xs, okS n (f x) = true) → okSs n (xs.map f) = true
  | [], _ => by cases n <;> rfl
  | x :: r, h => by
    rw [List.map_cons, okSs, h x (by simp), okSs_map n f r fun y hy => h y (by simp [hy])]; rfl
theorem okS_str (n : Nat) (x : W) : okS n (.str x) = okT x := by cases n <;> rfl
theorem okS_num (n m : Nat) (h : m < 100) : okS n (.int m) = true := by
  cases n <;> simp [okS] <;> omega
theorem okS_pD (n : Nat) {p : W × W} (h : isW p.1 = true ∧ isW p.2 = true) : okS (n + 1) (pD p) = true := by
  show okS (n + 1) (.tup [.str p.1, .str p.2]) = true
  rw [okS]
  simp only [okSs, okS_str, isW_okT h.1, isW_okT h.2, Bool.and_true]
theorem okS_toD (n : Nat) {f : F7} {b : Bool} {i : Itm} (h : good f b i = true) : okS (n + 4) i.toD = true := by
  cases i with
  | w x =>
    simp only [good, Bool.and_eq_true] at h
    exact isW_okT h.2
  | pr p =>
    simp only [good, Bool.and_eq_true] at h
    exact okS_pD _ (low_of h.2)
  | way ws =>
    simp only [good, Bool.and_eq_true] at h
    show okS (n + 4) (.tup (sD ws)) = true
    rw [okS]
    exact okSs_map _ _ _ fun w hw => by rw [okS_str]; exact isW_okT ((fwS_of h.2).2.1 w hw)
  | tri p m =>
    simp only [good, Bool.and_eq_true, decide_eq_true_eq] at h
    show okS (n + 4) (.tup [.str p.1, .str p.2, .int m]) = true
    rw [okS]
    simp only [okSs, okS_str, isW_okT h.2.1.1.1, isW_okT h.2.1.1.2, okS_num _ m h.2.2, Bool.and_true]
  | en a m =>
    simp only [good, Bool.and_eq_true, decide_eq_true_eq] at h
    show okS (n + 4) (.tup [.str a, .int m]) = true
    rw [okS]
    simp only [okSs, okS_str, isW_okT h.2.1, okS_num _ m h.2.2, Bool.and_true]
  | st p m =>
    simp only [good, Bool.and_eq_true, decide_eq_true_eq] at h
    have a := stOk_w h.2.1.1
    show okS (n + 4) (.tup [pD p, .int m]) = true
    rw [okS]
    simp only [okSs, okS_pD _ ⟨a.1, a.2.1⟩, okS_num _ m h.2.2, Bool.and_true]
  | tie a b =>
    simp only [good, Bool.and_eq_true] at h
    show okS (n + 4) (.tup [.str TIE, .str a, .str b]) = true
    rw [okS]
    simp only [okSs, okS_str, isW_okT h.2.1, isW_okT h.2.2, Bool.and_true]
    decide
  | pin a ps =>
    simp only [good, Bool.and_eq_true] at h
    have g := List.all_eq_true.mp h.2.2
    show okS (n + 4) (.tup [.str PIN, .str a, .tup (ps.map pD)]) = true
    rw [okS]
    have e : okS (n + 3) (.tup (ps.map pD)) = true := by
      rw [okS]
      exact okSs_map _ _ _ fun p hp => okS_pD _ (low_of (g p hp))
    simp only [okSs, okS_str, isW_okT h.2.1.1, e, Bool.and_true]
    decide
theorem okR_val {f : F7} {is : List Itm} (h : Drawn f is) : okR (valD f is) = true := by
  have m := h.1.mem
  have hl := h.2.1
  by_cases hd : isDc f = true
  · have e : valD f is = .dct (is.map (kD f)) (nD (is.map vN)) := by unfold valD; rw [if_pos hd]
    have hn : ∀ i ∈ is, vN i < 100 := fun i hi => by
      obtain ⟨b, hb⟩ := m i hi
      cases f with
      | ends => obtain ⟨a, n, rfl, _, h2⟩ := good_en hb; exact h2
      | streets => obtain ⟨p, n, rfl, _, _, h2⟩ := good_st hb; exact h2
      | _ => simp [isDc] at hd
    have hv : nD (is.map vN) = is.map fun i => Dat.int (vN i) := by unfold nD; rw [List.map_map]; rfl
    have k5 : ((nD (is.map vN)).all isInt) = true := by
      rw [hv, List.all_map, List.all_eq_true]; intro i _; rfl
    have k6 : okSs 2 (nD (is.map vN)) = true := by
      rw [hv]
      exact okSs_map _ _ _ fun i hi => okS_num _ _ (hn i hi)
    have k7 : rpWs (nD (is.map vN)) ≤ 28 := by
      rw [hv]
      have := rpWs_map (fun i => Dat.int (vN i)) (fun _ => 7) is fun i hi => by simp [rpW]
      rw [sum_const] at this
      omega
    have k8 : (is.map (kD f)).length = (nD (is.map vN)).length := by rw [hv]; simp
    have key : ∀ i ∈ is, okS 2 (kD f i) = true ∧ rpW (kD f i) + 2 ≤ 300 ∧ ((f = .ends ∧ isStr (kD f i) = true) ∨ (f = .streets ∧ isTupS (kD f i) = true)) := fun i hi => by
      obtain ⟨b, hb⟩ := m i hi
      cases f with
      | ends =>
        obtain ⟨a, n, rfl, h1, h2⟩ := good_en hb
        have a1 := isW_len h1
        refine ⟨?_, ?_, .inl ⟨rfl, rfl⟩⟩
        · show okS 2 (.str a) = true
          rw [okS_str]; exact isW_okT h1
        · show rpW (.str a) + 2 ≤ 300
          rw [rp_str]; omega
      | streets =>
        obtain ⟨p, n, rfl, h1, _, h2⟩ := good_st hb
        have a := stOk_w h1
        have a1 := isW_len a.1
        have a2 := isW_len a.2.1
        refine ⟨okS_pD 1 ⟨a.1, a.2.1⟩, ?_, .inr ⟨rfl, rfl⟩⟩
        show rpW (pD p) + 2 ≤ 300
        rw [rp_pD]; omega
      | _ => simp [isDc] at hd
    have k1 : ((is.map (kD f)).all isStr || (is.map (kD f)).all isTupS) = true := by
      rw [Bool.or_eq_true]
      cases f with
      | ends =>
        left
        rw [List.all_map, List.all_eq_true]
        intro i hi
        rcases (key i hi).2.2 with q | q
        · exact q.2
        · cases q.1
      | streets =>
        right
        rw [List.all_map, List.all_eq_true]
        intro i hi
        rcases (key i hi).2.2 with q | q
        · cases q.1
        · exact q.2
      | _ => simp [isDc] at hd
    have k2 : okSs 2 (is.map (kD f)) = true := okSs_map _ _ _ fun i hi => (key i hi).1
    have k3 : rpWs (is.map (kD f)) ≤ 1200 := by
      have := rpWs_map (kD f) (fun _ => 300) is fun i hi => (key i hi).2.1
      rw [sum_const] at this
      omega
    rw [e]
    simp only [okR, k1, k5, k2, k6, k8, BEq.rfl, Bool.and_true, Bool.true_and, decide_eq_true_eq]
    rw [← k8, List.length_map]
    omega
  · have e : valD f is = .tup (is.map Itm.toD) := by unfold valD; rw [if_neg hd]
    have k2 : okSs 8 (is.map Itm.toD) = true := okSs_map _ _ _ fun i hi => by
      obtain ⟨b, hb⟩ := m i hi
      exact okS_toD 4 hb
    have k3 : rpWs (is.map Itm.toD) ≤ 120008 := by
      have := rpWs_map Itm.toD (fun _ => 30002) is fun i hi => by
        obtain ⟨b, hb⟩ := m i hi
        have := rp_toD hb (h.2.2 i hi)
        omega
      rw [sum_const] at this
      omega
    rw [e]
    simp only [okR, k2, Bool.true_and, decide_eq_true_eq]
    omega
/-! ### the pieces of the law -/
theorem is_written_ok (f : F7) (x : W) (is : List Itm) (om : Om) (ok : okOm om) (hx : okT x = true) (hl : x.length ≤ 3000) (h : readP f x = .inr is) : f_is_written [.str f.nm, .str x] om = .ok (.bl true) om := by
  have e := read_str f x om ok hx hl
  unfold readR at e
  rw [h] at e
  unfold f_is_written b_is_written
  simp only [evs, ↓reduceIte, Nat.reduceAdd, Nat.reduceSub, List.reduceReplicate, Nat.reduceLeDiff, Bool.false_eq_true, reduceCtorEq, fnD_ev, require_form, e]
theorem refused (f : F7) (y : Dat) (om : Om) (h : f_has_form [.str f.nm, y] om = .ok (.bl false) om) : f_law_is_refused [.str f.nm, y] om = .ok (.bl true) om := by
  have e : f_write [.str f.nm, y] om = .exc ⟨"InvalidOperation", none⟩ om := by
    unfold f_write b_write
    simp only [evs, ↓reduceIte, Nat.reduceAdd, Nat.reduceSub, List.reduceReplicate, Nat.reduceLeDiff, Bool.false_eq_true, reduceCtorEq, fnD_ev, require_form, h]
  have hx : exm "InvalidOperation" (Exc.mk "InvalidOperation" none).c = some true := by decide
  unfold f_law_is_refused b_law_is_refused
  simp only [evs, ↓reduceIte, Nat.reduceAdd, Nat.reduceSub, List.reduceReplicate, Nat.reduceLeDiff, Bool.false_eq_true, reduceCtorEq, fnD_ev, e, rtry_exc hx]
def oddOf : F7 → List Dat
  | .lot => odd_lot
  | .pairs => odd_pairs
  | .ways => odd_ways
  | .tree => odd_tree
  | .ends => odd_ends
  | .streets => odd_streets
  | .growth => odd_growth
theorem odds (f : F7) (om : Om) (ok : okOm om) : f_law_odd [.str f.nm] om = .ok (.lst (oddOf f)) om := by
  cases f
  · exact odds_lot om ok
  · exact odds_pairs om ok
  · exact odds_ways om ok
  · exact odds_tree om ok
  · exact odds_ends om ok
  · exact odds_streets om ok
  · exact odds_growth om ok
theorem odd_no (f : F7) (om : Om) : ∀ x ∈ oddOf f, f_has_form [.str f.nm, x] om = .ok (.bl false) om := by
  cases f
  · exact odd_no_lot om
  · exact odd_no_pairs om
  · exact odd_no_ways om
  · exact odd_no_tree om
  · exact odd_no_ends om
  · exact odd_no_streets om
  · exact odd_no_growth om
theorem odd_flat (f : F7) : (oddOf f).length ≤ 1000 ∧ ∀ x ∈ oddOf f, flat 50 x = true := by
  cases f <;> decide
theorem value (f : F7) (k N : Nat) (om : Om) (hN : N + 2000 ≤ 1000000000) (d : Dice k N om) (ok : okOm om) : ∃ (is : List Itm) (om' : Om), f_law_form_value [.cell k, .str f.nm] om = .ok (valD f is) om' ∧ Drawn f is ∧ Thr k (N + 200) om om' := by
  cases f
  · exact value_lot k N om hN d ok
  · exact value_pairs k N om hN d ok
  · exact value_ways k N om hN d ok
  · exact value_tree k N om hN d ok
  · exact value_ends k N om hN d ok
  · exact value_streets k N om hN d ok
  · exact value_growth k N om hN d ok
end K70
end Part_C16
section Part_C17
set_option maxRecDepth 100000
namespace K70
open PySem PySem.Spec PyProof.Rows L2 DL
abbrev oB : SD := (sIf (tNotD (tst (eCall 2 [] f_law_is_refused (aCons (eVar 1) (aCons (eVar 5) (aNil)))))) (sRet (eC (.bl false))) (sNil))
abbrev fB : SD := (sSeq (sAsg (eCall 2 [] f_law_form_value (aCons (eVar 0) (aCons (eVar 1) (aNil)))) (gN 2)) (sSeq (sAsg (eCall 2 [] f_write (aCons (eVar 1) (aCons (eVar 2) (aNil)))) (gN 3)) (sSeq (sIf (tOrD (tst (e2 kNe (eVar 3) (eCall 2 [] f_law_form_text (aCons (eVar 1) (aCons (eVar 2) (aNil)))))) (tNotD (tst (eCall 2 [] f_is_written (aCons (eVar 1) (aCons (eVar 3) (aNil))))))) (sRet (eC (.bl false))) (sNil)) (sSeq (sAsg (eCall 2 [] f_read (aCons (eVar 1) (aCons (eVar 3) (aNil)))) (gN 4)) (sSeq (sIf (tOrD (tst (e2 kNeS (eB kRepr (aCons (eVar 4) (aNil))) (eB kRepr (aCons (eVar 2) (aNil))))) (tst (e2 kNe (eCall 2 [] f_write (aCons (eVar 1) (aCons (eVar 4) (aNil)))) (eVar 3)))) (sRet (eC (.bl false))) (sNil)) (sFor (iSeq (eCall 3 [] f_law_some (aCons (eVar 0) (aCons (eCall 1 [] f_law_odd (aCons (eVar 1) (aNil))) (aCons (eC (.int 6)) (aNil)))))) (gN 5) oB))))))
theorem form_step (f : F7) (k N : Nat) (om : Om) (x2 x3 x4 x5 : Option Dat) (hN : N + 4000 ≤ 1000000000) (d : Dice k N om) (ok : okOm om) :
    ∃ (y2 y3 y4 y5 : Option Dat) (om' : Om), fB [some (.cell k), some (.str f.nm), x2, x3, x4, x5] om = .nx [some (.cell k), some (.str f.nm), y2, y3, y4, y5] om' ∧ Thr k (N + 1200) om om' := by
  obtain ⟨is, om1, e1, dr, th1⟩ := value f k N om (by omega) d ok
  have hl := dr.len
  have ga := dr.1
  have e2 := write_good f is om1 ga hl
  have e3 := form_text f is om1 th1.ok ga hl
  have hT := okT_text ga
  have hr := readP_mk ga
  have e4 := is_written_ok f (textOf is) is om1 th1.ok hT hl hr
  have e5 : f_read [.str f.nm, .str (textOf is)] om1 = .ok (valD f is) om1 := by
    rw [read_str f _ om1 th1.ok hT hl]
    unfold readR
    rw [hr]
  have e6 : kNe (.str (textOf is)) (.str (textOf is)) om1 = .ok (.bl false) om1 := by
    rw [kNe_str om1 hT hT]; simp
  have e7 : kRepr [valD f is] om1 = .ok (.str (pyR (valD f is)).shown.cps.toList) om1 := by
    unfold kRepr
    simp only
    rw [if_pos (okR_val dr)]
  have e8 : ∀ s : List Nat, kNeS (.str s) (.str s) om1 = .ok (.bl false) om1 := fun s => by
    unfold kNeS
    simp
  have e9 := odds f om1 th1.ok
  obtain ⟨hol, hof⟩ := odd_flat f
  obtain ⟨ys, rest, om2, e10, hlen, pm, th2⟩ := some_of k (N + 200) om1 (oddOf f) 6 hol (by omega) (by omega) hof th1.d th1.ok
  have e10' : f_law_some [.cell k, .lst (oddOf f), .int 6] om1 = .ok (.lst ys) om2 := e10
  let P : List Dat → En → Om → Prop := fun todo env s => s = om2 ∧ (∀ y ∈ todo, y ∈ oddOf f) ∧ ∃ y5, env = [some (.cell k), some (.str f.nm), some (valD f is), some (.str (textOf is)), some (valD f is), y5]
  have step : ∀ y todo env s, P (y :: todo) env s → ∃ env1 s1 env2 s2, gN 5 y env s = .ok env1 s1 ∧ oB env1 s1 = .nx env2 s2 ∧ P todo env2 s2 := by
    rintro y todo env s ⟨rfl, hy, y5, rfl⟩
    have hr := refused f y s (odd_no f s y (hy y (by simp)))
    refine ⟨_, _, [some (.cell k), some (.str f.nm), some (valD f is), some (.str (textOf is)), some (valD f is), some y], s, rfl, ?_, rfl, fun z hz => hy z (by simp [hz]), _, rfl⟩
    unfold oB
    simp only [evs, ↓reduceIte, Nat.reduceAdd, Nat.reduceSub, List.reduceReplicate, Nat.reduceLeDiff, Bool.false_eq_true, reduceCtorEq, hr]
  have start : P ys [some (.cell k), some (.str f.nm), some (valD f is), some (.str (textOf is)), some (valD f is), x5] om2 := ⟨rfl, fun y hy => pm.mem_iff.mp (List.mem_append_left _ hy), x5, rfl⟩
  obtain ⟨env', s', el, hs', _, y5, rfl⟩ := forL_inv P step _ _ _ start
  refine ⟨some (valD f is), some (.str (textOf is)), some (valD f is), y5, om2, ?_, (th1.trans th2).more (by omega)⟩
  unfold fB
  simp only [evs, ↓reduceIte, Nat.reduceAdd, Nat.reduceSub, List.reduceReplicate, Nat.reduceLeDiff, Bool.false_eq_true, reduceCtorEq, e1, e2, e3, e4, e5, e6, e7, e8, rasg_ok]
  rw [sFor_ok (om1 := om2) (xs := ys) (by simp only [evs, ↓reduceIte, Nat.reduceAdd, Nat.reduceSub, List.reduceReplicate, Nat.reduceLeDiff, Bool.false_eq_true, reduceCtorEq, e9, e10']), el, hs']
theorem right (k N : Nat) (om : Om) (hN : N + 20000 ≤ 1000000000) (d : Dice k N om) (ok : okOm om) : ∃ om', f_law_right [.cell k] om = .ok (.bl true) om' ∧ Thr k (N + 8400) om om' := by
  let P : List Dat → En → Om → Prop := fun todo env s => ∃ (fs : List F7) (M : Nat) (y1 y2 y3 y4 y5 : Option Dat), todo = fs.map (fun f => .str f.nm) ∧ env = [some (.cell k), y1, y2, y3, y4, y5] ∧ M + 1200 * fs.length ≤ 8400 ∧ Thr k (N + M) om s
  have step : ∀ y todo env s, P (y :: todo) env s → ∃ env1 s1 env2 s2, gN 1 y env s = .ok env1 s1 ∧ fB env1 s1 = .nx env2 s2 ∧ P todo env2 s2 := by
    rintro y todo env s ⟨fs, M, y1, y2, y3, y4, y5, ht, rfl, hM, th⟩
    cases fs with
    | nil => simp at ht
    | cons f fs =>
      simp only [List.map_cons, List.cons.injEq] at ht
      obtain ⟨rfl, rfl⟩ := ht
      simp only [List.length_cons] at hM
      obtain ⟨z2, z3, z4, z5, s2, e, th2⟩ := form_step f k (N + M) s y2 y3 y4 y5 (by omega) th.d th.ok
      exact ⟨_, _, _, s2, rfl, e, fs, M + 1200, _, z2, z3, z4, z5, rfl, rfl, by omega, (th.trans th2).more (by omega)⟩
  have start : P ([F7.lot, .pairs, .ways, .tree, .ends, .streets, .growth].map fun f => .str f.nm) [some (.cell k), none, none, none, none, none] om := ⟨_, 0, none, none, none, none, none, rfl, rfl, by simp, by simpa using Thr.refl ok d⟩
  obtain ⟨env', om', el, fs, M, y1, y2, y3, y4, y5, _, rfl, hM, th⟩ := forL_inv P step _ _ _ start
  refine ⟨om', ?_, th.more (by omega)⟩
  unfold f_law_right b_law_right
  rw [fnD_ev, sSeq_ev]
  rw [sFor_ok (om1 := om) (xs := [F7.lot, .pairs, .ways, .tree, .ends, .streets, .growth].map fun f => .str f.nm) (by simp only [evs, ↓reduceIte, Nat.reduceAdd, Nat.reduceSub, List.reduceReplicate, Nat.reduceLeDiff, Bool.false_eq_true, reduceCtorEq]; rfl)]
  show rfin false om.length (rseq (forL (gN 1) fB _ _ om) _) = _
  have : List.map some [Dat.cell k] ++ List.replicate (6 - 1) none = [some (.cell k), none, none, none, none, none] := rfl
  rw [this, el]
  simp only [evs, ↓reduceIte, Nat.reduceAdd, Nat.reduceSub, List.reduceReplicate, Nat.reduceLeDiff, Bool.false_eq_true, reduceCtorEq]
  exact finR_of th.len
/-! ### the law -/
theorem dice (ns : List Int) (spot : Nat) (hs : spot ≤ 8) (om : Om) (ok : okOm om) : ∃ c : Dat, f_law_dice [.frl (ns.map .int), .int spot] om = .ok (.cell om.length) (om ++ [c]) ∧ Dice om.length 0 (om ++ [c]) ∧ okOm (om ++ [c]) := by
  have nat8 : ((spot : Int)).natAbs < 2 ^ 3000 := by
    have : ((spot : Int)).natAbs = spot := rfl
    rw [this]; exact Nat.lt_of_le_of_lt hs (by decide +kernel)
  have hmul1 : fMul 67 (spot : Int) = some (67 * (spot : Int)) := fMul_ok (small_abs (by omega) (by omega)) nat8
  have hmul3 : fMul 8081 (spot : Int) = some (8081 * (spot : Int)) := fMul_ok (small_abs (by omega) (by omega)) nat8
  have hp1 : fPow 10 60 = some (10 ^ 60) := by decide +kernel
  have hp3 : fPow 10 18 = some (10 ^ 18) := by decide +kernel
  obtain ⟨G, hp2, hG⟩ : ∃ G : Int, fPow (10 ^ 60) 10 = some G ∧ 0 < G := ⟨(10 ^ 60) ^ 10, by decide +kernel, by decide +kernel⟩
  obtain ⟨P18, hP⟩ : ∃ P : Int, P = 10 ^ 18 := ⟨_, rfl⟩
  obtain ⟨P60, hP6⟩ : ∃ P : Int, P = 10 ^ 60 := ⟨_, rfl⟩
  rw [← hP] at hp3
  rw [← hP6] at hp1 hp2
  have hm : ∀ x : Int, fMod x 2305843009213693661 = some (x % 2305843009213693661) := fun x => fMod_ok (by omega)
  -- what is made of the cell
  let bl (z : Int) : Int := (if z < 0 then -z else z) % G % 2305843009213693661 * 1000409 + 8081 * spot + 53 * (if decide (z < 0) = true then 1 else 0) + 29
  let cc (z : Int) : Dat := .lst [.int (if (if z < 0 then -z else z) % G - P18 > 0 then (if z < 0 then -z else z) % G - P18 else 0), .int (bl z % 2305843009213693661), .int 0]
  have main : ∀ z : Int, ∀ x0 x3 x4 : Option Dat, sSeq (sAsg (e2 kMod (eB kIntOf (aCons (eB kAbs (aCons (eVar 2) (aNil))) (aNil))) (e2 kPow (e2 kPow (eC (.int 10)) (eC (.int 60))) (eC (.int 10)))) (gN 3)) (sSeq (sAsg (e2 kAdd (e2 kAdd (e2 kAdd (e2 kMul (e2 kMod (eB kIntOf (aCons (eVar 3) (aNil))) (eC (.int 2305843009213693661))) (eC (.int 1000409))) (e2 kMul (eC (.int 8081)) (eVar 1))) (e2 kMul (eC (.int 53)) (eB kIntOf (aCons (e2 kLtX (eVar 2) (eC (.int 0))) (aNil))))) (eC (.int 29))) (gN 4)) (sRet (eLstC (aCons (eB kMax2 (aCons (eC (.int 0)) (aCons (e2 kSub (eVar 3) (e2 kPow (eC (.int 10)) (eC (.int 18)))) (aNil)))) (aCons (e2 kMod (eB kIntOf (aCons (eVar 4) (aNil))) (eC (.int 2305843009213693661))) (aCons (eC (.int 0)) (aNil)))))))
      [x0, some (.int spot), some (.int z), x3, x4] om = .ret (.cell om.length) (om ++ [cc z]) := fun z x0 x3 x4 => by
    have g0 := Int.emod_nonneg ((if z < 0 then -z else z) % G) (b := 2305843009213693661) (by omega)
    have g1 := Int.emod_lt_of_pos ((if z < 0 then -z else z) % G) (b := 2305843009213693661) (by omega)
    have hmul2 : fMul ((if z < 0 then -z else z) % G % 2305843009213693661) 1000409 = some ((if z < 0 then -z else z) % G % 2305843009213693661 * 1000409) := fMul_ok (small_abs (by omega) (by omega)) (small_abs (by omega) (by omega))
    have hmul4 : fMul 53 (if decide (z < 0) = true then 1 else 0) = some (53 * (if decide (z < 0) = true then 1 else 0)) := fMul_ok (small_abs (by omega) (by omega)) (by split <;> exact small_abs (by omega) (by omega))
    simp only [evs, ↓reduceIte, Nat.reduceAdd, Nat.reduceSub, List.reduceReplicate, Nat.reduceLeDiff, Bool.false_eq_true, reduceCtorEq, hp1, hp2, hp3, fMod_ok hG, hm, hmul2, hmul3, hmul4, rasg_ok]
    rfl
  have fin : ∀ z : Int, Dice om.length 0 (om ++ [cc z]) ∧ okOm (om ++ [cc z]) := fun z => by
    have g0 := Int.emod_nonneg (bl z) (b := 2305843009213693661) (by omega)
    have g1 := Int.emod_lt_of_pos (bl z) (b := 2305843009213693661) (by omega)
    refine ⟨⟨_, _, _, get_last _ _, ?_, g0, by omega, by omega, by omega⟩, okOm_app ok rfl⟩
    split <;> omega
  unfold f_law_dice b_law_dice
  rw [fnD_ev]
  by_cases h : spot < ns.length
  · refine ⟨cc ns[spot], ?_, fin _⟩
    have h1 : ((spot : Int) < ((ns.map Dat.int).length : Int)) := by simp; omega
    have h2 : (ns.map Dat.int)[spot]? = some (.int ns[spot]) := by rw [List.getElem?_map, List.getElem?_eq_getElem h]; rfl
    have h3 : kIx (.frl (ns.map .int)) (.int spot) om = .ok (.int ns[spot]) om := by
      unfold kIx
      simp only [der_frl, atD_nat, h2]
    have m := main ns[spot] (some (.frl (ns.map .int))) none none
    rw [sSeq_ev]
    have a1 : sAsg (e2 kAdd (e2 kMul (eC (.int 67)) (eVar 1)) (eC (.int 23))) (gN 2) (List.map some [Dat.frl (ns.map .int), .int spot] ++ List.replicate (5 - 2) none) om = .nx [some (.frl (ns.map .int)), some (.int spot), some (.int (67 * spot + 23)), none, none] om := by
      simp only [evs, ↓reduceIte, Nat.reduceAdd, Nat.reduceSub, List.reduceReplicate, Nat.reduceLeDiff, Bool.false_eq_true, reduceCtorEq, hmul1, rasg_ok]
    rw [a1, rseq_nx, sSeq_ev]
    have a2 : sIf (tst (e2 kLtX (eVar 1) (eB kLen (aCons (eVar 0) (aNil))))) (sAsg (e2 kIx (eVar 0) (eVar 1)) (gN 2)) (sNil) [some (.frl (ns.map .int)), some (.int spot), some (.int (67 * spot + 23)), none, none] om = .nx [some (.frl (ns.map .int)), some (.int spot), some (.int ns[spot]), none, none] om := by
      simp only [evs, h3] at h1 ⊢
      simp only [evs, ↓reduceIte, Nat.reduceAdd, Nat.reduceSub, List.reduceReplicate, Nat.reduceLeDiff, Bool.false_eq_true, reduceCtorEq, h1, decide_true, h3, rasg_ok]
    rw [a2, rseq_nx, m, rfin_ret, finR_keep]
  · refine ⟨cc (67 * spot + 23), ?_, fin _⟩
    have h1 : ¬ ((spot : Int) < ((ns.map Dat.int).length : Int)) := by simp; omega
    have m := main (67 * spot + 23) (some (.frl (ns.map .int))) none none
    rw [sSeq_ev]
    have a1 : sAsg (e2 kAdd (e2 kMul (eC (.int 67)) (eVar 1)) (eC (.int 23))) (gN 2) (List.map some [Dat.frl (ns.map .int), .int spot] ++ List.replicate (5 - 2) none) om = .nx [some (.frl (ns.map .int)), some (.int spot), some (.int (67 * spot + 23)), none, none] om := by
      simp only [evs, ↓reduceIte, Nat.reduceAdd, Nat.reduceSub, List.reduceReplicate, Nat.reduceLeDiff, Bool.false_eq_true, reduceCtorEq, hmul1, rasg_ok]
    rw [a1, rseq_nx, sSeq_ev]
    have a2 : sIf (tst (e2 kLtX (eVar 1) (eB kLen (aCons (eVar 0) (aNil))))) (sAsg (e2 kIx (eVar 0) (eVar 1)) (gN 2)) (sNil) [some (.frl (ns.map .int)), some (.int spot), some (.int (67 * spot + 23)), none, none] om = .nx [some (.frl (ns.map .int)), some (.int spot), some (.int (67 * spot + 23)), none, none] om := by
      simp only [evs] at h1 ⊢
      simp only [evs, ↓reduceIte, Nat.reduceAdd, Nat.reduceSub, List.reduceReplicate, Nat.reduceLeDiff, Bool.false_eq_true, reduceCtorEq, h1, decide_false, rasg_ok]
    rw [a2, rseq_nx, m, rfin_ret, finR_keep]
end K70
end Part_C17
section Part_C18
set_option maxRecDepth 100000
namespace K70
open PySem PySem.Spec PyProof.Rows L2 DL
abbrev WA : W := [97]
abbrev WB : W := [98]
theorem write_g (om : Om) : f_write [.str F7.growth.nm, .tup [.str WA, .tup [.str PIN, .str WB, .tup [.tup [.str WA, .str WA]]], .tup [.str TIE, .str WA, .str WB]]] om = .ok (.str [97, 32, 98, 61, 97, 45, 97, 32, 97, 43, 98]) om := by
  have g : GoodAll .growth [.w WA, .pin WB [(WA, WA)], .tie WA WB] := ⟨⟨by decide, by decide, by decide, by decide, by decide, by decide, trivial⟩, by simp⟩
  exact write_good .growth _ om g (by decide)
theorem write_s (om : Om) : f_write [.str F7.streets.nm, .dct [pD (WB, WA), pD (WA, WB)] [.int 1, .int 2]] om = .ok (.str [97, 62, 98, 58, 50, 32, 98, 62, 97, 58, 49]) om := by
  have h1 : f_has_form [.str F7.streets.nm, .dct [pD (WB, WA), pD (WA, WB)] [.int 1, .int 2]] om = .ok (.bl true) om := by
    have e := street_dict [(WB, WA), (WA, WB)] [1, 2] om (by decide) (by decide) (by simp) (by simp)
    have e' : f_is_street_dict [.dct [pD (WB, WA), pD (WA, WB)] [.int 1, .int 2]] om = .ok (.bl true) om := e
    have e1 : (F7.streets.nm == F7.ends.nm) = false := by decide
    unfold f_has_form b_has_form
    rw [fnD_ev]
    unfold F7.nm at *
    simp only at e1
    simp only [evs, ↓reduceIte, Nat.reduceAdd, Nat.reduceSub, List.reduceReplicate, Nat.reduceLeDiff, Bool.false_eq_true, reduceCtorEq, e1, BEq.rfl, e']
  have h2 : f_item_texts [.str F7.streets.nm, .dct [pD (WB, WA), pD (WA, WB)] [.int 1, .int 2]] om = .ok (.lst [.str [97, 62, 98, 58, 50], .str [98, 62, 97, 58, 49]]) om := by
    have s2 : kSortedI [.lst [pD (WB, WA), pD (WA, WB)]] om = .ok (.lst [pD (WA, WB), pD (WB, WA)]) om := rfl
    have e : ∀ x0 x2 x3 x4 x5 x6 x7 : Option Dat, lcL (gT 2 (gsC (gN 3) (gsC (gN 4) (gsN)))) tYesD (joinF [eFmt (eVar 3), eC (.str [62]), eFmt (eVar 4), eC (.str [58]), eFmt (e2 kDGet (eVar 1) (eTup (aCons (eVar 3) (aCons (eVar 4) (aNil)))))] []) [pD (WA, WB), pD (WB, WA)] [x0, some (.dct [pD (WB, WA), pD (WA, WB)] [.int 1, .int 2]), x2, x3, x4, x5, x6, x7] om [] = .ok [.str [97, 62, 98, 58, 50], .str [98, 62, 97, 58, 49]] om := fun x0 x2 x3 x4 x5 x6 x7 =>
      lcL_mapM (xs := [(WA, WB, [97, 62, 98, 58, 50], (2 : Int)), (WB, WA, [98, 62, 97, 58, 49], 1)]) (fun t => pD (t.1, t.2.1)) (fun t => .str t.2.2.1) (by simp) fun t ht => by
        rcases List.mem_cons.mp ht with rfl | ht
        · refine ⟨[x0, some (.dct [pD (WB, WA), pD (WA, WB)] [.int 1, .int 2]), x2, some (.str WA), some (.str WB), x5, x6, x7], by unfold pD; simp only [evs, ↓reduceIte, Nat.reduceAdd, Nat.reduceSub, List.reduceReplicate, Nat.reduceLeDiff, Bool.false_eq_true, reduceCtorEq], ?_⟩
          have l1 : kDGet (.dct [pD (WB, WA), pD (WA, WB)] [.int 1, .int 2]) (.tup [.str WA, .str WB]) om = .ok (.int 2) om := rfl
          have l2 : (2 : Int).natAbs.log2 < 1920 := by decide
          have l3 : digs 2 = [50] := by decide +kernel
          simp only [evs, ↓reduceIte, Nat.reduceAdd, Nat.reduceSub, List.reduceReplicate, Nat.reduceLeDiff, Bool.false_eq_true, reduceCtorEq, l1, l2, l3]
        · rw [List.mem_singleton] at ht
          subst ht
          refine ⟨[x0, some (.dct [pD (WB, WA), pD (WA, WB)] [.int 1, .int 2]), x2, some (.str WB), some (.str WA), x5, x6, x7], by unfold pD; simp only [evs, ↓reduceIte, Nat.reduceAdd, Nat.reduceSub, List.reduceReplicate, Nat.reduceLeDiff, Bool.false_eq_true, reduceCtorEq], ?_⟩
          have l1 : kDGet (.dct [pD (WB, WA), pD (WA, WB)] [.int 1, .int 2]) (.tup [.str WB, .str WA]) om = .ok (.int 1) om := rfl
          have l2 : (1 : Int).natAbs.log2 < 1920 := by decide
          have l3 : digs 1 = [49] := by decide +kernel
          simp only [evs, ↓reduceIte, Nat.reduceAdd, Nat.reduceSub, List.reduceReplicate, Nat.reduceLeDiff, Bool.false_eq_true, reduceCtorEq, l1, l2, l3]
    have f_lot : (F7.streets.nm == F7.lot.nm) = false := by decide
    have f_pairs : (F7.streets.nm == F7.pairs.nm) = false := by decide
    have f_ways : (F7.streets.nm == F7.ways.nm) = false := by decide
    have f_tree : (F7.streets.nm == F7.tree.nm) = false := by decide
    have f_ends : (F7.streets.nm == F7.ends.nm) = false := by decide
    unfold f_item_texts b_item_texts
    rw [fnD_ev]
    unfold F7.nm at *
    simp only at f_lot f_pairs f_ways f_tree f_ends
    simp only [evs, ↓reduceIte, Nat.reduceAdd, Nat.reduceSub, List.reduceReplicate, Nat.reduceLeDiff, Bool.false_eq_true, reduceCtorEq, f_lot, f_pairs, f_ways, f_tree, f_ends, BEq.rfl, kListDc_ev, s2, e]
  have h3 : kNe (.lst [.str [97, 62, 98, 58, 50], .str [98, 62, 97, 58, 49]]) (.lst []) om = .ok (.bl true) om := rfl
  have h4 : kJoin (.str [32]) (.lst [.str [97, 62, 98, 58, 50], .str [98, 62, 97, 58, 49]]) om = .ok (.str [97, 62, 98, 58, 50, 32, 98, 62, 97, 58, 49]) om := rfl
  unfold f_write b_write
  simp only [evs, ↓reduceIte, Nat.reduceAdd, Nat.reduceSub, List.reduceReplicate, Nat.reduceLeDiff, Bool.false_eq_true, reduceCtorEq, fnD_ev, require_form, h1, h2, h3, h4]
theorem write_l (om : Om) : f_write [.str F7.lot.nm, .tup []] om = .ok (.str [45]) om := write_good .lot [] om ⟨trivial, by simp⟩ (by decide)
theorem read_e (om : Om) (ok : okOm om) : f_read [.str F7.ends.nm, .str [45]] om = .ok (.dct [] []) om := by
  rw [read_str .ends [45] om ok (by decide) (by decide)]
  have : readP .ends [45] = .inr [] := readP_mk (is := []) ⟨trivial, by simp⟩
  unfold readR
  rw [this]
  rfl
abbrev lB : SD := (sIf (tNotD (tst (eCall 1 [] f_law_right (aCons (eCall 2 [] f_law_dice (aCons (eVar 0) (aCons (eVar 1) (aNil)))) (aNil))))) (sRet (eC (.bl false))) (sNil))
theorem law_true (ns : List Int) (hn : ns.length ≤ 63) (hb : ∀ z ∈ ns, Builtin.Int.intBits z ≤ 1048576) : ∃ om, f_law [.frl (ns.map .int)] [] = .ok (.bl true) om := by
  let P : List Dat → En → Om → Prop := fun todo env s => ∃ (spots : List Nat) (y : Option Dat), todo = spots.map (fun (i : Nat) => .int (i : Int)) ∧ (∀ i ∈ spots, i ≤ 8) ∧ env = [some (.frl (ns.map .int)), y, none, none] ∧ okOm s
  have step : ∀ y todo env s, P (y :: todo) env s → ∃ env1 s1 env2 s2, gN 1 y env s = .ok env1 s1 ∧ lB env1 s1 = .nx env2 s2 ∧ P todo env2 s2 := by
    rintro y todo env s ⟨spots, y1, ht, hs, rfl, ok⟩
    cases spots with
    | nil => simp at ht
    | cons i spots =>
      simp only [List.map_cons, List.cons.injEq] at ht
      obtain ⟨rfl, rfl⟩ := ht
      obtain ⟨c, e1, d, ok1⟩ := dice ns i (hs i (by simp)) s ok
      obtain ⟨s2, e2, th⟩ := right s.length 0 (s ++ [c]) (by omega) d ok1
      refine ⟨_, _, [some (.frl (ns.map .int)), some (.int i), none, none], s2, rfl, ?_, spots, _, rfl, fun j hj => hs j (by simp [hj]), rfl, th.ok⟩
      unfold lB
      simp only [evs, ↓reduceIte, Nat.reduceAdd, Nat.reduceSub, List.reduceReplicate, Nat.reduceLeDiff, Bool.false_eq_true, reduceCtorEq, e1, e2]
  obtain ⟨m, hm, hm8⟩ : ∃ m : Nat, (if (if (ns.length : Int) < 8 then (ns.length : Int) else 8) > 1 then (if (ns.length : Int) < 8 then (ns.length : Int) else 8) else 1) = (m : Int) ∧ m ≤ 8 := by
    by_cases h1 : (ns.length : Int) < 8
    · rw [if_pos h1]
      by_cases h2 : (ns.length : Int) > 1
      · exact ⟨ns.length, by rw [if_pos h2], by omega⟩
      · exact ⟨1, by rw [if_neg h2]; rfl, by omega⟩
    · rw [if_neg h1]
      exact ⟨8, by simp, by omega⟩
  have start : P ((List.range m).map fun (i : Nat) => .int (i : Int)) [some (.frl (ns.map .int)), none, none, none] [] := ⟨List.range m, none, rfl, fun i hi => by
    have : i < m := by simpa using hi
    omega, rfl, rfl⟩
  obtain ⟨env', s', el, spots, y, _, _, rfl, ok⟩ := forL_inv P step _ _ _ start
  have b1 : (-1000000 : Int) ≤ (m : Int) ∧ (m : Int) ≤ 1000000 := by omega
  have b2 : ((m : Int)).toNat = m := by omega
  have k1 : ∀ om, eDispT (pCons (eTup (aCons (eC (.str [98])) (aCons (eC (.str [97])) (aNil)))) (eC (.int 1)) (pCons (eTup (aCons (eC (.str [97])) (aCons (eC (.str [98])) (aNil)))) (eC (.int 2)) (pNil))) [some (.frl (ns.map .int)), y, some (.tup [.str WA, .tup [.str PIN, .str WB, .tup [.tup [.str WA, .str WA]]], .tup [.str TIE, .str WA, .str WB]]), none] om = .ok (.dct [pD (WB, WA), pD (WA, WB)] [.int 1, .int 2]) om := fun om => rfl
  have k2 : ∀ om env, eC (.dct [] []) env om = .ok (.dct [] []) om := fun om env => rfl
  have k3 : ∀ om, kEqE (.lst [.str [97, 32, 98, 61, 97, 45, 97, 32, 97, 43, 98], .str [97, 62, 98, 58, 50, 32, 98, 62, 97, 58, 49], .dct [] []]) (.lst [.str [97, 32, 98, 61, 97, 45, 97, 32, 97, 43, 98], .str [97, 62, 98, 58, 50, 32, 98, 62, 97, 58, 49], .dct [] []]) om = .ok (.bl true) om := fun om => rfl
  have w1 := write_g s'
  have w2 := write_s s'
  have w3 := write_l s'
  have w4 := read_e s' ok
  unfold F7.nm at w1 w2 w3 w4
  simp only at w1 w2 w3 w4
  refine ⟨[], ?_⟩
  unfold f_law b_law
  rw [fnD_ev, sSeq_ev]
  have e0 : List.map some [Dat.frl (ns.map .int)] ++ List.replicate (4 - 1) none = [some (.frl (ns.map .int)), none, none, none] := rfl
  rw [e0, sFor_ok (om1 := []) (xs := (List.range m).map fun (i : Nat) => .int (i : Int)) (by simp only [evs, ↓reduceIte, Nat.reduceAdd, Nat.reduceSub, List.reduceReplicate, Nat.reduceLeDiff, Bool.false_eq_true, reduceCtorEq, hm, b1, b2])]
  show rfin false ([] : Om).length (rseq (forL (gN 1) lB _ _ []) _) = _
  rw [el]
  simp only [evs, ↓reduceIte, Nat.reduceAdd, Nat.reduceSub, List.reduceReplicate, Nat.reduceLeDiff, Bool.false_eq_true, reduceCtorEq, rasg_ok, w1, w2, w3, w4, k1, k3, BEq.rfl]
  exact finR_more (om := []) (t := s') rfl rfl
end K70
end Part_C18
section Part_P1
set_option maxRecDepth 100000
set_option maxHeartbeats 4000000
namespace K70
open PySem PySem.Spec PyProof.Rows L2 DL
theorem reps_ints {K : PySem.W.Frag} {T : Ct} {H : Hp} {ex : Addr → Prop} {rho : List Addr} : ∀ ns : List Int, Reps K T H ex rho (ns.map V.int) (ns.map Dat.int)
  | [] => .nil
  | n :: ns => .cons .int (reps_ints ns)
theorem sp_law {K : PySem.W.Frag} {H : Hp} {a : Addr} {ns : List Int} (hno : K.all (fun p => !(p.2.cls == .type "list")) = true) (hl : ns.length ≤ 63) (hb : ∀ z ∈ ns, Builtin.Int.intBits z ≤ 1048576) (hO : Only H) (hS : SqL K H a (ns.map V.int)) :
    spD K (ctK K) 1 f_law [.ref a] H (fun v _ => v = .bl true) fun _ _ _ => False := by
  obtain ⟨om, e⟩ := law_true ns hl hb
  refine ⟨fun _ => False, [], [], [.frl (ns.map .int)], ⟨rfl, List.nodup_nil, fun a h => by simp at h, fun a h => h.elim, fun i a d h => by simp at h⟩, .cons ?_ .nil, rfl, ?_⟩
  · rcases hS with (h | ⟨o, h⟩) | h
    · rcases hO a with z | ⟨ob, xs, z⟩
      · rw [h] at z; cases z
      · rw [h] at z; cases z
    · exact .frl h (fun z => z) (reps_ints ns)
    · obtain ⟨o, its, n, lk, hc, _⟩ := h
      have := List.all_eq_true.mp hno _ (He.lookup_mem lk)
      rw [hc] at this
      simp at this
  · rw [e]
    intro v H' ex' rho' st w rv
    cases rv
    rfl
end K70
open PySem PySem.W PySem.Calls PyProof.Rows
set_option maxHeartbeats 0 in
theorem PySem.Challenge.cw_keptways_k70_texts_of_all_forms_holds : PySem.Challenge.rw_keptways_k70_texts_of_all_forms.Holds := by
  w_on; o_law
  refine HandSHeadRun.head_any (r := OpenLaw.row PySem.Challenge.rw_keptways_k70_texts_of_all_forms) (q := view (OpenLaw.row PySem.Challenge.rw_keptways_k70_texts_of_all_forms).prog [52]) (H := K70.hk) (ob := K70.ob) (M := 6000) (loose := K70.loose) (d := HandSHeadRun.topDef (OpenLaw.row PySem.Challenge.rw_keptways_k70_texts_of_all_forms).prog 52) (kwd := []) K70.ob_eq
    (by kernel_rfl) (fun s => by kernel_rfl) K70.run (by kernel_rfl) (by kernel_rfl) (by kernel_rfl) (by rfl) (by first | assumption | decide +kernel) (by decide +kernel) ⟨rfl, rfl, rfl, rfl, rfl, by decide +kernel⟩ ?hw ?hc
  case hw => w_witness2
  case hc =>
    refine DL.walk_ofEG (l := PySem.Challenge.rw_keptways_k70_texts_of_all_forms) (n := 63) (k := 10) (x := "script") (CX := fun w => L2.CX (PySem.Challenge.rw_keptways_k70_texts_of_all_forms).prog w) rfl (by decide) (by kernel_rfl) ⟨rfl, by decide, by decide⟩ ?F ?C
    case C => exact fun w H s e s' ⟨_, _, _, _, _, _, _, _, _, _, _, _, z⟩ => z
    case F =>
      intro w mg fa h Y G hmg0
      obtain ⟨K, KX, c⟩ := Y
      have hmg : mg ("law" : PySem.Str) = some (.ref fa) := by
        have e : (HandSHeadRun.topDef (OpenLaw.row PySem.Challenge.rw_keptways_k70_texts_of_all_forms).prog 52).name = ("law" : PySem.Str) := by kernel_rfl
        rw [← e]
        exact hmg0
      obtain ⟨fd, hb, hF⟩ := K70.facts (P := (PySem.Challenge.rw_keptways_k70_texts_of_all_forms).prog) (w := w) KX G hmg c
      have hex := c.more
      unfold K70.exK at hex
      simp only [Bool.and_eq_true] at hex
      exact ⟨K, fd, _, KX, hb, fun H a ns hl hbits hO hS => K70.sp_law hex.1.2 hl hbits hO hS, hF⟩
end Part_P1
