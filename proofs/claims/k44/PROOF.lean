import PyProof.Rows.All
import Wide.All
import OpenK.AllK
import Wide.FinOn
import HandS.ForMost
import HandS.Wide
import HandS.WideBits
import HandS.TupAny
import HandS.IsInst
import HandS.Style
import HandS.SortInts
import HandS.SetFor
import HandS.More
import HandS.RevRange
import HandS.Zip
import HandS.EndBits
import HandS.Rev
import HandS.Exc
import HandS.ExcOwn
import HandS.ExcInit
import HandS.ExcIs
import HandS.ExcField
import HandS.TryMany
import HandS.WordsExc
import KE.KExcIs
import HandS.SetKeys
import HandS.Deep
import KE.GoesMore
import HandS.TupMul
import HandS.SortOrd
import KE.KDictCopyH
import HandS.Strs
import PySem.Challenge.RW_fewjoins_k44_nets_turned_about
set_option Elab.async false
set_option linter.all false
set_option maxRecDepth 100000
set_option maxHeartbeats 4000000
set_option Elab.async false
set_option linter.all false
set_option maxRecDepth 100000
set_option maxHeartbeats 2000000
/-! A layer over HandS: frozen data as plain values, mutable lists and dicts owned by the slots of a def. -/
namespace DL
open PySem PySem.Spec PyProof.Rows L2
/-- the own classes by their names -/
class ClsV where
  v : Str → Value
  ok : Str → Prop
variable [ClsV]

/-- data -/
inductive Dat where
  | non | bl (b : Bool) | int (i : Int) | str (s : Str)
  | tup (l : List Dat) | lst (l : List Dat)
  | dk (l : List (Key × Dat)) | dt (l : List (List Key × Dat))
  | ins (C : Addr) (l : List (Str × Dat))
  | raw (v : V)
  | exc (c : Str) (fs : Option (List (Str × Dat)))
/-- at a: an exception of a class, its dict -/
def excHO (a : Addr) (cls : Value) (d : Option Addr) : HO := .ext fun h => ∃ (oe : Obj) (vs : Array Value), h.get? a = some oe ∧ oe.cls = cls ∧ oe.dict = d ∧ oe.data = .fields vs

mutual
/-- the value v bears the datum in the (frozen) heap -/
inductive Rep (H : Hp) : V → Dat → Prop
  | non : Rep H .non .non
  | bl (b : Bool) : Rep H (.bl b) (.bl b)
  | int (i : Int) : Rep H (.int i) (.int i)
  | str (s : Str) : Rep H (.str s) (.str s)
  | tup {a : Addr} {vs : List V} {ds : List Dat} : H a = some (.tup vs) → Reps H vs ds → Rep H (.ref a) (.tup ds)
  | lst {a : Addr} {vs : List V} {ds : List Dat} : H a = some (.lst vs) → Reps H vs ds → Rep H (.ref a) (.lst ds)
  | dk {a : Addr} {vs : List (Key × V)} {ds : List (Key × Dat)} : H a = some (.dK vs) → RepK H vs ds → Rep H (.ref a) (.dk ds)
  | dt {a : Addr} {vs : List (List Key × V)} {ds : List (List Key × Dat)} : H a = some (.dT vs) → RepT H vs ds → Rep H (.ref a) (.dt ds)
  | ins {a C dx : Addr} {vs : List (Str × V)} {ds : List (Str × Dat)} : H a = some (.ins C dx vs) → RepF H vs ds → Rep H (.ref a) (.ins C ds)
  | raw (v : V) : Rep H v (.raw v)
  | exc {a : Addr} {c : Str} : ClsV.ok c → H a = some (excHO a (ClsV.v c) none) → Rep H (.ref a) (.exc c none)
  | excD {a dd : Addr} {c : Str} {vs : List (Str × V)} {ds : List (Str × Dat)} : ClsV.ok c → H a = some (excHO a (ClsV.v c) (some dd)) → H dd = some (.xd vs) → RepF H vs ds → Rep H (.ref a) (.exc c (some ds))
inductive Reps (H : Hp) : List V → List Dat → Prop
  | nil : Reps H [] []
  | cons {v : V} {d : Dat} {vs : List V} {ds : List Dat} : Rep H v d → Reps H vs ds → Reps H (v :: vs) (d :: ds)
inductive RepK (H : Hp) : List (Key × V) → List (Key × Dat) → Prop
  | nil : RepK H [] []
  | cons {k : Key} {v : V} {d : Dat} {vs : List (Key × V)} {ds : List (Key × Dat)} : Rep H v d → RepK H vs ds → RepK H ((k, v) :: vs) ((k, d) :: ds)
inductive RepT (H : Hp) : List (List Key × V) → List (List Key × Dat) → Prop
  | nil : RepT H [] []
  | cons {k : List Key} {v : V} {d : Dat} {vs : List (List Key × V)} {ds : List (List Key × Dat)} : Rep H v d → RepT H vs ds → RepT H ((k, v) :: vs) ((k, d) :: ds)
inductive RepF (H : Hp) : List (Str × V) → List (Str × Dat) → Prop
  | nil : RepF H [] []
  | cons {k : Str} {v : V} {d : Dat} {vs : List (Str × V)} {ds : List (Str × Dat)} : Rep H v d → RepF H vs ds → RepF H ((k, v) :: vs) ((k, d) :: ds)
end

/-- what is in H is in H' -/
def Ex (F G : Hp) : Prop := ∀ q u, F q = some u → G q = some u
theorem Ex.refl (F : Hp) : Ex F F := fun _ _ => id
theorem Ex.trans {F G K : Hp} (fg : Ex F G) (gk : Ex G K) : Ex F K := fun q u => gk q u ∘ fg q u
theorem Ex.new {F : Hp} {p : Addr} {o : HO} (h : F p = none) : Ex F (upd F p o) := fun q u e => by
  rw [upd_ne (ne_of_none e h)]
  exact e

mutual
theorem Rep.mono {H H' : Hp} (e : Ex H H') : ∀ {v : V} {d : Dat}, Rep H v d → Rep H' v d
  | _, _, .non => .non
  | _, _, .bl b => .bl b
  | _, _, .int i => .int i
  | _, _, .str s => .str s
  | _, _, .tup h r => .tup (e _ _ h) (Reps.mono e r)
  | _, _, .lst h r => .lst (e _ _ h) (Reps.mono e r)
  | _, _, .dk h r => .dk (e _ _ h) (RepK.mono e r)
  | _, _, .dt h r => .dt (e _ _ h) (RepT.mono e r)
  | _, _, .ins h r => .ins (e _ _ h) (RepF.mono e r)
  | _, _, .raw v => .raw v
  | _, _, .exc o h => .exc o (e _ _ h)
  | _, _, .excD o h h2 r => .excD o (e _ _ h) (e _ _ h2) (RepF.mono e r)
theorem Reps.mono {H H' : Hp} (e : Ex H H') : ∀ {v : List V} {d : List Dat}, Reps H v d → Reps H' v d
  | _, _, .nil => .nil
  | _, _, .cons h r => .cons (Rep.mono e h) (Reps.mono e r)
theorem RepK.mono {H H' : Hp} (e : Ex H H') : ∀ {v : List (Key × V)} {d : List (Key × Dat)}, RepK H v d → RepK H' v d
  | _, _, .nil => .nil
  | _, _, .cons h r => .cons (Rep.mono e h) (RepK.mono e r)
theorem RepT.mono {H H' : Hp} (e : Ex H H') : ∀ {v : List (List Key × V)} {d : List (List Key × Dat)}, RepT H v d → RepT H' v d
  | _, _, .nil => .nil
  | _, _, .cons h r => .cons (Rep.mono e h) (RepT.mono e r)
theorem RepF.mono {H H' : Hp} (e : Ex H H') : ∀ {v : List (Str × V)} {d : List (Str × Dat)}, RepF H v d → RepF H' v d
  | _, _, .nil => .nil
  | _, _, .cons h r => .cons (Rep.mono e h) (RepF.mono e r)
end
theorem Reps.len {H : Hp} : ∀ {vs : List V} {ds : List Dat}, Reps H vs ds → vs.length = ds.length
  | _, _, .nil => rfl
  | _, _, .cons _ r => by rw [List.length_cons, List.length_cons, r.len]
theorem Reps.get {H : Hp} : ∀ {vs : List V} {ds : List Dat} {i : Nat} {d : Dat}, Reps H vs ds → ds[i]? = some d → ∃ v, vs[i]? = some v ∧ Rep H v d
  | _, _, _, _, .nil, e => by simp at e
  | _, _, 0, _, .cons h r, e => by simp at e; subst e; exact ⟨_, rfl, h⟩
  | _, _, i + 1, d, .cons _ r, e => by
    obtain ⟨v, h1, h2⟩ := Reps.get (i := i) (d := d) r (by simpa using e)
    exact ⟨v, by simpa using h1, h2⟩
theorem Reps.getV {H : Hp} : ∀ {vs : List V} {ds : List Dat} {i : Nat} {v : V}, Reps H vs ds → vs[i]? = some v → ∃ d, ds[i]? = some d ∧ Rep H v d
  | _, _, _, _, .nil, e => by simp at e
  | _, _, 0, _, .cons h r, e => by simp at e; subst e; exact ⟨_, rfl, h⟩
  | _, _, i + 1, d, .cons _ r, e => by
    obtain ⟨v, h1, h2⟩ := Reps.getV (i := i) (v := d) r (by simpa using e)
    exact ⟨v, by simpa using h1, h2⟩
theorem Reps.append {H : Hp} : ∀ {vs ws : List V} {ds es : List Dat}, Reps H vs ds → Reps H ws es → Reps H (vs ++ ws) (ds ++ es)
  | _, _, _, _, .nil, s => s
  | _, _, _, _, .cons h r, s => .cons h (Reps.append r s)
theorem Reps.set {H : Hp} {v : V} {d : Dat} (h : Rep H v d) : ∀ {vs : List V} {ds : List Dat} (i : Nat), Reps H vs ds → Reps H (vs.set i v) (ds.set i d)
  | _, _, _, .nil => .nil
  | _, _, 0, .cons _ t => .cons h t
  | _, _, i + 1, .cons q t => .cons q (Reps.set h i t)
theorem Reps.take {H : Hp} : ∀ {vs : List V} {ds : List Dat} (i : Nat), Reps H vs ds → Reps H (vs.take i) (ds.take i)
  | _, _, 0, _ => .nil
  | _, _, _ + 1, .nil => .nil
  | _, _, i + 1, .cons q t => .cons q (Reps.take i t)
theorem Reps.drop {H : Hp} : ∀ {vs : List V} {ds : List Dat} (i : Nat), Reps H vs ds → Reps H (vs.drop i) (ds.drop i)
  | _, _, 0, r => r
  | _, _, _ + 1, .nil => .nil
  | _, _, i + 1, .cons q t => Reps.drop i t
theorem Reps.ints {H : Hp} : ∀ {vs : List V} {ns : List Int}, Reps H vs (ns.map Dat.int) → vs = ns.map V.int
  | _, [], .nil => rfl
  | _, n :: ns, .cons h r => by
    cases h
    rw [Reps.ints r]; rfl
theorem Reps.bls {H : Hp} : ∀ {vs : List V} {ns : List Bool}, Reps H vs (ns.map Dat.bl) → vs = ns.map V.bl
  | _, [], .nil => rfl
  | _, n :: ns, .cons h r => by
    cases h
    rw [Reps.bls r]; rfl
theorem Reps.strs {H : Hp} : ∀ {vs : List V} {ns : List Str}, Reps H vs (ns.map Dat.str) → vs = ns.map V.str
  | _, [], .nil => rfl
  | _, n :: ns, .cons h r => by
    cases h
    rw [Reps.strs r]; rfl
theorem Reps.ofInts {H : Hp} : ∀ ns : List Int, Reps H (ns.map V.int) (ns.map Dat.int)
  | [] => .nil
  | n :: ns => .cons (.int n) (Reps.ofInts ns)

/-! ### slots, results -/
/-- a slot: a frozen datum; an object that the def owns; a caller's object, lent to be changed -/
inductive S where
  | f (d : Dat) | o (d : Dat) | b (d : Dat)
/-- what an expression gives: a frozen datum; a new object that nobody has; the object of a slot -/
inductive Res where
  | f (d : Dat) | n (d : Dat) | l (i : Nat)
abbrev Env := List (Option S)
/-- the entry: the heap, what was frozen, the lent objects by the parameter's place -/
structure Cc where
  H0 : Hp
  F0 : Hp
  ad : Nat → Option Addr
def Cc.Bor (C : Cc) (q : Addr) : Prop := ∃ i, C.ad i = some q

/-- an object of the owned part -/
def Cont (F H : Hp) (p : Addr) : Dat → Prop
  | .lst ds => ∃ vs, H p = some (.lst vs) ∧ Reps F vs ds
  | .dk ds => ∃ vs, H p = some (.dK vs) ∧ RepK F vs ds
  | .dt ds => ∃ vs, H p = some (.dT vs) ∧ RepT F vs ds
  | .ins C ds => ∃ dx vs, H p = some (.ins C dx vs) ∧ RepF F vs ds
  | _ => False
theorem Cont.there {F H : Hp} {p : Addr} {d : Dat} (h : Cont F H p d) : ∃ o, H p = some o := by
  cases d with
  | lst ds => obtain ⟨vs, h, _⟩ := h; exact ⟨_, h⟩
  | dk ds => obtain ⟨vs, h, _⟩ := h; exact ⟨_, h⟩
  | dt ds => obtain ⟨vs, h, _⟩ := h; exact ⟨_, h⟩
  | ins C ds => obtain ⟨dx, vs, h, _⟩ := h; exact ⟨_, h⟩
  | _ => exact h.elim
theorem Cont.mono {F H F' H' : Hp} {p : Addr} {d : Dat} (h : Cont F H p d) (e : Ex F F') (eh : H' p = H p) : Cont F' H' p d := by
  cases d with
  | lst ds => obtain ⟨vs, h, r⟩ := h; exact ⟨vs, eh.trans h, r.mono e⟩
  | dk ds => obtain ⟨vs, h, r⟩ := h; exact ⟨vs, eh.trans h, r.mono e⟩
  | dt ds => obtain ⟨vs, h, r⟩ := h; exact ⟨vs, eh.trans h, r.mono e⟩
  | ins C ds => obtain ⟨dx, vs, h, r⟩ := h; exact ⟨dx, vs, eh.trans h, r.mono e⟩
  | _ => exact h.elim
/-- an owned object frozen -/
theorem Cont.rep {F H : Hp} {p : Addr} {d : Dat} {o : HO} (h : Cont F H p d) (ho : H p = some o) (n : F p = none) : Rep (upd F p o) (.ref p) d := by
  have e : Ex F (upd F p o) := Ex.new n
  cases d with
  | lst ds => obtain ⟨vs, h, r⟩ := h; rw [h] at ho; cases ho; exact .lst upd_same (r.mono e)
  | dk ds => obtain ⟨vs, h, r⟩ := h; rw [h] at ho; cases ho; exact .dk upd_same (r.mono e)
  | dt ds => obtain ⟨vs, h, r⟩ := h; rw [h] at ho; cases ho; exact .dt upd_same (r.mono e)
  | ins C ds => obtain ⟨dx, vs, h, r⟩ := h; rw [h] at ho; cases ho; exact .ins upd_same (r.mono e)
  | _ => exact h.elim

def isD : HO → Bool
  | .dK _ => true
  | .dT _ => true
  | _ => false
/-- what is frozen stands in the heap (a dict, perhaps, locked) -/
def Fz (F H : Hp) : Prop := ∀ a o, F a = some o → H a = some o ∨ (isD o = true ∧ ∃ ob, H a = some (.frz ob o))
def isFz : HO → Bool
  | .frz _ _ => true
  | _ => false
theorem not_frz {o : HO} (h : isFz o = false) {ob : Obj} {u : HO} : o ≠ .frz ob u := fun z => by rw [z] at h; cases h
/-- a tuple stands there -/
def TupAt (H : Hp) (q : Addr) : Prop := ∃ vs, H q = some (.tup vs)
theorem Cont.noT {F H : Hp} {p : Addr} {d : Dat} (h : Cont F H p d) : ¬ TupAt H p := fun ⟨vs, e⟩ => by
  cases d with
  | lst ds => obtain ⟨vs, h, _⟩ := h; rw [h] at e; cases e
  | dk ds => obtain ⟨vs, h, _⟩ := h; rw [h] at e; cases e
  | dt ds => obtain ⟨vs, h, _⟩ := h; rw [h] at e; cases e
  | ins C ds => obtain ⟨dx, vs, h, _⟩ := h; rw [h] at e; cases e
  | _ => exact h.elim
/-- L: the dicts that are locked by a walk over them; of what was there a tuple alone may be frozen since -/
structure Fr (L : Addr → Prop) (C : Cc) (F H : Hp) : Prop where
  fz : Fz F H
  fn : ∀ q, C.H0 q ≠ none → F q = C.F0 q ∨ (C.F0 q = none ∧ TupAt H q)
  kp : ∀ q o, C.H0 q = some o → ¬ C.Bor q → H q = some o ∨ (L q ∧ (∀ ob u, o ≠ .frz ob u) ∧ ∃ ob, H q = some (.frz ob o))
  th : ∀ q, C.H0 q ≠ none → H q ≠ none
  lk : ∀ q, L q → ∃ ob o, H q = some (.frz ob o)
  wf : ∀ q o, C.F0 q = some o → C.H0 q ≠ none
  wa : ∀ i q, C.ad i = some q → C.H0 q ≠ none
  wb : ∀ i q, C.ad i = some q → C.F0 q = none
  fl : ∀ q ob o, H q = some (.frz ob o) → C.H0 q = some (.frz ob o)

def Own (C : Cc) (F H : Hp) (p : Addr) (d : Dat) : Prop := C.H0 p = none ∧ F p = none ∧ Cont F H p d
def Bow (C : Cc) (i : Nat) (F H : Hp) (p : Addr) (d : Dat) : Prop := C.ad i = some p ∧ F p = none ∧ Cont F H p d
def SlotOk (C : Cc) (F H : Hp) (i : Nat) (ov : Option V) : S → Prop
  | .f d => ∃ v, ov = some v ∧ Rep F v d
  | .o d => ∃ p, ov = some (.ref p) ∧ Own C F H p d
  | .b d => ∃ p, ov = some (.ref p) ∧ Bow C i F H p d
/-- the datum of an owned slot -/
def ownD (env : Env) (i : Nat) : Option Dat := match env[i]? with
  | some (some (.o d)) => some d
  | some (some (.b d)) => some d
  | _ => none
def IsO (env : Env) (i : Nat) : Prop := ∃ d, ownD env i = some d
structure Rl (L : Addr → Prop) (C : Cc) (F H : Hp) (σ : L2.St) (env : Env) : Prop where
  fr : Fr L C F H
  len : σ.length = env.length
  sl : ∀ i s, env[i]? = some (some s) → ∃ ov, σ[i]? = some ov ∧ SlotOk C F H i ov s
  nd : ∀ i j p, i ≠ j → IsO env i → IsO env j → σ[i]? = some (some (.ref p)) → σ[j]? = some (some (.ref p)) → False
def RVx (C : Cc) (F H : Hp) (σ : L2.St) (env : Env) (v : V) : Res → Prop
  | .f d => Rep F v d
  | .n d => ∃ p, v = .ref p ∧ Own C F H p d ∧ ∀ i, IsO env i → σ[i]? ≠ some (some (.ref p))
  | .l i => IsO env i ∧ σ[i]? = some (some v)

section
variable {L : Addr → Prop} {C : Cc} {F H F' H' : Hp} {σ : L2.St} {env : Env} {i : Nat} {d : Dat} {v : V} {p : Addr} {o : HO}
/-- an owned slot: its address and what stands there -/
theorem Rl.own (R : Rl L C F H σ env) (h : ownD env i = some d) : ∃ p, σ[i]? = some (some (.ref p)) ∧ F p = none ∧ Cont F H p d ∧ (C.H0 p = none ∨ C.Bor p) := by
  unfold ownD at h
  split at h
  · next e =>
    obtain ⟨ov, h1, p, h2, h3, h4, h5⟩ := R.sl _ _ e
    cases h; subst h2
    exact ⟨p, h1, h4, h5, .inl h3⟩
  · next e =>
    obtain ⟨ov, h1, p, h2, h3, h4, h5⟩ := R.sl _ _ e
    cases h; subst h2
    exact ⟨p, h1, h4, h5, .inr ⟨_, h3⟩⟩
  · cases h

/-- what grows by new objects -/
structure Gr (F H F' H' : Hp) : Prop where
  hx : Ex H H'
  fx : Ex F F'
  fn : ∀ q, H q ≠ none → F' q = F q ∨ (F q = none ∧ TupAt H' q)
  fz : Fz F' H'
  fl : ∀ q ob o, H' q = some (.frz ob o) → H q = some (.frz ob o)
theorem Gr.own (g : Gr F H F' H') (h : F p = none) (c : Cont F H p d) : F' p = none := by
  obtain ⟨o, ho⟩ := c.there
  rcases g.fn p (by rw [ho]; exact fun z => by cases z) with z | ⟨_, vs, z⟩
  · exact z.trans h
  · exact absurd ⟨vs, (ho.trans (g.hx p o ho).symm).trans z⟩ c.noT
theorem ex_eq {H H' : Hp} (e : Ex H H') {p : Addr} {o : HO} (h : H p = some o) : H' p = H p := (e p o h).trans h.symm
theorem Fr.grow (R : Fr L C F H) (g : Gr F H F' H') : Fr L C F' H' where
  fz := g.fz
  fn := fun q h => by
    rcases g.fn q (R.th q h) with z | ⟨z, t⟩
    · rw [z]
      exact (R.fn q h).imp id fun ⟨y, vs, t⟩ => ⟨y, vs, g.hx _ _ t⟩
    · rcases R.fn q h with y | ⟨y, _⟩
      · exact .inr ⟨y.symm.trans z, t⟩
      · exact .inr ⟨y, t⟩
  kp := fun q o h n => (R.kp q o h n).elim (fun z => .inl (g.hx _ _ z)) fun ⟨a, b, ob, z⟩ => .inr ⟨a, b, ob, g.hx _ _ z⟩
  th := fun q h => by
    cases e : H q with
    | none => exact absurd e (R.th q h)
    | some o => rw [g.hx _ _ e]; exact fun z => by cases z
  lk := fun q h => by
    obtain ⟨ob, o, z⟩ := R.lk q h
    exact ⟨ob, o, g.hx _ _ z⟩
  wf := R.wf
  wa := R.wa
  wb := R.wb
  fl := fun q ob o e => R.fl q ob o (g.fl q ob o e)
theorem Own.grow (h : Own C F H p d) (g : Gr F H F' H') : Own C F' H' p d := by
  obtain ⟨a, b, c⟩ := h
  obtain ⟨o, ho⟩ := c.there
  exact ⟨a, g.own b c, c.mono g.fx (ex_eq g.hx ho)⟩
theorem Rl.grow (R : Rl L C F H σ env) (g : Gr F H F' H') : Rl L C F' H' σ env where
  fr := R.fr.grow g
  len := R.len
  nd := R.nd
  sl := fun i s e => by
    obtain ⟨ov, h1, h2⟩ := R.sl i s e
    refine ⟨ov, h1, ?_⟩
    cases s with
    | f d => obtain ⟨v, e, r⟩ := h2; exact ⟨v, e, r.mono g.fx⟩
    | o d => obtain ⟨p, e, r⟩ := h2; exact ⟨p, e, r.grow g⟩
    | b d =>
      obtain ⟨p, e, a, b, c⟩ := h2
      obtain ⟨o, ho⟩ := c.there
      exact ⟨p, e, a, g.own b c, c.mono g.fx (ex_eq g.hx ho)⟩
theorem Fr.fz_eq (R : Fr L C F H) (h : H p = none) : F p = none := by
  cases e : F p with
  | none => rfl
  | some o =>
    rcases R.fz _ _ e with z | ⟨_, ob, z⟩
    · rw [h] at z; cases z
    · rw [h] at z; cases z
theorem Fr.new0 (R : Fr L C F H) (h : H p = none) : C.H0 p = none := by
  cases e : C.H0 p with
  | none => rfl
  | some o => exact absurd h (R.th p (by rw [e]; exact fun z => by cases z))
/-- a new frozen object -/
theorem Fr.grF (R : Fr L C F H) (h : H p = none) (o : HO) (nf : isFz o = false := by rfl) : Gr F H (upd F p o) (upd H p o) where
  hx := Ex.new h
  fx := Ex.new (R.fz_eq h)
  fn := fun q n => .inl (upd_ne fun z => by subst z; exact n h)
  fz := fun a u e => by
    by_cases z : a = p
    · subst z; rw [upd_same] at e ⊢; exact .inl e
    · rw [upd_ne z] at e ⊢; exact R.fz a u e
  fl := fun q ob u e => by
    by_cases z : q = p
    · subst z; rw [upd_same] at e; cases e; cases nf
    · rw [upd_ne z] at e; exact e
/-- a new owned object -/
theorem Fr.grO (R : Fr L C F H) (h : H p = none) (o : HO) (nf : isFz o = false := by rfl) : Gr F H F (upd H p o) where
  hx := Ex.new h
  fx := Ex.refl F
  fn := fun q n => .inl rfl
  fz := fun a u e => by
    have z : a ≠ p := fun z => by subst z; rw [R.fz_eq h] at e; cases e
    rw [upd_ne z]; exact R.fz a u e
  fl := fun q ob u e => by
    by_cases z : q = p
    · subst z; rw [upd_same] at e; cases e; cases nf
    · rw [upd_ne z] at e; exact e
theorem Gr.refl (R : Fr L C F H) : Gr F H F H := ⟨Ex.refl H, Ex.refl F, fun _ _ => .inl rfl, R.fz, fun _ _ _ e => e⟩
theorem Rl.not_none (R : Rl L C F H σ env) (h : H p = none) : IsO env i → σ[i]? ≠ some (some (.ref p)) := fun ⟨d, hd⟩ e => by
  obtain ⟨q, h1, h2, h3, _⟩ := R.own hd
  rw [h1] at e; cases e
  obtain ⟨o, ho⟩ := h3.there
  rw [ho] at h; cases h

/-- freezing an object that is the def's own (in no slot) -/
theorem Fr.freeze (R : Fr L C F H) (h0 : C.H0 p = none) (hf : F p = none) (ho : H p = some o) : Fr L C (upd F p o) H where
  fz := fun a u e => by
    by_cases z : a = p
    · subst z; rw [upd_same] at e; cases e; exact .inl ho
    · rw [upd_ne z] at e; exact R.fz a u e
  fn := fun q n => by
    rw [upd_ne fun z => by subst z; exact n h0]
    exact R.fn q n
  kp := R.kp
  th := R.th
  lk := R.lk
  wf := R.wf
  wa := R.wa
  wb := R.wb
  fl := R.fl
theorem ownD_o (h : ownD env i = some d) : env[i]? = some (some (.o d)) ∨ env[i]? = some (some (.b d)) := by
  unfold ownD at h
  split at h
  · next e => cases h; exact .inl e
  · next e => cases h; exact .inr e
  · cases h
theorem isO_o (h : env[i]? = some (some (.o d))) : IsO env i := ⟨d, by unfold ownD; rw [h]⟩
theorem isO_b (h : env[i]? = some (some (.b d))) : IsO env i := ⟨d, by unfold ownD; rw [h]⟩
theorem Rl.frz (R : Rl L C F H σ env) (hv : RVx C F H σ env v (.n d)) : ∃ F', Ex F F' ∧ Rl L C F' H σ env ∧ Rep F' v d := by
  obtain ⟨p, rfl, ⟨h0, hf, hc⟩, hn⟩ := hv
  obtain ⟨o, ho⟩ := hc.there
  refine ⟨upd F p o, Ex.new hf, ⟨R.fr.freeze h0 hf ho, R.len, fun i s e => ?_, R.nd⟩, hc.rep ho hf⟩
  obtain ⟨ov, h1, h2⟩ := R.sl i s e
  refine ⟨ov, h1, ?_⟩
  cases s with
  | f d => obtain ⟨v, e, r⟩ := h2; exact ⟨v, e, r.mono (Ex.new hf)⟩
  | o d' =>
    obtain ⟨q, e1, a, b, c⟩ := h2
    have nq : q ≠ p := fun z => by subst z; subst e1; exact hn i (isO_o e) h1
    exact ⟨q, e1, a, by rw [upd_ne nq]; exact b, c.mono (Ex.new hf) rfl⟩
  | b d' =>
    obtain ⟨q, e1, a, b, c⟩ := h2
    have nq : q ≠ p := fun z => by subst z; subst e1; exact hn i (isO_b e) h1
    exact ⟨q, e1, a, by rw [upd_ne nq]; exact b, c.mono (Ex.new hf) rfl⟩
theorem ownD_set_f {j : Nat} {d' e : Dat} (h : ownD (env.set i (some (.f e))) j = some d') : j ≠ i ∧ ownD env j = some d' := by
  by_cases z : j = i
  · subst z
    unfold ownD at h
    by_cases l : j < env.length
    · rw [List.getElem?_set_self l] at h; simp at h
    · rw [List.getElem?_eq_none (by rw [List.length_set]; omega)] at h; simp at h
  · refine ⟨z, ?_⟩
    unfold ownD at h ⊢
    rw [List.getElem?_set_ne (Ne.symm z)] at h
    exact h
/-- freezing a slot of the def's own -/
theorem Rl.frzSlot (R : Rl L C F H σ env) (h : env[i]? = some (some (.o d))) : ∃ F' v, Ex F F' ∧ σ[i]? = some (some v) ∧ Rl L C F' H σ (env.set i (some (.f d))) ∧ Rep F' v d := by
  obtain ⟨ov, hv, p, rfl, h0, hf, hc⟩ := R.sl _ _ h
  obtain ⟨o, ho⟩ := hc.there
  have il : i < env.length := by
    rcases Nat.lt_or_ge i env.length with z | z
    · exact z
    · rw [List.getElem?_eq_none z] at h; cases h
  refine ⟨upd F p o, .ref p, Ex.new hf, hv, ⟨R.fr.freeze h0 hf ho, by rw [List.length_set]; exact R.len, fun j s e => ?_, fun j k q njk ⟨x, hx⟩ ⟨y, hy⟩ => R.nd j k q njk ⟨x, (ownD_set_f hx).2⟩ ⟨y, (ownD_set_f hy).2⟩⟩, hc.rep ho hf⟩
  by_cases z : j = i
  · subst z
    rw [List.getElem?_set_self il] at e
    cases e
    exact ⟨_, hv, .ref p, rfl, hc.rep ho hf⟩
  · rw [List.getElem?_set_ne (Ne.symm z)] at e
    obtain ⟨ov, h1, h2⟩ := R.sl j s e
    refine ⟨ov, h1, ?_⟩
    cases s with
    | f d => obtain ⟨v, e, r⟩ := h2; exact ⟨v, e, r.mono (Ex.new hf)⟩
    | o d' =>
      obtain ⟨q, e1, a, b, c⟩ := h2
      have nq : q ≠ p := fun y => by subst y; subst e1; exact R.nd j i q z (isO_o e) (isO_o h) h1 hv
      exact ⟨q, e1, a, by rw [upd_ne nq]; exact b, c.mono (Ex.new hf) rfl⟩
    | b d' =>
      obtain ⟨q, e1, a, b, c⟩ := h2
      have nq : q ≠ p := fun y => by subst y; subst e1; exact R.nd j i q z (isO_b e) (isO_o h) h1 hv
      exact ⟨q, e1, a, by rw [upd_ne nq]; exact b, c.mono (Ex.new hf) rfl⟩
end
end DL

set_option Elab.async false
set_option linter.all false
set_option maxRecDepth 100000
set_option maxHeartbeats 2000000
namespace DL
open PySem PySem.Spec PyProof.Rows L2
variable [ClsV]

section
variable {L : Addr → Prop} {C : Cc} {F H F' H' : Hp} {σ : L2.St} {env : Env} {i : Nat} {d : Dat} {v : V} {p : Addr} {o : HO}
/-- what stands behind a value, its parts frozen -/
def Rep1 (F H : Hp) (v : V) : Dat → Prop
  | .tup ds => ∃ a vs, v = .ref a ∧ F a = some (.tup vs) ∧ H a = some (.tup vs) ∧ Reps F vs ds
  | .lst ds => ∃ a vs, v = .ref a ∧ H a = some (.lst vs) ∧ Reps F vs ds
  | .dk ds => ∃ a vs, v = .ref a ∧ Rd H a (.dK vs) ∧ RepK F vs ds
  | .dt ds => ∃ a vs, v = .ref a ∧ Rd H a (.dT vs) ∧ RepT F vs ds
  | .ins C ds => ∃ a dx vs, v = .ref a ∧ H a = some (.ins C dx vs) ∧ RepF F vs ds
  | d => Rep F v d
theorem Fz.ex {a : Addr} {o : HO} (z : Fz F H) (h : F a = some o) (n : isD o = false) : H a = some o := by
  rcases z a o h with e | ⟨e, _⟩
  · exact e
  · rw [n] at e; cases e
theorem Fz.rd {a : Addr} {o : HO} (z : Fz F H) (h : F a = some o) : Rd H a o := by
  rcases z a o h with e | ⟨_, ob, e⟩
  · exact .inl e
  · exact .inr ⟨ob, e⟩
theorem Rep.rep1 (z : Fz F H) (r : Rep F v d) : Rep1 F H v d := by
  cases r with
  | non => exact .non
  | bl b => exact .bl b
  | int i => exact .int i
  | str s => exact .str s
  | tup h r => exact ⟨_, _, rfl, h, z.ex h rfl, r⟩
  | lst h r => exact ⟨_, _, rfl, z.ex h rfl, r⟩
  | dk h r => exact ⟨_, _, rfl, z.rd h, r⟩
  | dt h r => exact ⟨_, _, rfl, z.rd h, r⟩
  | ins h r => exact ⟨_, _, _, rfl, z.ex h rfl, r⟩
  | raw v => exact .raw v
  | exc o h => exact .exc o h
  | excD o h h2 r => exact .excD o h h2 r
theorem Cont.rep1 (c : Cont F H p d) : Rep1 F H (.ref p) d := by
  cases d with
  | lst ds => obtain ⟨vs, h, r⟩ := c; exact ⟨_, _, rfl, h, r⟩
  | dk ds => obtain ⟨vs, h, r⟩ := c; exact ⟨_, _, rfl, .inl h, r⟩
  | dt ds => obtain ⟨vs, h, r⟩ := c; exact ⟨_, _, rfl, .inl h, r⟩
  | ins C ds => obtain ⟨dx, vs, h, r⟩ := c; exact ⟨_, _, _, rfl, h, r⟩
  | _ => exact c.elim
def view (env : Env) : Res → Option Dat
  | .f d => some d
  | .n d => some d
  | .l i => ownD env i
def fzR : Res → Res
  | .n d => .f d
  | r => r
/-- an argument's value -/
def RA (F : Hp) (σ : L2.St) (v : V) : Res → Prop
  | .f d => Rep F v d
  | .l i => σ[i]? = some (some v)
  | .n _ => False
theorem RA.mono {r : Res} (h : RA F σ v r) (e : Ex F F') : RA F' σ v r := by
  cases r with
  | f d => exact Rep.mono e h
  | l i => exact h
  | n d => exact h.elim
theorem RA.rep1 {r : Res} (R : Rl L C F H σ env) (h : RA F σ v r) (hd : view env r = some d) : Rep1 F H v d := by
  cases r with
  | f d' => cases hd; exact Rep.rep1 R.fr.fz h
  | n d' => exact h.elim
  | l i =>
    obtain ⟨p, h1, h2, h3, _⟩ := R.own hd
    have h' : σ[i]? = some (some v) := h
    rw [h1] at h'; cases h'
    exact h3.rep1
end
/-- what an expression gives, as RV, without more -/
def RV2 (C : Cc) (F H : Hp) (σ : L2.St) (env : Env) (v : V) : Res → Prop
  | .f d => Rep F v d
  | .n d => ∃ p, v = .ref p ∧ Own C F H p d ∧ ∀ i, IsO env i → σ[i]? ≠ some (some (.ref p))
  | .l i => σ[i]? = some (some v)
section
variable {L : Addr → Prop} {C : Cc} {F H F' H' : Hp} {σ : L2.St} {env : Env} {i : Nat} {d : Dat} {v : V} {p : Addr} {o : HO}
theorem Rl.fzv {r : Res} (R : Rl L C F H σ env) (h : RV2 C F H σ env v r) : ∃ F', Ex F F' ∧ Rl L C F' H σ env ∧ RA F' σ v (fzR r) := by
  cases r with
  | f d => exact ⟨F, Ex.refl F, R, h⟩
  | l i => exact ⟨F, Ex.refl F, R, h⟩
  | n d =>
    obtain ⟨F', e, R', r⟩ := R.frz (v := v) (d := d) h
    exact ⟨F', e, R', r⟩
end

abbrev XD := Str → Option (List (Str × Dat)) → Env → Prop
abbrev DE := Env → (Res → Env → Prop) → XD → Prop
abbrev DT := Env → (Bool → Env → Prop) → XD → Prop
abbrev DA := Env → (List Res → Env → Prop) → XD → Prop
/-- the fields of an exception -/
def XF (F : Hp) : Option Addr → Option (List (Str × Dat)) → Prop
  | none, none => True
  | some a, some fs => ∃ vs, F a = some (.xd vs) ∧ RepF F vs fs
  | _, _ => False
def XOk (L : Addr → Prop) (C : Cc) (F : Hp) (E : L2.St → XK) (X : XD) : Prop :=
  ∀ F' H' σ' env' cls od fds, Ex F F' → Rl L C F' H' σ' env' → XF F' od fds → ClsV.ok cls → X cls fds env' → E σ' (ClsV.v cls) od H'
theorem XOk.mono {L : Addr → Prop} {C : Cc} {F F' : Hp} {E : L2.St → XK} {X : XD} (h : XOk L C F E X) (e : Ex F F') : XOk L C F' E X := fun F2 H' σ' env' cls od fds e2 => h F2 H' σ' env' cls od fds (e.trans e2)

/-! ### what reads an expression at the level of data -/
def SE (E : L2.St → XK) (te : TE) (de : DE) : Prop := ∀ (L : Addr → Prop) (C : Cc) (F H : Hp) (σ : L2.St) (env : Env) (Q : VK) (Qd : Res → Env → Prop) (X : XD), Rl L C F H σ env → de env Qd X →
  (∀ F' H' v r env', Ex F F' → Rl L C F' H' σ env' → RV2 C F' H' σ env' v r → Qd r env' → Q v H') → XOk L C F E X → te σ H Q
def ST (E : L2.St → XK) (tt : TT) (dt : DT) : Prop := ∀ (L : Addr → Prop) (C : Cc) (F H : Hp) (σ : L2.St) (env : Env) (Q : Bool → Hp → Prop) (Qd : Bool → Env → Prop) (X : XD), Rl L C F H σ env → dt env Qd X →
  (∀ F' H' b env', Ex F F' → Rl L C F' H' σ env' → Qd b env' → Q b H') → XOk L C F E X → tt σ H Q
inductive RAs (F : Hp) (σ : L2.St) : List V → List Res → Prop
  | nil : RAs F σ [] []
  | cons {v : V} {r : Res} {vs : List V} {rs : List Res} : RA F σ v r → RAs F σ vs rs → RAs F σ (v :: vs) (r :: rs)
def SA (E : L2.St → XK) (ta : TA) (da : DA) : Prop := ∀ (L : Addr → Prop) (C : Cc) (F H : Hp) (σ : L2.St) (env : Env) (Q : List V → Hp → Prop) (Qd : List Res → Env → Prop) (X : XD), Rl L C F H σ env → da env Qd X →
  (∀ F' H' vs rs env', Ex F F' → Rl L C F' H' σ env' → RAs F' σ vs rs → Qd rs env' → Q vs H') → XOk L C F E X → ta σ H Q
theorem RAs.mono {F F' : Hp} {σ : L2.St} (e : Ex F F') : ∀ {vs : List V} {rs : List Res}, RAs F σ vs rs → RAs F' σ vs rs
  | _, _, .nil => .nil
  | _, _, .cons h t => .cons (h.mono e) (t.mono e)

structure DEx (X : Cx) (E : L2.St → XK) (e : Expr) (de : DE) : Prop where
  ex : ∃ te, PE X e te ∧ SE E te de
structure DTx (X : Cx) (E : L2.St → XK) (e : Expr) (dt : DT) : Prop where
  ex : ∃ tt, PT X e tt ∧ ST E tt dt
structure DWx (X : Cx) (E : L2.St → XK) (e : Expr) (dt : DT) : Prop where
  ex : ∃ tt, PW X e tt ∧ ST E tt dt
structure DAx (X : Cx) (E : L2.St → XK) (es : List Expr) (da : DA) : Prop where
  ex : ∃ ta, PA X es ta ∧ SA E ta da

/-- by a bool -/
def IfB (b : Bool) (A B : Prop) : Prop := (b = true → A) ∧ (b = false → B)
theorem IfB.t {A B : Prop} (h : IfB true A B) : A := h.1 rfl
theorem IfB.f {A B : Prop} (h : IfB false A B) : B := h.2 rfl
/-- an item that is there -/
structure Got {α : Type} (o : Option α) (k : α → Prop) : Prop where
  ex : ∃ a, o = some a ∧ k a
/-- a list of ints, of bools -/
structure IntsL (l : List Dat) (k : List Int → Prop) : Prop where
  ex : ∃ ns : List Int, l = ns.map Dat.int ∧ k ns
structure BlsL (l : List Dat) (k : List Bool → Prop) : Prop where
  ex : ∃ ns : List Bool, l = ns.map Dat.bl ∧ k ns
def withD {α : Type} : Option α → (α → Prop) → Prop
  | some a, k => k a
  | none, _ => False
theorem withD_of {α : Type} {o : Option α} {k : α → Prop} (h : withD o k) : ∃ a, o = some a ∧ k a := by
  cases o with
  | none => exact h.elim
  | some a => exact ⟨a, rfl, h⟩

section
variable {X : Cx} {E : L2.St → XK} {e a b c : Expr} {es : List Expr} {pos : Pos} {da db de : DE} {dt du : DT} {dr : DA} {d : Dat} {v : V}
/-! ### names and constants -/
def dVar (i : Nat) : DE := fun env Q _ => match env[i]? with
  | some (some (.f d)) => Q (.f d) env
  | some (some (.o _)) => Q (.l i) env
  | some (some (.b _)) => Q (.l i) env
  | _ => False
theorem se_var {i : Nat} : SE E (tVar i) (dVar i) := fun L C F H σ env Q Qd Xd R h k _ => by
  unfold dVar at h
  split at h
  · next d e =>
    obtain ⟨ov, h1, v, h2, h3⟩ := R.sl _ _ e
    subst h2
    exact ⟨v, h1, k F H v (.f d) env (Ex.refl F) R h3 h⟩
  · next e =>
    obtain ⟨ov, h1, p, h2, h3⟩ := R.sl _ _ e
    subst h2
    exact ⟨.ref p, h1, k F H _ (.l i) env (Ex.refl F) R h1 h⟩
  · next e =>
    obtain ⟨ov, h1, p, h2, h3⟩ := R.sl _ _ e
    subst h2
    exact ⟨.ref p, h1, k F H _ (.l i) env (Ex.refl F) R h1 h⟩
  · exact h.elim
theorem dv (i : Nat) {x : Str} {pos : Pos} (hN : X.N[i]? = some x := by rfl) (hv : Vis X.env.scope x := by first | exact Or.inl rfl | exact Or.inr (Or.inl rfl) | exact Or.inr (Or.inr rfl)) (hd : (x == ("__debug__" : Str)) = false := by decide)
    (hcd : (x == ("__classdict__" : Str)) = false := by decide) : DEx X E (.Name x pos) (dVar i) := ⟨_, pe_var hN hv hd hcd, se_var⟩
def dC (d : Dat) : DE := fun env Q _ => Q (.f d) env
theorem se_c (h : ∀ F, Rep F v d) : SE E (tC v) (dC d) := fun L C F H σ env Q Qd Xd R q k _ => k F H v (.f d) env (Ex.refl F) R (h F) q
theorem de_int {i j pos} : DEx X E (.Constant (.int i) j pos) (dC (.int i)) := ⟨_, pe_int, se_c fun _ => .int i⟩
theorem de_bl {i j pos} : DEx X E (.Constant (.bool i) j pos) (dC (.bl i)) := ⟨_, pe_bl, se_c fun _ => .bl i⟩
theorem de_non {j pos} : DEx X E (.Constant .none j pos) (dC .non) := ⟨_, pe_non, se_c fun _ => .non⟩
theorem de_str {x j pos} : DEx X E (.Constant (.str x) j pos) (dC (.str x)) := ⟨_, pe_str, se_c fun _ => .str x⟩
/-- a module's number or text -/
theorem de_glob {x : Str} {u : Value} {pos : Pos} (v : V) (d : Dat) (hg : Gl X x) (hm : X.mg x = some u) (r : RelV v u) (hr : ∀ F, Rep F v d) (hd : (x == ("__debug__" : Str)) = false := by decide) : DEx X E (.Name x pos) (dC d) := ⟨_, pe_glob hg hm r hd, se_c hr⟩
theorem de_bltn {x : Str} {u : Value} {pos : Pos} (v : V) (hg : Gl X x) (hm : X.mg x = none) (hv : bootBuiltins x = some u) (r : RelV v u) (hn : x ≠ "__name__" := by decide) (hd : (x == ("__debug__" : Str)) = false := by decide) : DEx X E (.Name x pos) (dC (.raw v)) :=
  ⟨_, pe_bltn hg hm hv r hn hd, se_c fun _ => .raw v⟩

/-! ### operators -/
/-- what an operation gives: H is the heap ahead of it -/
def RN (C : Cc) (H F' H' : Hp) (v : V) : Res → Prop
  | .f d => Rep F' v d
  | .n d => ∃ p, v = .ref p ∧ H p = none ∧ Own C F' H' p d
  | .l _ => False
theorem RN.rv {L : Addr → Prop} {C : Cc} {F H F' H' : Hp} {σ : L2.St} {env : Env} {r : Res} (R : Rl L C F H σ env) (h : RN C H F' H' v r) : RV2 C F' H' σ env v r := by
  cases r with
  | f d => exact h
  | l i => exact h.elim
  | n d =>
    obtain ⟨p, e, hp, o⟩ := h
    exact ⟨p, e, o, fun i => R.not_none hp⟩
abbrev G1 := Dat → (Res → Prop) → Prop
abbrev G2 := Dat → Dat → (Res → Prop) → Prop
abbrev GA := List Dat → (Res → Prop) → Prop
def Op1 (r : V → Hp → VK → Prop) (g : G1) : Prop := ∀ (L : Addr → Prop) (C : Cc) (F H : Hp) (x : V) (d : Dat) (Q : VK) (Qd : Res → Prop), Fr L C F H → Rep1 F H x d → g d Qd →
  (∀ F' H' v r, Gr F H F' H' → RN C H F' H' v r → Qd r → Q v H') → r x H Q
def Op2 (r : R2) (g : G2) : Prop := ∀ (L : Addr → Prop) (C : Cc) (F H : Hp) (x y : V) (dx dy : Dat) (Q : VK) (Qd : Res → Prop), Fr L C F H → Rep1 F H x dx → Rep1 F H y dy → g dx dy Qd →
  (∀ F' H' v r, Gr F H F' H' → RN C H F' H' v r → Qd r → Q v H') → r x y H Q
inductive Rep1s (F H : Hp) : List V → List Dat → Prop
  | nil : Rep1s F H [] []
  | cons {v : V} {d : Dat} {vs : List V} {ds : List Dat} : Rep1 F H v d → Rep1s F H vs ds → Rep1s F H (v :: vs) (d :: ds)
def OpA (r : List V → Hp → VK → Prop) (g : GA) : Prop := ∀ (L : Addr → Prop) (C : Cc) (F H : Hp) (xs : List V) (ds : List Dat) (Q : VK) (Qd : Res → Prop), Fr L C F H → Rep1s F H xs ds → g ds Qd →
  (∀ F' H' v r, Gr F H F' H' → RN C H F' H' v r → Qd r → Q v H') → r xs H Q
def dUn (g : G1) (da : DE) : DE := fun env Q X => da env (fun r env1 => withD (view env1 (fzR r)) fun d => g d fun r => Q r env1) X
def dOp (g : G2) (da db : DE) : DE := fun env Q X => da env (fun r env1 => db env1 (fun r' env2 => withD (view env2 (fzR r)) fun d => withD (view env2 (fzR r')) fun d' => g d d' fun r => Q r env2) X) X
theorem se_un {r : V → Hp → VK → Prop} {g : G1} {ta : TE} (ho : Op1 r g) (ha : SE E ta da) : SE E (tUn r ta) (dUn g da) := fun L C F H σ env Q Qd Xd R h k x =>
  ha L C F H σ env _ _ Xd R h (fun F1 H1 v1 r1 env1 e1 R1 v1r h1 => by
    obtain ⟨d, hd, h1⟩ := withD_of h1
    obtain ⟨F2, e2, R2, a2⟩ := R1.fzv v1r
    exact ho L C F2 H1 v1 d Q _ R2.fr (a2.rep1 R2 hd) h1 fun F3 H3 v3 r3 g3 n3 q3 => k F3 H3 v3 r3 env1 (e1.trans (e2.trans g3.fx)) (R2.grow g3) (n3.rv R2) q3) x
theorem se_op {r : R2} {g : G2} {ta tb : TE} (ho : Op2 r g) (ha : SE E ta da) (hb : SE E tb db) : SE E (tOp r ta tb) (dOp g da db) := fun L C F H σ env Q Qd Xd R h k x =>
  ha L C F H σ env _ _ Xd R h (fun F1 H1 v1 r1 env1 e1 R1 v1r h1 => by
    obtain ⟨F2, e2, R2, a2⟩ := R1.fzv v1r
    refine hb L C F2 H1 σ env1 _ _ Xd R2 h1 (fun F3 H3 v3 r3 env3 e3 R3 v3r h3 => ?_) (x.mono (e1.trans e2))
    obtain ⟨F4, e4, R4, a4⟩ := R3.fzv v3r
    obtain ⟨d1, hd1, h3⟩ := withD_of h3
    obtain ⟨d2, hd2, h3⟩ := withD_of h3
    exact ho L C F4 H3 v1 v3 d1 d2 Q _ R4.fr ((a2.mono (e3.trans e4)).rep1 R4 hd1) (a4.rep1 R4 hd2) h3 fun F5 H5 v5 r5 g5 n5 q5 =>
      k F5 H5 v5 r5 env3 (e1.trans (e2.trans (e3.trans (e4.trans g5.fx)))) (R4.grow g5) (n5.rv R4) q5) x
theorem de_op {op : Operator} {r : R2} {g : G2} (ho : OpR X (binaryOp op) r) (hg : Op2 r g) (ha : DEx X E a da) (hb : DEx X E b db) : DEx X E (.BinOp a op b pos) (dOp g da db) := by
  obtain ⟨ta, pa, sa⟩ := ha.ex
  obtain ⟨tb, pb, sb⟩ := hb.ex
  exact ⟨_, pe_op ho pa pb, se_op hg sa sb⟩
theorem de_un {op : UnaryOp} {r : V → Hp → VK → Prop} {g : G1} (ho : UnR X (unaryOp op) r) (hg : Op1 r g) (ha : DEx X E a da) : DEx X E (.UnaryOp op a pos) (dUn g da) := by
  obtain ⟨ta, pa, sa⟩ := ha.ex
  exact ⟨_, pe_un ho pa, se_un hg sa⟩
theorem de_cmp {op : CmpOp} {r : R2} {g : G2} (ho : OpR X (compareOp op) r) (hg : Op2 r g) (ha : DEx X E a da) (hb : DEx X E b db) (hm : behindInMarks op b = false := by first | exact nomark _ | rfl) : DEx X E (.Compare a [op] [b] pos) (dOp g da db) := by
  obtain ⟨ta, pa, sa⟩ := ha.ex
  obtain ⟨tb, pb, sb⟩ := hb.ex
  exact ⟨_, pe_cmpR ho pa pb hm, se_op hg sa sb⟩
/-- an expression as a test that gives a bool -/
def dB (da : DE) : DT := fun env Q X => da env (fun r env1 => match r with
  | .f (.bl b) => Q b env1
  | _ => False) X
theorem st_B {ta : TE} (ha : SE E ta da) : ST E (tB ta) (dB da) := fun L C F H σ env Q Qd Xd R h k x =>
  ha L C F H σ env _ _ Xd R h (fun F1 H1 v1 r1 env1 e1 R1 v1r h1 => by
    split at h1
    · next b =>
      cases v1r
      exact ⟨b, rfl, k F1 H1 b env1 e1 R1 h1⟩
    · exact h1.elim) x
theorem dt_cmp {op : CmpOp} {r : R2} {g : G2} (ho : OpR X (compareOp op) r) (hg : Op2 r g) (ha : DEx X E a da) (hb : DEx X E b db) (hm : behindInMarks op b = false := by first | exact nomark _ | rfl) : DTx X E (.Compare a [op] [b] pos) (dB (dOp g da db)) := by
  obtain ⟨ta, pa, sa⟩ := ha.ex
  obtain ⟨tb, pb, sb⟩ := hb.ex
  exact ⟨_, pt_cmpR ho pa pb hm, st_B (se_op hg sa sb)⟩
theorem dt_val (ha : DEx X E a da) (he : ∀ whole, isTrue a X.env whole = (do let v ← whole; standAt a.pos; holding [v] (truthy v)) := by intro _; rfl) : DTx X E a (dB da) := by
  obtain ⟨ta, pa, sa⟩ := ha.ex
  exact ⟨_, pt_val pa he, st_B sa⟩

/-! ### and, or, not, if -/
def dAnd (dt du : DT) : DT := fun env Q X => dt env (fun c env1 => IfB c (du env1 Q X) (Q false env1)) X
def dOr (dt du : DT) : DT := fun env Q X => dt env (fun c env1 => IfB c (Q true env1) (du env1 Q X)) X
def dNot (dt : DT) : DT := fun env Q X => dt env (fun c env1 => Q (!c) env1) X
theorem st_and {t u : TT} (h1 : ST E t dt) (h2 : ST E u du) : ST E (tAnd t u) (dAnd dt du) := fun L C F H σ env Q Qd Xd R h k x =>
  h1 L C F H σ env _ _ Xd R h (fun F1 H1 b env1 e1 R1 q1 => by
    cases b with
    | true => exact h2 L C F1 H1 σ env1 Q Qd Xd R1 q1.t (fun F2 H2 b2 env2 e2 => k F2 H2 b2 env2 (e1.trans e2)) (x.mono e1)
    | false => exact k F1 H1 false env1 e1 R1 q1.f) x
theorem st_or {t u : TT} (h1 : ST E t dt) (h2 : ST E u du) : ST E (tOr t u) (dOr dt du) := fun L C F H σ env Q Qd Xd R h k x =>
  h1 L C F H σ env _ _ Xd R h (fun F1 H1 b env1 e1 R1 q1 => by
    cases b with
    | false => exact h2 L C F1 H1 σ env1 Q Qd Xd R1 q1.f (fun F2 H2 b2 env2 e2 => k F2 H2 b2 env2 (e1.trans e2)) (x.mono e1)
    | true => exact k F1 H1 true env1 e1 R1 q1.t) x
theorem st_not {t : TT} (h1 : ST E t dt) : ST E (tNot t) (dNot dt) := fun L C F H σ env Q Qd Xd R h k x =>
  h1 L C F H σ env _ _ Xd R h (fun F1 H1 b env1 e1 R1 q1 => k F1 H1 (!b) env1 e1 R1 q1) x
variable {rest : List Expr}
theorem DWx.t (h : DWx X E e dt) : DTx X E e dt := by
  obtain ⟨t, p, s⟩ := h.ex
  exact ⟨t, p.pt, s⟩
theorem dw_and1 (ha : DTx X E a dt) : DWx X E (.BoolOp .And [a] pos) dt := by
  obtain ⟨t, p, s⟩ := ha.ex
  exact ⟨t, pw_and1 p, s⟩
theorem dw_or1 (ha : DTx X E a dt) : DWx X E (.BoolOp .Or [a] pos) dt := by
  obtain ⟨t, p, s⟩ := ha.ex
  exact ⟨t, pw_or1 p, s⟩
theorem dw_and (ha : DTx X E a dt) (hb : DWx X E (.BoolOp .And (b :: rest) pos) du) : DWx X E (.BoolOp .And (a :: b :: rest) pos) (dAnd dt du) := by
  obtain ⟨t, p, s⟩ := ha.ex
  obtain ⟨t', p', s'⟩ := hb.ex
  exact ⟨_, pw_and p p', st_and s s'⟩
theorem dw_or (ha : DTx X E a dt) (hb : DWx X E (.BoolOp .Or (b :: rest) pos) du) : DWx X E (.BoolOp .Or (a :: b :: rest) pos) (dOr dt du) := by
  obtain ⟨t, p, s⟩ := ha.ex
  obtain ⟨t', p', s'⟩ := hb.ex
  exact ⟨_, pw_or p p', st_or s s'⟩
theorem dt_not (ha : DTx X E a dt) : DTx X E (.UnaryOp .Not a pos) (dNot dt) := by
  obtain ⟨t, p, s⟩ := ha.ex
  exact ⟨_, pt_not p, st_not s⟩
def dAndV (da db : DE) : DE := fun env Q X => dB da env (fun c env1 => IfB c (db env1 Q X) (Q (.f (.bl false)) env1)) X
def dOrV (da db : DE) : DE := fun env Q X => dB da env (fun c env1 => IfB c (Q (.f (.bl true)) env1) (db env1 Q X)) X
def dNotV (da : DE) : DE := fun env Q X => dB da env (fun c env1 => Q (.f (.bl (!c))) env1) X
def dIf (dt : DT) (da db : DE) : DE := fun env Q X => dt env (fun c env1 => IfB c (da env1 Q X) (db env1 Q X)) X
theorem se_andV {ta tb : TE} (h1 : SE E ta da) (h2 : SE E tb db) : SE E (tAndV ta tb) (dAndV da db) := fun L C F H σ env Q Qd Xd R h k x =>
  st_B h1 L C F H σ env _ _ Xd R h (fun F1 H1 b env1 e1 R1 q1 => by
    cases b with
    | true => exact h2 L C F1 H1 σ env1 Q Qd Xd R1 q1.t (fun F2 H2 b2 r2 env2 e2 => k F2 H2 b2 r2 env2 (e1.trans e2)) (x.mono e1)
    | false => exact k F1 H1 (.bl false) (.f (.bl false)) env1 e1 R1 (Rep.bl false) q1.f) x
theorem se_orV {ta tb : TE} (h1 : SE E ta da) (h2 : SE E tb db) : SE E (tOrV ta tb) (dOrV da db) := fun L C F H σ env Q Qd Xd R h k x =>
  st_B h1 L C F H σ env _ _ Xd R h (fun F1 H1 b env1 e1 R1 q1 => by
    cases b with
    | false => exact h2 L C F1 H1 σ env1 Q Qd Xd R1 q1.f (fun F2 H2 b2 r2 env2 e2 => k F2 H2 b2 r2 env2 (e1.trans e2)) (x.mono e1)
    | true => exact k F1 H1 (.bl true) (.f (.bl true)) env1 e1 R1 (Rep.bl true) q1.t) x
theorem se_notV {ta : TE} (h1 : SE E ta da) : SE E (tNotV ta) (dNotV da) := fun L C F H σ env Q Qd Xd R h k x =>
  st_B h1 L C F H σ env _ _ Xd R h (fun F1 H1 b env1 e1 R1 q1 => k F1 H1 (.bl (!b)) (.f (.bl (!b))) env1 e1 R1 (Rep.bl _) q1) x
theorem se_if {t : TT} {ta tb : TE} (h : ST E t dt) (h1 : SE E ta da) (h2 : SE E tb db) : SE E (tIf t ta tb) (dIf dt da db) := fun L C F H σ env Q Qd Xd R hh k x =>
  h L C F H σ env _ _ Xd R hh (fun F1 H1 b env1 e1 R1 q1 => by
    cases b with
    | true => exact h1 L C F1 H1 σ env1 Q Qd Xd R1 q1.t (fun F2 H2 b2 r2 env2 e2 => k F2 H2 b2 r2 env2 (e1.trans e2)) (x.mono e1)
    | false => exact h2 L C F1 H1 σ env1 Q Qd Xd R1 q1.f (fun F2 H2 b2 r2 env2 e2 => k F2 H2 b2 r2 env2 (e1.trans e2)) (x.mono e1)) x
theorem de_one {op} (h : DEx X E a da) : DEx X E (.BoolOp op [a] pos) da := by
  obtain ⟨t, p, s⟩ := h.ex
  exact ⟨_, pe_one p, s⟩
theorem de_and (ha : DEx X E a da) (hb : DEx X E (.BoolOp .And (b :: rest) pos) db) : DEx X E (.BoolOp .And (a :: b :: rest) pos) (dAndV da db) := by
  obtain ⟨t, p, s⟩ := ha.ex
  obtain ⟨t', p', s'⟩ := hb.ex
  exact ⟨_, pe_and p p', se_andV s s'⟩
theorem de_or (ha : DEx X E a da) (hb : DEx X E (.BoolOp .Or (b :: rest) pos) db) : DEx X E (.BoolOp .Or (a :: b :: rest) pos) (dOrV da db) := by
  obtain ⟨t, p, s⟩ := ha.ex
  obtain ⟨t', p', s'⟩ := hb.ex
  exact ⟨_, pe_or p p', se_orV s s'⟩
theorem de_not (ha : DEx X E a da) : DEx X E (.UnaryOp .Not a pos) (dNotV da) := by
  obtain ⟨t, p, s⟩ := ha.ex
  exact ⟨_, pe_not p, se_notV s⟩
theorem de_if (hc : DTx X E c dt) (ha : DEx X E a da) (hb : DEx X E b db) : DEx X E (.IfExp c a b pos) (dIf dt da db) := by
  obtain ⟨t0, p0, s0⟩ := hc.ex
  obtain ⟨t, p, s⟩ := ha.ex
  obtain ⟨t', p', s'⟩ := hb.ex
  exact ⟨_, pe_ifExp p0 p p', se_if s0 s s'⟩

/-! ### arguments, displays, built-ins -/
def dNil : DA := fun env Q _ => Q [] env
def dCons (da : DE) (dr : DA) : DA := fun env Q X => da env (fun r env1 => dr env1 (fun rs env2 => Q (fzR r :: rs) env2) X) X
theorem sa_nil : SA E tNil dNil := fun L C F H σ env Q Qd Xd R h k x => k F H [] [] env (Ex.refl F) R .nil h
theorem sa_cons {ta : TE} {tr : TA} (ha : SE E ta da) (hr : SA E tr dr) : SA E (tCons ta tr) (dCons da dr) := fun L C F H σ env Q Qd Xd R h k x =>
  ha L C F H σ env _ _ Xd R h (fun F1 H1 v1 r1 env1 e1 R1 v1r h1 => by
    obtain ⟨F2, e2, R2, a2⟩ := R1.fzv v1r
    exact hr L C F2 H1 σ env1 _ _ Xd R2 h1 (fun F3 H3 vs rs env3 e3 R3 a3 h3 => k F3 H3 _ _ env3 (e1.trans (e2.trans e3)) R3 (.cons (a2.mono e3) a3) h3) (x.mono (e1.trans e2))) x
theorem da_nil : DAx X E [] dNil := ⟨_, pa_nil, sa_nil⟩
theorem da_cons (ha : DEx X E e da) (hr : DAx X E es dr) (hs : starEach (e :: es) X.env = (false, eval e X.env) :: starEach es X.env := by rfl) : DAx X E (e :: es) (dCons da dr) := by
  obtain ⟨t, p, s⟩ := ha.ex
  obtain ⟨t', p', s'⟩ := hr.ex
  exact ⟨_, pa_cons p p' hs, sa_cons s s'⟩
def views (env : Env) : List Res → Option (List Dat)
  | [] => some []
  | r :: rs => match view env r, views env rs with
    | some d, some ds => some (d :: ds)
    | _, _ => none
theorem RAs.rep1 {L : Addr → Prop} {C : Cc} {F H : Hp} {σ : L2.St} {env : Env} (R : Rl L C F H σ env) : ∀ {vs : List V} {rs : List Res} {ds : List Dat}, RAs F σ vs rs → views env rs = some ds → Rep1s F H vs ds
  | _, _, ds, .nil, h => by cases h; exact .nil
  | _, _, ds, .cons a t, h => by
    unfold views at h
    split at h
    · next d ds' e1 e2 => cases h; exact .cons (a.rep1 R e1) (RAs.rep1 R t e2)
    · cases h
def dCB (g : GA) (dr : DA) : DE := fun env Q X => dr env (fun rs env1 => withD (views env1 rs) fun ds => g ds fun r => Q r env1) X
theorem se_cb {r : List V → Hp → VK → Prop} {g : GA} {ta : TA} (ho : OpA r g) (ha : SA E ta dr) : SE E (tCB r ta) (dCB g dr) := fun L C F H σ env Q Qd Xd R h k x =>
  ha L C F H σ env _ _ Xd R h (fun F1 H1 vs rs env1 e1 R1 v1r h1 => by
    obtain ⟨ds, hd, h1⟩ := withD_of h1
    exact ho L C F1 H1 vs ds Q _ R1.fr (v1r.rep1 R1 hd) h1 fun F3 H3 v3 r3 g3 n3 q3 => k F3 H3 v3 r3 env1 (e1.trans g3.fx) (R1.grow g3) (n3.rv R1) q3) x
theorem de_callB {x : Str} {id : String} {r : List V → Hp → VK → Prop} {g : GA} {p : Pos} (hc : CallR X (.builtin id) r) (hg : OpA r g) (hgl : Gl X x) (hm : X.mg x = none) (hv : bootBuiltins x = some (.builtin id)) (ha : DAx X E (e :: es) dr) (hn : x ≠ "__name__" := by decide) (hdb : (x == ("__debug__" : Str)) = false := by decide)
    (he : starEach (e :: es) X.env = (false, eval e X.env) :: starEach es X.env := by rfl) (hpl : (backTo pos (starEach es X.env)).any (·.1) = false := by rfl) : DEx X E (.Call (.Name x p) (e :: es) [] pos) (dCB g dr) := by
  obtain ⟨t, pa, s⟩ := ha.ex
  exact ⟨_, pe_callB hc hgl hm hv pa hn hdb he hpl, se_cb hg s⟩
theorem de_callTy {x : Str} {T : String} {r : List V → Hp → VK → Prop} {g : GA} {p : Pos} (hc : CallR X (.type T) r) (hg : OpA r g) (hgl : Gl X x) (hm : X.mg x = none) (hv : bootBuiltins x = some (.type T)) (ha : DAx X E (e :: es) dr) (hn : x ≠ "__name__" := by decide) (hdb : (x == ("__debug__" : Str)) = false := by decide)
    (he : starEach (e :: es) X.env = (false, eval e X.env) :: starEach es X.env := by rfl) (hpl : (backTo pos (starEach es X.env)).any (·.1) = false := by rfl) : DEx X E (.Call (.Name x p) (e :: es) [] pos) (dCB g dr) := by
  obtain ⟨t, pa, s⟩ := ha.ex
  exact ⟨_, pe_callTy hc hgl hm hv pa hn hdb he hpl, se_cb hg s⟩
end
end DL

set_option Elab.async false
set_option linter.all false
set_option maxRecDepth 100000
set_option maxHeartbeats 2000000
namespace DL
open PySem PySem.Spec PyProof.Rows L2
variable [ClsV]

section
variable {L : Addr → Prop} {C : Cc} {F H F' H' : Hp} {σ : L2.St} {env : Env} {i j : Nat} {d d' : Dat} {v : V} {p : Addr} {o : HO}
theorem get_set_cases {α : Type} {l : List α} {i j : Nat} {a b : α} (h : (l.set i a)[j]? = some b) : (j = i ∧ b = a ∧ i < l.length) ∨ (j ≠ i ∧ l[j]? = some b) := by
  by_cases z : j = i
  · subst z
    by_cases hl : j < l.length
    · rw [List.getElem?_set_self hl] at h; cases h; exact .inl ⟨rfl, rfl, hl⟩
    · rw [List.getElem?_eq_none (by rw [List.length_set]; omega)] at h; cases h
  · rw [List.getElem?_set_ne (Ne.symm z)] at h
    exact .inr ⟨z, h⟩
theorem isO_of {s : S} (h : env[i]? = some (some s)) (n : ∀ d, s ≠ .f d) : IsO env i := by
  cases s with
  | f d => exact absurd rfl (n d)
  | o d => exact isO_o h
  | b d => exact isO_b h
theorem isO_get (h : IsO env i) : ∃ s, env[i]? = some (some s) ∧ ∀ d, s ≠ .f d := by
  obtain ⟨d, h⟩ := h
  rcases ownD_o h with e | e
  · exact ⟨_, e, fun _ => by simp⟩
  · exact ⟨_, e, fun _ => by simp⟩
theorem isO_set {s : S} (h : IsO (env.set i (some s)) j) : (j = i ∧ ∀ d, s ≠ .f d) ∨ (j ≠ i ∧ IsO env j) := by
  obtain ⟨s', h1, h2⟩ := isO_get h
  rcases get_set_cases h1 with ⟨z, e, _⟩ | ⟨z, e⟩
  · cases e; exact .inl ⟨z, h2⟩
  · exact .inr ⟨z, isO_of e h2⟩
/-- a frozen datum is stored -/
theorem Rl.setF (R : Rl L C F H σ env) (r : Rep F v d) (i : Nat) : Rl L C F H (σ.set i (some v)) (env.set i (some (.f d))) where
  fr := R.fr
  len := by rw [List.length_set, List.length_set]; exact R.len
  sl := fun j s h => by
    rcases get_set_cases h with ⟨z, e, hl⟩ | ⟨z, e⟩
    · cases e; subst z
      exact ⟨some v, List.getElem?_set_self (by rw [R.len]; exact hl), v, rfl, r⟩
    · obtain ⟨ov, h1, h2⟩ := R.sl j s e
      exact ⟨ov, by rw [List.getElem?_set_ne (Ne.symm z)]; exact h1, h2⟩
  nd := fun a b q n ha hb ea eb => by
    rcases isO_set ha with ⟨_, z⟩ | ⟨za, ha⟩
    · exact absurd rfl (z d)
    rcases isO_set hb with ⟨_, z⟩ | ⟨zb, hb⟩
    · exact absurd rfl (z d)
    rw [List.getElem?_set_ne (Ne.symm za)] at ea
    rw [List.getElem?_set_ne (Ne.symm zb)] at eb
    exact R.nd a b q n ha hb ea eb
/-- a new object is stored -/
theorem Rl.setO (R : Rl L C F H σ env) (r : Own C F H p d) (hn : ∀ i, IsO env i → σ[i]? ≠ some (some (.ref p))) (i : Nat) : Rl L C F H (σ.set i (some (.ref p))) (env.set i (some (.o d))) where
  fr := R.fr
  len := by rw [List.length_set, List.length_set]; exact R.len
  sl := fun j s h => by
    rcases get_set_cases h with ⟨z, e, hl⟩ | ⟨z, e⟩
    · cases e; subst z
      exact ⟨some (.ref p), List.getElem?_set_self (by rw [R.len]; exact hl), p, rfl, r⟩
    · obtain ⟨ov, h1, h2⟩ := R.sl j s e
      exact ⟨ov, by rw [List.getElem?_set_ne (Ne.symm z)]; exact h1, h2⟩
  nd := fun a b q n ha hb ea eb => by
    rcases isO_set ha with ⟨za, _⟩ | ⟨za, ha'⟩
    · subst za
      rcases isO_set hb with ⟨zb, _⟩ | ⟨zb, hb⟩
      · exact n zb.symm
      · rw [List.getElem?_set_ne (Ne.symm zb)] at eb
        rcases get_set_cases ea with ⟨_, e, _⟩ | ⟨z, _⟩
        · cases e; exact hn b hb eb
        · exact z rfl
    · rw [List.getElem?_set_ne (Ne.symm za)] at ea
      rcases isO_set hb with ⟨zb, _⟩ | ⟨zb, hb⟩
      · subst zb
        rcases get_set_cases eb with ⟨_, e, _⟩ | ⟨z, _⟩
        · cases e; exact hn a ha' ea
        · exact z rfl
      · rw [List.getElem?_set_ne (Ne.symm zb)] at eb
        exact R.nd a b q n ha' hb ea eb
/-- a slot is forgotten -/
theorem Rl.drop (R : Rl L C F H σ env) (i : Nat) (ov : Option V) : Rl L C F H (σ.set i ov) (env.set i none) where
  fr := R.fr
  len := by rw [List.length_set, List.length_set]; exact R.len
  sl := fun j s h => by
    rcases get_set_cases h with ⟨z, e, hl⟩ | ⟨z, e⟩
    · cases e
    · obtain ⟨ov, h1, h2⟩ := R.sl j s e
      exact ⟨ov, by rw [List.getElem?_set_ne (Ne.symm z)]; exact h1, h2⟩
  nd := fun a b q n ha hb ea eb => by
    obtain ⟨sa, xa, ya⟩ := isO_get ha
    obtain ⟨sb, xb, yb⟩ := isO_get hb
    rcases get_set_cases xa with ⟨_, z, _⟩ | ⟨za, xa⟩
    · cases z
    rcases get_set_cases xb with ⟨_, z, _⟩ | ⟨zb, xb⟩
    · cases z
    rw [List.getElem?_set_ne (Ne.symm za)] at ea
    rw [List.getElem?_set_ne (Ne.symm zb)] at eb
    exact R.nd a b q n (isO_of xa ya) (isO_of xb yb) ea eb
/-- the object of a slot, another one then -/
def putO (env : Env) (i : Nat) (d : Dat) : Env := match env[i]? with
  | some (some (.o _)) => env.set i (some (.o d))
  | some (some (.b _)) => env.set i (some (.b d))
  | _ => env
theorem notL {L : Addr → Prop} {C : Cc} {F H : Hp} (R : Fr L C F H) (c : Cont F H p d) : ¬ L p := fun z => by
  obtain ⟨ob, o, e⟩ := R.lk p z
  cases d with
  | lst ds => obtain ⟨vs, h, _⟩ := c; rw [h] at e; cases e
  | dk ds => obtain ⟨vs, h, _⟩ := c; rw [h] at e; cases e
  | dt ds => obtain ⟨vs, h, _⟩ := c; rw [h] at e; cases e
  | ins C ds => obtain ⟨dx, vs, h, _⟩ := c; rw [h] at e; cases e
  | _ => exact c.elim
theorem Fr.write (R : Fr L C F H) (hf : F p = none) (h0 : C.H0 p = none ∨ C.Bor p) (hl : ¬ L p) (o : HO) (nf : isFz o = false) : Fr L C F (upd H p o) where
  fz := fun a u e => by
    have z : a ≠ p := fun z => by subst z; rw [hf] at e; cases e
    rw [upd_ne z]; exact R.fz a u e
  fn := fun q n => by
    rcases R.fn q n with y | ⟨y, vs, t⟩
    · exact .inl y
    · by_cases z : q = p
      · subst z; exact .inl (hf.trans y.symm)
      · exact .inr ⟨y, vs, (upd_ne z).trans t⟩
  kp := fun q u e n => by
    have z : q ≠ p := fun z => by
      subst z
      rcases h0 with h0 | h0
      · rw [h0] at e; cases e
      · exact n h0
    rw [upd_ne z]; exact R.kp q u e n
  th := fun q n => by
    by_cases z : q = p
    · subst z; rw [upd_same]; exact fun z => by cases z
    · rw [upd_ne z]; exact R.th q n
  lk := fun q n => by
    have z : q ≠ p := fun z => by subst z; exact hl n
    rw [upd_ne z]; exact R.lk q n
  wf := R.wf
  wa := R.wa
  wb := R.wb
  fl := fun q ob u e => by
    by_cases z : q = p
    · subst z; rw [upd_same] at e; cases e; cases nf
    · rw [upd_ne z] at e; exact R.fl q ob u e
theorem Cont.noF {F H : Hp} {p : Addr} {d : Dat} {o : HO} (c : Cont F (upd H p o) p d) : isFz o = false := by
  cases d with
  | lst ds => obtain ⟨vs, h, _⟩ := c; rw [upd_same] at h; cases h; rfl
  | dk ds => obtain ⟨vs, h, _⟩ := c; rw [upd_same] at h; cases h; rfl
  | dt ds => obtain ⟨vs, h, _⟩ := c; rw [upd_same] at h; cases h; rfl
  | ins C ds => obtain ⟨dx, vs, h, _⟩ := c; rw [upd_same] at h; cases h; rfl
  | _ => exact c.elim
theorem Rl.mut (R : Rl L C F H σ env) (h : ownD env i = some d) (hp : σ[i]? = some (some (.ref p))) (hc : Cont F (upd H p o) p d') : Rl L C F (upd H p o) σ (putO env i d') := by
  obtain ⟨q, e1, hf, c, h0⟩ := R.own h
  rw [hp] at e1; cases e1
  have fr := R.fr.write hf h0 (notL R.fr c) o hc.noF
  have keep : ∀ j s, j ≠ i → env[j]? = some (some s) → ∃ ov, σ[j]? = some ov ∧ SlotOk C F (upd H p o) j ov s := fun j s z e => by
    obtain ⟨ov, h1, h2⟩ := R.sl j s e
    refine ⟨ov, h1, ?_⟩
    cases s with
    | f d => exact h2
    | o d2 =>
      obtain ⟨q, e2, a, b, c⟩ := h2
      have nq : q ≠ p := fun y => by subst y; subst e2; exact R.nd j i q z (isO_o e) ⟨d, h⟩ h1 hp
      exact ⟨q, e2, a, b, c.mono (Ex.refl F) (upd_ne nq)⟩
    | b d2 =>
      obtain ⟨q, e2, a, b, c⟩ := h2
      have nq : q ≠ p := fun y => by subst y; subst e2; exact R.nd j i q z (isO_b e) ⟨d, h⟩ h1 hp
      exact ⟨q, e2, a, b, c.mono (Ex.refl F) (upd_ne nq)⟩
  rcases ownD_o h with e | e
  · have e' : putO env i d' = env.set i (some (.o d')) := by unfold putO; rw [e]
    rw [e']
    obtain ⟨ov, h1, q, e2, a, b, _⟩ := R.sl _ _ e
    subst e2; rw [hp] at h1; cases h1
    refine ⟨fr, by rw [List.length_set]; exact R.len, fun j s h => ?_, fun x y q n hx hy => R.nd x y q n ?_ ?_⟩
    · rcases get_set_cases h with ⟨z, e, hl⟩ | ⟨z, e⟩
      · cases e; subst z
        exact ⟨_, hp, _, rfl, a, b, hc⟩
      · exact keep j s z e
    · rcases isO_set hx with ⟨z, _⟩ | ⟨_, z⟩
      · subst z; exact ⟨d, h⟩
      · exact z
    · rcases isO_set hy with ⟨z, _⟩ | ⟨_, z⟩
      · subst z; exact ⟨d, h⟩
      · exact z
  · have e' : putO env i d' = env.set i (some (.b d')) := by unfold putO; rw [e]
    rw [e']
    obtain ⟨ov, h1, q, e2, a, b, _⟩ := R.sl _ _ e
    subst e2; rw [hp] at h1; cases h1
    refine ⟨fr, by rw [List.length_set]; exact R.len, fun j s h => ?_, fun x y q n hx hy => R.nd x y q n ?_ ?_⟩
    · rcases get_set_cases h with ⟨z, e, hl⟩ | ⟨z, e⟩
      · cases e; subst z
        exact ⟨_, hp, _, rfl, a, b, hc⟩
      · exact keep j s z e
    · rcases isO_set hx with ⟨z, _⟩ | ⟨_, z⟩
      · subst z; exact ⟨d, h⟩
      · exact z
    · rcases isO_set hy with ⟨z, _⟩ | ⟨_, z⟩
      · subst z; exact ⟨d, h⟩
      · exact z
end

/-! ### statements -/
structure DEnds where
  nx : Env → Prop
  rt : Res → Env → Prop
  xr : XD := fun _ _ _ => False
  bk : Env → Prop := fun _ => False
  ct : Env → Prop := fun _ => False
abbrev DS := DEnds → Env → Prop
structure EndsOk (L : Addr → Prop) (C : Cc) (F : Hp) (D : Ends) (Dd : DEnds) : Prop where
  nx : ∀ F' H' σ' env', Ex F F' → Rl L C F' H' σ' env' → Dd.nx env' → D.nx σ' H'
  rt : ∀ F' H' σ' env' v r, Ex F F' → Rl L C F' H' σ' env' → RV2 C F' H' σ' env' v r → Dd.rt r env' → D.rt v H'
  bk : ∀ F' H' σ' env', Ex F F' → Rl L C F' H' σ' env' → Dd.bk env' → D.bk σ' H'
  ct : ∀ F' H' σ' env', Ex F F' → Rl L C F' H' σ' env' → Dd.ct env' → D.ct σ' H'
theorem EndsOk.mono {L : Addr → Prop} {C : Cc} {F F' : Hp} {D : Ends} {Dd : DEnds} (h : EndsOk L C F D Dd) (e : Ex F F') : EndsOk L C F' D Dd :=
  ⟨fun F2 H' σ' env' e2 => h.nx F2 H' σ' env' (e.trans e2), fun F2 H' σ' env' v r e2 => h.rt F2 H' σ' env' v r (e.trans e2), fun F2 H' σ' env' e2 => h.bk F2 H' σ' env' (e.trans e2), fun F2 H' σ' env' e2 => h.ct F2 H' σ' env' (e.trans e2)⟩
def SS (E : L2.St → XK) (ts : TS) (ds : DS) : Prop := ∀ (L : Addr → Prop) (C : Cc) (F H : Hp) (σ : L2.St) (env : Env) (D : Ends) (Dd : DEnds), Rl L C F H σ env → ds Dd env → EndsOk L C F D Dd → XOk L C F E Dd.xr → ts D σ H
structure DSx (X : Cx) (E : L2.St → XK) (st : Stmt) (ds : DS) : Prop where
  ex : ∃ ts, PS X st ts ∧ SS E ts ds
structure DSs (X : Cx) (E : L2.St → XK) (st : List Stmt) (ds : DS) : Prop where
  ex : ∃ ts, PSs X st ts ∧ SS E ts ds

/-- a value is stored in a slot -/
def stS (r : Res) (env : Env) (i : Nat) (k : Env → Prop) : Prop := match r with
  | .f d => k (env.set i (some (.f d)))
  | .n d => k (env.set i (some (.o d)))
  | .l j => match env[j]? with
    | some (some (.o d)) => k ((env.set j (some (.f d))).set i (some (.f d)))
    | _ => False
theorem stS_ok {L : Addr → Prop} {C : Cc} {F H : Hp} {σ : L2.St} {env : Env} {v : V} {r : Res} {i : Nat} {k : Env → Prop} {Q : L2.St → Hp → Prop} (R : Rl L C F H σ env) (hv : RV2 C F H σ env v r) (h : stS r env i k)
    (q : ∀ F' env', Ex F F' → Rl L C F' H (σ.set i (some v)) env' → k env' → Q (σ.set i (some v)) H) : Q (σ.set i (some v)) H := by
  cases r with
  | f d => exact q F _ (Ex.refl F) (R.setF hv i) h
  | n d =>
    obtain ⟨p, rfl, o, hn⟩ := hv
    exact q F _ (Ex.refl F) (R.setO o hn i) h
  | l j =>
    unfold stS at h
    dsimp only at h
    split at h
    · next d e =>
      obtain ⟨F', w, ex, hw, R', rp⟩ := R.frzSlot e
      have hv : σ[j]? = some (some v) := hv
      rw [hw] at hv; cases hv
      exact q F' _ ex (R'.setF rp i) h
    · exact h.elim

section
variable {X : Cx} {E : L2.St → XK} {e a b c : Expr} {es : List Expr} {pos pos' : Pos} {da db de : DE} {dt du : DT} {dr : DA} {st : Stmt} {rest : List Stmt} {ds dw dz : DS}
def dNext : DS := fun D env => D.nx env
def dSeq (t u : DS) : DS := fun D env => t { D with nx := u D } env
theorem ss_next : SS E tNext dNext := fun L C F H σ env D Dd R h k x => k.nx F H σ env (Ex.refl F) R h
theorem ss_seq {t u : TS} (h1 : SS E t ds) (h2 : SS E u dw) : SS E (tSeq t u) (dSeq ds dw) := fun L C F H σ env D Dd R h k x =>
  h1 L C F H σ env _ { Dd with nx := dw Dd } R h ⟨fun F' H' σ' env' e R' q => h2 L C F' H' σ' env' D Dd R' q (k.mono e) (x.mono e), k.rt, k.bk, k.ct⟩ x
theorem dss_nil : DSs X E [] dNext := ⟨_, pss_nil, ss_next⟩
theorem dss_cons (h1 : DSx X E st ds) (h2 : DSs X E rest dw) : DSs X E (st :: rest) (dSeq ds dw) := by
  obtain ⟨t, p, s⟩ := h1.ex
  obtain ⟨t', p', s'⟩ := h2.ex
  exact ⟨_, pss_cons p p', ss_seq s s'⟩
theorem dss_one (h1 : DSx X E st ds) : DSs X E [st] ds := by
  obtain ⟨t, p, s⟩ := h1.ex
  exact ⟨_, pss_one p, s⟩
def dBreak : DS := fun D env => D.bk env
def dCont : DS := fun D env => D.ct env
theorem ds_pass : DSx X E (.Pass pos) dNext := ⟨_, ps_pass, ss_next⟩
theorem ds_break : DSx X E (.Break pos) dBreak := ⟨_, ps_break, fun L C F H σ env D Dd R h k x => k.bk F H σ env (Ex.refl F) R h⟩
theorem ds_continue : DSx X E (.Continue pos) dCont := ⟨_, ps_continue, fun L C F H σ env D Dd R h k x => k.ct F H σ env (Ex.refl F) R h⟩
def dDrop (de : DE) : DS := fun D env => de env (fun _ env1 => D.nx env1) D.xr
theorem ds_expr (he : DEx X E e de) (hs : swapsWith e none pos.line X.env = pure false := by rfl) : DSx X E (.Expr e pos) (dDrop de) := by
  obtain ⟨t, p, s⟩ := he.ex
  exact ⟨_, ps_expr p hs, fun L C F H σ env D Dd R h k x => s L C F H σ env _ _ _ R h (fun F' H' v r env' e R' _ q => k.nx F' H' σ env' e R' q) x⟩
def dRet (de : DE) : DS := fun D env => de env D.rt D.xr
theorem ds_ret (he : DEx X E e de) : DSx X E (.Return (some e) pos) (dRet de) := by
  obtain ⟨t, p, s⟩ := he.ex
  exact ⟨_, ps_ret p, fun L C F H σ env D Dd R h k x => s L C F H σ env _ _ _ R h (fun F' H' v r env' e R' rv q => k.rt F' H' σ env' v r e R' rv q) x⟩
def dRetN : DS := fun D env => D.rt (.f .non) env
theorem ds_retN : DSx X E (.Return none pos) dRetN := ⟨_, ps_retN, fun L C F H σ env D Dd R h k x => k.rt F H σ env .non (.f .non) (Ex.refl F) R Rep.non h⟩
def dIfS (dt : DT) (ds dw : DS) : DS := fun D env => dt env (fun b env1 => IfB b (ds D env1) (dw D env1)) D.xr
theorem ds_if {c : Expr} {sa sb : List Stmt} (hc : DTx X E c dt) (ha : DSs X E sa ds) (hb : DSs X E sb dw) : DSx X E (.If c sa sb pos) (dIfS dt ds dw) := by
  obtain ⟨t, p, s⟩ := hc.ex
  obtain ⟨t1, p1, s1⟩ := ha.ex
  obtain ⟨t2, p2, s2⟩ := hb.ex
  refine ⟨_, ps_if p p1 p2, fun L C F H σ env D Dd R h k x => s L C F H σ env _ _ _ R h (fun F' H' b env' e R' q => ?_) x⟩
  cases b with
  | true => exact s1 L C F' H' σ env' D Dd R' q.t (k.mono e) (x.mono e)
  | false => exact s2 L C F' H' σ env' D Dd R' q.f (k.mono e) (x.mono e)
def dAsg (de : DE) (i : Nat) : DS := fun D env => de env (fun r env1 => stS r env1 i D.nx) D.xr
theorem ss_asg {te : TE} {i : Nat} (s : SE E te de) : SS E (tAsg te (gName i)) (dAsg de i) := fun L C F H σ env D Dd R h k x => s L C F H σ env _ _ _ R h (fun F' H' v r env' e R' rv q =>
    stS_ok (Q := fun σ H => D.nx σ H) R' rv q fun F2 env2 e2 R2 q2 => k.nx F2 H' _ env2 (e.trans e2) R2 q2) x
theorem ds_set {i : Nat} {x : Str} (hN : X.N.Nodup) (hi : X.N[i]? = some x) (hx : Loc X.env.scope x) (he : DEx X E e de) (hs : swapsWith e (some (.Name x pos')) pos.line X.env = pure false := by rfl) (hf : X.fn x = true ∨ X.env.scope.names.lookup x = some .local := by first | exact .inl rfl | exact .inr rfl | assumption) :
    DSx X E (.Assign [.Name x pos'] e pos) (dAsg de i) := by
  obtain ⟨t, p, s⟩ := he.ex
  exact ⟨_, ps_set hN hi hx p hs hf, ss_asg s⟩

/-! ### targets -/
abbrev DG := Res → Env → (Env → Prop) → Prop
abbrev DGs := List Dat → Env → (Env → Prop) → Prop
def SG (vs : List Nat) (tg : TG) (dg : DG) : Prop := ∀ (L : Addr → Prop) (C : Cc) (F H : Hp) (σ : L2.St) (env : Env) (v : V) (r : Res) (Q : L2.St → Hp → Prop) (Qd : Env → Prop), Rl L C F H σ env → RV2 C F H σ env v r → dg r env Qd →
  (∀ F' H' σ' env', Ex F F' → Rl L C F' H' σ' env' → (∀ us, (∀ i ∈ vs, i ∈ us) → wipe σ' us = wipe σ us) → Qd env' → Q σ' H') → tg v σ H Q
def SGs (vs : List Nat) (tg : TGs) (dg : DGs) : Prop := ∀ (L : Addr → Prop) (C : Cc) (F H : Hp) (σ : L2.St) (env : Env) (xs : List V) (ds : List Dat) (Q : L2.St → Hp → Prop) (Qd : Env → Prop), Rl L C F H σ env → Reps F xs ds → dg ds env Qd →
  (∀ F' H' σ' env', Ex F F' → Rl L C F' H' σ' env' → (∀ us, (∀ i ∈ vs, i ∈ us) → wipe σ' us = wipe σ us) → Qd env' → Q σ' H') → tg xs σ H Q
structure DGx (X : Cx) (e : Expr) (vs : List Nat) (dg : DG) : Prop where
  ex : ∃ tg, PG X e tg ∧ SG vs tg dg
structure DGsx (X : Cx) (e : List Expr) (vs : List Nat) (dg : DGs) : Prop where
  ex : ∃ tg, PGs X e tg ∧ SGs vs tg dg
theorem wipe_set {σ : L2.St} {i : Nat} {v : Option V} : ∀ {us : List Nat}, i ∈ us → wipe (σ.set i v) us = wipe σ us
  | [], h => by cases h
  | u :: us, h => by
    show (wipe (σ.set i v) us).set u none = (wipe σ us).set u none
    by_cases z : i ∈ us
    · rw [wipe_set z]
    · have e : i = u := by
        rcases List.mem_cons.mp h with e | e
        · exact e
        · exact absurd e z
      subst e
      have : ∀ (us : List Nat) (σ : L2.St), wipe (σ.set i v) us = if i ∈ us then wipe σ us else (wipe σ us).set i v := by
        intro us
        induction us with
        | nil => intro σ; simp [wipe]
        | cons u us ih =>
          intro σ
          show (wipe (σ.set i v) us).set u none = _
          rw [ih]
          by_cases h1 : i ∈ us
          · rw [if_pos h1, if_pos (List.mem_cons_of_mem _ h1)]; rfl
          · rw [if_neg h1]
            by_cases h2 : i = u
            · subst h2; rw [if_pos (List.mem_cons_self), List.set_set]; rfl
            · rw [if_neg (by simp [h1, h2]), List.set_comm _ _ h2]; rfl
      rw [this, if_neg z, List.set_set]
def dgName (i : Nat) : DG := fun r env Q => stS r env i Q
theorem sg_name {i : Nat} : SG [i] (gName i) (dgName i) := fun L C F H σ env v r Q Qd R rv h k =>
  stS_ok (Q := Q) R rv h fun F2 env2 e2 R2 q2 => k F2 H _ env2 e2 R2 (fun us hu => wipe_set (hu i (by simp))) q2
theorem dg_name {i : Nat} {x : Str} (hN : X.N.Nodup) (hi : X.N[i]? = some x) (hx : Loc X.env.scope x) (hf : X.fn x = true ∨ X.env.scope.names.lookup x = some .local := by first | exact .inl rfl | exact .inr rfl | assumption) : DGx X (.Name x pos) [i] (dgName i) :=
  ⟨_, pg_name hN hi hx hf, sg_name⟩
def dgNil : DGs := fun ds env Q => match ds with
  | [] => Q env
  | _ => False
def dgCons (g : DG) (gs : DGs) : DGs := fun ds env Q => match ds with
  | d :: r => g (.f d) env fun env1 => gs r env1 Q
  | _ => False
def dgTup (n : Nat) (g : DGs) : DG := fun r env Q => withD (view env (fzR r)) fun d => match d with
  | .tup ds => ds.length = n ∧ g ds env Q
  | _ => False
theorem dgs_nil : DGsx X [] [] dgNil := ⟨_, pgs_nil, fun L C F H σ env xs ds Q Qd R rv h k => by
  cases rv with
  | nil => exact ⟨rfl, k F H σ env (Ex.refl F) R (fun _ _ => rfl) h⟩
  | cons _ _ => exact h.elim⟩
theorem dgs_cons {vs ws : List Nat} {g : DG} {gs : DGs} (h1 : DGx X e vs g) (h2 : DGsx X es ws gs) (hs : (assignEach (e :: es) X.env).map (·.2) = assign e X.env :: (assignEach es X.env).map (·.2) := by rfl) : DGsx X (e :: es) (vs ++ ws) (dgCons g gs) := by
  obtain ⟨t, p, s⟩ := h1.ex
  obtain ⟨t', p', s'⟩ := h2.ex
  refine ⟨_, pgs_cons p p' hs, fun L C F H σ env xs ds Q Qd R rv h k => ?_⟩
  cases rv with
  | nil => exact h.elim
  | @cons x d xs ds r rr =>
    refine ⟨_, _, rfl, s L C F H σ env x (.f d) _ _ R r h fun F1 H1 σ1 env1 e1 R1 w1 q1 => ?_⟩
    exact s' L C F1 H1 σ1 env1 xs ds _ _ R1 (rr.mono e1) q1 fun F2 H2 σ2 env2 e2 R2 w2 q2 => k F2 H2 σ2 env2 (e1.trans e2) R2 (fun us hu => (w2 us fun i hi => hu i (List.mem_append_right _ hi)).trans (w1 us fun i hi => hu i (List.mem_append_left _ hi))) q2
theorem dg_tup {vs : List Nat} {kk : Nat} {gs : DGs} {n : Nat} (hc : X.calm = true) (h : DGsx X es vs gs)
    (hn : (assignEach es X.env).length = n := by rfl) (hst : (assignEach es X.env).findIdx? (·.1) = none := by rfl) : DGx X (.Tuple es kk pos) vs (dgTup n gs) := by
  obtain ⟨t, p, s⟩ := h.ex
  refine ⟨_, pg_tup hc p hn hst, fun L C F H σ env v r Q Qd R rv h k => ?_⟩
  obtain ⟨d, hd, h⟩ := withD_of h
  obtain ⟨F1, e1, R1, a1⟩ := R.fzv rv
  split at h
  · next ds =>
    obtain ⟨a, xs, ea, _, ha, rs⟩ := a1.rep1 R1 hd
    exact ⟨a, xs, ea, .inl (.inl ha), rs.len.trans h.1, s L C F1 H σ env xs ds Q Qd R1 rs h.2 fun F2 H2 σ2 env2 e2 R2 w2 q2 => k F2 H2 σ2 env2 (e1.trans e2) R2 w2 q2⟩
  · exact h.elim
def dAsgG (de : DE) (g : DG) : DS := fun D env => de env (fun r env1 => g r env1 D.nx) D.xr
theorem ds_asg {tg : Expr} {vs : List Nat} {g : DG} (he : DEx X E e de) (hg : DGx X tg vs g) (hs : swapsWithSole [tg] e pos.line X.env = pure false := by rfl) (hw : swappedStores [tg] e X.env = pure none := by rfl)
    (h1 : (assignEach [tg] X.env).map (·.2) = [assign tg X.env] := by rfl) : DSx X E (.Assign [tg] e pos) (dAsgG de g) := by
  obtain ⟨t, p, s⟩ := he.ex
  obtain ⟨t', p', s'⟩ := hg.ex
  exact ⟨_, ps_asg p p' hs hw h1, fun L C F H σ env D Dd R h k x => s L C F H σ env _ _ _ R h (fun F1 H1 v r env1 e1 R1 rv q => s' L C F1 H1 σ env1 v r _ _ R1 rv q fun F2 H2 σ2 env2 e2 R2 _ q2 => k.nx F2 H2 σ2 env2 (e1.trans e2) R2 q2) x⟩
/-- x += e -/
def dAug (i : Nat) (g : G2) (de : DE) : DS := fun D env => match env[i]? with
  | some (some (.f d)) => de env (fun r env1 => withD (view env1 (fzR r)) fun d' => g d d' fun r2 => stS r2 env1 i D.nx) D.xr
  | _ => False
theorem ds_aug {i : Nat} {x : Str} {op : Operator} {r : R2} {g : G2} {tpos : Pos} (hN : X.N.Nodup) (hi : X.N[i]? = some x) (hx : Loc X.env.scope x) (he : DEx X E e de) (ho : PIp X op r) (hg : Op2 r g)
    (hp : ∀ te, PE X e te → PS X (.AugAssign (.Name x tpos) op e pos) (tAug i te r)) : DSx X E (.AugAssign (.Name x tpos) op e pos) (dAug i g de) := by
  obtain ⟨t, p, s⟩ := he.ex
  refine ⟨_, hp t p, fun L C F H σ env D Dd R h k x => ?_⟩
  unfold dAug at h
  split at h
  · next d e0 =>
    obtain ⟨ov, h1, v, h2, h3⟩ := R.sl _ _ e0
    subst h2
    refine ⟨v, h1, s L C F H σ env _ _ _ R h (fun F1 H1 v1 r1 env1 e1 R1 v1r h1 => ?_) x⟩
    obtain ⟨d2, hd2, h1⟩ := withD_of h1
    obtain ⟨F2, e2, R2, a2⟩ := R1.fzv v1r
    exact hg L C F2 H1 v v1 d d2 _ _ R2.fr ((h3.mono (e1.trans e2)).rep1 R2.fr.fz) (a2.rep1 R2 hd2) h1 fun F3 H3 v3 r3 g3 n3 q3 =>
      stS_ok (Q := fun σ H => D.nx σ H) (R2.grow g3) (n3.rv R2) q3 fun F4 env4 e4 R4 q4 => k.nx F4 H3 _ env4 (e1.trans (e2.trans (g3.fx.trans e4))) R4 q4
  · exact h.elim

/-! ### loops -/
def dWhile (dt : DT) (ds : DS) : DS := fun D env => ∃ W : Nat → Env → Prop, (∃ m, W m env) ∧ ∀ m env, W m env →
  dt env (fun b env1 => IfB b (ds { D with nx := fun e => ∃ m', m' < m ∧ W m' e, ct := fun e => ∃ m', m' < m ∧ W m' e, bk := D.nx } env1) (D.nx env1)) D.xr
theorem ds_while {c : Expr} {body : List Stmt} (hp : PassesOwn (model X.prog X.w) X.A X.env X.xe) (hc : DTx X E c dt) (hb : DSs X E body ds) : DSx X E (.While c body [] pos) (dWhile dt ds) := by
  obtain ⟨t, p, s⟩ := hc.ex
  obtain ⟨t1, p1, s1⟩ := hb.ex
  refine ⟨_, ps_while hp p p1, fun L C F H σ env D Dd R h k x => ?_⟩
  obtain ⟨W, ⟨m0, w0⟩, turn⟩ := h
  refine ⟨fun m σ' H' => ∃ F' env', Ex F F' ∧ Rl L C F' H' σ' env' ∧ W m env', ⟨m0, F, env, Ex.refl F, R, w0⟩, ?_⟩
  rintro m σ1 H1 ⟨F1, env1, e1, R1, w1⟩
  refine s L C F1 H1 σ1 env1 _ _ _ R1 (turn m env1 w1) (fun F2 H2 b env2 e2 R2 q2 => ?_) (x.mono e1)
  cases b with
  | true =>
    refine ⟨fun σ' H' => ∃ F' env', Ex F F' ∧ Rl L C F' H' σ' env' ∧ ∃ m', m' < m ∧ W m' env', ?_, ?_⟩
    · rintro σ' H' ⟨F', env', e', R', m', hm, w'⟩
      exact ⟨m', hm, F', env', e', R', w'⟩
    · refine s1 L C F2 H2 σ1 env2 _ _ R2 q2.t ⟨fun F3 H3 σ3 env3 e3 R3 q3 => ⟨F3, env3, e1.trans (e2.trans e3), R3, q3⟩, (k.mono (e1.trans e2)).rt, fun F3 H3 σ3 env3 e3 R3 q3 => k.nx F3 H3 σ3 env3 (e1.trans (e2.trans e3)) R3 q3, fun F3 H3 σ3 env3 e3 R3 q3 => ⟨F3, env3, e1.trans (e2.trans e3), R3, q3⟩⟩ (x.mono (e1.trans e2))
  | false => exact k.nx F2 H2 σ1 env2 (e1.trans e2) R2 q2.f

/-- what is walked gives these items -/
def Walks (L : Addr → Prop) (C : Cc) (F : Hp) (J : It) (items : List Dat) : Prop := ∀ F' H' σ' env', Ex F F' → Rl L C F' H' σ' env' → ∀ i,
  (∀ d, items[i]? = some d → J.go i H' ∧ ∀ x H2, J.yld i H' x H2 → ∃ F2, Gr F' H' F2 H2 ∧ Rep F2 x d) ∧ (items.length ≤ i → J.stop i H')
theorem Walks.mono {L : Addr → Prop} {C : Cc} {F F1 : Hp} {J : It} {items : List Dat} (h : Walks L C F J items) (e : Ex F F1) : Walks L C F1 J items := fun F' H' σ' env' e' => h F' H' σ' env' (e.trans e')
abbrev DI := Env → (List Dat → Env → Prop) → XD → Prop
def SI (E : L2.St → XK) (wi : TI) (di : DI) : Prop := ∀ (L : Addr → Prop) (C : Cc) (F H : Hp) (σ : L2.St) (env : Env) (R : It → Hp → Prop) (Rd : List Dat → Env → Prop) (X : XD), Rl L C F H σ env → di env Rd X →
  (∀ F' H' J items env', Ex F F' → Rl L C F' H' σ env' → Walks L C F' J items → Rd items env' → R J H') → XOk L C F E X → wi σ H R
structure DIx (X : Cx) (E : L2.St → XK) (tg e : Expr) (di : DI) : Prop where
  ex : ∃ wi, PI X tg e wi ∧ SI E wi di
def dFor (di : DI) (g : DG) (ds : DS) : DS := fun D env => di env (fun items env1 => ∃ W : Nat → Env → Prop, W 0 env1 ∧
  (∀ i d env', items[i]? = some d → W i env' → g (.f d) env' fun env2 => ds { D with nx := W (i + 1), ct := W (i + 1), bk := D.nx } env2) ∧ ∀ env', W items.length env' → D.nx env') D.xr
theorem ds_for {tg iter : Expr} {body : List Stmt} {di : DI} {vs : List Nat} {g : DG} (hp : PassesOwn (model X.prog X.w) X.A X.env X.xe) (hc : X.calm = true) (hi : DIx X E tg iter di) (hg : DGx X tg vs g) (hb : DSs X E body ds)
    (hs : ∀ x, foldedSetIterable iter X.env x = pure x := by intro _; rfl) : DSx X E (.For tg iter body [] pos) (dFor di g ds) := by
  obtain ⟨t, p, s⟩ := hi.ex
  obtain ⟨t1, p1, s1⟩ := hg.ex
  obtain ⟨t2, p2, s2⟩ := hb.ex
  refine ⟨_, ps_for hp hc p p1 p2 hs, fun L C F H σ env D Dd R h k x => s L C F H σ env _ _ _ R h (fun F1 H1 J items env1 e1 R1 w1 q1 => ?_) x⟩
  obtain ⟨W, w0, turn, done⟩ := q1
  refine ⟨fun i m σ' H' => m = items.length - i ∧ i ≤ items.length ∧ ∃ F' env', Ex F1 F' ∧ Rl L C F' H' σ' env' ∧ W i env', ⟨_, rfl, Nat.zero_le _, F1, env1, Ex.refl F1, R1, w0⟩, ?_⟩
  rintro i m σ2 H2 ⟨rfl, hi, F2, env2, e2, R2, w2⟩
  by_cases hlt : i < items.length
  · have hd : items[i]? = some items[i] := List.getElem?_eq_getElem hlt
    obtain ⟨go, yld⟩ := (w1 F2 H2 σ2 env2 e2 R2 i).1 _ hd
    refine .inr ⟨go, fun σ' H' => ∃ F' env', Ex F1 F' ∧ Rl L C F' H' σ' env' ∧ W (i + 1) env', ?_, fun v H3 y => ?_⟩
    · rintro σ' H' ⟨F', env', e', R', w'⟩
      exact ⟨items.length - (i + 1), by omega, rfl, hlt, F', env', e', R', w'⟩
    · obtain ⟨F3, g3, r3⟩ := yld v H3 y
      refine s1 L C F3 H3 σ2 env2 v (.f items[i]) _ _ (R2.grow g3) r3 (turn i _ env2 hd w2) fun F4 H4 σ4 env4 e4 R4 _ q4 => ?_
      have e14 := e2.trans (g3.fx.trans e4)
      exact s2 L C F4 H4 σ4 env4 _ _ R4 q4 ⟨fun F5 H5 σ5 env5 e5 R5 q5 => ⟨F5, env5, e14.trans e5, R5, q5⟩, (k.mono (e1.trans e14)).rt, fun F5 H5 σ5 env5 e5 R5 q5 => k.nx F5 H5 σ5 env5 ((e1.trans e14).trans e5) R5 q5, fun F5 H5 σ5 env5 e5 R5 q5 => ⟨F5, env5, e14.trans e5, R5, q5⟩⟩ (x.mono (e1.trans e14))
  · have e : i = items.length := by omega
    subst e
    exact .inl ⟨(w1 F2 H2 σ2 env2 e2 R2 _).2 (Nat.le_refl _), k.nx F2 H2 σ2 env2 (e1.trans e2) R2 (done env2 w2)⟩
end
end DL

set_option Elab.async false
set_option linter.all false
set_option maxRecDepth 100000
set_option maxHeartbeats 2000000
namespace DL
open PySem PySem.Spec PyProof.Rows L2
variable [ClsV]

/-! ### what is walked -/
section
variable {X : Cx} {E : L2.St → XK} {tg l a b : Expr} {tl : TE} {de : DE} {dr : DA} {p pos : Pos}
def iSeq (K : PySem.W.Frag) (tl : TE) : TI := fun σ H R => tl σ H fun x H1 => ∃ a, x = .ref a ∧ (((∃ xs, SqL K H1 a xs) ∧ R (Itl K a) H1) ∨ ((∃ xs, SqT K H1 a xs) ∧ R (Itt K a) H1))
theorem pi_seq (hl : PE X l tl) : PI X tg l (iSeq X.K tl) := by
  constructor
  intro pins s0 σ H R I0 h
  apply thn (hl.run pins s0 σ H _ I0 h)
  rintro u s ⟨y, H1, J, rel, a, rfl, kinds⟩
  cases rel
  have newOne : ∀ b ∈ [s.heap.objs.size], FpOk X pins H1 b := fun b m =>
    List.mem_singleton.mp m ▸ J.fpOk Nat.le.refl (J.hok.fresh Nat.le.refl)
  rcases kinds with ⟨⟨ys, sq⟩, go⟩ | ⟨⟨ys, sq⟩, go⟩
  · obtain ⟨us, -, isL, -⟩ := J.list sq
    exact wpAny_pyIter_list isL.isList ⟨_, _, _, _, H1, rfl, J.kept (t' := s.toks) fun _ _ => Heap.get?_push_of_some _, turn_list a _, ⟨_, Heap.get?_push_size _ rfl, rfl, rfl⟩, newOne, go⟩
  · obtain ⟨us, -, isT, -⟩ := J.tuple sq
    exact wpAny_pyIter_tuple (items := us.toArray) isT ⟨_, _, _, _, H1, rfl, J.kept (t' := s.toks) fun _ _ => Heap.get?_push_of_some _, turn_tuple a _, ⟨_, Heap.get?_push_size _ rfl, rfl, rfl⟩, newOne, go⟩
/-- the items of a list or tuple; an own list is frozen by it -/
def itR (r : Res) (env : Env) (k : List Dat → Env → Prop) : Prop := match r with
  | .f (.lst ds) => k ds env
  | .f (.tup ds) => k ds env
  | .n (.lst ds) => k ds env
  | .l i => match env[i]? with
    | some (some (.o (.lst ds))) => k ds (env.set i (some (.f (.lst ds))))
    | _ => False
  | _ => False
theorem walks_lst {L : Addr → Prop} {C : Cc} {K : PySem.W.Frag} {F : Hp} {a : Addr} {vs : List V} {ds : List Dat} (h : F a = some (.lst vs)) (r : Reps F vs ds) : Walks L C F (Itl K a) ds := fun F' H' σ' env' e' R' i => by
  have ha : H' a = some (.lst vs) := R'.fr.fz.ex (e' _ _ h) rfl
  have hs : SqL K H' a vs := .inl (.inl ha)
  refine ⟨fun d hd => ?_, fun hl => ⟨vs, hs, by rw [r.len]; exact hl⟩⟩
  obtain ⟨v, hv, rv⟩ := r.get hd
  refine ⟨⟨vs, v, hs, hv⟩, fun x H2 ⟨e, y⟩ => ?_⟩
  subst e
  have := y vs hs
  rw [hv] at this; cases this
  exact ⟨F', Gr.refl R'.fr, rv.mono e'⟩
theorem walks_tup {L : Addr → Prop} {C : Cc} {K : PySem.W.Frag} {F : Hp} {a : Addr} {vs : List V} {ds : List Dat} (h : F a = some (.tup vs)) (r : Reps F vs ds) : Walks L C F (Itt K a) ds := fun F' H' σ' env' e' R' i => by
  have ha : H' a = some (.tup vs) := R'.fr.fz.ex (e' _ _ h) rfl
  have hs : SqT K H' a vs := .inl (.inl ha)
  refine ⟨fun d hd => ?_, fun hl => ⟨vs, hs, by rw [r.len]; exact hl⟩⟩
  obtain ⟨v, hv, rv⟩ := r.get hd
  refine ⟨⟨vs, v, hs, hv⟩, fun x H2 ⟨e, y⟩ => ?_⟩
  subst e
  have := y vs hs
  rw [hv] at this; cases this
  exact ⟨F', Gr.refl R'.fr, rv.mono e'⟩
def dSeqI (de : DE) : DI := fun env Q X => de env (fun r env1 => itR r env1 Q) X
theorem si_seq {K : PySem.W.Frag} (s : SE E tl de) : SI E (iSeq K tl) (dSeqI de) := fun L C F H σ env R Rd Xd Rr h k x =>
  s L C F H σ env _ _ Xd Rr h (fun F1 H1 v r env1 e1 R1 rv q => by
    have lst : ∀ F2 env2 ds, Ex F1 F2 → Rl L C F2 H1 σ env2 → Rep F2 v (.lst ds) → Rd ds env2 → ∃ a, v = .ref a ∧ (((∃ xs, SqL K H1 a xs) ∧ R (Itl K a) H1) ∨ ((∃ xs, SqT K H1 a xs) ∧ R (Itt K a) H1)) := fun F2 env2 ds e2 R2 r2 q2 => by
      cases r2 with
      | @lst a vs _ h r => exact ⟨a, rfl, .inl ⟨⟨vs, .inl (.inl (R2.fr.fz.ex h rfl))⟩, k F2 H1 _ ds env2 (e1.trans e2) R2 (walks_lst h r) q2⟩⟩
    unfold itR at q
    split at q
    · next ds => exact lst F1 env1 ds (Ex.refl _) R1 rv q
    · next ds =>
      cases rv with
      | @tup a vs _ h r => exact ⟨a, rfl, .inr ⟨⟨vs, .inl (.inl (R1.fr.fz.ex h rfl))⟩, k F1 H1 _ ds env1 e1 R1 (walks_tup h r) q⟩⟩
    · next ds =>
      obtain ⟨F2, e2, R2, r2⟩ := R1.frz rv
      exact lst F2 env1 ds e2 R2 r2 q
    · next i =>
      split at q
      · next ds e =>
        obtain ⟨F2, w, e2, hw, R2, r2⟩ := R1.frzSlot e
        have rv : σ[i]? = some (some v) := rv
        rw [hw] at rv; cases rv
        exact lst F2 _ ds e2 R2 r2 q
      · exact q.elim
    · exact q.elim) x
theorem di_seq (h : DEx X E l de) : DIx X E tg l (dSeqI de) := by
  obtain ⟨t, p, s⟩ := h.ex
  exact ⟨_, pi_seq p, si_seq s⟩
def rangeD (lo : Int) (n : Nat) : List Dat := (List.range n).map fun (k : Nat) => Dat.int (lo + (k : Int))
theorem rangeD_get {lo : Int} {n i : Nat} (h : i < n) : (rangeD lo n)[i]? = some (.int (lo + (i : Int))) := by
  unfold rangeD
  rw [List.getElem?_map, List.getElem?_range h]; rfl
theorem rangeD_len {lo : Int} {n : Nat} : (rangeD lo n).length = n := by simp [rangeD]
theorem rangeD_some {lo : Int} {n i : Nat} {d : Dat} (h : (rangeD lo n)[i]? = some d) : i < n ∧ d = .int (lo + (i : Int)) := by
  have hl : i < n := by
    rcases Nat.lt_or_ge i n with z | z
    · exact z
    · rw [List.getElem?_eq_none (by rw [rangeD_len]; exact z)] at h; cases h
  rw [rangeD_get hl] at h
  cases h
  exact ⟨hl, rfl⟩
theorem walks_rng {L : Addr → Prop} {C : Cc} {F : Hp} {lo : Int} {n : Nat} : Walks L C F (Itr lo n) (rangeD lo n) := fun F' H' σ' env' e' R' i => by
  refine ⟨fun d hd => ?_, fun hl => by rw [rangeD_len] at hl; exact hl⟩
  obtain ⟨hi, rfl⟩ := rangeD_some hd
  exact ⟨hi, fun x H2 ⟨e, y⟩ => by subst e y; exact ⟨F', Gr.refl R'.fr, .int _⟩⟩
theorem Rep1s.one {F H : Hp} {vs : List V} {d : Dat} (h : Rep1s F H vs [d]) : ∃ v, vs = [v] ∧ Rep1 F H v d := by
  cases h with
  | cons h t => cases t; exact ⟨_, rfl, h⟩
theorem Rep1s.two {F H : Hp} {vs : List V} {d d' : Dat} (h : Rep1s F H vs [d, d']) : ∃ v v', vs = [v, v'] ∧ Rep1 F H v d ∧ Rep1 F H v' d' := by
  cases h with
  | cons h t =>
    obtain ⟨v', rfl, h'⟩ := t.one
    exact ⟨_, _, rfl, h, h'⟩
theorem Rep1s.three {F H : Hp} {vs : List V} {d d' d2 : Dat} (h : Rep1s F H vs [d, d', d2]) : ∃ v v' v2, vs = [v, v', v2] ∧ Rep1 F H v d ∧ Rep1 F H v' d' ∧ Rep1 F H v2 d2 := by
  cases h with
  | cons h t =>
    obtain ⟨v', v2, rfl, h'⟩ := t.two
    exact ⟨_, _, _, rfl, h, h'⟩
theorem rep1_int {F H : Hp} {v : V} {i : Int} (h : Rep1 F H v (.int i)) : v = .int i := by cases h; rfl
theorem rep1_bl {F H : Hp} {v : V} {i : Bool} (h : Rep1 F H v (.bl i)) : v = .bl i := by cases h; rfl
theorem rep1_str {F H : Hp} {v : V} {i : Str} (h : Rep1 F H v (.str i)) : v = .str i := by cases h; rfl
theorem rep1_non {F H : Hp} {v : V} (h : Rep1 F H v .non) : v = .non := by cases h; rfl
theorem rep1_raw {F H : Hp} {v w : V} (h : Rep1 F H v (.raw w)) : v = w := by cases h; rfl
def dRng1 (dr : DA) : DI := fun env Q X => dr env (fun rs env1 => withD (views env1 rs) fun ds => match ds with
  | [.int j] => -(2 ^ 62) ≤ j ∧ j < 2 ^ 62 ∧ Q (rangeD 0 j.toNat) env1
  | _ => False) X
def dRng2 (dr : DA) : DI := fun env Q X => dr env (fun rs env1 => withD (views env1 rs) fun ds => match ds with
  | [.int i, .int j] => (-(2 ^ 62) ≤ i ∧ i < 2 ^ 62 ∧ -(2 ^ 62) ≤ j ∧ j < 2 ^ 62) ∧ Q (rangeD i (j - i).toNat) env1
  | _ => False) X
theorem di_range1 (hg : Gl X "range") (hm : X.mg "range" = none) (ha : DAx X E [a] dr) (hs : starEach [a] X.env = [(false, eval a X.env)] := by rfl) : DIx X E tg (.Call (.Name "range" p) [a] [] pos) (dRng1 dr) := by
  obtain ⟨t, pa, s⟩ := ha.ex
  refine ⟨_, pi_range1 hg hm pa hs, fun L C F H σ env R Rd Xd Rr h k x => s L C F H σ env _ _ Xd Rr h (fun F1 H1 vs rs env1 e1 R1 rv q => ?_) x⟩
  obtain ⟨ds, hd, q⟩ := withD_of q
  split at q
  · next j =>
    obtain ⟨v, rfl, r⟩ := (rv.rep1 R1 hd).one
    cases rep1_int r
    exact ⟨j, rfl, q.1, q.2.1, k F1 H1 _ _ env1 e1 R1 walks_rng q.2.2⟩
  · exact q.elim
theorem di_range2 (hg : Gl X "range") (hm : X.mg "range" = none) (ha : DAx X E [a, b] dr) (hs : starEach [a, b] X.env = [(false, eval a X.env), (false, eval b X.env)] := by rfl) (hs2 : starEach [b] X.env = [(false, eval b X.env)] := by rfl) : DIx X E tg (.Call (.Name "range" p) [a, b] [] pos) (dRng2 dr) := by
  obtain ⟨t, pa, s⟩ := ha.ex
  refine ⟨_, pi_range2 hg hm pa hs hs2, fun L C F H σ env R Rd Xd Rr h k x => s L C F H σ env _ _ Xd Rr h (fun F1 H1 vs rs env1 e1 R1 rv q => ?_) x⟩
  obtain ⟨ds, hd, q⟩ := withD_of q
  split at q
  · next i j =>
    obtain ⟨v, w, rfl, r, r'⟩ := (rv.rep1 R1 hd).two
    cases rep1_int r
    cases rep1_int r'
    exact ⟨i, j, rfl, q.1, k F1 H1 _ _ env1 e1 R1 walks_rng q.2⟩
  · exact q.elim
end

/-! ### comprehensions -/
def noX : XD := fun _ _ _ => False
def wipeE (env : Env) : List Nat → Env
  | [] => env
  | v :: vs => (wipeE env vs).set v none
def restF (env1 env : Env) : List Nat → Env
  | [] => env
  | v :: vs => match env1[v]? with
    | some (some (.f d)) => (restF env1 env vs).set v (some (.f d))
    | _ => restF env1 env vs
def elD : Res → Option Dat
  | .f d => some d
  | .n d => some d
  | .l _ => none
section
variable {L : Addr → Prop} {C : Cc} {F H F' H' F1 H1 : Hp} {σ : L2.St} {env env1 : Env} {i : Nat} {d : Dat} {v : V} {p D : Addr} {o : HO}
theorem Rl.wiped (R : Rl L C F H σ env) : ∀ vs, Rl L C F H (wipe σ vs) (wipeE env vs)
  | [] => R
  | v :: vs => (R.wiped vs).drop v none
theorem Rl.forget (R : Rl L C F H σ env) (i : Nat) : Rl L C F H σ (env.set i none) := by
  by_cases h : i < σ.length
  · have := R.drop i σ[i]
    rwa [List.set_getElem_self] at this
  · have e : env.set i none = env := List.set_eq_of_length_le (by rw [← R.len]; omega)
    rw [e]; exact R
/-- a slot that env does not speak of may hold anything -/
theorem Rl.other {ov : Option V} (R : Rl L C F H (σ.set i ov) env) (hn : env[i]? = some none ∨ env[i]? = none) : Rl L C F H σ env where
  fr := R.fr
  len := by rw [← R.len, List.length_set]
  sl := fun j s h => by
    have z : j ≠ i := fun z => by subst z; rw [h] at hn; simp at hn
    obtain ⟨ov, h1, h2⟩ := R.sl j s h
    rw [List.getElem?_set_ne (Ne.symm z)] at h1
    exact ⟨ov, h1, h2⟩
  nd := fun a b q n ha hb ea eb => by
    have za : a ≠ i := fun z => by
      obtain ⟨s, h, _⟩ := isO_get ha
      subst z; rw [h] at hn; simp at hn
    have zb : b ≠ i := fun z => by
      obtain ⟨s, h, _⟩ := isO_get hb
      subst z; rw [h] at hn; simp at hn
    exact R.nd a b q n ha hb (by rw [List.getElem?_set_ne (Ne.symm za)]; exact ea) (by rw [List.getElem?_set_ne (Ne.symm zb)]; exact eb)
theorem set_none_at (env : Env) (i : Nat) : (env.set i none)[i]? = some none ∨ (env.set i none)[i]? = none := by
  by_cases h : i < env.length
  · exact .inl (List.getElem?_set_self h)
  · exact .inr (List.getElem?_eq_none (by rw [List.length_set]; omega))
theorem Rl.unwiped : ∀ {vs : List Nat} {env : Env}, Rl L C F H (wipe σ vs) env → Rl L C F H σ (wipeE env vs)
  | [], _, R => R
  | v :: vs, env, R => by
    have R1 : Rl L C F H ((wipe σ vs).set v none) (env.set v none) := Rl.forget R v
    have R2 : Rl L C F H (wipe σ vs) (env.set v none) := R1.other (set_none_at env v)
    have R3 := Rl.unwiped R2
    have : ∀ (us : List Nat) (e : Env), wipeE (e.set v none) us = (wipeE e us).set v none := by
      intro us
      induction us with
      | nil => intro e; rfl
      | cons u us ih =>
        intro e
        show (wipeE (e.set v none) us).set u none = ((wipeE e us).set u none).set v none
        rw [ih]
        by_cases z : v = u
        · subst z; rfl
        · rw [List.set_comm _ _ z]
    rw [this] at R3
    exact R3
theorem Rl.addF (R : Rl L C F H σ env) (hv : σ[i]? = some (some v)) (r : Rep F v d) : Rl L C F H σ (env.set i (some (.f d))) := by
  have := R.setF r i
  have e : σ.set i (some v) = σ := by
    have hl : i < σ.length := by
      rcases Nat.lt_or_ge i σ.length with z | z
      · exact z
      · rw [List.getElem?_eq_none z] at hv; cases hv
    have : some v = σ[i] := by
      rw [List.getElem?_eq_getElem hl] at hv; exact (Option.some.inj hv).symm
    rw [this]; exact List.set_getElem_self hl
  rwa [e] at this
theorem Rl.rest (R1 : Rl L C F1 H1 σ env1) (e : Ex F1 F) : ∀ {vs : List Nat} {env : Env}, Rl L C F H σ env → Rl L C F H σ (restF env1 env vs)
  | [], _, R => R
  | v :: vs, env, R => by
    unfold restF
    split
    · next d h =>
      obtain ⟨ov, h1, w, rfl, r⟩ := R1.sl _ _ h
      exact (Rl.rest R1 e R).addF h1 (r.mono e)
    · exact Rl.rest R1 e R
theorem isO_restF {j : Nat} : ∀ {vs : List Nat}, IsO (restF env1 env vs) j → IsO env j
  | [], h => h
  | v :: vs, h => by
    unfold restF at h
    split at h
    · next d e =>
      rcases isO_set h with ⟨_, z⟩ | ⟨_, z⟩
      · exact absurd rfl (z d)
      · exact isO_restF z
    · exact isO_restF h
theorem isO_wipeE {j : Nat} : ∀ {vs : List Nat}, IsO (wipeE env vs) j → IsO env j ∧ j ∉ vs
  | [], h => ⟨h, by simp⟩
  | v :: vs, h => by
    obtain ⟨s, h1, h2⟩ := isO_get h
    rcases get_set_cases h1 with ⟨_, z, _⟩ | ⟨z, e⟩
    · cases z
    · obtain ⟨a, b⟩ := isO_wipeE (isO_of e h2)
      exact ⟨a, by simp [z, b]⟩
/-- an object out of reach, kept -/
def Cc.prot (C : Cc) (D : Addr) (o : HO) : Cc := { C with H0 := upd C.H0 D o }
theorem Rl.prot (R : Rl L C F H σ env) (h0 : C.H0 D = none) (hf : F D = none) (hD : H D = some o) (hs : ∀ i, IsO env i → σ[i]? ≠ some (some (.ref D))) : Rl L (C.prot D o) F H σ env where
  fr := {
    fz := R.fr.fz
    fn := fun q n => by
      by_cases z : q = D
      · subst z
        rw [hf]
        cases e : C.F0 q with
        | none => exact .inl e.symm
        | some u => exact absurd h0 (R.fr.wf q u e)
      · exact R.fr.fn q (by have : (C.prot D o).H0 q = C.H0 q := upd_ne z; rw [← this]; exact n)
    kp := fun q u h n => by
      by_cases z : q = D
      · subst z
        have : (C.prot q o).H0 q = some o := upd_same
        rw [this] at h; cases h
        exact .inl hD
      · have : (C.prot D o).H0 q = C.H0 q := upd_ne z
        rw [this] at h
        exact R.fr.kp q u h n
    th := fun q n => by
      by_cases z : q = D
      · subst z; rw [hD]; exact fun z => by cases z
      · exact R.fr.th q (by have : (C.prot D o).H0 q = C.H0 q := upd_ne z; rw [← this]; exact n)
    lk := R.fr.lk
    wf := fun q u h => by
      by_cases z : q = D
      · subst z
        have : (C.prot q o).H0 q = some o := upd_same
        rw [this]; exact fun z => by cases z
      · have : (C.prot D o).H0 q = C.H0 q := upd_ne z
        rw [this]; exact R.fr.wf q u h
    wa := fun i q h => by
      by_cases z : q = D
      · subst z
        have : (C.prot q o).H0 q = some o := upd_same
        rw [this]; exact fun z => by cases z
      · have : (C.prot D o).H0 q = C.H0 q := upd_ne z
        rw [this]; exact R.fr.wa i q h
    wb := R.fr.wb
    fl := fun q ob u e => by
      by_cases z : q = D
      · subst z
        rw [hD] at e; cases e
        exact upd_same
      · have : (C.prot D o).H0 q = C.H0 q := upd_ne z
        rw [this]; exact R.fr.fl q ob u e }
  len := R.len
  nd := R.nd
  sl := fun i s h => by
    obtain ⟨ov, h1, h2⟩ := R.sl i s h
    refine ⟨ov, h1, ?_⟩
    cases s with
    | f d => exact h2
    | o d =>
      obtain ⟨p, e, a, b, c⟩ := h2
      have z : p ≠ D := fun z => by subst z; subst e; exact hs i (isO_o h) h1
      have : (C.prot D o).H0 p = C.H0 p := upd_ne z
      exact ⟨p, e, by rw [this]; exact a, b, c⟩
    | b d => exact h2
theorem Rl.unprot (R : Rl L (C.prot D o) F H σ env) (h0 : C.H0 D = none) (hF : C.F0 D = none) (ha : ∀ i, C.ad i ≠ some D) (hL : ¬ L D) (nT : ∀ vs, o ≠ .tup vs) (nf : isFz o = false := by rfl) : Rl L C F H σ env ∧ H D = some o ∧ F D = none ∧ ∀ i, IsO env i → σ[i]? ≠ some (some (.ref D)) := by
  have hDD : (C.prot D o).H0 D = some o := upd_same
  have hne : ∀ q, q ≠ D → (C.prot D o).H0 q = C.H0 q := fun q z => upd_ne z
  have hHD : H D = some o := by
    rcases R.fr.kp D o hDD (fun ⟨i, z⟩ => ha i z) with z | ⟨z, _⟩
    · exact z
    · exact absurd z hL
  refine ⟨⟨⟨R.fr.fz, fun q n => ?_, fun q u h n => ?_, fun q n => ?_, R.fr.lk, fun q u h => ?_, fun i q h => ?_, R.fr.wb, fun q ob u e => ?_⟩, R.len, fun i s h => ?_, R.nd⟩, hHD, ?_, fun i ho e => ?_⟩
  · have z : q ≠ D := fun z => by subst z; exact n h0
    exact R.fr.fn q (by rw [hne q z]; exact n)
  · have z : q ≠ D := fun z => by subst z; rw [h0] at h; cases h
    exact R.fr.kp q u (by rw [hne q z]; exact h) n
  · have z : q ≠ D := fun z => by subst z; exact n h0
    exact R.fr.th q (by rw [hne q z]; exact n)
  · have z : q ≠ D := fun z => by subst z; rw [hF] at h; cases h
    have := R.fr.wf q u h
    rw [hne q z] at this; exact this
  · have z : q ≠ D := fun z => by subst z; exact ha i h
    have := R.fr.wa i q h
    rw [hne q z] at this; exact this
  · have z : q ≠ D := fun z => by subst z; rw [hHD] at e; cases e; cases nf
    have := R.fr.fl q ob u e
    rw [hne q z] at this; exact this
  · obtain ⟨ov, h1, h2⟩ := R.sl i s h
    refine ⟨ov, h1, ?_⟩
    cases s with
    | f d => exact h2
    | o d =>
      obtain ⟨p, e, a, b, c⟩ := h2
      have z : p ≠ D := fun z => by subst z; rw [hDD] at a; cases a
      exact ⟨p, e, by rw [hne p z] at a; exact a, b, c⟩
    | b d => exact h2
  · rcases R.fr.fn D (by rw [hDD]; exact fun z => by cases z) with z | ⟨_, vs, z⟩
    · rw [z]; exact hF
    · rw [hHD] at z; cases z; exact absurd rfl (nT vs)
  · obtain ⟨s, hs, ns⟩ := isO_get ho
    obtain ⟨ov, h1, h2⟩ := R.sl i s hs
    rw [h1] at e; cases e
    cases s with
    | f d => exact ns d rfl
    | o d =>
      obtain ⟨p, e, a, b, c⟩ := h2
      cases e; rw [hDD] at a; cases a
    | b d =>
      obtain ⟨p, e, a, b, c⟩ := h2
      cases e; exact ha i a
end
def dYes : DT := fun env Q _ => Q true env
structure DTs (X : Cx) (E : L2.St → XK) (ifs : List Expr) (dt : DT) : Prop where
  ex : ∃ tt, PTs X ifs tt ∧ ST E tt dt
def dLc (di : DI) (g : DG) (dt : DT) (de : DE) (vs : List Nat) : DE := fun env Q X => di env (fun items env1 => items.length ≤ 100000 ∧ ∃ W : Nat → List Dat → Env → Prop, W 0 [] (wipeE env1 vs) ∧
  (∀ i d acc env', items[i]? = some d → W i acc env' → g (.f d) env' fun env2 => dt env2 (fun b env3 => IfB b (de env3 (fun r env4 => withD (elD r) fun y => W (i + 1) (acc ++ [y]) (wipeE env4 vs)) noX) (W (i + 1) acc (wipeE env3 vs))) noX) ∧
  ∀ acc env', W items.length acc env' → Q (.n (.lst acc)) (restF env1 (wipeE env' vs) vs)) X
section
variable {X : Cx} {E : L2.St → XK} {e : Expr}
theorem dts_nil : DTs X E [] dYes := ⟨_, pts_nil, fun L C F H σ env Q Qd Xd R h k x => k F H true env (Ex.refl F) R h⟩
theorem dts_one {c : Expr} {dt : DT} (h : DTx X E c dt) : DTs X E [c] dt := by
  obtain ⟨t, p, s⟩ := h.ex
  exact ⟨t, pts_one p, s⟩
theorem lc_g {tg : Expr} {ws : List Nat} {g : DG} {Y : Shared → Hp → Addr → List (Str × Addr) → List Addr → Cx} (hg : ∀ s H C cl fp, DGx (Y s H C cl fp) tg ws g) : ∃ t, (∀ s H C cl fp, PG (Y s H C cl fp) tg t) ∧ SG ws t g := by
  refine ⟨fun v σ H Q => ∀ s H' C cl fp, Classical.choose (hg s H' C cl fp).ex v σ H Q, fun s H C cl fp => ⟨fun pins s' σ H' v u Q I r h => ?_⟩, fun L C F H σ env v r Q Qd R rv h k s H' C' cl fp => ?_⟩
  · exact (Classical.choose_spec (hg s H C cl fp).ex).1.run pins s' σ H' v u Q I r (h s H C cl fp)
  · exact (Classical.choose_spec (hg s H' C' cl fp).ex).2 L C F H σ env v r Q Qd R rv h k
theorem lc_t {ifs : List Expr} {dt : DT} {Y : Shared → Hp → Addr → List (Str × Addr) → List Addr → Cx} (hg : ∀ s H C cl fp, DTs (Y s H C cl fp) E ifs dt) : ∃ t, (∀ s H C cl fp, PTs (Y s H C cl fp) ifs t) ∧ ST E t dt := by
  refine ⟨fun σ H Q => ∀ s H' C cl fp, Classical.choose (hg s H' C cl fp).ex σ H Q, fun s H C cl fp => ⟨fun pins s' σ H' Q I h => ?_⟩, fun L C F H σ env Q Qd Xd R h k x s H' C' cl fp => ?_⟩
  · exact (Classical.choose_spec (hg s H C cl fp).ex).1.run pins s' σ H' Q I (h s H C cl fp)
  · exact (Classical.choose_spec (hg s H' C' cl fp).ex).2 L C F H σ env Q Qd Xd R h k x
theorem lc_e {e : Expr} {de : DE} {Y : Shared → Hp → Addr → List (Str × Addr) → List Addr → Cx} (hg : ∀ s H C cl fp, DEx (Y s H C cl fp) E e de) : ∃ t, (∀ s H C cl fp, PE (Y s H C cl fp) e t) ∧ SE E t de := by
  refine ⟨fun σ H Q => ∀ s H' C cl fp, Classical.choose (hg s H' C cl fp).ex σ H Q, fun s H C cl fp => ⟨fun pins s' σ H' Q I h => ?_⟩, fun L C F H σ env Q Qd Xd R h k x s H' C' cl fp => ?_⟩
  · exact (Classical.choose_spec (hg s H C cl fp).ex).1.run pins s' σ H' Q I (h s H C cl fp)
  · exact (Classical.choose_spec (hg s H' C' cl fp).ex).2 L C F H σ env Q Qd Xd R h k x
theorem lc_core {tg : TG} {tt : TT} {te : TE} {g : DG} {dt : DT} {de : DE} {vs ws : List Nat} (hg : SG ws tg g) (hw : ∀ i ∈ ws, i ∈ vs) (ht : ST E tt dt) (he : SE E te de) {L : Addr → Prop} {C : Cc} {F F1 H1 : Hp} {σ : L2.St} {Q : VK} {Qd : Res → Env → Prop} {J : It} {items : List Dat} {env1 : Env}
    (k : ∀ F' H' v r env', Ex F F' → Rl L C F' H' σ env' → RV2 C F' H' σ env' v r → Qd r env' → Q v H') (e1 : Ex F F1) (R1 : Rl L C F1 H1 σ env1) (hlen : items.length ≤ 100000) (W : Nat → List Dat → Env → Prop) (w0 : W 0 [] (wipeE env1 vs))
    (turn : ∀ i d acc env', items[i]? = some d → W i acc env' → g (.f d) env' fun env2 => dt env2 (fun b env3 => IfB b (de env3 (fun r env4 => withD (elD r) fun y => W (i + 1) (acc ++ [y]) (wipeE env4 vs)) noX) (W (i + 1) acc (wipeE env3 vs))) noX)
    (done : ∀ acc env', W items.length acc env' → Qd (.n (.lst acc)) (restF env1 (wipeE env' vs) vs))
    (w1 : ∀ F' H' env', Ex F1 F' → Rl L C F' H' (wipe σ vs) env' → ∀ i acc, W i acc env' → (∀ d, items[i]? = some d → J.go i H' ∧ ∀ x H2, J.yld i H' x H2 → ∃ F2, Gr F' H' F2 H2 ∧ Rep F2 x d) ∧ (items.length ≤ i → J.stop i H')) :
    tLc (fun _ H R => R J H) tg tt te vs σ H1 Q := by
  intro D hD
  have hD0 : C.H0 D = none := R1.fr.new0 hD
  have hDF : C.F0 D = none := by
    cases e : C.F0 D with
    | none => rfl
    | some u => exact absurd hD0 (R1.fr.wf D u e)
  have hDa : ∀ i, C.ad i ≠ some D := fun i z => R1.fr.wa i D z hD0
  have hDL : ¬ L D := fun z => by
    obtain ⟨ob, o, e⟩ := R1.fr.lk D z
    rw [hD] at e; cases e
  have gD := R1.fr.grO hD (.lst [])
  -- the state at the head of a turn
  refine ⟨fun i m H' => m = items.length - i ∧ i ≤ items.length ∧ ∃ F' env' acc vacc, Ex F1 F' ∧ Rl L C F' H' (wipe σ vs) env' ∧ acc.length ≤ i ∧ H' D = some (.lst vacc) ∧ Reps F' vacc acc ∧ F' D = none ∧ (∀ j, IsO env' j → (wipe σ vs)[j]? ≠ some (some (.ref D))) ∧ W i acc env', ?_, ?_⟩
  · refine ⟨_, rfl, Nat.zero_le _, F1, wipeE env1 vs, [], [], Ex.refl F1, (R1.grow gD).wiped vs, Nat.le_refl _, upd_same, .nil, R1.fr.fz_eq hD, fun j hj => ?_, w0⟩
    exact (R1.wiped vs).not_none hD hj
  · rintro i m H2 ⟨rfl, hile, F2, env2, acc, vacc, e2, R2, hacc, hD2, rs2, hF2, ns2, w2⟩
    by_cases hlt : i < items.length
    · have hd : items[i]? = some items[i] := List.getElem?_eq_getElem hlt
      obtain ⟨go, yld⟩ := (w1 F2 H2 env2 e2 R2 i acc w2).1 _ hd
      have turn := turn i _ acc env2 hd w2
      refine .inr ⟨go, fun H' => ∃ F' env' acc' vacc', Ex F1 F' ∧ Rl L C F' H' (wipe σ vs) env' ∧ acc'.length ≤ i + 1 ∧ H' D = some (.lst vacc') ∧ Reps F' vacc' acc' ∧ F' D = none ∧ (∀ j, IsO env' j → (wipe σ vs)[j]? ≠ some (some (.ref D))) ∧ W (i + 1) acc' env', ?_, fun v H3 y => ?_⟩
      · rintro H' ⟨F', env', acc', vacc', a1, a2, a3, a4, a5, a6, a7, a8⟩
        exact ⟨items.length - (i + 1), by omega, rfl, hlt, F', env', acc', vacc', a1, a2, a3, a4, a5, a6, a7, a8⟩
      · obtain ⟨F3, g3, r3⟩ := yld v H3 y
        have R3 : Rl L (C.prot D (.lst vacc)) F3 H3 (wipe σ vs) env2 := (R2.grow g3).prot hD0 (g3.own (d := .lst acc) hF2 ⟨vacc, hD2, rs2⟩) (g3.hx _ _ hD2) ns2
        refine hg L _ F3 H3 _ env2 v (.f items[i]) _ _ R3 r3 turn fun F4 H4 σ4 env4 e4 R4 w4 q4 => ⟨?_, ?_⟩
        · have := w4 vs hw
          rw [this]
          have ww : ∀ (us : List Nat) (ys : List Nat), (∀ u ∈ us, u ∈ ys) → wipe (wipe σ us) ys = wipe σ ys := by
            intro us
            induction us with
            | nil => intro ys _; rfl
            | cons u us ih =>
              intro ys hy
              show wipe ((wipe σ us).set u none) ys = _
              rw [wipe_set (hy u (by simp))]
              exact ih ys fun z hz => hy z (by simp [hz])
          rw [ww vs vs fun _ h => h]
        have ew : wipe σ4 vs = wipe σ vs := by
          have := w4 vs hw
          rw [this]
          have ww : ∀ (us : List Nat) (ys : List Nat), (∀ u ∈ us, u ∈ ys) → wipe (wipe σ us) ys = wipe σ ys := by
            intro us
            induction us with
            | nil => intro ys _; rfl
            | cons u us ih =>
              intro ys hy
              show wipe ((wipe σ us).set u none) ys = _
              rw [wipe_set (hy u (by simp))]
              exact ih ys fun z hz => hy z (by simp [hz])
          rw [ww vs vs fun _ h => h]
        have x0 : ∀ F', XOk L (C.prot D (.lst vacc)) F' E noX := fun F' _ _ _ _ _ _ _ _ _ _ _ z => z.elim
        refine ht L _ F4 H4 σ4 env4 _ _ noX R4 q4 (fun F5 H5 b env5 e5 R5 q5 => ?_) (x0 _)
        cases b with
        | false =>
          have q5 : W (i + 1) acc (wipeE env5 vs) := q5.f
          obtain ⟨R6, hD6, hF6, ns6⟩ := R5.unprot hD0 hDF hDa hDL (fun _ y => by cases y)
          refine ⟨F5, wipeE env5 vs, acc, vacc, e2.trans (g3.fx.trans (e4.trans e5)), ?_, by omega, hD6, rs2.mono (g3.fx.trans (e4.trans e5)), hF6, fun j hj => ?_, q5⟩
          · have := R6.wiped vs
            rwa [ew] at this
          · have h1 := R5.wiped vs
            rw [ew] at h1
            exact (h1.unprot hD0 hDF hDa hDL (fun _ y => by cases y)).2.2.2 j hj
        | true =>
          have q5 : de env5 (fun r env4 => withD (elD r) fun y => W (i + 1) (acc ++ [y]) (wipeE env4 vs)) noX := q5.t
          refine he L _ F5 H5 σ4 env5 _ _ noX R5 q5 (fun F6 H6 v6 r6 env6 e6 R6 rv6 q6 => ?_) (x0 _)
          obtain ⟨y, hy, q6⟩ := withD_of q6
          obtain ⟨F7, e7, R7, r7⟩ : ∃ F7, Ex F6 F7 ∧ Rl L (C.prot D (.lst vacc)) F7 H6 σ4 env6 ∧ Rep F7 v6 y := by
            cases r6 with
            | f d => cases hy; exact ⟨F6, Ex.refl _, R6, rv6⟩
            | n d => cases hy; exact R6.frz rv6
            | l j => cases hy
          have h1 := R7.wiped vs
          rw [ew] at h1
          obtain ⟨R8, hD8, hF8, ns8⟩ := h1.unprot hD0 hDF hDa hDL (fun _ y => by cases y)
          have e17 := e2.trans (g3.fx.trans (e4.trans (e5.trans (e6.trans e7))))
          refine ⟨vacc, hD8, ?_, F7, wipeE env6 vs, acc ++ [y], vacc ++ [v6], e17, ?_, ?_, upd_same, (rs2.mono (g3.fx.trans (e4.trans (e5.trans (e6.trans e7))))).append (.cons r7 .nil), hF8, ns8, q6⟩
          · have := rs2.len
            have hs : (100000 : Nat) < sizeLine := by decide
            omega
          · refine ⟨R8.fr.write hF8 (.inl hD0) hDL _ rfl, R8.len, fun j s hj => ?_, R8.nd⟩
            obtain ⟨ov, h2, h3⟩ := R8.sl j s hj
            refine ⟨ov, h2, ?_⟩
            cases s with
            | f d => exact h3
            | o d =>
              obtain ⟨p, z, a, b, c⟩ := h3
              have np : p ≠ D := fun y => by subst y; subst z; exact ns8 j (isO_o hj) h2
              exact ⟨p, z, a, b, c.mono (Ex.refl _) (upd_ne np)⟩
            | b d =>
              obtain ⟨p, z, a, b, c⟩ := h3
              have np : p ≠ D := fun y => by subst y; subst z; exact ns8 j (isO_b hj) h2
              exact ⟨p, z, a, b, c.mono (Ex.refl _) (upd_ne np)⟩
          · rw [List.length_append, List.length_singleton]; omega
    · have e : i = items.length := by omega
      subst e
      refine .inl ⟨(w1 F2 H2 env2 e2 R2 _ acc w2).2 (Nat.le_refl _), ?_⟩
      have R3 := Rl.rest R1 e2 (Rl.unwiped R2) (vs := vs)
      refine k F2 H2 (.ref D) (.n (.lst acc)) _ (e1.trans e2) R3 ⟨D, rfl, ⟨hD0, hF2, vacc, hD2, rs2⟩, fun j hj => ?_⟩ (done acc env2 w2)
      obtain ⟨h1, h2⟩ := isO_wipeE (isO_restF hj)
      have := ns2 j h1
      rwa [wipe_out h2] at this
theorem se_lc {wi : TI} {tg : TG} {tt : TT} {te : TE} {di : DI} {g : DG} {dt : DT} {de : DE} {vs ws : List Nat} (hi : SI E wi di) (hg : SG ws tg g) (hw : ∀ i ∈ ws, i ∈ vs) (ht : ST E tt dt) (he : SE E te de) : SE E (tLc wi tg tt te vs) (dLc di g dt de vs) := fun L C F H σ env Q Qd Xd R h k x => by
  refine hi L C F H σ env _ _ Xd R h (fun F1 H1 J items env1 e1 R1 w1 q1 => ?_) x
  obtain ⟨hlen, W, w0, turn, done⟩ := q1
  exact lc_core hg hw ht he k e1 R1 hlen W w0 turn done fun F' H' env' e R' i acc _ => w1 F' H' _ env' e R' i
/-- over an own list that is left as it is -/
def dLcO (j : Nat) (g : DG) (dt : DT) (de : DE) (vs : List Nat) : DE := fun env Q X => match ownD env j with
  | none => dLc (dSeqI (dVar j)) g dt de vs env Q X
  | some (.lst items) => items.length ≤ 100000 ∧ ∃ W : Nat → List Dat → Env → Prop, W 0 [] (wipeE env vs) ∧
    (∀ i d acc env', items[i]? = some d → W i acc env' → g (.f d) env' fun env2 => dt env2 (fun b env3 => IfB b (de env3 (fun r env4 => withD (elD r) fun y => W (i + 1) (acc ++ [y]) (wipeE env4 vs)) noX) (W (i + 1) acc (wipeE env3 vs))) noX) ∧
    (∀ i acc env', W i acc env' → ownD env' j = some (.lst items)) ∧
    ∀ acc env', W items.length acc env' → Q (.n (.lst acc)) (restF env (wipeE env' vs) vs)
  | _ => False
theorem se_lcO {K : PySem.W.Frag} {tg : TG} {tt : TT} {te : TE} {g : DG} {dt : DT} {de : DE} {vs ws : List Nat} {j : Nat} (hj : j ∉ vs) (hg : SG ws tg g) (hw : ∀ i ∈ ws, i ∈ vs) (ht : ST E tt dt) (he : SE E te de) : SE E (tLc (iSeq K (tVar j)) tg tt te vs) (dLcO j g dt de vs) := fun L C F H σ env Q Qd Xd R h k x => by
  unfold dLcO at h
  split at h
  · exact se_lc (si_seq se_var) hg hw ht he L C F H σ env Q Qd Xd R h k x
  · next items hd =>
    obtain ⟨hlen, W, w0, turn, keep, done⟩ := h
    obtain ⟨p, hp, hF, ⟨vs0, hc, rs⟩, _⟩ := R.own hd
    refine ⟨.ref p, hp, p, rfl, .inl ⟨⟨vs0, .inl (.inl hc)⟩, ?_⟩⟩
    refine lc_core hg hw ht he k (Ex.refl F) R hlen W w0 turn done fun F' H' env' e R' i acc hW => ?_
    obtain ⟨p', hp', hF', ⟨ws', hc', rs'⟩, _⟩ := R'.own (keep i acc env' hW)
    rw [wipe_out hj, hp] at hp'
    cases hp'
    have hs : SqL K H' p ws' := .inl (.inl hc')
    refine ⟨fun d hd => ?_, fun hl => ⟨ws', hs, by rw [rs'.len]; exact hl⟩⟩
    obtain ⟨v, hv, rv⟩ := rs'.get hd
    refine ⟨⟨ws', v, hs, hv⟩, fun x H2 ⟨e, y⟩ => ?_⟩
    subst e
    have := y ws' hs
    rw [hv] at this; cases this
    exact ⟨F', Gr.refl R'.fr, rv⟩
  · exact h.elim
/-- one reading for all contexts of a block -/
theorem de_lc {elt tg iter : Expr} {ifs : List Expr} {scope : Scope} {own : List (Str × Nat)} {pos : Pos} {di : DI} {g : DG} {dt : DT} {de : DE} {ws : List Nat} (hc : X.calm = true) (hN : X.N.Nodup) (hi : DIx X E tg iter di) (ok : BlkOk X.N X.env.scope scope own)
    (hg : ∀ (s : Shared) (H : Hp) (C : Addr) (cl : List (Str × Addr)) (fp : List Addr), DGx (X.blk s H scope (compEnvC scope cl C X.env) fp) tg ws g) (ht : ∀ (s : Shared) (H : Hp) (C : Addr) (cl : List (Str × Addr)) (fp : List Addr), DTs (X.blk s H scope (compEnvC scope cl C X.env) fp) E ifs dt)
    (he : ∀ (s : Shared) (H : Hp) (C : Addr) (cl : List (Str × Addr)) (fp : List Addr), DEx (X.blk s H scope (compEnvC scope cl C X.env) fp) E elt de) (hw : ∀ i ∈ ws, i ∈ own.map (·.2) := by decide) (hs : ∀ x, foldedSetIterable iter X.env x = pure x := by intro _; rfl) :
    DEx X E (.ListComp elt [⟨tg, iter, ifs, 0⟩] scope pos) (dLc di g dt de (own.map (·.2))) := by
  obtain ⟨t, p, s⟩ := hi.ex
  obtain ⟨g', pg, sg⟩ := lc_g hg
  obtain ⟨t', pt, st⟩ := lc_t ht
  obtain ⟨e', pe, se⟩ := lc_e he
  exact ⟨_, pe_lc hc hN p ok pg pt pe hs, se_lc s sg hw st se⟩
theorem de_lcO {elt tg : Expr} {y : Str} {py : Pos} {j : Nat} {ifs : List Expr} {scope : Scope} {own : List (Str × Nat)} {pos : Pos} {g : DG} {dt : DT} {de : DE} {ws : List Nat} (hc : X.calm = true) (hN : X.N.Nodup) (hy : X.N[j]? = some y) (hv : Vis X.env.scope y) (ok : BlkOk X.N X.env.scope scope own)
    (hg : ∀ (s : Shared) (H : Hp) (C : Addr) (cl : List (Str × Addr)) (fp : List Addr), DGx (X.blk s H scope (compEnvC scope cl C X.env) fp) tg ws g) (ht : ∀ (s : Shared) (H : Hp) (C : Addr) (cl : List (Str × Addr)) (fp : List Addr), DTs (X.blk s H scope (compEnvC scope cl C X.env) fp) E ifs dt)
    (he : ∀ (s : Shared) (H : Hp) (C : Addr) (cl : List (Str × Addr)) (fp : List Addr), DEx (X.blk s H scope (compEnvC scope cl C X.env) fp) E elt de) (hw : ∀ i ∈ ws, i ∈ own.map (·.2) := by decide) (hj : j ∉ own.map (·.2) := by decide) (hdb : (y == ("__debug__" : Str)) = false := by decide) (hcd : (y == ("__classdict__" : Str)) = false := by decide) :
    DEx X E (.ListComp elt [⟨tg, .Name y py, ifs, 0⟩] scope pos) (dLcO j g dt de (own.map (·.2))) := by
  obtain ⟨g', pg, sg⟩ := lc_g hg
  obtain ⟨t', pt, st⟩ := lc_t ht
  obtain ⟨e', pe, se⟩ := lc_e he
  exact ⟨_, pe_lc hc hN (pi_seq (pe_var hy hv hdb hcd)) ok pg pt pe (by intro _; rfl), se_lcO hj sg hw st se⟩
theorem ds_setLc {i : Nat} {y : Str} {py : Pos} {elt tg iter : Expr} {ifs : List Expr} {scope : Scope} {own : List (Str × Nat)} {pos spos : Pos} {di : DI} {g : DG} {dt : DT} {de : DE} {ws : List Nat} (hc : X.calm = true) (hN : X.N.Nodup) (hy : X.N[i]? = some y) (hyl : X.env.scope.names.lookup y = some .local)
    (hsw : swapsWith (.ListComp elt [⟨tg, iter, ifs, 0⟩] scope pos) (some (.Name y py)) spos.line X.env = pure true) (hi : DIx X E tg iter di) (ok : BlkOk X.N X.env.scope scope own)
    (hg : ∀ (s : Shared) (H : Hp) (C : Addr) (cl : List (Str × Addr)) (fp : List Addr), DGx (X.blk s H scope (compEnvC scope cl C X.env) fp) tg ws g) (ht : ∀ (s : Shared) (H : Hp) (C : Addr) (cl : List (Str × Addr)) (fp : List Addr), DTs (X.blk s H scope (compEnvC scope cl C X.env) fp) E ifs dt)
    (he : ∀ (s : Shared) (H : Hp) (C : Addr) (cl : List (Str × Addr)) (fp : List Addr), DEx (X.blk s H scope (compEnvC scope cl C X.env) fp) E elt de) (hw : ∀ i ∈ ws, i ∈ own.map (·.2) := by decide) (hs : ∀ x, foldedSetIterable iter X.env x = pure x := by intro _; rfl) :
    DSx X E (.Assign [.Name y py] (.ListComp elt [⟨tg, iter, ifs, 0⟩] scope pos) spos) (dAsg (dLc di g dt de (own.map (·.2))) i) := by
  obtain ⟨t, p, s⟩ := hi.ex
  obtain ⟨g', pg, sg⟩ := lc_g hg
  obtain ⟨t', pt, st⟩ := lc_t ht
  obtain ⟨e', pe, se⟩ := lc_e he
  exact ⟨_, ps_setLc hc hN hy hyl hsw p ok pg pt pe hs, ss_asg (se_lc s sg hw st se)⟩
theorem ds_setLcO {i : Nat} {y : Str} {py : Pos} {elt tg : Expr} {z : Str} {pz : Pos} {jj : Nat} {ifs : List Expr} {scope : Scope} {own : List (Str × Nat)} {pos spos : Pos} {g : DG} {dt : DT} {de : DE} {ws : List Nat} (hc : X.calm = true) (hN : X.N.Nodup) (hy : X.N[i]? = some y) (hyl : X.env.scope.names.lookup y = some .local)
    (hsw : swapsWith (.ListComp elt [⟨tg, .Name z pz, ifs, 0⟩] scope pos) (some (.Name y py)) spos.line X.env = pure true) (hz : X.N[jj]? = some z) (hv : Vis X.env.scope z) (ok : BlkOk X.N X.env.scope scope own)
    (hg : ∀ (s : Shared) (H : Hp) (C : Addr) (cl : List (Str × Addr)) (fp : List Addr), DGx (X.blk s H scope (compEnvC scope cl C X.env) fp) tg ws g) (ht : ∀ (s : Shared) (H : Hp) (C : Addr) (cl : List (Str × Addr)) (fp : List Addr), DTs (X.blk s H scope (compEnvC scope cl C X.env) fp) E ifs dt)
    (he : ∀ (s : Shared) (H : Hp) (C : Addr) (cl : List (Str × Addr)) (fp : List Addr), DEx (X.blk s H scope (compEnvC scope cl C X.env) fp) E elt de) (hw : ∀ i ∈ ws, i ∈ own.map (·.2) := by decide) (hj : jj ∉ own.map (·.2) := by decide) (hdb : (z == ("__debug__" : Str)) = false := by decide) (hcd : (z == ("__classdict__" : Str)) = false := by decide) :
    DSx X E (.Assign [.Name y py] (.ListComp elt [⟨tg, .Name z pz, ifs, 0⟩] scope pos) spos) (dAsg (dLcO jj g dt de (own.map (·.2))) i) := by
  obtain ⟨g', pg, sg⟩ := lc_g hg
  obtain ⟨t', pt, st⟩ := lc_t ht
  obtain ⟨e', pe, se⟩ := lc_e he
  exact ⟨_, ps_setLc hc hN hy hyl hsw (pi_seq (pe_var hz hv hdb hcd)) ok pg pt pe (by intro _; rfl), ss_asg (se_lcO hj sg hw st se)⟩
end
end DL

set_option Elab.async false
set_option linter.all false
set_option maxRecDepth 100000
set_option maxHeartbeats 2000000
namespace DL
open PySem PySem.Spec PyProof.Rows L2
variable [ClsV]

/-! ### data without lists and dicts -/
mutual
def imm : Dat → Bool
  | .tup l => immL l
  | .lst _ => false
  | .dk _ => false
  | .dt _ => false
  | .ins _ _ => false
  | .exc _ (some _) => false
  | _ => true
def immL : List Dat → Bool
  | [] => true
  | d :: l => imm d && immL l
end
def immP {κ : Type} : List (κ × Dat) → Bool
  | [] => true
  | d :: l => imm d.2 && immP l
/-- the parts of an object -/
def immC : Dat → Bool
  | .lst l => immL l
  | .dk l => immP l
  | .dt l => immP l
  | .ins _ l => immP l
  | _ => false
def immR : Res → Bool
  | .f d => imm d
  | .n d => immC d
  | .l _ => false
def isT : HO → Bool
  | .tup _ => true
  | .xd _ => true
  | .ext _ => true
  | _ => false
section
variable {F F2 : Hp} (k : ∀ q o, F q = some o → isT o = true → F2 q = some o)
mutual
theorem imm_rep (k : ∀ q o, F q = some o → isT o = true → F2 q = some o) : ∀ {d : Dat} {v : V}, imm d = true → Rep F v d → Rep F2 v d
  | .non, _, _, .non => .non
  | .bl b, _, _, .bl _ => .bl b
  | .int b, _, _, .int _ => .int b
  | .str b, _, _, .str _ => .str b
  | .tup l, _, h, .tup e r => .tup (k _ _ e rfl) (imm_reps k (show immL l = true from h) r)
  | .lst l, _, h, _ => by cases (show false = true from h)
  | .dk l, _, h, _ => by cases (show false = true from h)
  | .dt l, _, h, _ => by cases (show false = true from h)
  | .ins C l, _, h, _ => by cases (show false = true from h)
  | .raw v, _, _, .raw _ => .raw v
  | .exc _ none, _, h, .exc o e => .exc o (k _ _ e rfl)
  | .exc _ (some _), _, h, _ => by cases (show false = true from h)
theorem imm_reps (k : ∀ q o, F q = some o → isT o = true → F2 q = some o) : ∀ {ds : List Dat} {vs : List V}, immL ds = true → Reps F vs ds → Reps F2 vs ds
  | [], _, _, .nil => .nil
  | d :: l, _, h, .cons a t => by
    have h' : (imm d && immL l) = true := h
    rw [Bool.and_eq_true] at h'
    exact .cons (imm_rep k h'.1 a) (imm_reps k h'.2 t)
end
theorem imm_repK (k : ∀ q o, F q = some o → isT o = true → F2 q = some o) : ∀ {ds : List (Key × Dat)} {vs : List (Key × V)}, immP ds = true → RepK F vs ds → RepK F2 vs ds
  | [], _, _, .nil => .nil
  | d :: l, _, h, .cons a t => by
    have h' : (imm d.2 && immP l) = true := h
    rw [Bool.and_eq_true] at h'
    exact .cons (imm_rep k h'.1 a) (imm_repK k h'.2 t)
theorem imm_repT (k : ∀ q o, F q = some o → isT o = true → F2 q = some o) : ∀ {ds : List (List Key × Dat)} {vs : List (List Key × V)}, immP ds = true → RepT F vs ds → RepT F2 vs ds
  | [], _, _, .nil => .nil
  | d :: l, _, h, .cons a t => by
    have h' : (imm d.2 && immP l) = true := h
    rw [Bool.and_eq_true] at h'
    exact .cons (imm_rep k h'.1 a) (imm_repT k h'.2 t)
theorem imm_repF (k : ∀ q o, F q = some o → isT o = true → F2 q = some o) : ∀ {ds : List (Str × Dat)} {vs : List (Str × V)}, immP ds = true → RepF F vs ds → RepF F2 vs ds
  | [], _, _, .nil => .nil
  | d :: l, _, h, .cons a t => by
    have h' : (imm d.2 && immP l) = true := h
    rw [Bool.and_eq_true] at h'
    exact .cons (imm_rep k h'.1 a) (imm_repF k h'.2 t)
theorem imm_cont {H : Hp} {p : Addr} {d : Dat} (k : ∀ q o, F q = some o → isT o = true → F2 q = some o) (h : immC d = true) (c : Cont F H p d) : Cont F2 H p d := by
  cases d with
  | lst ds => obtain ⟨vs, e, r⟩ := c; exact ⟨vs, e, imm_reps k h r⟩
  | dk ds => obtain ⟨vs, e, r⟩ := c; exact ⟨vs, e, imm_repK k h r⟩
  | dt ds => obtain ⟨vs, e, r⟩ := c; exact ⟨vs, e, imm_repT k h r⟩
  | ins C ds => obtain ⟨dx, vs, e, r⟩ := c; exact ⟨dx, vs, e, imm_repF k h r⟩
  | _ => exact c.elim
end

/-! ### the promise of a def -/
inductive Ar where
  | f (d : Dat) | m (d : Dat)
abbrev DSp := List Ar → (Res → List Dat → Prop) → (Str → Option (List (Str × Dat)) → List Dat → Prop) → Prop
inductive ArsOk (C : Cc) (F H : Hp) : Nat → List V → List Ar → Prop
  | nil {n : Nat} : ArsOk C F H n [] []
  | f {n : Nat} {v : V} {d : Dat} {vs : List V} {as : List Ar} : Rep F v d → ArsOk C F H (n + 1) vs as → ArsOk C F H n (v :: vs) (.f d :: as)
  | m {n : Nat} {p : Addr} {d : Dat} {vs : List V} {as : List Ar} : Bow C n F H p d → ArsOk C F H (n + 1) vs as → ArsOk C F H n (.ref p :: vs) (.m d :: as)
inductive OutOk (C : Cc) (F H : Hp) : Nat → List V → List Ar → List Dat → Prop
  | nil {n : Nat} : OutOk C F H n [] [] []
  | f {n : Nat} {v : V} {d : Dat} {vs : List V} {as : List Ar} {ds : List Dat} : OutOk C F H (n + 1) vs as ds → OutOk C F H n (v :: vs) (.f d :: as) ds
  | m {n : Nat} {p : Addr} {d d' : Dat} {vs : List V} {as : List Ar} {ds : List Dat} : Bow C n F H p d' → OutOk C F H (n + 1) vs as ds → OutOk C F H n (.ref p :: vs) (.m d :: as) (d' :: ds)
def RR (C : Cc) (F H : Hp) (v : V) : Res → Prop
  | .f d => Rep F v d
  | .n d => ∃ p, v = .ref p ∧ Own C F H p d
  | .l _ => False
def lift (dsp : DSp) : Sp := fun vs H Q E => ∃ (L : Addr → Prop) (C : Cc) (as : List Ar) (Qd : Res → List Dat → Prop) (Xd : Str → Option (List (Str × Dat)) → List Dat → Prop), C.H0 = H ∧ Fr L C C.F0 H ∧ (∀ i j p, C.ad i = some p → C.ad j = some p → i = j) ∧ ArsOk C C.F0 H 0 vs as ∧
  dsp as Qd Xd ∧ (∀ r ds F' H' v, Qd r ds → Fr L C F' H' → RR C F' H' v r → OutOk C F' H' 0 vs as ds → Q v H') ∧
    (∀ cls fds ds F' H' od, Xd cls fds ds → Fr L C F' H' → XF F' od fds → ClsV.ok cls → OutOk C F' H' 0 vs as ds → E (ClsV.v cls) od H')

/-! ### a call -/
def argsOf (env : Env) : List Bool → List Res → Option (List Ar)
  | [], [] => some []
  | true :: ms, .l i :: rs => match ownD env i, argsOf env ms rs with
    | some d, some as => some (.m d :: as)
    | _, _ => none
  | false :: ms, r :: rs => match view env r, argsOf env ms rs with
    | some d, some as => some (.f d :: as)
    | _, _ => none
  | _, _ => none
/-- the slots that are lent to be changed; to be read -/
def mutI : List Bool → List Res → List Nat
  | true :: ms, .l i :: rs => i :: mutI ms rs
  | _ :: ms, _ :: rs => mutI ms rs
  | _, _ => []
def frzI : List Bool → List Res → List Nat
  | false :: ms, .l i :: rs => i :: frzI ms rs
  | _ :: ms, _ :: rs => frzI ms rs
  | _, _ => []
def okLoans (ms : List Bool) (rs : List Res) : Bool := decide (mutI ms rs).Nodup && (mutI ms rs).all fun i => !(frzI ms rs).contains i
def putOuts (env : Env) : List Bool → List Res → List Dat → Env
  | true :: ms, .l i :: rs, d :: ds => putOuts (putO env i d) ms rs ds
  | _ :: ms, _ :: rs, ds => putOuts env ms rs ds
  | _, _, _ => env
def immOk : List Nat → Res → List Dat → Prop
  | [], _, _ => True
  | _, r, ds => immR r = true ∧ ds.all immC = true
def immFs : Option (List (Str × Dat)) → Bool
  | none => true
  | some l => immP l
def immOkX : List Nat → Option (List (Str × Dat)) → List Dat → Prop
  | [], _, _ => True
  | _, r, ds => immFs r = true ∧ ds.all immC = true
/-- what binds the arguments -/
inductive Argd (σ : L2.St) (F : Hp) (env : Env) : Nat → List Bool → List Res → List V → List Ar → Prop
  | nil {n : Nat} : Argd σ F env n [] [] [] []
  | m {n i : Nat} {p : Addr} {d : Dat} {ms : List Bool} {rs : List Res} {vs : List V} {as : List Ar} : σ[i]? = some (some (.ref p)) → ownD env i = some d → Argd σ F env (n + 1) ms rs vs as → Argd σ F env n (true :: ms) (.l i :: rs) (.ref p :: vs) (.m d :: as)
  | fl {n i : Nat} {p : Addr} {d : Dat} {ms : List Bool} {rs : List Res} {vs : List V} {as : List Ar} : σ[i]? = some (some (.ref p)) → ownD env i = some d → Argd σ F env (n + 1) ms rs vs as → Argd σ F env n (false :: ms) (.l i :: rs) (.ref p :: vs) (.f d :: as)
  | ff {n : Nat} {v : V} {d : Dat} {ms : List Bool} {rs : List Res} {vs : List V} {as : List Ar} : Rep F v d → Argd σ F env (n + 1) ms rs vs as → Argd σ F env n (false :: ms) (.f d :: rs) (v :: vs) (.f d :: as)
section
variable {L : Addr → Prop} {C : Cc} {F H F' H' F1 H1 : Hp} {σ : L2.St} {env env1 : Env} {i : Nat} {d : Dat} {v : V} {p D : Addr} {o : HO} {ms : List Bool} {rs : List Res} {vs : List V} {as : List Ar} {ds : List Dat}
theorem argd_of (R : Rl L C F H σ env) : ∀ {n : Nat} {ms : List Bool} {rs : List Res} {vs : List V} {as : List Ar}, RAs F σ vs rs → argsOf env ms rs = some as → Argd σ F env n ms rs vs as
  | n, [], [], _, as, .nil, h => by cases h; exact .nil
  | n, [], r :: rs, _, as, _, h => by cases h
  | n, true :: ms, [], _, as, _, h => by cases h
  | n, false :: ms, [], _, as, _, h => by cases h
  | n, true :: ms, .f d :: rs, _, as, _, h => by cases h
  | n, true :: ms, .n d :: rs, _, as, _, h => by cases h
  | n, true :: ms, .l i :: rs, _, as, .cons a t, h => by
    unfold argsOf at h
    split at h
    · next d as' e1 e2 =>
      cases h
      obtain ⟨p, hp, _⟩ := R.own e1
      have a : σ[i]? = some (some _) := a
      rw [hp] at a; cases a
      exact .m hp e1 (argd_of R t e2)
    · cases h
  | n, false :: ms, .l i :: rs, _, as, .cons a t, h => by
    unfold argsOf at h
    split at h
    · next d as' e1 e2 =>
      cases h
      obtain ⟨p, hp, _⟩ := R.own e1
      have a : σ[i]? = some (some _) := a
      rw [hp] at a; cases a
      exact .fl hp e1 (argd_of R t e2)
    · cases h
  | n, false :: ms, .f d :: rs, _, as, .cons a t, h => by
    unfold argsOf at h
    split at h
    · next d as' e1 e2 =>
      cases h
      cases e1
      exact .ff a (argd_of R t e2)
    · cases h
  | n, false :: ms, .n d :: rs, _, as, .cons a t, h => a.elim
/-- the addresses that are lent to be read -/
def lasOf (σ : L2.St) : List Nat → List Addr
  | [] => []
  | i :: r => match σ[i]? with
    | some (some (.ref p)) => p :: lasOf σ r
    | _ => lasOf σ r
theorem mem_las {q : Addr} : ∀ {is : List Nat}, q ∈ lasOf σ is → ∃ i ∈ is, σ[i]? = some (some (.ref q))
  | [], h => by cases h
  | i :: r, h => by
    unfold lasOf at h
    split at h
    · next p e =>
      rcases List.mem_cons.mp h with z | z
      · subst z; exact ⟨i, by simp, e⟩
      · obtain ⟨j, hj, ej⟩ := mem_las z
        exact ⟨j, by simp [hj], ej⟩
    · obtain ⟨j, hj, ej⟩ := mem_las h
      exact ⟨j, by simp [hj], ej⟩
theorem las_mem {q : Addr} {i : Nat} : ∀ {is : List Nat}, i ∈ is → σ[i]? = some (some (.ref q)) → q ∈ lasOf σ is
  | [], h, _ => by cases h
  | j :: r, h, e => by
    unfold lasOf
    rcases List.mem_cons.mp h with z | z
    · subst z; rw [e]; simp
    · split
      · exact List.mem_cons_of_mem _ (las_mem z e)
      · exact las_mem z e
theorem argd_own : ∀ {n : Nat} {ms : List Bool} {rs : List Res} {vs : List V} {as : List Ar}, Argd σ F env n ms rs vs as → ∀ i, (i ∈ mutI ms rs ∨ i ∈ frzI ms rs) → IsO env i
  | _, _, _, _, _, .nil, i, h => by simp [mutI, frzI] at h
  | _, _, _, _, _, .m (i := j) a b t, i, h => by
    by_cases z : i = j
    · subst z; exact ⟨_, b⟩
    · exact argd_own t i (by simpa [mutI, frzI, z] using h)
  | _, _, _, _, _, .fl (i := j) a b t, i, h => by
    by_cases z : i = j
    · subst z; exact ⟨_, b⟩
    · exact argd_own t i (by simpa [mutI, frzI, z] using h)
  | _, _, _, _, _, .ff a t, i, h => argd_own t i (by simpa [mutI, frzI] using h)
/-- the callee's lent addresses -/
def adOf : List Bool → List V → Nat → Option Addr
  | true :: _, .ref p :: _, 0 => some p
  | _ :: ms, _ :: vs, i + 1 => adOf ms vs i
  | _, _, _ => none
theorem ad_mut : ∀ {n : Nat} {ms : List Bool} {rs : List Res} {vs : List V} {as : List Ar}, Argd σ F env n ms rs vs as → ∀ {j : Nat} {p : Addr}, adOf ms vs j = some p → ∃ i ∈ mutI ms rs, σ[i]? = some (some (.ref p))
  | _, _, _, _, _, .nil, j, p, h => by simp [adOf] at h
  | _, _, _, _, _, .m (i := i) a b t, 0, p, h => by
    simp [adOf] at h; subst h
    exact ⟨i, by simp [mutI], a⟩
  | _, _, _, _, _, .m (i := i) a b t, j + 1, p, h => by
    obtain ⟨k, hk, ek⟩ := ad_mut t (j := j) (p := p) (by simpa [adOf] using h)
    exact ⟨k, by simp [mutI, hk], ek⟩
  | _, _, _, _, _, .fl (i := i) a b t, 0, p, h => by simp [adOf] at h
  | _, _, _, _, _, .fl (i := i) a b t, j + 1, p, h => by
    obtain ⟨k, hk, ek⟩ := ad_mut t (j := j) (p := p) (by simpa [adOf] using h)
    exact ⟨k, by simp [mutI, hk], ek⟩
  | _, _, _, _, _, .ff a t, 0, p, h => by simp [adOf] at h
  | _, _, _, _, _, .ff a t, j + 1, p, h => by
    obtain ⟨k, hk, ek⟩ := ad_mut t (j := j) (p := p) (by simpa [adOf] using h)
    exact ⟨k, by simp [mutI, hk], ek⟩
theorem ad_inj (R : Rl L C F H σ env) : ∀ {n : Nat} {ms : List Bool} {rs : List Res} {vs : List V} {as : List Ar}, Argd σ F env n ms rs vs as → (mutI ms rs).Nodup → ∀ i j p, adOf ms vs i = some p → adOf ms vs j = some p → i = j
  | _, _, _, _, _, .nil, _, i, j, p, h, _ => by simp [adOf] at h
  | _, _, _, _, _, .m (i := s) a b t, nd, i, j, p, h1, h2 => by
    have nd' : s ∉ mutI _ _ ∧ (mutI _ _).Nodup := List.nodup_cons.mp (by simpa [mutI] using nd)
    have out : ∀ k q, adOf _ _ k = some q → σ[s]? ≠ some (some (.ref q)) := fun k q hk e => by
      obtain ⟨u, hu, eu⟩ := ad_mut t hk
      have z : u ≠ s := fun z => by subst z; exact nd'.1 hu
      exact R.nd u s q z (argd_own t u (.inl hu)) ⟨_, b⟩ eu e
    cases i with
    | zero =>
      cases j with
      | zero => rfl
      | succ j =>
        simp [adOf] at h1; subst h1
        exact absurd a (out j _ (by simpa [adOf] using h2))
    | succ i =>
      cases j with
      | zero =>
        simp [adOf] at h2; subst h2
        exact absurd a (out i _ (by simpa [adOf] using h1))
      | succ j => rw [ad_inj R t nd'.2 i j p (by simpa [adOf] using h1) (by simpa [adOf] using h2)]
  | _, _, _, _, _, .fl (i := s) a b t, nd, i, j, p, h1, h2 => by
    cases i with
    | zero => simp [adOf] at h1
    | succ i =>
      cases j with
      | zero => simp [adOf] at h2
      | succ j => rw [ad_inj R t (by simpa [mutI] using nd) i j p (by simpa [adOf] using h1) (by simpa [adOf] using h2)]
  | _, _, _, _, _, .ff a t, nd, i, j, p, h1, h2 => by
    cases i with
    | zero => simp [adOf] at h1
    | succ i =>
      cases j with
      | zero => simp [adOf] at h2
      | succ j => rw [ad_inj R t (by simpa [mutI] using nd) i j p (by simpa [adOf] using h1) (by simpa [adOf] using h2)]
theorem Cont.repF (c : Cont F H p d) (e : Ex F F1) (h : F1 p = H p) : Rep F1 (.ref p) d := by
  cases d with
  | lst ds => obtain ⟨vs, a, r⟩ := c; exact .lst (h.trans a) (r.mono e)
  | dk ds => obtain ⟨vs, a, r⟩ := c; exact .dk (h.trans a) (r.mono e)
  | dt ds => obtain ⟨vs, a, r⟩ := c; exact .dt (h.trans a) (r.mono e)
  | ins C ds => obtain ⟨dx, vs, a, r⟩ := c; exact .ins (h.trans a) (r.mono e)
  | _ => exact c.elim
/-- the slots of the outs -/
inductive Outd (C' : Cc) (F H : Hp) (σ : L2.St) : List Bool → List Res → List Dat → Prop
  | nil : Outd C' F H σ [] [] []
  | m {i : Nat} {p : Addr} {d : Dat} {ms : List Bool} {rs : List Res} {ds : List Dat} : σ[i]? = some (some (.ref p)) → F p = none → Cont F H p d → Outd C' F H σ ms rs ds → Outd C' F H σ (true :: ms) (.l i :: rs) (d :: ds)
  | f {r : Res} {ms : List Bool} {rs : List Res} {ds : List Dat} : Outd C' F H σ ms rs ds → Outd C' F H σ (false :: ms) (r :: rs) ds
theorem outd_of {C' : Cc} {G H' : Hp} : ∀ {n : Nat} {ms : List Bool} {rs : List Res} {vs : List V} {as : List Ar} {ds : List Dat}, Argd σ F env n ms rs vs as → OutOk C' G H' n vs as ds → Outd C' G H' σ ms rs ds
  | _, _, _, _, _, _, .nil, .nil => .nil
  | _, _, _, _, _, _, .m a b t, .m x y => .m a x.2.1 x.2.2 (outd_of t y)
  | _, _, _, _, _, _, .fl a b t, .f y => .f (outd_of t y)
  | _, _, _, _, _, _, .ff a t, .f y => .f (outd_of t y)
theorem putO_len (env : Env) (i : Nat) (d : Dat) : (putO env i d).length = env.length := by
  unfold putO; split <;> simp
theorem putOuts_len : ∀ (ms : List Bool) (rs : List Res) (ds : List Dat) (env : Env), (putOuts env ms rs ds).length = env.length
  | [], _, _, env => by simp [putOuts]
  | true :: ms, [], _, env => by simp [putOuts]
  | false :: ms, [], _, env => by simp [putOuts]
  | true :: ms, .l i :: rs, [], env => by simp only [putOuts]; exact putOuts_len ms rs [] env
  | true :: ms, .l i :: rs, d :: ds, env => by simp only [putOuts]; rw [putOuts_len ms rs ds, putO_len]
  | true :: ms, .f _ :: rs, ds, env => by simp only [putOuts]; exact putOuts_len ms rs ds env
  | true :: ms, .n _ :: rs, ds, env => by simp only [putOuts]; exact putOuts_len ms rs ds env
  | false :: ms, r :: rs, ds, env => by simp only [putOuts]; exact putOuts_len ms rs ds env
/-- a slot behind the outs -/
theorem putOuts_get {C' : Cc} {G H' : Hp} : ∀ {ms : List Bool} {rs : List Res} {ds : List Dat} {env : Env}, Outd C' G H' σ ms rs ds → (mutI ms rs).Nodup → (∀ i ∈ mutI ms rs, IsO env i) → ∀ {i : Nat} {s : S}, (putOuts env ms rs ds)[i]? = some (some s) →
    (i ∉ mutI ms rs ∧ env[i]? = some (some s)) ∨ (i ∈ mutI ms rs ∧ ∃ p d d0, σ[i]? = some (some (.ref p)) ∧ G p = none ∧ Cont G H' p d ∧ ((s = .o d ∧ env[i]? = some (some (.o d0))) ∨ (s = .b d ∧ env[i]? = some (some (.b d0)))))
  | _, _, _, env, .nil, _, _, i, s, h => .inl ⟨by simp [mutI], by simpa [putOuts] using h⟩
  | _, _, _, env, .f (r := r) (ms := ms0) (rs := rs0) (ds := ds0) t, nd, ho, i, s, h => by
    have e : ∀ (ms : List Bool) (rs : List Res), mutI (false :: ms) (r :: rs) = mutI ms rs := fun _ _ => by cases r <;> rfl
    rw [e] at nd ho ⊢
    have h : (putOuts env ms0 rs0 ds0)[i]? = some (some s) := by cases r <;> exact h
    exact putOuts_get t nd ho h
  | _, _, _, env, .m (i := j) (p := p0) (d := d) (ms := ms0) (rs := rs0) (ds := ds0) a b c t, nd, ho, i, s, h => by
    have nd' : j ∉ mutI ms0 rs0 ∧ (mutI ms0 rs0).Nodup := List.nodup_cons.mp (by simpa [mutI] using nd)
    have ho' : ∀ i, i ∈ mutI ms0 rs0 → IsO (putO env j d) i := fun i hi => by
      obtain ⟨s, h1, h2⟩ := isO_get (ho i (by simp [mutI, hi]))
      have z : i ≠ j := fun z => by subst z; exact nd'.1 hi
      refine isO_of (s := s) ?_ h2
      unfold putO
      split
      · rw [List.getElem?_set_ne (Ne.symm z)]; exact h1
      · rw [List.getElem?_set_ne (Ne.symm z)]; exact h1
      · exact h1
    have h : (putOuts (putO env j d) ms0 rs0 ds0)[i]? = some (some s) := h
    rcases putOuts_get t nd'.2 ho' h with ⟨n1, h1⟩ | ⟨n1, p, d', d0, h1, h2, h3, h4⟩
    · by_cases z : i = j
      · subst z
        right
        refine ⟨by simp [mutI], p0, d, ?_⟩
        obtain ⟨x, hx⟩ := ho i (by simp [mutI])
        rcases ownD_o hx with e | e
        · have hl : i < env.length := by
            rcases Nat.lt_or_ge i env.length with z | z
            · exact z
            · rw [List.getElem?_eq_none z] at e; cases e
          have : putO env i d = env.set i (some (.o d)) := by unfold putO; rw [e]
          rw [this, List.getElem?_set_self hl] at h1
          cases h1
          exact ⟨x, a, b, c, .inl ⟨rfl, e⟩⟩
        · have hl : i < env.length := by
            rcases Nat.lt_or_ge i env.length with z | z
            · exact z
            · rw [List.getElem?_eq_none z] at e; cases e
          have : putO env i d = env.set i (some (.b d)) := by unfold putO; rw [e]
          rw [this, List.getElem?_set_self hl] at h1
          cases h1
          exact ⟨x, a, b, c, .inr ⟨rfl, e⟩⟩
      · left
        refine ⟨by simp [mutI, z, n1], ?_⟩
        unfold putO at h1
        split at h1
        · rw [List.getElem?_set_ne (Ne.symm z)] at h1; exact h1
        · rw [List.getElem?_set_ne (Ne.symm z)] at h1; exact h1
        · exact h1
    · have z : i ≠ j := fun z => by subst z; exact nd'.1 n1
      right
      refine ⟨by simp [mutI, n1], p, d', d0, h1, h2, h3, ?_⟩
      unfold putO at h4
      split at h4
      · rw [List.getElem?_set_ne (Ne.symm z)] at h4; exact h4
      · rw [List.getElem?_set_ne (Ne.symm z)] at h4; exact h4
      · exact h4

theorem immOk_nil {fl : List Nat} {r : Res} {ds : List Dat} (h : immOk fl r ds) : fl = [] ∨ (immR r = true ∧ ds.all immC = true) := by
  cases fl with
  | nil => exact .inl rfl
  | cons _ _ => exact .inr h
theorem immOkX_nil {fl : List Nat} {r : Option (List (Str × Dat))} {ds : List Dat} (h : immOkX fl r ds) : fl = [] ∨ (immFs r = true ∧ ds.all immC = true) := by
  cases fl with
  | nil => exact .inl rfl
  | cons _ _ => exact .inr h
theorem outd_imm {C' : Cc} {G G2 H' : Hp} (k : ∀ q o, G q = some o → isT o = true → G2 q = some o) (kn : ∀ q, G q = none → G2 q = none) : ∀ {ms : List Bool} {rs : List Res} {ds : List Dat}, ds.all immC = true → Outd C' G H' σ ms rs ds → Outd C' G2 H' σ ms rs ds
  | _, _, _, _, .nil => .nil
  | _, _, _, h, .f t => .f (outd_imm k kn h t)
  | _, _, _, h, .m a b c t => by
    rw [List.all_cons, Bool.and_eq_true] at h
    exact .m a (kn _ b) (imm_cont k h.1 c) (outd_imm k kn h.2 t)
/-- the whole of a call -/
theorem call_okX (R : Rl L C F H σ env) (a : RAs F σ vs rs) (h : argsOf env ms rs = some as) (hok : okLoans ms rs = true) :
    ∃ C' : Cc, C'.H0 = H ∧ Fr L C' C'.F0 H ∧ (∀ i j p, C'.ad i = some p → C'.ad j = some p → i = j) ∧ ArsOk C' C'.F0 H 0 vs as ∧
      (Ex F C'.F0 ∧ ∀ q, F q = none → (∀ i, IsO env i → σ[i]? ≠ some (some (.ref q))) → C'.F0 q = none ∧ ∀ j, C'.ad j ≠ some q) ∧
      ∀ F' H' ds, Fr L C' F' H' → OutOk C' F' H' 0 vs as ds → (frzI ms rs = [] ∨ ds.all immC = true) →
        ∃ F2, Ex F F2 ∧ Rl L C F2 H' σ (putOuts env ms rs ds) ∧ (∀ q o, F' q = some o → (isT o = true ∨ frzI ms rs = []) → F2 q = some o) ∧ (∀ q, F' q = none → F2 q = none) ∧ (∀ p, H p = none → C.H0 p = none ∧ ∀ i, IsO (putOuts env ms rs ds) i → σ[i]? ≠ some (some (.ref p))) := by
  have ad := argd_of (n := 0) R a h
  unfold okLoans at hok
  rw [Bool.and_eq_true] at hok
  have nd : (mutI ms rs).Nodup := of_decide_eq_true hok.1
  have dis : ∀ i ∈ mutI ms rs, i ∉ frzI ms rs := fun i hi => by
    have := List.all_eq_true.mp hok.2 i hi
    simpa using this
  have ow := argd_own ad
  -- what is lent to be read
  have lo : ∀ q, q ∈ lasOf σ (frzI ms rs) → ∃ i d, i ∈ frzI ms rs ∧ σ[i]? = some (some (.ref q)) ∧ ownD env i = some d ∧ F q = none ∧ Cont F H q d ∧ (C.H0 q = none ∨ C.Bor q) := fun q hq => by
    obtain ⟨i, hi, ei⟩ := mem_las hq
    obtain ⟨d, hd⟩ := ow i (.inr hi)
    obtain ⟨p, hp, hf, c, h0⟩ := R.own hd
    rw [hp] at ei; cases ei
    exact ⟨i, d, hi, hp, hd, hf, c, h0⟩
  let F1 : Hp := fun q => if q ∈ lasOf σ (frzI ms rs) then H q else F q
  have F1in : ∀ q, q ∈ lasOf σ (frzI ms rs) → F1 q = H q := fun q z => if_pos z
  have F1out : ∀ q, q ∉ lasOf σ (frzI ms rs) → F1 q = F q := fun q z => if_neg z
  have exF : Ex F F1 := fun q o e => by
    have z : q ∉ lasOf σ (frzI ms rs) := fun z => by
      obtain ⟨_, _, _, _, _, hf, _⟩ := lo q z
      rw [hf] at e; cases e
    rw [F1out q z]; exact e
  have mu : ∀ j p, adOf ms vs j = some p → ∃ i d, i ∈ mutI ms rs ∧ σ[i]? = some (some (.ref p)) ∧ ownD env i = some d ∧ F p = none ∧ Cont F H p d ∧ (C.H0 p = none ∨ C.Bor p) ∧ p ∉ lasOf σ (frzI ms rs) := fun j p hj => by
    obtain ⟨i, hi, ei⟩ := ad_mut ad hj
    obtain ⟨d, hd⟩ := ow i (.inl hi)
    obtain ⟨q, hp, hf, c, h0⟩ := R.own hd
    rw [hp] at ei; cases ei
    refine ⟨i, d, hi, hp, hd, hf, c, h0, fun z => ?_⟩
    obtain ⟨k, hk, ek⟩ := mem_las z
    have nk : i ≠ k := fun y => by subst y; exact dis i hi hk
    exact R.nd i k _ nk ⟨d, hd⟩ (ow k (.inr hk)) hp ek
  refine ⟨⟨H, F1, adOf ms vs⟩, rfl, ⟨fun q o e => ?_, fun _ _ => .inl rfl, fun q o e _ => .inl e, fun q n => n, R.fr.lk, fun q o e => ?_, fun i q e => ?_, fun i q e => ?_, fun _ _ _ e => e⟩, ad_inj R ad nd, ?_, ⟨exF, fun q hq hn => ⟨?_, fun j hj => ?_⟩⟩, ?_⟩
  · by_cases z : q ∈ lasOf σ (frzI ms rs)
    · have e : F1 q = some o := e
      rw [F1in q z] at e; exact .inl e
    · have e : F1 q = some o := e
      rw [F1out q z] at e; exact R.fr.fz q o e
  · have e : F1 q = some o := e
    show H q ≠ none
    by_cases z : q ∈ lasOf σ (frzI ms rs)
    · rw [F1in q z] at e; rw [e]; exact fun z => by cases z
    · rw [F1out q z] at e
      rcases R.fr.fz q o e with z | ⟨_, ob, z⟩
      · rw [z]; exact fun z => by cases z
      · rw [z]; exact fun z => by cases z
  · obtain ⟨_, _, _, _, _, _, c, _⟩ := mu i q e
    obtain ⟨o, ho⟩ := c.there
    show H q ≠ none
    rw [ho]; exact fun z => by cases z
  · obtain ⟨_, _, _, _, _, f0, _, _, nl⟩ := mu i q e
    exact (F1out q nl).trans f0
  · -- the arguments
    have go : ∀ {n : Nat} {ms' : List Bool} {rs' : List Res} {vs' : List V} {as' : List Ar}, Argd σ F env n ms' rs' vs' as' → (∀ j, adOf ms vs (n + j) = adOf ms' vs' j) → (∀ i ∈ frzI ms' rs', i ∈ frzI ms rs) → ArsOk ⟨H, F1, adOf ms vs⟩ F1 H n vs' as' := by
      intro n ms' rs' vs' as' t
      induction t with
      | nil => intro _ _; exact .nil
      | @m n i p d ms' rs' vs' as' x y t ih =>
        intro hj hf
        have h0 : adOf ms vs n = some p := (hj 0).trans rfl
        obtain ⟨_, _, _, _, _, f0, _, _, nl⟩ := mu n p h0
        obtain ⟨q, hq, fq, cq, _⟩ := R.own y
        rw [x] at hq; cases hq
        refine .m ⟨h0, by rw [F1out p nl]; exact f0, cq.mono exF rfl⟩ (ih (fun j => ?_) fun i hi => hf i hi)
        have := hj (j + 1)
        rw [show n + 1 + j = n + (j + 1) by omega]; exact this
      | @fl n i p d ms' rs' vs' as' x y t ih =>
        intro hj hf
        have hi : i ∈ frzI ms rs := hf i (by simp [frzI])
        obtain ⟨q, hq, fq, cq, _⟩ := R.own y
        rw [x] at hq; cases hq
        refine .f (cq.repF exF (F1in _ (las_mem hi x))) (ih (fun j => ?_) fun i hi => hf i (by simp [frzI, hi]))
        have := hj (j + 1)
        rw [show n + 1 + j = n + (j + 1) by omega]; exact this
      | @ff n v d ms' rs' vs' as' x t ih =>
        intro hj hf
        refine .f (x.mono exF) (ih (fun j => ?_) fun i hi => hf i (by simpa [frzI] using hi))
        have := hj (j + 1)
        rw [show n + 1 + j = n + (j + 1) by omega]; exact this
    exact go ad (fun j => by rw [Nat.zero_add]) fun i hi => hi
  · refine (F1out q fun z => ?_).trans hq
    obtain ⟨i, d, _, e, hd, _⟩ := lo q z
    exact hn i ⟨d, hd⟩ e
  · obtain ⟨i, d, _, e, hd, _⟩ := mu j q hj
    exact hn i ⟨d, hd⟩ e
  · intro F' H' ds fr' out himm
    have od := outd_of ad out
    let F2 : Hp := fun q => if q ∈ lasOf σ (frzI ms rs) then none else F' q
    have F2in : ∀ q, q ∈ lasOf σ (frzI ms rs) → F2 q = none := fun q z => if_pos z
    have F2out : ∀ q, q ∉ lasOf σ (frzI ms rs) → F2 q = F' q := fun q z => if_neg z
    have keepF : ∀ q, H q ≠ none → F' q = F1 q ∨ (F1 q = none ∧ TupAt H' q) := fun q n => fr'.fn q n
    have keepS : ∀ q o, F1 q = some o → H q ≠ none → F' q = some o := fun q o e n => by
      rcases keepF q n with z | ⟨z, _⟩
      · exact z.trans e
      · rw [z] at e; cases e
    have exF2 : Ex F F2 := fun q o e => by
      have z : q ∉ lasOf σ (frzI ms rs) := fun z => by
        obtain ⟨_, _, _, _, _, hf, _⟩ := lo q z
        rw [hf] at e; cases e
      have hq : H q ≠ none := by
        rcases R.fr.fz q o e with z | ⟨_, ob, z⟩
        · rw [z]; exact fun z => by cases z
        · rw [z]; exact fun z => by cases z
      rw [F2out q z]; exact keepS q o ((F1out q z).trans e) hq
    -- a tuple is not lent
    have notT : ∀ q o, F' q = some o → isT o = true → q ∉ lasOf σ (frzI ms rs) := fun q o e t z => by
      obtain ⟨_, d, _, _, _, _, c, _⟩ := lo q z
      obtain ⟨u, hu⟩ := c.there
      rw [keepS q u ((F1in q z).trans hu) (by rw [hu]; exact fun z => by cases z)] at e
      cases e
      cases d with
      | lst ds => obtain ⟨_, x, _⟩ := c; rw [x] at hu; cases hu; cases t
      | dk ds => obtain ⟨_, x, _⟩ := c; rw [x] at hu; cases hu; cases t
      | dt ds => obtain ⟨_, x, _⟩ := c; rw [x] at hu; cases hu; cases t
      | ins C ds => obtain ⟨_, _, x, _⟩ := c; rw [x] at hu; cases hu; cases t
      | _ => exact c.elim
    have k2 : ∀ q o, F' q = some o → (isT o = true ∨ frzI ms rs = []) → F2 q = some o := fun q o e t => by
      have z : q ∉ lasOf σ (frzI ms rs) := by
        rcases t with t | t
        · exact notT q o e t
        · rw [t]; simp [lasOf]
      rw [F2out q z]; exact e
    have kn : ∀ q, F' q = none → F2 q = none := fun q e => by
      by_cases z : q ∈ lasOf σ (frzI ms rs)
      · exact F2in q z
      · rw [F2out q z]; exact e
    have od2 : Outd ⟨H, F1, adOf ms vs⟩ F2 H' σ ms rs ds := by
      rcases himm with z | z
      · have : F2 = F' := by
          funext q
          exact F2out q (by rw [z]; simp [lasOf])
        rw [this]; exact od
      · exact outd_imm (fun q o e t => k2 q o e (.inl t)) kn z od
    -- an object of the caller that is not lent to be changed
    have stay : ∀ q o, H q = some o → (∀ j, adOf ms vs j ≠ some q) → H' q = some o := fun q o e n => by
      rcases fr'.kp q o e (fun ⟨j, z⟩ => n j z) with z | ⟨z, w, _⟩
      · exact z
      · obtain ⟨ob, u, y⟩ := R.fr.lk q z
        rw [e] at y; cases y
        exact absurd rfl (w ob u)
    have nmut : ∀ i p, IsO env i → i ∉ mutI ms rs → σ[i]? = some (some (.ref p)) → ∀ j, adOf ms vs j ≠ some p := fun i p ho hn e j z => by
      obtain ⟨k, hk, ek⟩ := ad_mut ad z
      have : i ≠ k := fun y => by subst y; exact hn hk
      exact R.nd i k p this ho (ow k (.inl hk)) e ek
    have isO' : ∀ i, IsO (putOuts env ms rs ds) i → IsO env i := fun i hi => by
      obtain ⟨s, h1, h2⟩ := isO_get hi
      rcases putOuts_get od2 nd (fun i hi => ow i (.inl hi)) h1 with ⟨_, z⟩ | ⟨_, _, _, d0, _, _, _, z⟩
      · exact isO_of z h2
      · rcases z with ⟨_, z⟩ | ⟨_, z⟩
        · exact isO_o z
        · exact isO_b z
    refine ⟨F2, exF2, ⟨⟨fun q o e => ?_, fun q n => ?_, fun q o e n => ?_, fun q n => ?_, fr'.lk, R.fr.wf, R.fr.wa, R.fr.wb, fun q ob o e => R.fr.fl q ob o (fr'.fl q ob o e)⟩, ?_, fun i s hs => ?_, fun i j p n hi hj => R.nd i j p n (isO' i hi) (isO' j hj)⟩, k2, kn, fun p hp => ⟨R.fr.new0 hp, fun i hi => R.not_none hp (isO' i hi)⟩⟩
    · have z : q ∉ lasOf σ (frzI ms rs) := fun z => by rw [F2in q z] at e; cases e
      rw [F2out q z] at e
      exact fr'.fz q o e
    · have hH := R.fr.th q n
      by_cases z : q ∈ lasOf σ (frzI ms rs)
      · rw [F2in q z]
        obtain ⟨_, _, _, _, _, hf, _⟩ := lo q z
        rcases R.fr.fn q n with y | ⟨y, _⟩
        · rw [← y, hf]; exact .inl rfl
        · exact .inl y.symm
      · rw [F2out q z]
        rcases keepF q hH with y | ⟨y, t⟩
        · rw [y, F1out q z]
          refine (R.fr.fn q n).imp id fun ⟨y, vs, t⟩ => ⟨y, vs, stay q _ t fun j w => ?_⟩
          obtain ⟨_, _, _, _, _, _, c, _⟩ := mu j q w
          exact c.noT ⟨vs, t⟩
        · rw [F1out q z] at y
          rcases R.fr.fn q n with w | ⟨w, _⟩
          · exact .inr ⟨w.symm.trans y, t⟩
          · exact .inr ⟨w, t⟩
    · have nb : ∀ j, adOf ms vs j ≠ some q := fun j z => by
        obtain ⟨_, _, _, _, _, _, _, h0, _⟩ := mu j q z
        rcases h0 with h0 | h0
        · rw [h0] at e; cases e
        · exact n h0
      rcases R.fr.kp q o e n with z | ⟨zl, zo, ob, z⟩
      · exact .inl (stay q o z nb)
      · exact .inr ⟨zl, zo, ob, stay q _ z nb⟩
    · exact fr'.th q (R.fr.th q n)
    · rw [putOuts_len]; exact R.len
    · rcases putOuts_get od2 nd (fun i hi => ow i (.inl hi)) hs with ⟨ni, z⟩ | ⟨ni, p, d, d0, h1, h2, h3, z⟩
      · obtain ⟨ov, h1, h2⟩ := R.sl i s z
        refine ⟨ov, h1, ?_⟩
        cases s with
        | f d => obtain ⟨v, e, r⟩ := h2; exact ⟨v, e, r.mono exF2⟩
        | o d =>
          obtain ⟨p, e, x, y, c⟩ := h2
          subst e
          obtain ⟨u, hu⟩ := c.there
          refine ⟨p, rfl, x, ?_, c.mono exF2 ((stay p u hu (nmut i p (isO_o z) ni h1)).trans hu.symm)⟩
          by_cases w : p ∈ lasOf σ (frzI ms rs)
          · exact F2in p w
          · rw [F2out p w]
            rcases keepF p (by rw [hu]; exact fun z => by cases z) with k | ⟨_, vs, k⟩
            · rw [k, F1out p w]; exact y
            · rw [stay p u hu (nmut i p (isO_o z) ni h1)] at k
              exact absurd ⟨vs, hu.trans k⟩ c.noT
        | b d =>
          obtain ⟨p, e, x, y, c⟩ := h2
          subst e
          obtain ⟨u, hu⟩ := c.there
          refine ⟨p, rfl, x, ?_, c.mono exF2 ((stay p u hu (nmut i p (isO_b z) ni h1)).trans hu.symm)⟩
          by_cases w : p ∈ lasOf σ (frzI ms rs)
          · exact F2in p w
          · rw [F2out p w]
            rcases keepF p (by rw [hu]; exact fun z => by cases z) with k | ⟨_, vs, k⟩
            · rw [k, F1out p w]; exact y
            · rw [stay p u hu (nmut i p (isO_b z) ni h1)] at k
              exact absurd ⟨vs, hu.trans k⟩ c.noT
      · rcases z with ⟨rfl, z⟩ | ⟨rfl, z⟩
        · obtain ⟨ov, g1, q, g2, g3, _⟩ := R.sl i _ z
          subst g2; rw [h1] at g1; cases g1
          exact ⟨_, h1, _, rfl, g3, h2, h3⟩
        · obtain ⟨ov, g1, q, g2, g3, _⟩ := R.sl i _ z
          subst g2; rw [h1] at g1; cases g1
          exact ⟨_, h1, _, rfl, g3, h2, h3⟩
theorem call_ok (R : Rl L C F H σ env) (a : RAs F σ vs rs) (h : argsOf env ms rs = some as) (hok : okLoans ms rs = true) :
    ∃ C' : Cc, C'.H0 = H ∧ Fr L C' C'.F0 H ∧ (∀ i j p, C'.ad i = some p → C'.ad j = some p → i = j) ∧ ArsOk C' C'.F0 H 0 vs as ∧
      ∀ F' H' ds, Fr L C' F' H' → OutOk C' F' H' 0 vs as ds → (frzI ms rs = [] ∨ ds.all immC = true) →
        ∃ F2, Ex F F2 ∧ Rl L C F2 H' σ (putOuts env ms rs ds) ∧ (∀ q o, F' q = some o → (isT o = true ∨ frzI ms rs = []) → F2 q = some o) ∧ (∀ q, F' q = none → F2 q = none) ∧ (∀ p, H p = none → C.H0 p = none ∧ ∀ i, IsO (putOuts env ms rs ds) i → σ[i]? ≠ some (some (.ref p))) := by
  obtain ⟨C', a1, a2, a3, a4, _, a5⟩ := call_okX R a h hok
  exact ⟨C', a1, a2, a3, a4, a5⟩
end
end DL

set_option Elab.async false
set_option linter.all false
set_option maxRecDepth 100000
set_option maxHeartbeats 2000000
namespace DL
open PySem PySem.Spec PyProof.Rows L2
variable [ClsV]

section
variable {L : Addr → Prop} {C : Cc} {F H F' H' F1 H1 : Hp} {σ : L2.St} {env env1 : Env} {i : Nat} {d : Dat} {v : V} {p D : Addr} {o : HO} {ms : List Bool} {rs : List Res} {vs : List V} {as : List Ar} {ds : List Dat}
/-! ### the call of a def that raises nothing -/
def dCall0 (ms : List Bool) (dsp : DSp) (dr : DA) : DE := fun env Q X => dr env (fun rs env1 => okLoans ms rs = true ∧ withD (argsOf env1 ms rs) fun as =>
  dsp as (fun r ds => immOk (frzI ms rs) r ds ∧ Q r (putOuts env1 ms rs ds)) (fun _ _ _ => False)) X
theorem rr_back {C' : Cc} {r : Res} {F2 : Hp} {P0 : Prop} (hC : C'.H0 = H) (h0 : ∀ p, H p = none → C.H0 p = none ∧ ∀ i, IsO env i → σ[i]? ≠ some (some (.ref p))) (h : RR C' F' H' v r) (k : ∀ q o, F' q = some o → (isT o = true ∨ P0) → F2 q = some o) (kn : ∀ q, F' q = none → F2 q = none) (hi : P0 ∨ immR r = true) : RV2 C F2 H' σ env v r := by
  cases r with
  | f d =>
    rcases hi with z | z
    · exact Rep.mono (fun q o e => k q o e (.inr z)) h
    · exact imm_rep (fun q o e t => k q o e (.inl t)) z h
  | n d =>
    obtain ⟨p, e, a, b, c⟩ := h
    rw [hC] at a
    refine ⟨p, e, ⟨(h0 p a).1, kn p b, ?_⟩, (h0 p a).2⟩
    rcases hi with z | z
    · exact c.mono (fun q o e => k q o e (.inr z)) rfl
    · exact imm_cont (fun q o e t => k q o e (.inl t)) z c
  | l i => exact h.elim
variable {X : Cx} {E : L2.St → XK} {k : Nat} {f : Addr} {fd : FuncData} {ps : List Str} {dsp : DSp} {x : Str} {pos pp : Pos} {e : Expr} {es : List Expr} {dr : DA}
theorem se_call0 {ta : TA} {E' : XK} (s : SA E ta dr) : SE E (tCall (lift dsp) [] E' ta) (dCall0 ms dsp dr) := fun L C F H σ env Q Qd Xd R h kk xx =>
  s L C F H σ env _ _ Xd R h (fun F1 H1 vs rs env1 e1 R1 av q => by
    obtain ⟨hok, q⟩ := q
    obtain ⟨as, ha, q⟩ := withD_of q
    obtain ⟨C', hC, fr', inj, ao, out⟩ := call_ok (ms := ms) R1 av ha hok
    show lift dsp (vs ++ []) H1 Q E'
    rw [List.append_nil]
    refine ⟨L, C', as, _, _, hC, fr', inj, ao, q, fun r ds F' H' v hq fr2 rr oo => ?_, fun _ _ _ _ _ _ z => z.elim⟩
    obtain ⟨hi, hq⟩ := hq
    have hi' := immOk_nil hi
    obtain ⟨F2, e2, R2, k2, kn, h0⟩ := out F' H' ds fr2 oo (hi'.imp id fun z => z.2)
    exact kk F2 H' v r _ (e1.trans e2) R2 (rr_back hC h0 rr k2 kn (hi'.imp id fun z => z.1)) hq) xx
theorem de_call0 (ms : List Bool) (G : FnOk X.prog X.w X.K X.mg X.base CX0 k f fd ps (lift dsp)) (hr : Room k X.A) (hg : Gl X x) (hm : X.mg x = some (.ref f)) (hk : PySem.W.keepIn X.K (.ref f) = true) (hb : Binds X.K fd ps [])
    (ha : DAx X E (e :: es) dr) (hdb : (x == ("__debug__" : Str)) = false := by decide) (he : starEach (e :: es) X.env = (false, eval e X.env) :: starEach es X.env := by rfl) (hpl : (backTo pos (starEach es X.env)).any (·.1) = false := by rfl) :
    DEx X E (.Call (.Name x pp) (e :: es) [] pos) (dCall0 ms dsp dr) := by
  obtain ⟨t, p, s⟩ := ha.ex
  exact ⟨_, pe_call G hr hg hm hk hb .nil pass0 p hdb he hpl, se_call0 s⟩
theorem de_call00 (G : FnOk X.prog X.w X.K X.mg X.base CX0 k f fd ps (lift dsp)) (hr : Room k X.A) (hg : Gl X x) (hm : X.mg x = some (.ref f)) (hk : PySem.W.keepIn X.K (.ref f) = true) (hb : Binds X.K fd ps [])
    (hdb : (x == ("__debug__" : Str)) = false := by decide) : DEx X E (.Call (.Name x pp) [] [] pos) (dCall0 [] dsp dNil) :=
  ⟨_, pe_call0 G hr hg hm hk hb .nil pass0 hdb, se_call0 sa_nil⟩

/-! ### a def -/
def outs : List Ar → Env → Option (List Dat)
  | [], _ => some []
  | .f _ :: as, _ :: env => outs as env
  | .m _ :: as, some (.b d) :: env => (outs as env).map (d :: ·)
  | _, _ => none
def arS : Ar → Option S
  | .f d => some (.f d)
  | .m d => some (.b d)
def startE (N : List Str) (as : List Ar) : Env := as.map arS ++ List.replicate (N.length - as.length) none
/-- what a def hands back -/
def rtD (as : List Ar) (Q : Res → List Dat → Prop) : Res → Env → Prop := fun r env => match r with
  | .f d => withD (outs as env) (Q (.f d))
  | .n d => withD (outs as env) (Q (.n d))
  | .l i => match env[i]? with
    | some (some (.o d)) => withD (outs as env) (Q (.n d))
    | _ => False
theorem ArsOk.len : ∀ {n : Nat} {vs : List V} {as : List Ar}, ArsOk C F H n vs as → vs.length = as.length
  | _, _, _, .nil => rfl
  | _, _, _, .f _ t => by rw [List.length_cons, List.length_cons, t.len]
  | _, _, _, .m _ t => by rw [List.length_cons, List.length_cons, t.len]
theorem ArsOk.get : ∀ {n : Nat} {vs : List V} {as : List Ar} {i : Nat} {a : Ar}, ArsOk C F H n vs as → as[i]? = some a → ∃ v, vs[i]? = some v ∧ match a with
    | .f d => Rep F v d
    | .m d => ∃ p, v = .ref p ∧ Bow C (n + i) F H p d
  | _, _, _, i, a, .nil, h => by simp at h
  | n, _, _, 0, a, .f (v := v) r t, h => by simp at h; subst h; exact ⟨v, rfl, r⟩
  | n, _, _, 0, a, .m (p := p) r t, h => by simp at h; subst h; exact ⟨.ref p, rfl, p, rfl, r⟩
  | n, _, _, i + 1, a, .f r t, h => by
    obtain ⟨v, h1, h2⟩ := t.get (i := i) (a := a) (by simpa using h)
    rw [show n + 1 + i = n + (i + 1) by omega] at h2
    exact ⟨v, by simpa using h1, h2⟩
  | n, _, _, i + 1, a, .m r t, h => by
    obtain ⟨v, h1, h2⟩ := t.get (i := i) (a := a) (by simpa using h)
    rw [show n + 1 + i = n + (i + 1) by omega] at h2
    exact ⟨v, by simpa using h1, h2⟩
theorem startE_get {N : List Str} {s : S} (h : (startE N as)[i]? = some (some s)) : ∃ a, as[i]? = some a ∧ arS a = some s := by
  unfold startE at h
  by_cases hl : i < as.length
  · rw [List.getElem?_append_left (by rw [List.length_map]; exact hl), List.getElem?_map] at h
    rw [List.getElem?_eq_getElem hl] at h ⊢
    exact ⟨_, rfl, Option.some.inj h⟩
  · rw [List.getElem?_append_right (by rw [List.length_map]; omega), List.getElem?_replicate] at h
    split at h <;> cases h
theorem start_get {N : List Str} (h : vs[i]? = some v) : (start N vs)[i]? = some (some v) := by
  unfold L2.start
  have hl : i < vs.length := by
    rcases Nat.lt_or_ge i vs.length with z | z
    · exact z
    · rw [List.getElem?_eq_none z] at h; cases h
  rw [List.getElem?_append_left (by rw [List.length_map]; exact hl), List.getElem?_map, h]; rfl
theorem rl_start (N : List Str) (fr : Fr L C C.F0 H) (inj : ∀ i j p, C.ad i = some p → C.ad j = some p → i = j) (ao : ArsOk C C.F0 H 0 vs as) : Rl L C C.F0 H (start N vs) (startE N as) where
  fr := fr
  len := by
    unfold L2.start startE
    rw [List.length_append, List.length_append, List.length_map, List.length_map, List.length_replicate, List.length_replicate, ao.len]
  sl := fun i s h => by
    obtain ⟨a, ha, hs⟩ := startE_get h
    obtain ⟨v, hv, r⟩ := ao.get ha
    refine ⟨some v, start_get hv, ?_⟩
    cases a with
    | f d => cases hs; exact ⟨v, rfl, r⟩
    | m d =>
      cases hs
      obtain ⟨p, e, b⟩ := r
      rw [Nat.zero_add] at b
      exact ⟨p, by rw [e], b⟩
  nd := fun i j p n hi hj ei ej => by
    have go : ∀ i, IsO (startE N as) i → (start N vs)[i]? = some (some (.ref p)) → C.ad i = some p := fun i hi ei => by
      obtain ⟨s, h1, h2⟩ := isO_get hi
      obtain ⟨a, ha, hs⟩ := startE_get h1
      obtain ⟨v, hv, r⟩ := ao.get ha
      rw [start_get hv] at ei
      cases ei
      cases a with
      | f d => cases hs; exact absurd rfl (h2 d)
      | m d =>
        obtain ⟨q, e, b⟩ := r
        cases e
        rw [Nat.zero_add] at b
        exact b.1
    exact n (inj i j p (go i hi ei) (go j hj ej))
theorem outOk_of {σ' : L2.St} {env' : Env} {F' H' G H2 : Hp} (R : Rl L C F' H' σ' env') : ∀ {n : Nat} {vs : List V} {as : List Ar} {ds : List Dat} {en : Env}, (∀ i, en[i]? = env'[n + i]?) → ArsOk C G H2 n vs as → outs as en = some ds → OutOk C F' H' n vs as ds
  | n, _, _, ds, en, he, .nil, h => by cases h; exact .nil
  | n, _, _, ds, [], he, .f r t, h => by cases h
  | n, _, _, ds, [], he, .m r t, h => by cases h
  | n, _, _, ds, x :: en, he, .f r t, h => .f (outOk_of R (fun i => by
      have := he (i + 1)
      rw [show n + 1 + i = n + (i + 1) by omega, ← this]; simp) t h)
  | n, _, _, ds, x :: en, he, .m (p := p) r t, h => by
    have hx : ∃ d', x = some (.b d') := by
      cases x with
      | none => cases h
      | some s =>
        cases s with
        | b d' => exact ⟨d', rfl⟩
        | _ => cases h
    obtain ⟨d', rfl⟩ := hx
    · have h : (outs _ en).map (d' :: ·) = some ds := h
      obtain ⟨ds', h1, h2⟩ := Option.map_eq_some_iff.mp h
      subst h2
      have h0 := he 0
      rw [Nat.add_zero] at h0
      obtain ⟨ov, a1, q, a2, a3, a4⟩ := R.sl n _ (h0.symm.trans rfl)
      have : q = p := by
        have := r.1
        rw [a3] at this; exact Option.some.inj this
      subst this
      exact .m ⟨a3, a4⟩ (outOk_of R (fun i => by
        have := he (i + 1)
        rw [show n + 1 + i = n + (i + 1) by omega, ← this]; simp) t h1)
variable {mg : Str → Option Value} {base : Heap} {K : PySem.W.Frag} {w : World} {P : Program}
theorem rt_ok {σ' : L2.St} {env' : Env} {F' H' : Hp} {Qd : Res → List Dat → Prop} {r : Res} {Q : VK} (R : Rl L C F' H' σ' env') (rv : RV2 C F' H' σ' env' v r) (ao : ArsOk C C.F0 H 0 vs as) (q : rtD as Qd r env')
    (hQ : ∀ r ds F' H' v, Qd r ds → Fr L C F' H' → RR C F' H' v r → OutOk C F' H' 0 vs as ds → Q v H') : Q v H' := by
  cases r with
  | f d =>
    obtain ⟨ds, h1, h2⟩ := withD_of q
    exact hQ _ ds F' H' v h2 R.fr rv (outOk_of R (fun i => by rw [Nat.zero_add]) ao h1)
  | n d =>
    obtain ⟨ds, h1, h2⟩ := withD_of q
    obtain ⟨p, e, ow, _⟩ := rv
    exact hQ _ ds F' H' v h2 R.fr ⟨p, e, ow⟩ (outOk_of R (fun i => by rw [Nat.zero_add]) ao h1)
  | l i =>
    unfold rtD at q
    dsimp only at q
    split at q
    · next d e =>
      obtain ⟨ds, h1, h2⟩ := withD_of q
      obtain ⟨ov, a1, p, a2, a3⟩ := R.sl _ _ e
      have rv : σ'[i]? = some (some v) := rv
      subst a2; rw [rv] at a1; cases a1
      exact hQ _ ds F' H' _ h2 R.fr ⟨p, rfl, a3⟩ (outOk_of R (fun i => by rw [Nat.zero_add]) ao h1)
    · exact q.elim
def noE : L2.St → XK := fun _ _ _ _ => False
/-- a def that raises nothing: its body as a term, and the term's reading over data -/
theorem def_ok {x qual : Str} {st : Stmt} {f : Addr} {fd : FuncData} {N ps : List Str} {k : Nat} {dsp : DSp} (Fn : Fun K x qual st f fd) (S : FnScope N ps (defScope st)) (len : ∀ as Q X, dsp as Q X → as.length = ps.length)
    (hbody : ∀ (cdv : Value) (A : Around) (outer : List PySem.Env) (s : Shared) (H : Hp) (E : XK), Room k (A.deeper (envOfC qual (defScope st) s.heap.objs.size f cdv)) →
      ∃ ds, DSs (cxOf CX0 P w K mg base N qual (defScope st) f cdv A outer s H E).nox noE (defBody st) ds ∧ ∀ as Q X, dsp as Q X → ds { nx := fun env => rtD as Q (.f .non) env, rt := rtD as Q } (startE N as)) : FnOk P w K mg base CX0 (k + 1) f fd ps (lift dsp) := by
  refine Fn.ok S (fun vs H Q E h => ?_) fun cdv A outer s H vs Q E hr h => ?_
  · obtain ⟨L, C, as, Qd, Xd, hC, fr, inj, ao, hd, _⟩ := h
    rw [ao.len]; exact len as Qd Xd hd
  · obtain ⟨L, C, as, Qd, Xd, hC, fr, inj, ao, hd, hQ, hX⟩ := h
    obtain ⟨ds, hs, hb⟩ := hbody cdv A outer s H E hr
    obtain ⟨t, p, ss⟩ := hs.ex
    refine ⟨t, p, ss L C C.F0 H (start N vs) (startE N as) _ _ (rl_start N fr inj ao) (hb as Qd Xd hd) ⟨fun F' H' σ' env' e R' q => ?_, fun F' H' σ' env' v r e R' rv q => ?_, fun _ _ _ _ _ _ z => z.elim, fun _ _ _ _ _ _ z => z.elim⟩ fun _ _ _ _ _ _ _ _ _ _ _ z => z.elim⟩
    · exact rt_ok R' (v := .non) (r := .f .non) Rep.non ao q hQ
    · exact rt_ok R' rv ao q hQ
end
end DL

set_option Elab.async false
set_option linter.all false
set_option maxRecDepth 100000
set_option maxHeartbeats 2000000
namespace DL
open PySem PySem.Spec PyProof.Rows L2
variable [ClsV]

section
variable {X : Cx} {E : L2.St → XK} {L : Addr → Prop} {C : Cc} {F H F' H' : Hp} {v x y : V} {d dx dy : Dat} {p : Addr} {o : HO}
/-! ### ints -/
def gI (Cd : Int → Int → Prop) (g : Int → Int → Int) : G2 := fun a b Q => match a, b with
  | .int i, .int j => Cd i j ∧ Q (.f (.int (g i j)))
  | _, _ => False
def gI0 (g : Int → Int → Int) : G2 := fun a b Q => match a, b with
  | .int i, .int j => Q (.f (.int (g i j)))
  | _, _ => False
def gB0 (g : Int → Int → Bool) : G2 := fun a b Q => match a, b with
  | .int i, .int j => Q (.f (.bl (g i j)))
  | _, _ => False
theorem o_I {Cd : Int → Int → Prop} {g : Int → Int → Int} : Op2 (rI Cd fun i j => .int (g i j)) (gI Cd g) := fun L C F H x y dx dy Q Qd fr rx ry h k => by
  unfold gI at h
  split at h
  · next i j => cases rep1_int rx; cases rep1_int ry; exact ⟨i, j, rfl, rfl, h.1, k F H _ (.f _) (Gr.refl fr) (Rep.int _) h.2⟩
  · exact h.elim
theorem o_I0 {g : Int → Int → Int} : Op2 (rI0 fun i j => .int (g i j)) (gI0 g) := fun L C F H x y dx dy Q Qd fr rx ry h k => by
  unfold gI0 at h
  split at h
  · next i j => cases rep1_int rx; cases rep1_int ry; exact ⟨i, j, rfl, rfl, k F H _ (.f _) (Gr.refl fr) (Rep.int _) h⟩
  · exact h.elim
theorem o_B0 {g : Int → Int → Bool} : Op2 (rI0 fun i j => .bl (g i j)) (gB0 g) := fun L C F H x y dx dy Q Qd fr rx ry h k => by
  unfold gB0 at h
  split at h
  · next i j => cases rep1_int rx; cases rep1_int ry; exact ⟨i, j, rfl, rfl, k F H _ (.f _) (Gr.refl fr) (Rep.bl _) h⟩
  · exact h.elim
theorem o_or {r r' : R2} {g g' gg : G2} (h1 : Op2 r g) (h2 : Op2 r' g') (h : ∀ a b Q, gg a b Q → g a b Q ∨ g' a b Q) : Op2 (fun x y H Q => r x y H Q ∨ r' x y H Q) gg := fun L C F H x y dx dy Q Qd fr rx ry q k =>
  (h dx dy Qd q).elim (fun z => .inl (h1 L C F H x y dx dy Q Qd fr rx ry z k)) fun z => .inr (h2 L C F H x y dx dy Q Qd fr rx ry z k)
theorem rn_new (fr : Fr L C F H) (hp : H p = none) (c : Cont F (upd H p o) p d) : RN C H F (upd H p o) (.ref p) (.n d) := ⟨p, rfl, hp, fr.new0 hp, fr.fz_eq hp, c⟩
theorem new_lst {vs : List V} {ds : List Dat} (fr : Fr L C F H) (hp : H p = none) (r : Reps F vs ds) : RN C H F (upd H p (.lst vs)) (.ref p) (.n (.lst ds)) := rn_new (d := .lst ds) fr hp ⟨vs, upd_same, r⟩
theorem new_tup {vs : List V} {ds : List Dat} (fr : Fr L C F H) (hp : H p = none) (r : Reps F vs ds) : RN C H (upd F p (.tup vs)) (upd H p (.tup vs)) (.ref p) (.f (.tup ds)) := Rep.tup upd_same (r.mono (Ex.new (fr.fz_eq hp)))
theorem line_ok {n : Nat} (h : n ≤ 100000) : n ≤ sizeLine := Nat.le_trans h (by decide)
theorem line_lt {n : Nat} (h : n < 100000) : n < sizeLine := Nat.lt_trans h (by decide)
theorem reps_nil {vs : List V} {ds : List Dat} (r : Reps F vs ds) : vs = [] ↔ ds = [] := by
  cases r <;> simp
def gCatL : G2 := fun a b Q => match a, b with
  | .lst xs, .lst ys => xs.length + ys.length ≤ 100000 ∧ Q (.n (.lst (xs ++ ys)))
  | _, _ => False
theorem o_cat : Op2 rCat gCatL := fun L C F H x y dx dy Q Qd fr rx ry h k => by
  unfold gCatL at h
  split at h
  · next xs ys =>
    obtain ⟨a, vs, rfl, ha, ra⟩ := rx
    obtain ⟨b, ws, rfl, hb, rb⟩ := ry
    exact ⟨a, b, vs, ws, rfl, rfl, ha, hb, line_ok (by rw [ra.len, rb.len]; exact h.1), fun p hp => k F _ _ (.n _) (fr.grO hp _) (new_lst fr hp (ra.append rb)) h.2⟩
  · exact h.elim
def gCatT : G2 := fun a b Q => match a, b with
  | .tup xs, .tup ys => xs.length + ys.length ≤ 100000 ∧ Q (.f (.tup (xs ++ ys)))
  | _, _ => False
theorem o_catA {K : PySem.W.Frag} : Op2 (rCatA K) gCatT := fun L C F H x y dx dy Q Qd fr rx ry h k => by
  unfold gCatT at h
  split at h
  · next xs ys =>
    obtain ⟨a, vs, rfl, fa, ha, ra⟩ := rx
    obtain ⟨b, ws, rfl, fb, hb, rb⟩ := ry
    refine ⟨a, b, vs, ws, rfl, rfl, .inl (.inl ha), .inl (.inl hb), line_ok (by rw [ra.len, rb.len]; exact h.1), fun e => ?_, fun _ e => ?_, fun _ _ p hp => ?_⟩
    · have := (reps_nil ra).mp e
      subst this
      exact k F H _ (.f _) (Gr.refl fr) (Rep.tup fb rb) h.2
    · have := (reps_nil rb).mp e
      subst this
      have h2 := h.2
      rw [List.append_nil] at h2
      exact k F H _ (.f _) (Gr.refl fr) (Rep.tup fa ra) h2
    · exact k _ _ _ (.f _) (fr.grF hp _) (new_tup fr hp (ra.append rb)) h.2
  · exact h.elim
def gCatS : G2 := fun a b Q => match a, b with
  | .str xs, .str ys => xs.length + ys.length ≤ 100000 ∧ Q (.f (.str (xs ++ ys)))
  | _, _ => False
theorem o_catS : Op2 (fun x y H Q => ∃ i j, x = .str i ∧ y = .str j ∧ i.length + j.length ≤ sizeLine ∧ Q (.str (i ++ j)) H) gCatS := fun L C F H x y dx dy Q Qd fr rx ry h k => by
  unfold gCatS at h
  split at h
  · next xs ys => cases rep1_str rx; cases rep1_str ry; exact ⟨xs, ys, rfl, rfl, line_ok h.1, k F H _ (.f _) (Gr.refl fr) (Rep.str _) h.2⟩
  · exact h.elim
def gAdd : G2 := fun a b Q => match a, b with
  | .int i, .int j => Q (.f (.int (i + j)))
  | .lst xs, .lst ys => xs.length + ys.length ≤ 100000 ∧ Q (.n (.lst (xs ++ ys)))
  | .tup xs, .tup ys => xs.length + ys.length ≤ 100000 ∧ Q (.f (.tup (xs ++ ys)))
  | .str xs, .str ys => xs.length + ys.length ≤ 100000 ∧ Q (.f (.str (xs ++ ys)))
  | _, _ => False
theorem de_add {a b : Expr} {pos : Pos} {da db : DE} (ha : DEx X E a da) (hb : DEx X E b db) : DEx X E (.BinOp a .Add b pos) (dOp gAdd da db) :=
  de_op (op_add.or (op_cat.or (op_catA.or op_add_str))) (o_or o_I0 (g' := fun a b Q => gCatL a b Q ∨ gCatT a b Q ∨ gCatS a b Q) (o_or o_cat (g' := fun a b Q => gCatT a b Q ∨ gCatS a b Q) (o_or o_catA o_catS fun _ _ _ z => z) fun _ _ _ z => z) fun a b Q z => by
    unfold gAdd at z
    split at z
    · exact .inl z
    · exact .inr (.inl z)
    · exact .inr (.inr (.inl z))
    · exact .inr (.inr (.inr z))
    · exact z.elim) ha hb
theorem de_sub {a b : Expr} {pos : Pos} {da db : DE} (ha : DEx X E a da) (hb : DEx X E b db) : DEx X E (.BinOp a .Sub b pos) (dOp (gI0 fun i j => i - j) da db) := de_op op_sub o_I0 ha hb
def gRep : G2 := fun a b Q => match a, b with
  | .lst xs, .int k => -(2 ^ 63) ≤ k ∧ k < 2 ^ 63 ∧ xs.length * k.toNat ≤ 100000 ∧ Q (.n (.lst (List.replicate k.toNat xs).flatten))
  | _, _ => False
theorem Reps.rep {vs : List V} {ds : List Dat} (r : Reps F vs ds) : ∀ k : Nat, Reps F (List.replicate k vs).flatten (List.replicate k ds).flatten
  | 0 => .nil
  | k + 1 => by
    rw [List.replicate_succ, List.replicate_succ, List.flatten_cons, List.flatten_cons]
    exact r.append (Reps.rep r k)
theorem o_rep : Op2 rRep gRep := fun L C F H x y dx dy Q Qd fr rx ry h k => by
  unfold gRep at h
  split at h
  · next xs n =>
    obtain ⟨a, vs, rfl, ha, ra⟩ := rx
    cases rep1_int ry
    exact ⟨a, n, vs, rfl, rfl, ha, h.1, h.2.1, line_ok (by rw [ra.len]; exact h.2.2.1), fun p hp => k F _ _ (.n _) (fr.grO hp _) (new_lst fr hp (ra.rep _)) h.2.2.2⟩
  · exact h.elim
def gMul : G2 := fun a b Q => match a, b with
  | .int i, .int j => (CMul i j ∨ CMulX i j) ∧ Q (.f (.int (i * j)))
  | .lst xs, .int k => -(2 ^ 63) ≤ k ∧ k < 2 ^ 63 ∧ xs.length * k.toNat ≤ 100000 ∧ Q (.n (.lst (List.replicate k.toNat xs).flatten))
  | _, _ => False
theorem de_mul {a b : Expr} {pos : Pos} {da db : DE} (ha : DEx X E a da) (hb : DEx X E b db) : DEx X E (.BinOp a .Mult b pos) (dOp gMul da db) :=
  de_op (op_mul.or (op_mulX.or op_rep)) (o_or o_I (g' := fun a b Q => gI CMulX (fun i j => i * j) a b Q ∨ gRep a b Q) (o_or o_I o_rep fun _ _ _ z => z) fun a b Q z => by
    unfold gMul at z
    split at z
    · rcases z.1 with w | w
      · exact .inl ⟨w, z.2⟩
      · exact .inr (.inl ⟨w, z.2⟩)
    · exact .inr (.inr z)
    · exact z.elim) ha hb
theorem de_fdiv {a b : Expr} {pos : Pos} {da db : DE} (ha : DEx X E a da) (hb : DEx X E b db) : DEx X E (.BinOp a .FloorDiv b pos) (dOp (gI CDivW fun i j => i / j) da db) := de_op op_fdivW o_I ha hb
theorem de_mod {a b : Expr} {pos : Pos} {da db : DE} (ha : DEx X E a da) (hb : DEx X E b db) : DEx X E (.BinOp a .Mod b pos) (dOp (gI (fun _ j => 0 < j) fun i j => i % j) da db) := de_op op_mod o_I ha hb
theorem de_pow {a b : Expr} {pos : Pos} {da db : DE} (ha : DEx X E a da) (hb : DEx X E b db) : DEx X E (.BinOp a .Pow b pos) (dOp (gI CPow fun i j => i ^ j.toNat) da db) := de_op op_pow o_I ha hb
def CSh (i j : Int) : Prop := CPow i j ∨ CShl i j
theorem de_shl {a b : Expr} {pos : Pos} {da db : DE} (ha : DEx X E a da) (hb : DEx X E b db) : DEx X E (.BinOp a .LShift b pos) (dOp (gI CSh fun i j => i * 2 ^ j.toNat) da db) :=
  de_op (op_shl.or op_shlW) (o_or o_I o_I fun a b Q z => by
    unfold gI at z
    split at z
    · rcases z.1 with w | w
      · exact .inl ⟨w, z.2⟩
      · exact .inr ⟨w, z.2⟩
    · exact z.elim) ha hb
theorem de_shr {a b : Expr} {pos : Pos} {da db : DE} (ha : DEx X E a da) (hb : DEx X E b db) : DEx X E (.BinOp a .RShift b pos) (dOp (gI (fun _ j => 0 ≤ j) fun i j => i / 2 ^ j.toNat) da db) := de_op op_shr o_I ha hb
theorem de_band {a b : Expr} {pos : Pos} {da db : DE} (ha : DEx X E a da) (hb : DEx X E b db) : DEx X E (.BinOp a .BitAnd b pos) (dOp (gI0 Builtin.bitAnd) da db) := de_op op_and o_I0 ha hb
theorem de_bor {a b : Expr} {pos : Pos} {da db : DE} (ha : DEx X E a da) (hb : DEx X E b db) : DEx X E (.BinOp a .BitOr b pos) (dOp (gI0 Builtin.bitOr) da db) := de_op op_or o_I0 ha hb
theorem de_bxor {a b : Expr} {pos : Pos} {da db : DE} (ha : DEx X E a da) (hb : DEx X E b db) : DEx X E (.BinOp a .BitXor b pos) (dOp (gI0 Builtin.bitXor) da db) := de_op op_xor o_I0 ha hb
def gU (g : Int → Int) : G1 := fun a Q => match a with
  | .int i => Q (.f (.int (g i)))
  | _ => False
theorem o_U {g : Int → Int} : Op1 (rU fun i => .int (g i)) (gU g) := fun L C F H x d Q Qd fr rx h k => by
  unfold gU at h
  split at h
  · next i => cases rep1_int rx; exact ⟨i, rfl, k F H _ (.f _) (Gr.refl fr) (Rep.int _) h⟩
  · exact h.elim
theorem de_neg {a : Expr} {pos : Pos} {da : DE} (ha : DEx X E a da) : DEx X E (.UnaryOp .USub a pos) (dUn (gU fun i => -i) da) := de_un un_neg o_U ha
/-- x += n, ints -/
theorem ds_augAdd {i : Nat} {x : Str} {e : Expr} {de : DE} {pos tpos : Pos} (hN : X.N.Nodup) (hi : X.N[i]? = some x) (hx : Loc X.env.scope x) (he : DEx X E e de) (hf : X.fn x = true ∨ X.env.scope.names.lookup x = some .local := by first | exact .inl rfl | exact .inr rfl | assumption) :
    DSx X E (.AugAssign (.Name x tpos) .Add e pos) (dAug i (gI0 fun i j => i + j) de) := ds_aug hN hi hx he ip_add o_I0 fun te p => ps_aug hN hi hx p ip_add

/-! ### comparisons -/
def lt2 {a b : Expr} {pos : Pos} {da db : DE} (ha : DEx X E a da) (hb : DEx X E b db) : DEx X E (.Compare a [.Lt] [b] pos) (dOp (gB0 fun i j => decide (i < j)) da db) := de_cmp op_lt o_B0 ha hb
theorem de_lt {a b : Expr} {pos : Pos} {da db : DE} (ha : DEx X E a da) (hb : DEx X E b db) : DEx X E (.Compare a [.Lt] [b] pos) (dOp (gB0 fun i j => decide (i < j)) da db) := de_cmp op_lt o_B0 ha hb
theorem de_le {a b : Expr} {pos : Pos} {da db : DE} (ha : DEx X E a da) (hb : DEx X E b db) : DEx X E (.Compare a [.LtE] [b] pos) (dOp (gB0 fun i j => decide (i ≤ j)) da db) := de_cmp op_le o_B0 ha hb
theorem de_gt {a b : Expr} {pos : Pos} {da db : DE} (ha : DEx X E a da) (hb : DEx X E b db) : DEx X E (.Compare a [.Gt] [b] pos) (dOp (gB0 fun i j => decide (j < i)) da db) := de_cmp op_gt o_B0 ha hb
theorem de_ge {a b : Expr} {pos : Pos} {da db : DE} (ha : DEx X E a da) (hb : DEx X E b db) : DEx X E (.Compare a [.GtE] [b] pos) (dOp (gB0 fun i j => decide (j ≤ i)) da db) := de_cmp op_ge o_B0 ha hb
theorem dt_lt {a b : Expr} {pos : Pos} {da db : DE} (ha : DEx X E a da) (hb : DEx X E b db) : DTx X E (.Compare a [.Lt] [b] pos) (dB (dOp (gB0 fun i j => decide (i < j)) da db)) := dt_cmp op_lt o_B0 ha hb
theorem dt_le {a b : Expr} {pos : Pos} {da db : DE} (ha : DEx X E a da) (hb : DEx X E b db) : DTx X E (.Compare a [.LtE] [b] pos) (dB (dOp (gB0 fun i j => decide (i ≤ j)) da db)) := dt_cmp op_le o_B0 ha hb
theorem dt_gt {a b : Expr} {pos : Pos} {da db : DE} (ha : DEx X E a da) (hb : DEx X E b db) : DTx X E (.Compare a [.Gt] [b] pos) (dB (dOp (gB0 fun i j => decide (j < i)) da db)) := dt_cmp op_gt o_B0 ha hb
theorem dt_ge {a b : Expr} {pos : Pos} {da db : DE} (ha : DEx X E a da) (hb : DEx X E b db) : DTx X E (.Compare a [.GtE] [b] pos) (dB (dOp (gB0 fun i j => decide (j ≤ i)) da db)) := dt_cmp op_ge o_B0 ha hb
/-- x is None -/
def isNon : Dat → Bool
  | .non => true
  | .raw .non => true
  | _ => false
theorem isNon_of (r : Rep1 F H v d) : decide (v = V.non) = isNon d := by
  cases d with
  | non => cases rep1_non r; rfl
  | bl b => cases rep1_bl r; rfl
  | int b => cases rep1_int r; rfl
  | str b => cases rep1_str r; rfl
  | tup l => obtain ⟨a, vs, rfl, _⟩ := r; rfl
  | lst l => obtain ⟨a, vs, rfl, _⟩ := r; rfl
  | dk l => obtain ⟨a, vs, rfl, _⟩ := r; rfl
  | dt l => obtain ⟨a, vs, rfl, _⟩ := r; rfl
  | ins C l => obtain ⟨a, dx, vs, rfl, _⟩ := r; rfl
  | raw w => cases rep1_raw r; cases v <;> rfl
  | exc c fs => have r : Rep F v (.exc c fs) := r; cases r <;> rfl
def gIs (n : Bool) : G2 := fun a b Q => match b with
  | .non => Q (.f (.bl (n ^^ isNon a)))
  | .bl y => match a with
    | .bl x => Q (.f (.bl (n ^^ (x == y))))
    | _ => False
  | _ => False
theorem beq_dec (x y : Bool) : (x == y) = decide (x = y) := by cases x <;> cases y <;> rfl
theorem o_isN : Op2 (fun x y H Q => (y = .non ∧ Q (.bl (decide (x = .non))) H) ∨ rIsB x y H Q) (gIs false) := fun L C F H x y dx dy Q Qd fr rx ry h k => by
  unfold gIs at h
  split at h
  · refine .inl ⟨rep1_non ry, k F H _ (.f _) (Gr.refl fr) ?_ h⟩
    rw [isNon_of rx, Bool.false_xor]; exact Rep.bl _
  · next b =>
    split at h
    · next a =>
      refine .inr ⟨a, b, rep1_bl rx, rep1_bl ry, k F H _ (.f _) (Gr.refl fr) ?_ h⟩
      rw [Bool.false_xor, beq_dec]; exact Rep.bl _
    · exact h.elim
  · exact h.elim
theorem o_notN : Op2 (fun x y H Q => (y = .non ∧ Q (.bl (!decide (x = .non))) H) ∨ rNotB x y H Q) (gIs true) := fun L C F H x y dx dy Q Qd fr rx ry h k => by
  unfold gIs at h
  split at h
  · refine .inl ⟨rep1_non ry, k F H _ (.f _) (Gr.refl fr) ?_ h⟩
    rw [isNon_of rx, Bool.true_xor]; exact Rep.bl _
  · next b =>
    split at h
    · next a =>
      refine .inr ⟨a, b, rep1_bl rx, rep1_bl ry, k F H _ (.f _) (Gr.refl fr) ?_ h⟩
      rw [Bool.true_xor, beq_dec]; exact Rep.bl _
    · exact h.elim
  · exact h.elim
theorem de_isN {a b : Expr} {pos : Pos} {da db : DE} (ha : DEx X E a da) (hb : DEx X E b db) : DEx X E (.Compare a [.Is] [b] pos) (dOp (gIs false) da db) := de_cmp (op_isN.or op_isBl) o_isN ha hb
theorem de_notN {a b : Expr} {pos : Pos} {da db : DE} (ha : DEx X E a da) (hb : DEx X E b db) : DEx X E (.Compare a [.IsNot] [b] pos) (dOp (gIs true) da db) := de_cmp (op_notN.or op_notBl) o_notN ha hb
theorem dt_isN {a b : Expr} {pos : Pos} {da db : DE} (ha : DEx X E a da) (hb : DEx X E b db) : DTx X E (.Compare a [.Is] [b] pos) (dB (dOp (gIs false) da db)) := dt_cmp (op_isN.or op_isBl) o_isN ha hb
theorem dt_notN {a b : Expr} {pos : Pos} {da db : DE} (ha : DEx X E a da) (hb : DEx X E b db) : DTx X E (.Compare a [.IsNot] [b] pos) (dB (dOp (gIs true) da db)) := dt_cmp (op_notN.or op_notBl) o_notN ha hb

/-! ### == -/
def pln : Nat → Dat → Bool
  | _, .int _ => true
  | _, .non => true
  | _, .str s => PyData.canLay0 (.str s)
  | n + 1, .tup l => l.all (pln n)
  | n + 1, .lst l => l.all (pln n)
  | _, _ => false
mutual
def toPy : Dat → PyData
  | .int i => .int i
  | .str s => .str s
  | .bl b => .bool b
  | .tup l => .tuple (toPys l)
  | .lst l => .list (toPys l)
  | _ => .none
def toPys : List Dat → List PyData
  | [] => []
  | d :: l => toPy d :: toPys l
end
noncomputable def deq (a b : Dat) : Bool := @decide (a = b) (Classical.propDecidable _)
theorem deq_iff {a b : Dat} : deq a b = true ↔ a = b := by unfold deq; exact @decide_eq_true_iff _ (Classical.propDecidable _)
theorem deq_refl (a : Dat) : deq a a = true := deq_iff.mpr rfl
theorem deq_int (i j : Int) : deq (.int i) (.int j) = decide (i = j) := by
  by_cases h : i = j
  · subst h; rw [deq_refl]; simp
  · rw [decide_eq_false h]
    cases e : deq (.int i) (.int j) with
    | false => rfl
    | true => exact absurd (Dat.int.inj (deq_iff.mp e)) h
theorem pln_dp {K : PySem.W.Frag} (z : Fz F H) : ∀ (n : Nat) (d : Dat) (v : V), pln n d = true → Rep F v d → Dp K H v (toPy d) ∧ (toPy d).canLay0 = true ∧ (toPy d).depth ≤ n := by
  have all : ∀ (n : Nat), (∀ (d : Dat) (v : V), pln n d = true → Rep F v d → Dp K H v (toPy d) ∧ (toPy d).canLay0 = true ∧ (toPy d).depth ≤ n) → ∀ (l : List Dat) (vs : List V), l.all (pln n) = true → Reps F vs l → DpAll K H vs (toPys l) ∧ PyData.canLayAll0 (toPys l) = true ∧ PyData.depthAll (toPys l) ≤ n := by
    intro n ih l
    induction l with
    | nil => intro vs _ r; cases r; exact ⟨.nil, by simp [toPys, PyData.canLayAll0], by simp [toPys, PyData.depthAll]⟩
    | cons d l ihl =>
      intro vs h r
      rw [List.all_cons, Bool.and_eq_true] at h
      cases r with
      | cons r1 r2 =>
        obtain ⟨a1, a2, a3⟩ := ih d _ h.1 r1
        obtain ⟨b1, b2, b3⟩ := ihl _ h.2 r2
        exact ⟨.cons a1 b1, by simp [toPys, PyData.canLayAll0, a2, b2], by simp only [toPys, PyData.depthAll]; omega⟩
  intro n
  induction n with
  | zero =>
    intro d v h r
    cases r with
    | non => exact ⟨.non, by simp [toPy, PyData.canLay0], by simp [toPy, PyData.depth]⟩
    | int i => exact ⟨.int i, by simp [toPy, PyData.canLay0], by simp [toPy, PyData.depth]⟩
    | str s => exact ⟨.str s, h, by simp [toPy, PyData.depth]⟩
    | _ => cases h
  | succ n ih =>
    intro d v h r
    cases r with
    | non => exact ⟨.non, by simp [toPy, PyData.canLay0], by simp [toPy, PyData.depth]⟩
    | int i => exact ⟨.int i, by simp [toPy, PyData.canLay0], by simp [toPy, PyData.depth]⟩
    | str s => exact ⟨.str s, h, by simp [toPy, PyData.depth]⟩
    | tup e r =>
      obtain ⟨a1, a2, a3⟩ := all n ih _ _ h r
      refine ⟨.tup (.inl (.inl (z.ex e rfl))) a1, ?_, ?_⟩
      · simp only [toPy, PyData.canLay0]; exact a2
      · simp only [toPy, PyData.depth]; omega
    | lst e r =>
      obtain ⟨a1, a2, a3⟩ := all n ih _ _ h r
      refine ⟨.lst (.inl (.inl (z.ex e rfl))) a1, ?_, ?_⟩
      · simp only [toPy, PyData.canLay0]; exact a2
      · simp only [toPy, PyData.depth]; omega
    | _ => cases h
theorem pln_dps {K : PySem.W.Frag} (z : Fz F H) {n : Nat} : ∀ (l : List Dat) (vs : List V), l.all (pln n) = true → Reps F vs l → DpAll K H vs (toPys l) ∧ PyData.canLayAll0 (toPys l) = true ∧ PyData.depthAll (toPys l) ≤ n
  | [], vs, _, r => by cases r; exact ⟨.nil, by simp [toPys, PyData.canLayAll0], by simp [toPys, PyData.depthAll]⟩
  | d :: l, vs, h, r => by
    rw [List.all_cons, Bool.and_eq_true] at h
    cases r with
    | cons r1 r2 =>
      obtain ⟨a1, a2, a3⟩ := pln_dp (K := K) z n d _ h.1 r1
      obtain ⟨b1, b2, b3⟩ := pln_dps z l _ h.2 r2
      exact ⟨.cons a1 b1, by simp [toPys, PyData.canLayAll0, a2, b2], by simp only [toPys, PyData.depthAll]; omega⟩
theorem pln_dp1 {K : PySem.W.Frag} (z : Fz F H) {n : Nat} (h : pln n d = true) (r : Rep1 F H v d) : Dp K H v (toPy d) ∧ (toPy d).canLay0 = true ∧ (toPy d).depth ≤ n := by
  cases d with
  | lst l =>
    obtain ⟨a, vs, rfl, ha, rs⟩ := r
    cases n with
    | zero => cases h
    | succ n =>
      obtain ⟨a1, a2, a3⟩ := pln_dps (K := K) z l vs h rs
      refine ⟨.lst (.inl (.inl ha)) a1, ?_, ?_⟩
      · simp only [toPy, PyData.canLay0]; exact a2
      · simp only [toPy, PyData.depth]; omega
  | tup l =>
    obtain ⟨a, vs, rfl, fa, ha, rs⟩ := r
    exact pln_dp z n _ _ h (.tup fa rs)
  | int i => exact pln_dp z n _ _ h r
  | non => exact pln_dp z n _ _ h r
  | str s => exact pln_dp z n _ _ h r
  | _ => cases n <;> cases h
theorem eqv_pln : ∀ (n : Nat) (a b : Dat), pln n a = true → pln n b = true → (PyData.eqv (toPy a) (toPy b) = true ↔ a = b) := by
  have all : ∀ (n : Nat), (∀ (a b : Dat), pln n a = true → pln n b = true → (PyData.eqv (toPy a) (toPy b) = true ↔ a = b)) → ∀ (l m : List Dat), l.all (pln n) = true → m.all (pln n) = true → (PyData.eqvAll (toPys l) (toPys m) = true ↔ l = m) := by
    intro n ih l
    induction l with
    | nil => intro m _ _; cases m <;> simp [toPys, PyData.eqvAll]
    | cons a l ihl =>
      intro m h1 h2
      cases m with
      | nil => simp [toPys, PyData.eqvAll]
      | cons b m =>
        rw [List.all_cons, Bool.and_eq_true] at h1 h2
        simp only [toPys, PyData.eqvAll, Bool.and_eq_true]
        rw [ih a b h1.1 h2.1, ihl m h1.2 h2.2]
        constructor
        · rintro ⟨rfl, rfl⟩; rfl
        · intro e; cases e; exact ⟨rfl, rfl⟩
  intro n
  induction n with
  | zero =>
    intro a b h1 h2
    cases a <;> first | (cases h1; done) | (cases b <;> first | (cases h2; done) | simp [toPy, PyData.eqv])
  | succ n ih =>
    intro a b h1 h2
    cases a <;> first | (cases h1; done) | skip
    all_goals (cases b <;> first | (cases h2; done) | (simp [toPy, PyData.eqv]; done) | skip)
    · simp only [toPy, PyData.eqv]
      rw [all n ih _ _ h1 h2]
      exact ⟨fun e => by rw [e], fun e => by cases e; rfl⟩
    · simp only [toPy, PyData.eqv]
      rw [all n ih _ _ h1 h2]
      exact ⟨fun e => by rw [e], fun e => by cases e; rfl⟩
theorem eqv_deq {n : Nat} {a b : Dat} (h1 : pln n a = true) (h2 : pln n b = true) : PyData.eqv (toPy a) (toPy b) = deq a b := by
  have h := eqv_pln n a b h1 h2
  cases e : PyData.eqv (toPy a) (toPy b) with
  | true => exact (deq_iff.mpr (h.mp e)).symm
  | false =>
    cases e' : deq a b with
    | false => rfl
    | true => rw [h.mpr (deq_iff.mp e')] at e; cases e
end
end DL

set_option Elab.async false
set_option linter.all false
set_option maxRecDepth 100000
set_option maxHeartbeats 2000000
namespace DL
open PySem PySem.Spec PyProof.Rows L2
variable [ClsV]

section
variable {X : Cx} {E : L2.St → XK} {L : Addr → Prop} {C : Cc} {F H F' H' : Hp} {v x y : V} {d dx dy : Dat} {p : Addr} {o : HO} {a b e : Expr} {es : List Expr} {pos pp : Pos} {da db de : DE} {dr : DA}
/-! ### ==, != -/
def gEq (n : Bool) : G2 := fun a b Q => match a, b with
  | .bl x, .bl y => Q (.f (.bl (n ^^ (x == y))))
  | a, b => pln 8 a = true ∧ pln 8 b = true ∧ Q (.f (.bl (n ^^ deq a b)))
theorem bl_dp {K : PySem.W.Frag} {b : Bool} (r : Rep1 F H v (.bl b)) : Dp K H v (.bool b) := by cases rep1_bl r; exact .bl b
theorem shp {d : PyData} (h1 : d.canLay0 = true) (h2 : d.depth ≤ 8) : SeqAt.shaped d = true := by
  unfold SeqAt.shaped
  rw [h1, decide_eq_true (by omega)]; rfl
theorem o_eq {K : PySem.W.Frag} : Op2 (rEqD K) (gEq false) := fun L C F H x y dx dy Q Qd fr rx ry h k => by
  unfold gEq at h
  split at h
  · next b c =>
    refine ⟨_, _, bl_dp rx, bl_dp ry, shp (by simp [PyData.canLay0]) (by simp [PyData.depth]), shp (by simp [PyData.canLay0]) (by simp [PyData.depth]), ?_⟩
    exact k F H _ (.f _) (Gr.refl fr) (by simp only [PyData.eqv, Bool.false_xor]; exact Rep.bl _) h
  · obtain ⟨a1, a2, a3⟩ := pln_dp1 (K := K) fr.fz h.1 rx
    obtain ⟨b1, b2, b3⟩ := pln_dp1 (K := K) fr.fz h.2.1 ry
    refine ⟨_, _, a1, b1, shp a2 a3, shp b2 b3, ?_⟩
    exact k F H _ (.f _) (Gr.refl fr) (by rw [eqv_deq h.1 h.2.1, Bool.false_xor]; exact Rep.bl _) h.2.2
theorem o_ne {K : PySem.W.Frag} : Op2 (rNeD K) (gEq true) := fun L C F H x y dx dy Q Qd fr rx ry h k => by
  unfold gEq at h
  split at h
  · next b c =>
    refine ⟨_, _, bl_dp rx, bl_dp ry, shp (by simp [PyData.canLay0]) (by simp [PyData.depth]), shp (by simp [PyData.canLay0]) (by simp [PyData.depth]), ?_⟩
    exact k F H _ (.f _) (Gr.refl fr) (by simp only [PyData.eqv, Bool.true_xor]; exact Rep.bl _) h
  · obtain ⟨a1, a2, a3⟩ := pln_dp1 (K := K) fr.fz h.1 rx
    obtain ⟨b1, b2, b3⟩ := pln_dp1 (K := K) fr.fz h.2.1 ry
    refine ⟨_, _, a1, b1, shp a2 a3, shp b2 b3, ?_⟩
    exact k F H _ (.f _) (Gr.refl fr) (by rw [eqv_deq h.1 h.2.1, Bool.true_xor]; exact Rep.bl _) h.2.2
theorem de_eq {k : Nat} (hr : Room k X.A) (ha : DEx X E a da) (hb : DEx X E b db) : DEx X E (.Compare a [.Eq] [b] pos) (dOp (gEq false) da db) := de_cmp (op_eqD hr.units) o_eq ha hb
theorem de_ne {k : Nat} (hr : Room k X.A) (ha : DEx X E a da) (hb : DEx X E b db) : DEx X E (.Compare a [.NotEq] [b] pos) (dOp (gEq true) da db) := de_cmp (op_neD hr.units) o_ne ha hb
theorem dt_eq {k : Nat} (hr : Room k X.A) (ha : DEx X E a da) (hb : DEx X E b db) : DTx X E (.Compare a [.Eq] [b] pos) (dB (dOp (gEq false) da db)) := dt_cmp (op_eqD hr.units) o_eq ha hb
theorem dt_ne {k : Nat} (hr : Room k X.A) (ha : DEx X E a da) (hb : DEx X E b db) : DTx X E (.Compare a [.NotEq] [b] pos) (dB (dOp (gEq true) da db)) := dt_cmp (op_neD hr.units) o_ne ha hb

/-! ### displays -/
def dTup (dr : DA) : DE := fun env Q X => dr env (fun rs env1 => withD (fzs env1 rs) fun z => z.1.length ≤ 100000 ∧ Q (.f (.tup z.1)) z.2) X where
  fzs (env : Env) : List Res → Option (List Dat × Env)
    | [] => some ([], env)
    | .f d :: rs => match fzs env rs with
      | some (ds, env') => some (d :: ds, env')
      | none => none
    | .l i :: rs => match env[i]? with
      | some (some (.o d)) => match fzs (env.set i (some (.f d))) rs with
        | some (ds, env') => some (d :: ds, env')
        | none => none
      | some (some (.f d)) => match fzs env rs with
        | some (ds, env') => some (d :: ds, env')
        | none => none
      | _ => none
    | .n _ :: _ => none
theorem fzs_ok {σ : L2.St} : ∀ {rs : List Res} {vs : List V} {env env' : Env} {F : Hp} {ds : List Dat}, Rl L C F H σ env → RAs F σ vs rs → dTup.fzs env rs = some (ds, env') → ∃ F', Ex F F' ∧ Rl L C F' H σ env' ∧ Reps F' vs ds
  | [], _, env, env', F, ds, R, .nil, h => by
    simp only [dTup.fzs] at h
    cases h
    exact ⟨F, Ex.refl F, R, .nil⟩
  | .f d :: rs, _, env, env', F, ds, R, .cons a t, h => by
    simp only [dTup.fzs] at h
    split at h
    · next ds' env2 e =>
      cases h
      obtain ⟨F', e1, R1, r1⟩ := fzs_ok R t e
      exact ⟨F', e1, R1, .cons (Rep.mono e1 a) r1⟩
    · cases h
  | .n d :: rs, _, env, env', F, ds, R, .cons a t, h => a.elim
  | .l i :: rs, _, env, env', F, ds, R, .cons (v := v) a t, h => by
    have a : σ[i]? = some (some v) := a
    simp only [dTup.fzs] at h
    split at h
    · next d0 e0 =>
      split at h
      · next ds' env2 e =>
        cases h
        obtain ⟨F1, w, e1, hw, R1, r1⟩ := R.frzSlot e0
        rw [a] at hw; cases hw
        obtain ⟨F2, e2, R2, r2⟩ := fzs_ok R1 (t.mono e1) e
        exact ⟨F2, e1.trans e2, R2, .cons (r1.mono e2) r2⟩
      · cases h
    · next d0 e0 =>
      split at h
      · next ds' env2 e =>
        cases h
        obtain ⟨ov, h1, w, h2, h3⟩ := R.sl _ _ e0
        subst h2
        rw [a] at h1; cases h1
        obtain ⟨F2, e2, R2, r2⟩ := fzs_ok R t e
        exact ⟨F2, e2, R2, .cons (h3.mono e2) r2⟩
      · cases h
    · cases h
theorem de_tup {x1 : Nat} (h : DAx X E es dr) : DEx X E (.Tuple es x1 pos) (dTup dr) := by
  obtain ⟨t, p, s⟩ := h.ex
  refine ⟨_, pe_tup p, fun L C F H σ env Q Qd Xd R h k x => s L C F H σ env _ _ Xd R h (fun F1 H1 vs rs env1 e1 R1 av q => ?_) x⟩
  obtain ⟨⟨ds, env2⟩, hz, hl, q⟩ := withD_of q
  obtain ⟨F2, e2, R2, r2⟩ := fzs_ok R1 av hz
  refine ⟨line_ok (by rw [r2.len]; exact hl), fun p hp => ?_⟩
  have g := R2.fr.grF hp (.tup vs)
  exact k _ _ _ (.f _) env2 (e1.trans (e2.trans g.fx)) (R2.grow g) (new_tup R2.fr hp r2) q
def dLst (dr : DA) : DE := fun env Q X => dr env (fun rs env1 => withD (dTup.fzs env1 rs) fun z => z.1.length ≤ 100000 ∧ Q (.n (.lst z.1)) z.2) X
theorem de_lst (h : DAx X E es dr) : DEx X E (.List es pos) (dLst dr) := by
  obtain ⟨t, p, s⟩ := h.ex
  refine ⟨_, pe_lst p, fun L C F H σ env Q Qd Xd R h k x => s L C F H σ env _ _ Xd R h (fun F1 H1 vs rs env1 e1 R1 av q => ?_) x⟩
  obtain ⟨⟨ds, env2⟩, hz, hl, q⟩ := withD_of q
  obtain ⟨F2, e2, R2, r2⟩ := fzs_ok R1 av hz
  refine ⟨line_ok (by rw [r2.len]; exact hl), fun p hp => ?_⟩
  have g := R2.fr.grO hp (.lst vs)
  exact k _ _ _ (.n _) env2 (e1.trans (e2.trans g.fx)) (R2.grow g) (RN.rv R2 (new_lst R2.fr hp r2)) q

/-! ### subscripts -/
theorem atI_reps {vs : List V} {ds : List Dat} {i : Int} (r : Reps F vs ds) (h : atI ds i = some d) : ∃ v, atI vs i = some v ∧ Rep F v d := by
  unfold atI at h ⊢
  rw [r.len]
  cases e : ixN ds.length i with
  | none => rw [e] at h; cases h
  | some j =>
    rw [e] at h
    exact r.get h
def keyD : Dat → Option Key
  | .int i => some (.inl i)
  | .str s => some (.inr s)
  | _ => none
def keysD : List Dat → Option (List Key)
  | [] => some []
  | d :: l => match keyD d, keysD l with
    | some k, some ks => some (k :: ks)
    | _, _ => none
def luK {κ : Type} [DecidableEq κ] (kds : List (κ × Dat)) (k : κ) : Option Dat := (kds.find? fun kv => decide (kv.1 = k)).map (·.2)
theorem luK_repK {vs : List (Key × V)} {ds : List (Key × Dat)} {k : Key} : RepK F vs ds → match luK ds k with
    | some d => ∃ v, valV vs k = some v ∧ Rep F v d
    | none => valV vs k = none
  | .nil => rfl
  | .cons (k := k0) (v := v) (d := d) r t => by
    by_cases e : k0 = k
    · have h1 : ∀ l, luK ((k0, d) :: l) k = some d := fun l => by unfold luK; rw [List.find?_cons_of_pos (by simp [e])]; rfl
      rw [h1]
      exact ⟨v, valV_pos e, r⟩
    · have h1 : ∀ l, luK ((k0, d) :: l) k = luK l k := fun l => by unfold luK; rw [List.find?_cons_of_neg (by simp [e])]
      rw [h1, valV_neg (p := (k0, v)) e]
      exact luK_repK t
theorem luK_repT {vs : List (List Key × V)} {ds : List (List Key × Dat)} {k : List Key} : RepT F vs ds → match luK ds k with
    | some d => ∃ v, valV vs k = some v ∧ Rep F v d
    | none => valV vs k = none
  | .nil => rfl
  | .cons (k := k0) (v := v) (d := d) r t => by
    by_cases e : k0 = k
    · have h1 : ∀ l, luK ((k0, d) :: l) k = some d := fun l => by unfold luK; rw [List.find?_cons_of_pos (by simp [e])]; rfl
      rw [h1]
      exact ⟨v, valV_pos e, r⟩
    · have h1 : ∀ l, luK ((k0, d) :: l) k = luK l k := fun l => by unfold luK; rw [List.find?_cons_of_neg (by simp [e])]
      rw [h1, valV_neg (p := (k0, v)) e]
      exact luK_repT t
theorem keyD_v {k : Key} (h : keyD d = some k) (r : Rep1 F H v d) : v = kV k := by
  cases d with
  | int i => cases h; exact rep1_int r
  | str i => cases h; exact rep1_str r
  | _ => cases h
theorem keysD_v : ∀ {ds : List Dat} {vs : List V} {ks : List Key}, keysD ds = some ks → Reps F vs ds → vs = ks.map kV
  | [], _, ks, h, .nil => by cases h; rfl
  | d :: l, _, ks, h, .cons r t => by
    unfold keysD at h
    split at h
    · next k ks' e1 e2 =>
      cases h
      rw [keysD_v e2 t]
      cases d with
      | int i => cases e1; cases r; rfl
      | str i => cases e1; cases r; rfl
      | _ => cases e1
    · cases h
/-- what a dict has at a key -/
def dGetD (a b : Dat) : Option (Option Dat) := match a, b with
  | .dk l, b => (keyD b).map fun k => luK l k
  | .dt l, .tup ks => (keysD ks).map fun k => luK l k
  | _, _ => none
theorem dget_of {od : Option Dat} (h : dGetD dx dy = some od) (rx : Rep1 F H x dx) (ry : Rep1 F H y dy) : ∃ a ov, x = .ref a ∧ DGet H a y ov ∧ match od with
    | some d => ∃ v, ov = some v ∧ Rep F v d
    | none => ov = none := by
  unfold dGetD at h
  split at h
  · next l b =>
    obtain ⟨a, vs, rfl, ha, rs⟩ := rx
    obtain ⟨k, hk, e⟩ := Option.map_eq_some_iff.mp h
    refine ⟨a, _, rfl, .inl ⟨vs, k, ha, keyD_v hk ry, rfl⟩, ?_⟩
    have := luK_repK (k := k) rs
    rw [e] at this
    cases od with
    | none => exact this
    | some d => exact this
  · next l ks =>
    obtain ⟨a, vs, rfl, ha, rs⟩ := rx
    obtain ⟨b, ws, rfl, fb, hb, rw'⟩ := ry
    obtain ⟨k, hk, e⟩ := Option.map_eq_some_iff.mp h
    refine ⟨a, _, rfl, .inr ⟨vs, k, b, ha, rfl, by rw [hb, keysD_v hk rw'], rfl⟩, ?_⟩
    have := luK_repT (k := k) rs
    rw [e] at this
    cases od with
    | none => exact this
    | some d => exact this
  · cases h
def rIxD : R2 := fun x y H Q => ∃ a v, x = .ref a ∧ DGet H a y (some v) ∧ Q v H
theorem ix_dict (hu : X.A.units + 1 < cLine) : IxR X rIxD := by
  rintro ve sl pins s σ H x y vx vy Q I rx ry ⟨a, z, rfl, g, q⟩ plain
  cases rx
  have ty := dict_typeIs I g
  have got : wpAny (model X.prog X.w) X.A (getItem (.ref a) vy) (EP X pins σ Q) X.xe s := d_getItem hu I g ry fun _ _ J r => ⟨z, H, J, r, q⟩
  have told : wpAny (model X.prog X.w) X.A (subscripted sl false (.ref a) vy) (fun r t => wpAny (model X.prog X.w) X.A (letTemporaryGo ve (.ref a) r >>= fun _ => pure r) (EP X pins σ Q) X.xe t) X.xe s :=
    plain ▸ wpAny_operating (wpAny_mono got (fun _ _ e => wpAny_bind (wpAny_letTemporaryGo (wpAny_pure e))) fun _ _ => id)
  unfold subscriptTail
  apply wpAny_bind
  simp only [getitemInPython_of_ne ty.not_modules]
  apply wpAny_bind
  apply wpAny_specialOf ty PySem.F.slot_dict_getitem.lookup
  first
    | exact wpAny_pure (wpAny_bind told)
    | exact wpAny_bind (wpAny_pure (wpAny_bind told))
    | exact wpAny_bind told
def gIx : G2 := fun a b Q => match a, b with
  | .lst ds, .int i => Got (atI ds i) fun d => Q (.f d)
  | .tup ds, .int i => Got (atI ds i) fun d => Q (.f d)
  | .str s, .int i => s.length ≤ 100000 ∧ Got (atI s.cps.toList i) fun c => Q (.f (.str ⟨#[c]⟩))
  | a, b => Got (dGetD a b) fun od => Got od fun d => Q (.f d)
theorem o_ix {K : PySem.W.Frag} : Op2 (fun x y H Q => rIx K x y H Q ∨ rIxD x y H Q) gIx := fun L C F H x y dx dy Q Qd fr rx ry h k => by
  unfold gIx at h
  split at h
  · next ds i =>
    obtain ⟨d, hd, h⟩ := h.ex
    obtain ⟨a, vs, rfl, ha, rs⟩ := rx
    cases rep1_int ry
    obtain ⟨v, hv, r⟩ := atI_reps rs hd
    exact .inl (.inl ⟨a, vs, i, v, rfl, rfl, .inl (.inl ha), hv, k F H _ (.f _) (Gr.refl fr) r h⟩)
  · next ds i =>
    obtain ⟨d, hd, h⟩ := h.ex
    obtain ⟨a, vs, rfl, _, ha, rs⟩ := rx
    cases rep1_int ry
    obtain ⟨v, hv, r⟩ := atI_reps rs hd
    exact .inl (.inr (.inl ⟨a, vs, i, v, rfl, rfl, .inl (.inl ha), hv, k F H _ (.f _) (Gr.refl fr) r h⟩))
  · next s i =>
    obtain ⟨c, hc, h2⟩ := h.2.ex
    cases rep1_str rx
    cases rep1_int ry
    exact .inl (.inr (.inr ⟨s, i, c, rfl, rfl, line_ok h.1, hc, k F H _ (.f _) (Gr.refl fr) (Rep.str _) h2⟩))
  · obtain ⟨od, ho, h2⟩ := h.ex
    obtain ⟨d, hd, h3⟩ := h2.ex
    subst hd
    obtain ⟨a, ov, rfl, g, v, rfl, r⟩ := dget_of ho rx ry
    exact .inr ⟨a, v, rfl, g, k F H _ (.f _) (Gr.refl fr) r h3⟩
theorem de_ix {k : Nat} (hr : Room k X.A) (ha : DEx X E a da) (hb : DEx X E b db) (hs : PlainIx b := by exact fun _ _ => rfl) : DEx X E (.Subscript a b pos) (dOp gIx da db) := by
  obtain ⟨ta, pa, sa⟩ := ha.ex
  obtain ⟨tb, pb, sb⟩ := hb.ex
  exact ⟨_, pe_ix (ix_seq.or (ix_dict (hu_of hr))) pa pb hs, se_op o_ix sa sb⟩

/-! ### built-in functions -/
def gLen : GA := fun ds Q => match ds with
  | [.lst l] => Q (.f (.int l.length))
  | [.tup l] => Q (.f (.int l.length))
  | [.str s] => s.length ≤ 100000 ∧ Q (.f (.int s.length))
  | _ => False
theorem o_len {K : PySem.W.Frag} : OpA (fun xs H Q => (∃ p ys, xs = [.ref p] ∧ (SqL K H p ys ∨ SqT K H p ys) ∧ Q (.int ys.length) H) ∨ (∃ z, xs = [.str z] ∧ z.length ≤ sizeLine ∧ Q (.int z.length) H)) gLen := fun L C F H xs ds Q Qd fr rx h k => by
  unfold gLen at h
  split at h
  · next l =>
    obtain ⟨v, rfl, a, vs, rfl, ha, rs⟩ := rx.one
    exact .inl ⟨a, vs, rfl, .inl (.inl (.inl ha)), k F H _ (.f _) (Gr.refl fr) (by rw [rs.len]; exact Rep.int _) h⟩
  · next l =>
    obtain ⟨v, rfl, a, vs, rfl, _, ha, rs⟩ := rx.one
    exact .inl ⟨a, vs, rfl, .inr (.inl (.inl ha)), k F H _ (.f _) (Gr.refl fr) (by rw [rs.len]; exact Rep.int _) h⟩
  · next s =>
    obtain ⟨v, rfl, r⟩ := rx.one
    cases rep1_str r
    exact .inr ⟨s, rfl, line_ok h.1, k F H _ (.f _) (Gr.refl fr) (Rep.int _) h.2⟩
  · exact h.elim
theorem de_len (hg : Gl X "len") (hm : X.mg "len" = none) (ha : DAx X E [e] dr) (he : starEach [e] X.env = (false, eval e X.env) :: starEach [] X.env := by rfl) (hpl : (backTo pos (starEach [] X.env)).any (·.1) = false := by rfl) : DEx X E (.Call (.Name "len" pp) [e] [] pos) (dCB gLen dr) :=
  de_callB (call_len_seq.or call_len_str) o_len hg hm PySem.boot_len ha (he := he) (hpl := hpl)
def tyN : Dat → Option String
  | .non => some "NoneType"
  | .bl _ => some "bool"
  | .int _ => some "int"
  | .str _ => some "str"
  | .lst _ => some "list"
  | .tup _ => some "tuple"
  | _ => none
theorem tyN_of {K : PySem.W.Frag} {t : String} (h : tyN d = some t) (r : Rep1 F H v d) : TyX K H v (.type t) := by
  cases d with
  | non => cases h; cases rep1_non r; exact .base .non
  | bl b => cases h; cases rep1_bl r; exact .base (.bl b)
  | int b => cases h; cases rep1_int r; exact .base (.int b)
  | str b => cases h; cases rep1_str r; exact .base (.str b)
  | tup l => cases h; obtain ⟨a, vs, rfl, _, ha, _⟩ := r; exact .base (.tup ha)
  | lst l => cases h; obtain ⟨a, vs, rfl, ha, _⟩ := r; exact .base (.lst ha)
  | _ => cases h
def gIsi : GA := fun ds Q => match ds with
  | [d, .raw (.ty T)] => withD (tyN d) fun t => withD (kitB t T) fun b => Q (.f (.bl b))
  | _ => False
theorem o_isi {K : PySem.W.Frag} : OpA (rIsi K) gIsi := fun L C F H xs ds Q Qd fr rx h k => by
  unfold gIsi at h
  split at h
  · next d T =>
    obtain ⟨v, w, rfl, r, rw'⟩ := rx.two
    cases rep1_raw rw'
    obtain ⟨t, ht, h⟩ := withD_of h
    obtain ⟨b, hb, h⟩ := withD_of h
    exact ⟨v, .ty T, .type t, .type T, b, rfl, .ty T, tyN_of ht r, kit_ty hb, k F H _ (.f _) (Gr.refl fr) (Rep.bl _) h⟩
  · exact h.elim
theorem de_isi (hg : Gl X "isinstance") (hm : X.mg "isinstance" = none) {a b : Expr} (ha : DAx X E [a, b] dr) (he : starEach [a, b] X.env = (false, eval a X.env) :: starEach [b] X.env := by rfl) (hpl : (backTo pos (starEach [b] X.env)).any (·.1) = false := by rfl) : DEx X E (.Call (.Name "isinstance" pp) [a, b] [] pos) (dCB gIsi dr) :=
  de_callB call_isi o_isi hg hm (by decide +kernel) ha (he := he) (hpl := hpl)
theorem kit_ii : kitB "int" "int" = some true := by decide +kernel
theorem kit_bi : kitB "bool" "int" = some true := by decide +kernel
theorem kit_ib : kitB "int" "bool" = some false := by decide +kernel
theorem kit_bb : kitB "bool" "bool" = some true := by decide +kernel
theorem kit_ni : kitB "NoneType" "int" = some false := by decide +kernel
theorem kit_nb : kitB "NoneType" "bool" = some false := by decide +kernel
theorem kit_nt : kitB "NoneType" "tuple" = some false := by decide +kernel
theorem kit_nl : kitB "NoneType" "list" = some false := by decide +kernel
theorem kit_ns : kitB "NoneType" "str" = some false := by decide +kernel
theorem kit_si : kitB "str" "int" = some false := by decide +kernel
theorem kit_sb : kitB "str" "bool" = some false := by decide +kernel
theorem kit_st : kitB "str" "tuple" = some false := by decide +kernel
theorem kit_sl : kitB "str" "list" = some false := by decide +kernel
theorem kit_ss : kitB "str" "str" = some true := by decide +kernel
theorem kit_ti : kitB "tuple" "int" = some false := by decide +kernel
theorem kit_tb : kitB "tuple" "bool" = some false := by decide +kernel
theorem kit_tt : kitB "tuple" "tuple" = some true := by decide +kernel
theorem kit_tl : kitB "tuple" "list" = some false := by decide +kernel
theorem kit_ts : kitB "tuple" "str" = some false := by decide +kernel
theorem kit_li : kitB "list" "int" = some false := by decide +kernel
theorem kit_lb : kitB "list" "bool" = some false := by decide +kernel
theorem kit_lt : kitB "list" "tuple" = some false := by decide +kernel
theorem kit_ll : kitB "list" "list" = some true := by decide +kernel
theorem kit_ls : kitB "list" "str" = some false := by decide +kernel
theorem kit_it : kitB "int" "tuple" = some false := by decide +kernel
theorem kit_il : kitB "int" "list" = some false := by decide +kernel
theorem kit_is : kitB "int" "str" = some false := by decide +kernel
theorem kit_bt : kitB "bool" "tuple" = some false := by decide +kernel
theorem kit_bl : kitB "bool" "list" = some false := by decide +kernel
theorem kit_bs : kitB "bool" "str" = some false := by decide +kernel
end
end DL

set_option Elab.async false
set_option linter.all false
set_option maxRecDepth 100000
set_option maxHeartbeats 2000000
namespace DL
open PySem PySem.Spec PyProof.Rows L2
variable [ClsV]

section
variable {X : Cx} {E : L2.St → XK} {L : Addr → Prop} {C : Cc} {F H F' H' : Hp} {v x y : V} {d dx dy : Dat} {p : Addr} {o : HO} {a b e : Expr} {es : List Expr} {pos pp : Pos} {da db de : DE} {dr : DA}
/-! ### slices -/
abbrev DO := Env → (Option Int → Env → Prop) → XD → Prop
structure DOx (X : Cx) (E : L2.St → XK) (e : Option Expr) (d : DO) : Prop where
  ex : ∃ t, PO X e t ∧ ∀ (L : Addr → Prop) (C : Cc) (F H : Hp) (σ : L2.St) (env : Env) (Q : Option Int → Hp → Prop) (Qd : Option Int → Env → Prop) (Xd : XD), Rl L C F H σ env → d env Qd Xd →
    (∀ F' H' o env', Ex F F' → Rl L C F' H' σ env' → Qd o env' → Q o H') → XOk L C F E Xd → t σ H Q
def dNoPart : DO := fun env Q _ => Q none env
def dPart (de : DE) : DO := fun env Q X => de env (fun r env1 => match r with
  | .f (.int i) => Q (some i) env1
  | _ => False) X
theorem do_none : DOx X E none dNoPart := ⟨_, po_none, fun L C F H σ env Q Qd Xd R h k x => k F H none env (Ex.refl F) R h⟩
theorem do_some (h : DEx X E e de) : DOx X E (some e) (dPart de) := by
  obtain ⟨t, p, s⟩ := h.ex
  refine ⟨_, po_some p, fun L C F H σ env Q Qd Xd R h k x => s L C F H σ env _ _ Xd R h (fun F1 H1 v r env1 e1 R1 rv q => ?_) x⟩
  split at q
  · next i => cases rv; exact ⟨i, rfl, k F1 H1 _ env1 e1 R1 q⟩
  · exact q.elim
def cutD {α : Type} (xs : List α) (lo hi : Option Int) : List α := (xs.drop (HT.sIx xs.length 0 lo)).take (HT.sIx xs.length xs.length hi - HT.sIx xs.length 0 lo)
theorem Reps.cut {vs : List V} {ds : List Dat} (r : Reps F vs ds) (lo hi : Option Int) : Reps F (cutV vs lo hi) (cutD ds lo hi) := by
  unfold cutV cutD
  rw [r.len]
  exact (r.drop _).take _
def gSl (d : Dat) (lo hi : Option Int) (Q : Res → Prop) : Prop := match d with
  | .lst l => Q (.n (.lst (cutD l lo hi)))
  | .tup l => Q (.f (.tup (cutD l lo hi)))
  | _ => False
def dSl (de : DE) (dl dh : DO) : DE := fun env Q X => de env (fun r env1 => dl env1 (fun lo env2 => dh env2 (fun hi env3 => withD (view env3 (fzR r)) fun d => gSl d lo hi fun r => Q r env3) X) X) X
theorem cut_whole {α : Type} {l : List α} {lo hi : Option Int} (h : HT.sIx l.length 0 lo = 0 ∧ HT.sIx l.length l.length hi = l.length) : cutD l lo hi = l := by
  unfold cutD; rw [h.1, h.2]; simp
theorem de_slice {lo hi : Option Expr} {dl dh : DO} {p2 : Pos} (he : DEx X E e de) (hl : DOx X E lo dl) (hu : DOx X E hi dh) : DEx X E (.Subscript e (.Slice lo hi none p2) pos) (dSl de dl dh) := by
  obtain ⟨t, p, s⟩ := he.ex
  obtain ⟨tl, pl, sl⟩ := hl.ex
  obtain ⟨tu, pu, su⟩ := hu.ex
  refine ⟨_, pe_slice (sl_list.or sl_tupA) p pl pu, fun L C F H σ env Q Qd Xd R h k x => s L C F H σ env _ _ Xd R h (fun F1 H1 v r env1 e1 R1 rv q => ?_) x⟩
  obtain ⟨F2, e2, R2, a2⟩ := R1.fzv rv
  refine sl L C F2 H1 σ env1 _ _ Xd R2 q (fun F3 H3 lo env3 e3 R3 q3 => ?_) (x.mono (e1.trans e2))
  refine su L C F3 H3 σ env3 _ _ Xd R3 q3 (fun F4 H4 hi env4 e4 R4 q4 => ?_) (x.mono (e1.trans (e2.trans e3)))
  obtain ⟨d, hd, q4⟩ := withD_of q4
  have r1 := (a2.mono (e3.trans e4)).rep1 R4 hd
  have ee := e1.trans (e2.trans (e3.trans e4))
  unfold gSl at q4
  split at q4
  · next l =>
    obtain ⟨a, vs, rfl, ha, rs⟩ := r1
    refine .inl ⟨a, vs, rfl, .inl (.inl ha), fun p hp => ?_⟩
    have g := R4.fr.grO hp (.lst (cutV vs lo hi))
    exact k F4 _ _ (.n _) env4 (ee.trans g.fx) (R4.grow g) (RN.rv R4 (new_lst R4.fr hp (rs.cut lo hi))) q4
  · next l =>
    obtain ⟨a, vs, rfl, fa, ha, rs⟩ := r1
    refine .inr ⟨a, vs, rfl, .inl (.inl ha), fun hw => ?_, fun hw p hp => ?_⟩
    · rw [rs.len] at hw
      have := cut_whole hw
      rw [this] at q4
      exact k F4 _ _ (.f _) env4 ee R4 (Rep.tup fa rs) q4
    · have g := R4.fr.grF hp (.tup (cutV vs lo hi))
      exact k _ _ _ (.f _) env4 (ee.trans g.fx) (R4.grow g) (new_tup R4.fr hp (rs.cut lo hi)) q4
  · exact q4.elim

/-! ### list, tuple, sum, all, any, min, max, sorted -/
theorem opa_or {r r' : List V → Hp → VK → Prop} {g g' gg : GA} (h1 : OpA r g) (h2 : OpA r' g') (h : ∀ a Q, gg a Q → g a Q ∨ g' a Q) : OpA (fun xs H Q => r xs H Q ∨ r' xs H Q) gg := fun L C F H xs ds Q Qd fr rx q k =>
  (h ds Qd q).elim (fun z => .inl (h1 L C F H xs ds Q Qd fr rx z k)) fun z => .inr (h2 L C F H xs ds Q Qd fr rx z k)
def gList : GA := fun ds Q => match ds with
  | [.lst l] => Q (.n (.lst l))
  | [.tup l] => Q (.n (.lst l))
  | _ => False
theorem o_list {K : PySem.W.Frag} : OpA (fun xs H Q => ∃ p ys, xs = [.ref p] ∧ (SqL K H p ys ∨ SqT K H p ys) ∧ ∀ l, H l = none → Q (.ref l) (upd H l (.lst ys))) gList := fun L C F H xs ds Q Qd fr rx h k => by
  unfold gList at h
  split at h
  · next l =>
    obtain ⟨v, rfl, a, vs, rfl, ha, rs⟩ := rx.one
    exact ⟨a, vs, rfl, .inl (.inl (.inl ha)), fun p hp => k F _ _ (.n _) (fr.grO hp _) (new_lst fr hp rs) h⟩
  · next l =>
    obtain ⟨v, rfl, a, vs, rfl, _, ha, rs⟩ := rx.one
    exact ⟨a, vs, rfl, .inr (.inl (.inl ha)), fun p hp => k F _ _ (.n _) (fr.grO hp _) (new_lst fr hp rs) h⟩
  · exact h.elim
theorem de_list (hg : Gl X "list") (hm : X.mg "list" = none) (ha : DAx X E [e] dr) (he : starEach [e] X.env = (false, eval e X.env) :: starEach [] X.env := by rfl) (hpl : (backTo pos (starEach [] X.env)).any (·.1) = false := by rfl) : DEx X E (.Call (.Name "list" pp) [e] [] pos) (dCB gList dr) :=
  de_callTy call_list_of o_list hg hm (by decide +kernel) ha (he := he) (hpl := hpl)
def gTuple : GA := fun ds Q => match ds with
  | [.lst l] => Q (.f (.tup l))
  | [.tup l] => Q (.f (.tup l))
  | _ => False
theorem o_tuple {K : PySem.W.Frag} : OpA (fun xs H Q => ∃ p ys, xs = [.ref p] ∧ ((SqL K H p ys ∧ ∀ l, H l = none → Q (.ref l) (upd H l (.tup ys))) ∨ (SqT K H p ys ∧ Q (.ref p) H))) gTuple := fun L C F H xs ds Q Qd fr rx h k => by
  unfold gTuple at h
  split at h
  · next l =>
    obtain ⟨v, rfl, a, vs, rfl, ha, rs⟩ := rx.one
    exact ⟨a, vs, rfl, .inl ⟨.inl (.inl ha), fun p hp => k _ _ _ (.f _) (fr.grF hp _) (new_tup fr hp rs) h⟩⟩
  · next l =>
    obtain ⟨v, rfl, a, vs, rfl, fa, ha, rs⟩ := rx.one
    exact ⟨a, vs, rfl, .inr ⟨.inl (.inl ha), k F H _ (.f _) (Gr.refl fr) (Rep.tup fa rs) h⟩⟩
  · exact h.elim
theorem de_tuple (hg : Gl X "tuple") (hm : X.mg "tuple" = none) (ha : DAx X E [e] dr) (he : starEach [e] X.env = (false, eval e X.env) :: starEach [] X.env := by rfl) (hpl : (backTo pos (starEach [] X.env)).any (·.1) = false := by rfl) : DEx X E (.Call (.Name "tuple" pp) [e] [] pos) (dCB gTuple dr) :=
  de_callTy call_tuple_of o_tuple hg hm (by decide +kernel) ha (he := he) (hpl := hpl)
/-- a list of ints, of bools -/
def intsD : List Dat → Option (List Int)
  | [] => some []
  | .int i :: l => (intsD l).map (i :: ·)
  | _ => none
def blsD : List Dat → Option (List Bool)
  | [] => some []
  | .bl i :: l => (blsD l).map (i :: ·)
  | _ => none
def strsD : List Dat → Option (List Str)
  | [] => some []
  | .str i :: l => (strsD l).map (i :: ·)
  | _ => none
theorem intsD_map (ns : List Int) : intsD (ns.map Dat.int) = some ns := by
  induction ns with
  | nil => rfl
  | cons n ns ih => simp [intsD, ih]
theorem blsD_map (ns : List Bool) : blsD (ns.map Dat.bl) = some ns := by
  induction ns with
  | nil => rfl
  | cons n ns ih => simp [blsD, ih]
theorem strsD_map (ns : List Str) : strsD (ns.map Dat.str) = some ns := by
  induction ns with
  | nil => rfl
  | cons n ns ih => simp [strsD, ih]
theorem intsD_eq : ∀ {l : List Dat} {ns : List Int}, intsD l = some ns → l = ns.map Dat.int
  | [], ns, h => by cases h; rfl
  | .int i :: l, ns, h => by
    obtain ⟨ms, h1, h2⟩ := Option.map_eq_some_iff.mp (show (intsD l).map (i :: ·) = some ns from h)
    subst h2
    rw [intsD_eq h1]; rfl
  | .non :: l, ns, h => by cases h
  | .bl _ :: l, ns, h => by cases h
  | .str _ :: l, ns, h => by cases h
  | .tup _ :: l, ns, h => by cases h
  | .lst _ :: l, ns, h => by cases h
  | .dk _ :: l, ns, h => by cases h
  | .dt _ :: l, ns, h => by cases h
  | .ins _ _ :: l, ns, h => by cases h
  | .raw _ :: l, ns, h => by cases h
theorem blsD_eq : ∀ {l : List Dat} {ns : List Bool}, blsD l = some ns → l = ns.map Dat.bl
  | [], ns, h => by cases h; rfl
  | .bl i :: l, ns, h => by
    obtain ⟨ms, h1, h2⟩ := Option.map_eq_some_iff.mp (show (blsD l).map (i :: ·) = some ns from h)
    subst h2
    rw [blsD_eq h1]; rfl
  | .non :: l, ns, h => by cases h
  | .int _ :: l, ns, h => by cases h
  | .str _ :: l, ns, h => by cases h
  | .tup _ :: l, ns, h => by cases h
  | .lst _ :: l, ns, h => by cases h
  | .dk _ :: l, ns, h => by cases h
  | .dt _ :: l, ns, h => by cases h
  | .ins _ _ :: l, ns, h => by cases h
  | .raw _ :: l, ns, h => by cases h
def gSum : GA := fun ds Q => match ds with
  | [.lst l] => IntsL l fun ns => Q (.f (.int ns.sum))
  | _ => False
theorem o_sum {K : PySem.W.Frag} : OpA (rSum K) gSum := fun L C F H xs ds Q Qd fr rx h k => by
  unfold gSum at h
  split at h
  · next l =>
    obtain ⟨ns, hn, h⟩ := h.ex
    obtain ⟨v, rfl, a, vs, rfl, ha, rs⟩ := rx.one
    rw [hn] at rs
    rw [rs.ints] at ha
    exact ⟨a, ns, rfl, .inl (.inl ha), k F H _ (.f _) (Gr.refl fr) (Rep.int _) h⟩
  · exact h.elim
theorem de_sum (hc : X.calm = true) (hg : Gl X "sum") (hm : X.mg "sum" = none) (ha : DAx X E [e] dr) (he : starEach [e] X.env = (false, eval e X.env) :: starEach [] X.env := by rfl) (hpl : (backTo pos (starEach [] X.env)).any (·.1) = false := by rfl) : DEx X E (.Call (.Name "sum" pp) [e] [] pos) (dCB gSum dr) :=
  de_callB (cr_sum hc) o_sum hg hm (by decide +kernel) ha (he := he) (hpl := hpl)
def gAll : GA := fun ds Q => match ds with
  | [.lst l] => BlsL l fun ns => Q (.f (.bl (ns.all id)))
  | _ => False
def gAny : GA := fun ds Q => match ds with
  | [.lst l] => BlsL l fun ns => Q (.f (.bl (ns.any id)))
  | _ => False
theorem o_all {K : PySem.W.Frag} : OpA (rAll K) gAll := fun L C F H xs ds Q Qd fr rx h k => by
  unfold gAll at h
  split at h
  · next l =>
    obtain ⟨ns, hn, h⟩ := h.ex
    obtain ⟨v, rfl, a, vs, rfl, ha, rs⟩ := rx.one
    rw [hn] at rs
    rw [rs.bls] at ha
    exact ⟨a, ns, rfl, .inl (.inl ha), k F H _ (.f _) (Gr.refl fr) (Rep.bl _) h⟩
  · exact h.elim
theorem o_any {K : PySem.W.Frag} : OpA (rAny K) gAny := fun L C F H xs ds Q Qd fr rx h k => by
  unfold gAny at h
  split at h
  · next l =>
    obtain ⟨ns, hn, h⟩ := h.ex
    obtain ⟨v, rfl, a, vs, rfl, ha, rs⟩ := rx.one
    rw [hn] at rs
    rw [rs.bls] at ha
    exact ⟨a, ns, rfl, .inl (.inl ha), k F H _ (.f _) (Gr.refl fr) (Rep.bl _) h⟩
  · exact h.elim
theorem de_all (hc : X.calm = true) (hg : Gl X "all") (hm : X.mg "all" = none) (ha : DAx X E [e] dr) (he : starEach [e] X.env = (false, eval e X.env) :: starEach [] X.env := by rfl) (hpl : (backTo pos (starEach [] X.env)).any (·.1) = false := by rfl) : DEx X E (.Call (.Name "all" pp) [e] [] pos) (dCB gAll dr) :=
  de_callB (cr_all hc) o_all hg hm (by decide +kernel) ha (he := he) (hpl := hpl)
theorem de_any (hc : X.calm = true) (hg : Gl X "any") (hm : X.mg "any" = none) (ha : DAx X E [e] dr) (he : starEach [e] X.env = (false, eval e X.env) :: starEach [] X.env := by rfl) (hpl : (backTo pos (starEach [] X.env)).any (·.1) = false := by rfl) : DEx X E (.Call (.Name "any" pp) [e] [] pos) (dCB gAny dr) :=
  de_callB (cr_any hc) o_any hg hm (by decide +kernel) ha (he := he) (hpl := hpl)
/-- max(a, b), max(list of ints) -/
def gMax : GA := fun ds Q => match ds with
  | [.int i, .int j] => Q (.f (.int (max i j)))
  | [.lst l] => IntsL l fun ns => 0 < ns.length ∧ ∀ m, m ∈ ns → (∀ y, y ∈ ns → y ≤ m) → Q (.f (.int m))
  | _ => False
def gMin : GA := fun ds Q => match ds with
  | [.int i, .int j] => Q (.f (.int (min i j)))
  | [.lst l] => IntsL l fun ns => 0 < ns.length ∧ ∀ m, m ∈ ns → (∀ y, y ∈ ns → m ≤ y) → Q (.f (.int m))
  | _ => False
theorem o_max {K : PySem.W.Frag} : OpA (fun xs H Q => (∃ i j, xs = [.int i, .int j] ∧ Q (.int (if j > i then j else i)) H) ∨ rMax K xs H Q) gMax := fun L C F H xs ds Q Qd fr rx h k => by
  unfold gMax at h
  split at h
  · next i j =>
    obtain ⟨v, w, rfl, r, r'⟩ := rx.two
    cases rep1_int r; cases rep1_int r'
    refine .inl ⟨i, j, rfl, k F H _ (.f _) (Gr.refl fr) ?_ h⟩
    have : (if j > i then j else i) = max i j := by omega
    rw [this]; exact Rep.int _
  · next l =>
    obtain ⟨ns, hn, h⟩ := h.ex
    obtain ⟨v, rfl, a, vs, rfl, ha, rs⟩ := rx.one
    rw [hn] at rs
    rw [rs.ints] at ha
    exact .inr ⟨a, ns, rfl, .inl (.inl ha), h.1, fun m h1 h2 => k F H _ (.f _) (Gr.refl fr) (Rep.int _) (h.2 m h1 h2)⟩
  · exact h.elim
theorem o_min {K : PySem.W.Frag} : OpA (fun xs H Q => (∃ i j, xs = [.int i, .int j] ∧ Q (.int (if j < i then j else i)) H) ∨ rMin K xs H Q) gMin := fun L C F H xs ds Q Qd fr rx h k => by
  unfold gMin at h
  split at h
  · next i j =>
    obtain ⟨v, w, rfl, r, r'⟩ := rx.two
    cases rep1_int r; cases rep1_int r'
    refine .inl ⟨i, j, rfl, k F H _ (.f _) (Gr.refl fr) ?_ h⟩
    have : (if j < i then j else i) = min i j := by omega
    rw [this]; exact Rep.int _
  · next l =>
    obtain ⟨ns, hn, h⟩ := h.ex
    obtain ⟨v, rfl, a, vs, rfl, ha, rs⟩ := rx.one
    rw [hn] at rs
    rw [rs.ints] at ha
    exact .inr ⟨a, ns, rfl, .inl (.inl ha), h.1, fun m h1 h2 => k F H _ (.f _) (Gr.refl fr) (Rep.int _) (h.2 m h1 h2)⟩
  · exact h.elim
theorem de_max (hc : X.calm = true) (hg : Gl X "max") (hm : X.mg "max" = none) (ha : DAx X E (e :: es) dr) (he : starEach (e :: es) X.env = (false, eval e X.env) :: starEach es X.env := by rfl) (hpl : (backTo pos (starEach es X.env)).any (·.1) = false := by rfl) : DEx X E (.Call (.Name "max" pp) (e :: es) [] pos) (dCB gMax dr) :=
  de_callB ((call_max2 hc).or (cr_max hc)) o_max hg hm (by decide +kernel) ha (he := he) (hpl := hpl)
theorem de_min (hc : X.calm = true) (hg : Gl X "min") (hm : X.mg "min" = none) (ha : DAx X E (e :: es) dr) (he : starEach (e :: es) X.env = (false, eval e X.env) :: starEach es X.env := by rfl) (hpl : (backTo pos (starEach es X.env)).any (·.1) = false := by rfl) : DEx X E (.Call (.Name "min" pp) (e :: es) [] pos) (dCB gMin dr) :=
  de_callB ((call_min2 hc).or (cr_min hc)) o_min hg hm (by decide +kernel) ha (he := he) (hpl := hpl)
/-- sorted(list of ints) -/
def gSorted : GA := fun ds Q => match ds with
  | [.lst l] => IntsL l fun ns => ∀ ns' : List Int, ns'.Perm ns → ns'.Pairwise (· ≤ ·) → Q (.n (.lst (ns'.map Dat.int)))
  | _ => False
theorem o_sorted {K : PySem.W.Frag} : OpA (rSortedI K) gSorted := fun L C F H xs ds Q Qd fr rx h k => by
  unfold gSorted at h
  split at h
  · next l =>
    obtain ⟨ns, hn, h⟩ := h.ex
    obtain ⟨v, rfl, a, vs, rfl, ha, rs⟩ := rx.one
    rw [hn] at rs
    rw [rs.ints] at ha
    exact ⟨a, ns, rfl, .inl (.inl ha), fun ns' p h1 h2 hp => k F _ _ (.n _) (fr.grO hp _) (new_lst fr hp (Reps.ofInts _)) (h ns' h1 h2)⟩
  · exact h.elim
theorem de_sorted (hg : Gl X "sorted") (hm : X.mg "sorted" = none) (ha : DAx X E [e] dr) (he : starEach [e] X.env = (false, eval e X.env) :: starEach [] X.env := by rfl) (hpl : (backTo pos (starEach [] X.env)).any (·.1) = false := by rfl) : DEx X E (.Call (.Name "sorted" pp) [e] [] pos) (dCB gSorted dr) :=
  de_callB cr_sortedI o_sorted hg hm (by decide +kernel) ha (he := he) (hpl := hpl)
/-- int(n), int(b) -/
def gInt : GA := fun ds Q => match ds with
  | [.int i] => Q (.f (.int i))
  | [.bl b] => Q (.f (.int (if b then 1 else 0)))
  | _ => False
theorem o_int : OpA (fun xs H Q => (∃ i, xs = [.int i] ∧ Q (.int i) H) ∨ ∃ k, xs = [.bl k] ∧ Q (.int (if k then 1 else 0)) H) gInt := fun L C F H xs ds Q Qd fr rx h k => by
  unfold gInt at h
  split at h
  · next i => obtain ⟨v, rfl, r⟩ := rx.one; cases rep1_int r; exact .inl ⟨i, rfl, k F H _ (.f _) (Gr.refl fr) (Rep.int _) h⟩
  · next b => obtain ⟨v, rfl, r⟩ := rx.one; cases rep1_bl r; exact .inr ⟨b, rfl, k F H _ (.f _) (Gr.refl fr) (Rep.int _) h⟩
  · exact h.elim
theorem de_intc (hg : Gl X "int") (hm : X.mg "int" = none) (ha : DAx X E [e] dr) (he : starEach [e] X.env = (false, eval e X.env) :: starEach [] X.env := by rfl) (hpl : (backTo pos (starEach [] X.env)).any (·.1) = false := by rfl) : DEx X E (.Call (.Name "int" pp) [e] [] pos) (dCB gInt dr) :=
  de_callTy call_int1 o_int hg hm (by decide +kernel) ha (he := he) (hpl := hpl)

/-! ### in -/
def flatD : Dat → Option V
  | .int i => some (.int i)
  | .bl b => some (.bl b)
  | .str s => some (.str s)
  | .non => some .non
  | _ => none
def flatsD : List Dat → Option (List V)
  | [] => some []
  | d :: l => match flatD d, flatsD l with
    | some v, some vs => some (v :: vs)
    | _, _ => none
theorem flatD_v {w : V} (h : flatD d = some w) (r : Rep F v d) : v = w ∧ flatV w = true := by
  cases d with
  | int i => cases h; cases r; exact ⟨rfl, rfl⟩
  | bl i => cases h; cases r; exact ⟨rfl, rfl⟩
  | str i => cases h; cases r; exact ⟨rfl, rfl⟩
  | non => cases h; cases r; exact ⟨rfl, rfl⟩
  | _ => cases h
theorem flatsD_v : ∀ {l : List Dat} {vs ws : List V}, flatsD l = some ws → Reps F vs l → vs = ws ∧ ws.all flatV = true
  | [], _, ws, h, .nil => by cases h; exact ⟨rfl, rfl⟩
  | d :: l, _, ws, h, .cons r t => by
    unfold flatsD at h
    split at h
    · next v vs e1 e2 =>
      cases h
      obtain ⟨rfl, h1⟩ := flatD_v e1 r
      obtain ⟨rfl, h2⟩ := flatsD_v e2 t
      exact ⟨rfl, by rw [List.all_cons, h1, h2]; rfl⟩
    · cases h
theorem flatD_1 {w : V} (h : flatD d = some w) (r : Rep1 F H v d) : v = w ∧ flatV w = true := by
  cases d with
  | int i => cases h; cases rep1_int r; exact ⟨rfl, rfl⟩
  | bl i => cases h; cases rep1_bl r; exact ⟨rfl, rfl⟩
  | str i => cases h; cases rep1_str r; exact ⟨rfl, rfl⟩
  | non => cases h; cases rep1_non r; exact ⟨rfl, rfl⟩
  | _ => cases h
def rDIn (n : Bool) : R2 := fun y x H Q => ∃ a o, x = .ref a ∧ DGet H a y o ∧ Q (.bl (n ^^ o.isSome)) H
theorem op_din (hu : X.A.units + 1 < cLine) : OpR X (compareOp .In) (rDIn false) := by
  intro pins s σ H x y v u Q I rx ry h
  obtain ⟨a, o, rfl, g, q⟩ := h
  cases ry
  rw [Bool.false_xor] at q
  exact d_in hu I g rx fun s3 I3 => ⟨.bl o.isSome, H, I3, rfl, q⟩
theorem op_dnotin (hu : X.A.units + 1 < cLine) : OpR X (compareOp .NotIn) (rDIn true) := by
  intro pins s σ H x y v u Q I rx ry h
  obtain ⟨a, o, rfl, g, q⟩ := h
  cases ry
  rw [Bool.true_xor] at q
  exact d_notIn hu I g rx fun s3 I3 => ⟨.bl (!o.isSome), H, I3, rfl, q⟩
theorem inV_int (i : Int) (ns : List Int) : inV (.int i) (ns.map V.int) = decide (i ∈ ns) := by
  unfold inV
  induction ns with
  | nil => simp
  | cons n ns ih =>
    rw [List.map_cons, List.any_cons, ih]
    have : eqV (V.int n) (V.int i) = decide (i = n) := by
      simp only [eqV]
      by_cases e : i = n
      · subst e; simp
      · rw [decide_eq_false e]; simpa using fun z => e z.symm
    rw [this]
    by_cases e : i = n
    · subst e; simp
    · by_cases e2 : i ∈ ns <;> simp [e, e2]
theorem flats_ints (ns : List Int) : (ns.map V.int).all flatV = true := by
  induction ns with
  | nil => rfl
  | cons n ns ih => rw [List.map_cons, List.all_cons, ih]; rfl
def gIn (n : Bool) : G2 := fun a b Q => match a, b with
  | .int i, .lst l => IntsL l fun ns => Q (.f (.bl (n ^^ decide (i ∈ ns))))
  | .int i, .tup l => IntsL l fun ns => Q (.f (.bl (n ^^ decide (i ∈ ns))))
  | a, .lst l => ∃ v vs, flatD a = some v ∧ flatsD l = some vs ∧ Q (.f (.bl (n ^^ inV v vs)))
  | a, .tup l => ∃ v vs, flatD a = some v ∧ flatsD l = some vs ∧ Q (.f (.bl (n ^^ inV v vs)))
  | a, b => Got (dGetD b a) fun o => Q (.f (.bl (n ^^ o.isSome)))
theorem o_in {K : PySem.W.Frag} (n : Bool) : Op2 (fun x y H Q => rIn K n x y H Q ∨ rDIn n x y H Q) (gIn n) := fun L C F H x y dx dy Q Qd fr rx ry h k => by
  have bb : ∀ z : Bool, (if n = true then !z else z) = (n ^^ z) := fun z => by cases n <;> simp
  unfold gIn at h
  split at h
  · next i l =>
    obtain ⟨ns, hn, h⟩ := h.ex
    cases rep1_int rx
    obtain ⟨a, ws, rfl, ha, rs⟩ := ry
    rw [hn] at rs
    rw [rs.ints] at ha
    exact .inl ⟨a, _, rfl, .inl (.inl (.inl ha)), rfl, flats_ints ns, k F H _ (.f _) (Gr.refl fr) (by rw [bb, inV_int]; exact Rep.bl _) h⟩
  · next i l =>
    obtain ⟨ns, hn, h⟩ := h.ex
    cases rep1_int rx
    obtain ⟨a, ws, rfl, _, ha, rs⟩ := ry
    rw [hn] at rs
    rw [rs.ints] at ha
    exact .inl ⟨a, _, rfl, .inr (.inl (.inl ha)), rfl, flats_ints ns, k F H _ (.f _) (Gr.refl fr) (by rw [bb, inV_int]; exact Rep.bl _) h⟩
  · next l _ =>
    obtain ⟨v, vs, h1, h2, h⟩ := h
    obtain ⟨rfl, f1⟩ := flatD_1 h1 rx
    obtain ⟨a, ws, rfl, ha, rs⟩ := ry
    obtain ⟨rfl, f2⟩ := flatsD_v h2 rs
    exact .inl ⟨a, ws, rfl, .inl (.inl (.inl ha)), f1, f2, k F H _ (.f _) (Gr.refl fr) (by rw [bb]; exact Rep.bl _) h⟩
  · next l _ =>
    obtain ⟨v, vs, h1, h2, h⟩ := h
    obtain ⟨rfl, f1⟩ := flatD_1 h1 rx
    obtain ⟨a, ws, rfl, _, ha, rs⟩ := ry
    obtain ⟨rfl, f2⟩ := flatsD_v h2 rs
    exact .inl ⟨a, ws, rfl, .inr (.inl (.inl ha)), f1, f2, k F H _ (.f _) (Gr.refl fr) (by rw [bb]; exact Rep.bl _) h⟩
  · obtain ⟨od, ho, h⟩ := h.ex
    obtain ⟨a, ov, rfl, g, hv⟩ := dget_of ho ry rx
    refine .inr ⟨a, ov, rfl, g, k F H _ (.f _) (Gr.refl fr) ?_ h⟩
    have : ov.isSome = od.isSome := by
      cases od with
      | none => rw [hv]; rfl
      | some d => obtain ⟨v, rfl, _⟩ := hv; rfl
    rw [this]; exact Rep.bl _
theorem de_in {k : Nat} (hr : Room k X.A) (ha : DEx X E a da) (hb : DEx X E b db) (hm : behindInMarks .In b = false := by rfl) : DEx X E (.Compare a [.In] [b] pos) (dOp (gIn false) da db) := de_cmp (op_in_seq.or (op_din (hu_of hr))) (o_in false) ha hb hm
theorem de_notin {k : Nat} (hr : Room k X.A) (ha : DEx X E a da) (hb : DEx X E b db) (hm : behindInMarks .NotIn b = false := by rfl) : DEx X E (.Compare a [.NotIn] [b] pos) (dOp (gIn true) da db) := de_cmp (op_notIn_seq.or (op_dnotin (hu_of hr))) (o_in true) ha hb hm
theorem dt_in {k : Nat} (hr : Room k X.A) (ha : DEx X E a da) (hb : DEx X E b db) (hm : behindInMarks .In b = false := by rfl) : DTx X E (.Compare a [.In] [b] pos) (dB (dOp (gIn false) da db)) := dt_cmp (op_in_seq.or (op_din (hu_of hr))) (o_in false) ha hb hm
theorem dt_notin {k : Nat} (hr : Room k X.A) (ha : DEx X E a da) (hb : DEx X E b db) (hm : behindInMarks .NotIn b = false := by rfl) : DTx X E (.Compare a [.NotIn] [b] pos) (dB (dOp (gIn true) da db)) := dt_cmp (op_notIn_seq.or (op_dnotin (hu_of hr))) (o_in true) ha hb hm

/-! ### n.bit_length() -/
def gBits : G1 := gU fun i => ((Builtin.Int.intBits i : Nat) : Int)
theorem de_bits {apos : Pos} (ha : DEx X E a da) (hbase : attributeBase a "bit_length" X.env (eval a X.env) = eval a X.env := by rfl) (hline : (apos.endLine == pos.line) = true := by rfl) : DEx X E (.Call (.Attribute a "bit_length" apos) [] [] pos) (dUn gBits da) := by
  obtain ⟨t, p, s⟩ := ha.ex
  exact ⟨_, pe_bits p hbase hline, se_un (r := rU fun i => .int ((Builtin.Int.intBits i : Nat) : Int)) o_U s⟩
end
end DL

set_option Elab.async false
set_option linter.all false
set_option maxRecDepth 100000
set_option maxHeartbeats 2000000
namespace DL
open PySem PySem.Spec PyProof.Rows L2
variable [ClsV]

section
variable {X : Cx} {E : L2.St → XK} {L : Addr → Prop} {C : Cc} {F H F' H' : Hp} {v x y : V} {d dx dy : Dat} {p : Addr} {o : HO} {a b e : Expr} {es : List Expr} {pos pp apos cpos : Pos} {da db de dw : DE} {dr : DA}
/-! ### methods that change the object of a slot -/
abbrev GM := Dat → List Dat → (Dat → Dat → Prop) → Prop
/-- d.2: what it gives, what the object is then -/
def OpM (r : V → List V → Hp → VK → Prop) (g : GM) : Prop := ∀ (F H : Hp) (p : Addr) (vs : List V) (d : Dat) (ds : List Dat) (Q : VK) (Qd : Dat → Dat → Prop), Cont F H p d → Reps F vs ds → g d ds Qd →
  (∀ o v res d', Cont F (upd H p o) p d' → Rep F v res → Qd res d' → Q v (upd H p o)) → r (.ref p) vs H Q
theorem contL {vs : List V} {ds : List Dat} (r : Reps F vs ds) : Cont F (upd H p (.lst vs)) p (.lst ds) := ⟨vs, upd_same, r⟩
def isL : Dat → Bool
  | .lst _ => true
  | _ => false
def dMut (g : GM) (da : DE) (dr : DA) : DE := fun env Q X => da env (fun ro env1 => match ro with
  | .l j => withD (ownD env1 j) fun d0 => isL d0 = true ∧ dr env1 (fun rs env2 => withD (dTup.fzs env2 rs) fun z => withD (ownD z.2 j) fun d => g d z.1 fun res d' => Q (.f res) (putO z.2 j d')) X
  | _ => False) X
theorem se_mut {K : PySem.W.Frag} {r : V → List V → Hp → VK → Prop} {g : GM} {ta : TE} {tr : TA} (ho : OpM r g) (ha : SE E ta da) (hr : SA E tr dr) : SE E (tBM K "list" r ta tr) (dMut g da dr) := fun L C F H σ env Q Qd Xd R h k x =>
  ha L C F H σ env _ _ Xd R h (fun F1 H1 v1 r1 env1 e1 R1 rv1 q1 => by
    split at q1
    · next j =>
      obtain ⟨d0, hd0, hl, q1⟩ := withD_of q1
      have rv1 : σ[j]? = some (some v1) := rv1
      obtain ⟨p0, hp0, hf0, c0, _⟩ := R1.own hd0
      rw [rv1] at hp0; cases hp0
      refine ⟨?_, hr L C F1 H1 σ env1 _ _ Xd R1 q1 (fun F2 H2 vs rs env2 e2 R2 av q2 => ?_) (x.mono e1)⟩
      · cases d0 with
        | lst l => obtain ⟨ws, hw, _⟩ := c0; exact .inl ⟨rfl, ws, .inl (.inl hw)⟩
        | _ => cases hl
      · obtain ⟨⟨ds, env3⟩, hz, q2⟩ := withD_of q2
        obtain ⟨d, hd, q2⟩ := withD_of q2
        obtain ⟨F3, e3, R3, r3⟩ := fzs_ok R2 av hz
        obtain ⟨p3, hp3, hf3, c3, _⟩ := R3.own hd
        rw [rv1] at hp3; cases hp3
        exact ho F3 H2 p0 vs d ds Q _ c3 r3 q2 fun o v res d' c rr q => k F3 _ v (.f res) _ (e1.trans (e2.trans e3)) (R3.mut hd rv1 c) rr q
    · exact q1.elim) x
theorem se_mut0 {K : PySem.W.Frag} {r : V → List V → Hp → VK → Prop} {g : GM} {ta : TE} (ho : OpM r g) (ha : SE E ta da) : SE E (tBM0 K "list" r ta) (dMut g da dNil) := fun L C F H σ env Q Qd Xd R h k x =>
  se_mut (K := K) ho ha sa_nil L C F H σ env Q Qd Xd R h k x
def gAppend : GM := fun d ds Q => match d, ds with
  | .lst l, [y] => l.length < 100000 ∧ Q .non (.lst (l ++ [y]))
  | _, _ => False
theorem o_append : OpM rAppend gAppend := fun F H p vs d ds Q Qd c rs h k => by
  unfold gAppend at h
  split at h
  · next l y =>
    obtain ⟨ws, hw, rl⟩ := c
    cases rs with
    | cons r t =>
      cases t
      exact ⟨p, ws, _, rfl, rfl, hw, line_lt (by rw [rl.len]; exact h.1), k _ _ _ _ (contL (rl.append (.cons r .nil))) .non h.2⟩
  · exact h.elim
theorem de_append (ho : DEx X E a da) (ha : DAx X E [e] dr) (hbase : attributeBase a "append" X.env (eval a X.env) = eval a X.env := by rfl)
    (hfew : ((backTo cpos (starEach [e] X.env)).all (fun x => !x.1) && (backToKw cpos (keywordEach [] X.env)).all (fun x => x.1.isSome) && decide (([e] : List Expr).length + ([] : List Keyword).length + (if ([] : List Keyword).isEmpty then 0 else 1) < 30)) = true := by rfl)
    (hs : starEach [e] X.env = (false, eval e X.env) :: starEach [] X.env := by rfl) (hplain : (backTo cpos (starEach [] X.env)).any (·.1) = false := by rfl) (hline : (apos.endLine == cpos.line) = true := by rfl) :
    DEx X E (.Call (.Attribute a "append" apos) [e] [] cpos) (dMut gAppend da dr) := by
  obtain ⟨t, p, s⟩ := ho.ex
  obtain ⟨t', p', s'⟩ := ha.ex
  exact ⟨_, pe_bm PySem.F.plainAttrs_list PySem.F.slot_list_append PySem.F.type_list_append mt_append p p' hbase hfew hline hs hplain, se_mut o_append s s'⟩
def gClear : GM := fun d ds Q => match d, ds with
  | .lst l, [] => Q .non (.lst [])
  | _, _ => False
theorem o_clear : OpM rClear gClear := fun F H p vs d ds Q Qd c rs h k => by
  unfold gClear at h
  split at h
  · next l =>
    obtain ⟨ws, hw, rl⟩ := c
    cases rs
    exact ⟨p, ws, rfl, rfl, hw, k _ _ _ _ (contL (.nil)) .non h⟩
  · exact h.elim
theorem de_clear (ho : DEx X E a da) (hbase : attributeBase a "clear" X.env (eval a X.env) = eval a X.env := by rfl) (hline : (apos.endLine == cpos.line) = true := by rfl) :
    DEx X E (.Call (.Attribute a "clear" apos) [] [] cpos) (dMut gClear da dNil) := by
  obtain ⟨t, p, s⟩ := ho.ex
  exact ⟨_, pe_bm0 PySem.F.plainAttrs_list PySem.F.slot_list_clear PySem.F.type_list_clear mt_clear p hbase hline, se_mut0 o_clear s⟩
def gPop : GM := fun d ds Q => match d, ds with
  | .lst l, [] => Got l[l.length - 1]? fun y => Q y (.lst l.dropLast)
  | _, _ => False
theorem Reps.dropLast {vs : List V} {ds : List Dat} (r : Reps F vs ds) : Reps F vs.dropLast ds.dropLast := by
  rw [List.dropLast_eq_take, List.dropLast_eq_take, r.len]
  exact r.take _
theorem o_pop : OpM rPop gPop := fun F H p vs d ds Q Qd c rs h k => by
  unfold gPop at h
  split at h
  · next l =>
    obtain ⟨ws, hw, rl⟩ := c
    cases rs
    obtain ⟨y, hy, h⟩ := h.ex
    rw [← rl.len] at hy
    obtain ⟨v, hv, rv⟩ := rl.get hy
    exact ⟨p, ws, v, rfl, rfl, hw, hv, k _ _ _ _ (contL (rl.dropLast)) rv h⟩
  · exact h.elim
theorem de_pop0 (ho : DEx X E a da) (hbase : attributeBase a "pop" X.env (eval a X.env) = eval a X.env := by rfl) (hline : (apos.endLine == cpos.line) = true := by rfl) :
    DEx X E (.Call (.Attribute a "pop" apos) [] [] cpos) (dMut gPop da dNil) := by
  obtain ⟨t, p, s⟩ := ho.ex
  exact ⟨_, pe_bm0 PySem.F.plainAttrs_list PySem.F.slot_list_pop PySem.F.type_list_pop mt_pop p hbase hline, se_mut0 o_pop s⟩
def gPopAt : GM := fun d ds Q => match d, ds with
  | .lst l, [.int i] => -(2 ^ 63) ≤ i ∧ i < 2 ^ 63 ∧ Got (ixN l.length i) fun j => Got l[j]? fun y => Q y (.lst (l.eraseIdx j))
  | _, _ => False
theorem Reps.eraseIdx : ∀ {vs : List V} {ds : List Dat} (i : Nat), Reps F vs ds → Reps F (vs.eraseIdx i) (ds.eraseIdx i)
  | _, _, _, .nil => .nil
  | _, _, 0, .cons _ t => t
  | _, _, i + 1, .cons r t => .cons r (Reps.eraseIdx i t)
theorem o_popAt : OpM rPopAt gPopAt := fun F H p vs d ds Q Qd c rs h k => by
  unfold gPopAt at h
  split at h
  · next l i =>
    obtain ⟨ws, hw, rl⟩ := c
    obtain ⟨h1, h2, h⟩ := h
    obtain ⟨j, hj, h⟩ := h.ex
    obtain ⟨y, hy, h⟩ := h.ex
    cases rs with
    | cons r t =>
      cases t
      cases r
      obtain ⟨v, hv, rv⟩ := rl.get hy
      rw [← rl.len] at hj
      exact ⟨p, ws, i, j, v, rfl, rfl, hw, h1, h2, (ixN_seq hj).1, hv, k _ _ _ _ (contL (rl.eraseIdx _)) rv h⟩
  · exact h.elim
theorem de_popAt (ho : DEx X E a da) (ha : DAx X E [e] dr) (hbase : attributeBase a "pop" X.env (eval a X.env) = eval a X.env := by rfl)
    (hfew : ((backTo cpos (starEach [e] X.env)).all (fun x => !x.1) && (backToKw cpos (keywordEach [] X.env)).all (fun x => x.1.isSome) && decide (([e] : List Expr).length + ([] : List Keyword).length + (if ([] : List Keyword).isEmpty then 0 else 1) < 30)) = true := by rfl)
    (hs : starEach [e] X.env = (false, eval e X.env) :: starEach [] X.env := by rfl) (hplain : (backTo cpos (starEach [] X.env)).any (·.1) = false := by rfl) (hline : (apos.endLine == cpos.line) = true := by rfl) :
    DEx X E (.Call (.Attribute a "pop" apos) [e] [] cpos) (dMut gPopAt da dr) := by
  obtain ⟨t, p, s⟩ := ho.ex
  obtain ⟨t', p', s'⟩ := ha.ex
  exact ⟨_, pe_bm PySem.F.plainAttrs_list PySem.F.slot_list_pop PySem.F.type_list_pop mt_popAt p p' hbase hfew hline hs hplain, se_mut o_popAt s s'⟩
def gInsert : GM := fun d ds Q => match d, ds with
  | .lst l, [.int i, y] => l.length < 100000 ∧ 0 ≤ i ∧ i < 2 ^ 63 ∧ Q .non (.lst (l.take i.toNat ++ [y] ++ l.drop i.toNat))
  | _, _ => False
theorem o_insert : OpM (fun x vs H Q => ∃ (l : Addr) (xs : List V) (i : Int) (y : V), x = .ref l ∧ vs = [.int i, y] ∧ H l = some (.lst xs) ∧ xs.length < sizeLine ∧ 0 ≤ i ∧ i < 2 ^ 63 ∧
    Q .non (upd H l (.lst (xs.take i.toNat ++ [y] ++ xs.drop i.toNat)))) gInsert := fun F H p vs d ds Q Qd c rs h k => by
  unfold gInsert at h
  split at h
  · next l i y =>
    obtain ⟨ws, hw, rl⟩ := c
    obtain ⟨h1, h2, h3, h⟩ := h
    cases rs with
    | cons r t =>
      cases r
      cases t with
      | cons r2 t =>
        cases t
        exact ⟨p, ws, i, _, rfl, rfl, hw, line_lt (by rw [rl.len]; exact h1), h2, h3, k _ _ _ _ (contL (((rl.take _).append (.cons r2 .nil)).append (rl.drop _))) .non h⟩
  · exact h.elim
theorem de_insert (ho : DEx X E a da) (ha : DAx X E [e, b] dr) (hbase : attributeBase a "insert" X.env (eval a X.env) = eval a X.env := by rfl)
    (hfew : ((backTo cpos (starEach [e, b] X.env)).all (fun x => !x.1) && (backToKw cpos (keywordEach [] X.env)).all (fun x => x.1.isSome) && decide (([e, b] : List Expr).length + ([] : List Keyword).length + (if ([] : List Keyword).isEmpty then 0 else 1) < 30)) = true := by rfl)
    (hline : (apos.endLine == cpos.line) = true := by rfl) (hs : starEach [e, b] X.env = (false, eval e X.env) :: starEach [b] X.env := by rfl) (hplain : (backTo cpos (starEach [b] X.env)).any (·.1) = false := by rfl) :
    DEx X E (.Call (.Attribute a "insert" apos) [e, b] [] cpos) (dMut gInsert da dr) := by
  obtain ⟨t, p, s⟩ := ho.ex
  obtain ⟨t', p', s'⟩ := ha.ex
  exact ⟨_, pe_bm PySem.F.plainAttrs_list PySem.F.slot_list_insert PySem.F.type_list_insert mt_insert p p' hbase hfew hline hs hplain, se_mut o_insert s s'⟩

/-! ### methods that read a list -/
def OpR1 (r : V → List V → Hp → VK → Prop) (g : Dat → List Dat → (Res → Prop) → Prop) : Prop := ∀ (L : Addr → Prop) (C : Cc) (F H : Hp) (x : V) (vs : List V) (d : Dat) (ds : List Dat) (Q : VK) (Qd : Res → Prop), Fr L C F H → Rep1 F H x d → Rep1s F H vs ds → g d ds Qd →
  (∀ F' H' v r, Gr F H F' H' → RN C H F' H' v r → Qd r → Q v H') → r x vs H Q
def dMeth (T : Dat → Bool) (g : Dat → List Dat → (Res → Prop) → Prop) (da : DE) (dr : DA) : DE := fun env Q X => da env (fun ro env1 => withD (view env1 (fzR ro)) fun d0 => T d0 = true ∧ dr env1 (fun rs env2 => withD (view env2 (fzR ro)) fun d => withD (views env2 rs) fun ds => g d ds fun r => Q r env2) X) X
theorem se_meth {K : PySem.W.Frag} {T : String} {Tb : Dat → Bool} {r : V → List V → Hp → VK → Prop} {g : Dat → List Dat → (Res → Prop) → Prop} {ta : TE} {tr : TA} (hT : ∀ F H v d, Tb d = true → Rep1 F H v d → tyV K T v H) (ho : OpR1 r g) (ha : SE E ta da) (hr : SA E tr dr) : SE E (tBM K T r ta tr) (dMeth Tb g da dr) := fun L C F H σ env Q Qd Xd R h k x =>
  ha L C F H σ env _ _ Xd R h (fun F1 H1 v1 r1 env1 e1 R1 rv1 q1 => by
    obtain ⟨d0, hd0, hl, q1⟩ := withD_of q1
    obtain ⟨F2, e2, R2, a2⟩ := R1.fzv rv1
    refine ⟨hT F2 H1 v1 d0 hl (a2.rep1 R2 hd0), hr L C F2 H1 σ env1 _ _ Xd R2 q1 (fun F3 H3 vs rs env3 e3 R3 av q3 => ?_) (x.mono (e1.trans e2))⟩
    obtain ⟨d, hd, q3⟩ := withD_of q3
    obtain ⟨ds, hds, q3⟩ := withD_of q3
    exact ho L C F3 H3 v1 vs d ds Q _ R3.fr ((a2.mono e3).rep1 R3 hd) (av.rep1 R3 hds) q3 fun F5 H5 v5 r5 g5 n5 q5 => k F5 H5 v5 r5 env3 (e1.trans (e2.trans (e3.trans g5.fx))) (R3.grow g5) (n5.rv R3) q5) x
theorem tyL {K : PySem.W.Frag} : ∀ (F H : Hp) (v : V) (d : Dat), isL d = true → Rep1 F H v d → tyV K "list" v H := fun F H v d h r => by
  cases d with
  | lst l => obtain ⟨a, vs, rfl, ha, _⟩ := r; exact .inl ⟨rfl, vs, .inl (.inl ha)⟩
  | _ => cases h
def gCount : Dat → List Dat → (Res → Prop) → Prop := fun d ds Q => match d, ds with
  | .lst l, [.int k] => IntsL l fun ns => Q (.f (.int (ns.count k : Nat)))
  | _, _ => False
theorem o_count {K : PySem.W.Frag} : OpR1 (rCntI K) gCount := fun L C F H x vs d ds Q Qd fr rx rs h k => by
  unfold gCount at h
  split at h
  · next l n =>
    obtain ⟨ns, hn, h⟩ := h.ex
    obtain ⟨a, ws, rfl, ha, rl⟩ := rx
    obtain ⟨v, rfl, rv⟩ := rs.one
    cases rep1_int rv
    rw [hn] at rl
    rw [rl.ints] at ha
    exact ⟨a, ns, n, rfl, rfl, .inl (.inl ha), k F H _ (.f _) (Gr.refl fr) (Rep.int _) h⟩
  · exact h.elim
theorem de_count (ho : DEx X E a da) (ha : DAx X E [e] dr) (hbase : attributeBase a "count" X.env (eval a X.env) = eval a X.env := by rfl)
    (hfew : ((backTo cpos (starEach [e] X.env)).all (fun x => !x.1) && (backToKw cpos (keywordEach [] X.env)).all (fun x => x.1.isSome) && decide (([e] : List Expr).length + ([] : List Keyword).length + (if ([] : List Keyword).isEmpty then 0 else 1) < 30)) = true := by rfl)
    (hs : starEach [e] X.env = (false, eval e X.env) :: starEach [] X.env := by rfl) (hplain : (backTo cpos (starEach [] X.env)).any (·.1) = false := by rfl) (hline : (apos.endLine == cpos.line) = true := by rfl) :
    DEx X E (.Call (.Attribute a "count" apos) [e] [] cpos) (dMeth isL gCount da dr) := by
  obtain ⟨t, p, s⟩ := ho.ex
  obtain ⟨t', p', s'⟩ := ha.ex
  exact ⟨_, pe_bm PySem.F.plainAttrs_list PySem.F.slot_list_count PySem.F.type_list_count mt_lcount p p' hbase hfew hline hs hplain, se_meth tyL o_count s s'⟩

/-! ### o[i] = v -/
def putD {κ : Type} [DecidableEq κ] (kvs : List (κ × Dat)) (k : κ) (v : Dat) : List (κ × Dat) :=
  bif kvs.any (fun p => decide (p.1 = k)) then kvs.map (fun p => if p.1 = k then (p.1, v) else p) else kvs ++ [(k, v)]
theorem RepK.anyK {vs : List (Key × V)} {ds : List (Key × Dat)} {k : Key} : RepK F vs ds → (vs.any fun kv => decide (kv.1 = k)) = ds.any fun kv => decide (kv.1 = k)
  | .nil => rfl
  | .cons r t => by simp only [List.any_cons]; rw [RepK.anyK t]
theorem RepK.mapK {vs : List (Key × V)} {ds : List (Key × Dat)} {k : Key} (r : Rep F v d) : RepK F vs ds → RepK F (vs.map fun kv => if kv.1 = k then (kv.1, v) else kv) (ds.map fun kv => if kv.1 = k then (kv.1, d) else kv)
  | .nil => .nil
  | .cons (k := k0) (v := v0) (d := d0) r0 t => by
    simp only [List.map_cons]
    by_cases e : k0 = k
    · rw [if_pos e, if_pos e]; exact .cons r (RepK.mapK r t)
    · rw [if_neg e, if_neg e]; exact .cons r0 (RepK.mapK r t)
theorem RepK.snoc {vs : List (Key × V)} {ds : List (Key × Dat)} {k : Key} (r : Rep F v d) : RepK F vs ds → RepK F (vs ++ [(k, v)]) (ds ++ [(k, d)])
  | .nil => .cons r .nil
  | .cons r0 t => .cons r0 (RepK.snoc r t)
theorem RepK.put {vs : List (Key × V)} {ds : List (Key × Dat)} {k : Key} (r : Rep F v d) (t : RepK F vs ds) : RepK F (putK vs k v) (putD ds k d) := by
  unfold putK putD
  rw [t.anyK]
  by_cases e : (ds.any fun kv => decide (kv.1 = k)) = true
  · rw [if_pos e, e]; exact t.mapK r
  · rw [if_neg e, Bool.eq_false_iff.mpr e]; exact t.snoc r
theorem RepT.anyK {vs : List (List Key × V)} {ds : List (List Key × Dat)} {k : List Key} : RepT F vs ds → (vs.any fun kv => decide (kv.1 = k)) = ds.any fun kv => decide (kv.1 = k)
  | .nil => rfl
  | .cons r t => by simp only [List.any_cons]; rw [RepT.anyK t]
theorem RepT.mapK {vs : List (List Key × V)} {ds : List (List Key × Dat)} {k : List Key} (r : Rep F v d) : RepT F vs ds → RepT F (vs.map fun kv => if kv.1 = k then (kv.1, v) else kv) (ds.map fun kv => if kv.1 = k then (kv.1, d) else kv)
  | .nil => .nil
  | .cons (k := k0) (v := v0) (d := d0) r0 t => by
    simp only [List.map_cons]
    by_cases e : k0 = k
    · rw [if_pos e, if_pos e]; exact .cons r (RepT.mapK r t)
    · rw [if_neg e, if_neg e]; exact .cons r0 (RepT.mapK r t)
theorem RepT.snoc {vs : List (List Key × V)} {ds : List (List Key × Dat)} {k : List Key} (r : Rep F v d) : RepT F vs ds → RepT F (vs ++ [(k, v)]) (ds ++ [(k, d)])
  | .nil => .cons r .nil
  | .cons r0 t => .cons r0 (RepT.snoc r t)
theorem RepT.put {vs : List (List Key × V)} {ds : List (List Key × Dat)} {k : List Key} (r : Rep F v d) (t : RepT F vs ds) : RepT F (putK vs k v) (putD ds k d) := by
  unfold putK putD
  rw [t.anyK]
  by_cases e : (ds.any fun kv => decide (kv.1 = k)) = true
  · rw [if_pos e, e]; exact t.mapK r
  · rw [if_neg e, Bool.eq_false_iff.mpr e]; exact t.snoc r
theorem RepK.len {vs : List (Key × V)} {ds : List (Key × Dat)} : RepK F vs ds → vs.length = ds.length
  | .nil => rfl
  | .cons _ t => by rw [List.length_cons, List.length_cons, t.len]
theorem RepT.len {vs : List (List Key × V)} {ds : List (List Key × Dat)} : RepT F vs ds → vs.length = ds.length
  | .nil => rfl
  | .cons _ t => by rw [List.length_cons, List.length_cons, t.len]
def rSetA : TSet := fun o i v H Q => rSetL o i v H Q ∨ ∃ a H', o = .ref a ∧ DPut H a i v H' ∧ Q H'
theorem set_any (hu : X.A.units + 1 < cLine) : PSet X rSetA := by
  rintro pins s σ H o i v vo vi vv Q I ro ri rv (old | ⟨a, H2, rfl, g, q⟩)
  · exact set_list pins s σ H o i v vo vi vv Q I ro ri rv old
  · cases ro
    exact d_setItem hu I g ri rv fun _ J => ⟨H2, J, q⟩
/-- what an object is behind o[i] = v -/
def gSet (o i v : Dat) (Q : Dat → Prop) : Prop := match o, i with
  | .lst l, .int k => Got (ixN l.length k) fun j => Q (.lst (l.set j v))
  | .dk l, k => Got (keyD k) fun k => l.length < 100000 ∧ Q (.dk (putD l k v))
  | .dt l, .tup ks => Got (keysD ks) fun k => l.length < 100000 ∧ Q (.dt (putD l k v))
  | _, _ => False
theorem gSet_ok {iv : V} {d0 di : Dat} {Qd : Dat → Prop} {Q : Hp → Prop} (c : Cont F H p d0) (ri : Rep1 F H iv di) (rd : Rep F v d) (h : gSet d0 di d Qd) (k : ∀ o d', Cont F (upd H p o) p d' → Qd d' → Q (upd H p o)) : rSetA (.ref p) iv v H Q := by
  unfold gSet at h
  split at h
  · next l kk =>
    obtain ⟨n, hn, h⟩ := h.ex
    obtain ⟨ws, hw', rl⟩ := c
    cases rep1_int ri
    exact .inl ⟨p, ws, kk, n, rfl, rfl, hw', by rw [rl.len]; exact hn, k _ (.lst (l.set n d)) ⟨_, upd_same, Reps.set rd n rl⟩ h⟩
  · next l =>
    obtain ⟨key, hk, hl, h⟩ := h.ex
    obtain ⟨ws, hw', rl⟩ := c
    exact .inr ⟨p, _, rfl, .inl ⟨ws, key, hw', keyD_v hk ri, line_lt (by rw [rl.len]; exact hl), rfl⟩, k _ (.dk (putD l key d)) ⟨_, upd_same, RepK.put rd rl⟩ h⟩
  · next l ks =>
    obtain ⟨key, hk, hl, h⟩ := h.ex
    obtain ⟨ws, hw', rl⟩ := c
    obtain ⟨b, us, rfl, _, hb', rb⟩ := ri
    exact .inr ⟨p, _, rfl, .inr ⟨ws, key, b, hw', rfl, by rw [hb', keysD_v hk rb], line_lt (by rw [rl.len]; exact hl), rfl⟩, k _ (.dt (putD l key d)) ⟨_, upd_same, RepT.put rd rl⟩ h⟩
  · exact h.elim
def dSet (dw da db : DE) : DS := fun D env => dw env (fun rv env1 => withD (elD rv) fun d => da env1 (fun ro env2 => match ro with
  | .l j => db env2 (fun ri env3 => withD (view env3 (fzR ri)) fun di => withD (ownD env3 j) fun d0 => gSet d0 di d fun d' => D.nx (putO env3 j d')) D.xr
  | _ => False) D.xr) D.xr
theorem ss_set {tw ta tb : TE} (hw : SE E tw dw) (ha : SE E ta da) (hb : SE E tb db) : SS E (tAsg tw (gSub ta tb rSetA)) (dSet dw da db) := fun L C F H σ env D Dd R h k x =>
  hw L C F H σ env _ _ _ R h (fun F1 H1 v r env1 e1 R1 rv q => by
    obtain ⟨d, hd, q⟩ := withD_of q
    obtain ⟨F2, e2, R2, r2⟩ : ∃ F2, Ex F1 F2 ∧ Rl L C F2 H1 σ env1 ∧ Rep F2 v d := by
      cases r with
      | f d => cases hd; exact ⟨F1, Ex.refl _, R1, rv⟩
      | n d => cases hd; exact R1.frz rv
      | l j => cases hd
    refine ha L C F2 H1 σ env1 _ _ _ R2 q (fun F3 H3 o ro env3 e3 R3 rvo q3 => ?_) (x.mono (e1.trans e2))
    split at q3
    · next j =>
      have rvo : σ[j]? = some (some o) := rvo
      refine hb L C F3 H3 σ env3 _ _ _ R3 q3 (fun F4 H4 iv ri env4 e4 R4 rvi q4 => ?_) (x.mono (e1.trans (e2.trans e3)))
      obtain ⟨F5, e5, R5, a5⟩ := R4.fzv rvi
      obtain ⟨di, hdi, q4⟩ := withD_of q4
      obtain ⟨d0, hd0, q4⟩ := withD_of q4
      obtain ⟨p, hp, hf, c, _⟩ := R5.own hd0
      rw [rvo] at hp; cases hp
      have ri1 := a5.rep1 R5 hdi
      have rd := r2.mono (e3.trans (e4.trans e5))
      have ee := e1.trans (e2.trans (e3.trans (e4.trans e5)))
      exact gSet_ok c ri1 rd q4 fun o d' c' q' => k.nx F5 _ σ _ ee (R5.mut hd0 rvo c') q'
    · exact q3.elim) x
theorem ds_setI {k : Nat} {ppos : Pos} (hr : Room k X.A) (hv : DEx X E e dw) (ho : DEx X E a da) (hi : DEx X E b db)
    (hsub : ∀ v, assign (.Subscript a b ppos) X.env v = (holding [v] (eval a X.env) >>= fun o => holding [v, o] (eval b X.env) >>= fun i => standAt ppos >>= fun _ => holding [v, o, i] (setItem o i v) >>= fun _ => release [v, o, i] []) := by intro _; rfl)
    (hs : swapsWithSole [.Subscript a b ppos] e pos.line X.env = pure false := by rfl) (hw : swappedStores [.Subscript a b ppos] e X.env = pure none := by rfl)
    (h1 : (assignEach [.Subscript a b ppos] X.env).map (·.2) = [assign (.Subscript a b ppos) X.env] := by rfl) : DSx X E (.Assign [.Subscript a b ppos] e pos) (dSet dw da db) := by
  obtain ⟨t0, p0, s0⟩ := hv.ex
  obtain ⟨t1, p1, s1⟩ := ho.ex
  obtain ⟨t2, p2, s2⟩ := hi.ex
  exact ⟨_, ps_asg p0 (pg_sub p1 p2 (set_any (hu_of hr)) hsub) hs hw h1, ss_set s0 s1 s2⟩
/-- a name whose object is frozen by it -/
def dVarF (i : Nat) : DE := fun env Q _ => match env[i]? with
  | some (some (.f d)) => Q (.f d) env
  | some (some (.o d)) => Q (.f d) (env.set i (some (.f d)))
  | _ => False
theorem dvF (i : Nat) {x : Str} {pos : Pos} (hN : X.N[i]? = some x := by rfl) (hv : Vis X.env.scope x := by first | exact Or.inl rfl | exact Or.inr (Or.inl rfl) | exact Or.inr (Or.inr rfl)) (hd : (x == ("__debug__" : Str)) = false := by decide)
    (hcd : (x == ("__classdict__" : Str)) = false := by decide) : DEx X E (.Name x pos) (dVarF i) := ⟨_, pe_var hN hv hd hcd, fun L C F H σ env Q Qd Xd R h k _ => by
  unfold dVarF at h
  split at h
  · next d e =>
    obtain ⟨ov, h1, v, h2, h3⟩ := R.sl _ _ e
    subst h2
    exact ⟨v, h1, k F H v (.f d) env (Ex.refl F) R h3 h⟩
  · next d e =>
    obtain ⟨F', v, ex, hv, R', r⟩ := R.frzSlot e
    exact ⟨v, hv, k F' H v (.f d) _ ex R' r h⟩
  · exact h.elim⟩
end
end DL

set_option Elab.async false
set_option linter.all false
set_option maxRecDepth 100000
set_option maxHeartbeats 2000000
namespace DL
open PySem PySem.Spec PyProof.Rows L2
variable [ClsV]

/-! ### a callee -/
structure Cal (P : Program) (w : World) (K : PySem.W.Frag) (mg : Str → Option Value) (base : Heap) (k : Nat) (x : Str) (ps : List Str) (dsp : DSp) : Prop where
  ex : ∃ f fd, FnOk P w K mg base CX0 k f fd ps (lift dsp) ∧ mg x = some (.ref f) ∧ PySem.W.keepIn K (.ref f) = true ∧ Binds K fd ps []
section
variable {X : Cx} {E : L2.St → XK} {k : Nat} {ps : List Str} {dsp : DSp} {x : Str} {pos pp : Pos} {e : Expr} {es : List Expr} {dr : DA}
theorem de_call (ms : List Bool) (c : Cal X.prog X.w X.K X.mg X.base k x ps dsp) (hr : Room k X.A) (hg : Gl X x) (ha : DAx X E (e :: es) dr) (hdb : (x == ("__debug__" : Str)) = false := by decide) (he : starEach (e :: es) X.env = (false, eval e X.env) :: starEach es X.env := by rfl) (hpl : (backTo pos (starEach es X.env)).any (·.1) = false := by rfl) :
    DEx X E (.Call (.Name x pp) (e :: es) [] pos) (dCall0 ms dsp dr) := by
  obtain ⟨f, fd, G, hm, hk, hb⟩ := c.ex
  exact de_call0 ms G hr hg hm hk hb ha hdb he hpl
theorem de_callN (c : Cal X.prog X.w X.K X.mg X.base k x ps dsp) (hr : Room k X.A) (hg : Gl X x) (hdb : (x == ("__debug__" : Str)) = false := by decide) : DEx X E (.Call (.Name x pp) [] [] pos) (dCall0 [] dsp dNil) := by
  obtain ⟨f, fd, G, hm, hk, hb⟩ := c.ex
  exact de_call00 G hr hg hm hk hb hdb
end

/-! ### the tape -/
def tapeD (cells : List Int) (spot left : Int) : Dat := .dk [(.inr "cells", .lst (cells.map Dat.int)), (.inr "spot", .int spot), (.inr "left", .int left)]
def Tape (k : Nat) (T : Dat) : Prop := ∃ cells spot left, T = tapeD cells spot left ∧ cells.length ≤ 63 ∧ 0 ≤ spot ∧ spot ≤ (k : Int)
theorem Tape.mono {j k : Nat} {T : Dat} (h : Tape j T) (l : j ≤ k) : Tape k T := by
  obtain ⟨c, s, f, e, a, b, z⟩ := h
  exact ⟨c, s, f, e, a, b, by omega⟩
def spTape (K : PySem.W.Frag) : Sp := fun vs H Q _ => ∃ (a : Addr) (ns : List Int), vs = [.ref a] ∧ SqL K H a (ns.map V.int) ∧
  ∀ (t c : Addr) (H' : Hp), H t = none → H c = none → t ≠ c → (∀ q o, H q = some o → H' q = some o) → H' c = some (.lst ((ns.take 63).map V.int)) → H' t = some (.dK [(.inr "cells", .ref c), (.inr "spot", .int 0), (.inr "left", .int 0)]) → Q (.ref t) H'
theorem cut63 (ns : List Int) : cutV (ns.map V.int) none (some 63) = (ns.take 63).map V.int := by
  unfold cutV
  rw [HT.sIx_none, show HT.sIx (ns.map V.int).length (ns.map V.int).length (some 63) = min 63 (ns.map V.int).length from HT.sIx_nat _ _ 63, List.drop_zero, List.length_map, Nat.sub_zero, ← List.map_take]
  congr 1
  rcases Nat.le_total 63 ns.length with h | h
  · rw [Nat.min_eq_left h]
  · rw [Nat.min_eq_right h, List.take_length, List.take_of_length_le h]
def spLaw (K : PySem.W.Frag) : Sp := fun vs H Q _ => ∃ (a : Addr) (ns : List Int), vs = [.ref a] ∧ SqL K H a (ns.map V.int) ∧ ns.length ≤ 63 ∧ ∀ H', Q (.bl true) H'
section
variable {mg : Str → Option Value} {base : Heap} {K : PySem.W.Frag} {w : World} {P : Program}
/-- the law's first row, then the rest over data -/
theorem law_ok {qual : Str} {st : Stmt} {f ft : Addr} {fd fdt : FuncData} {N : List Str} {k : Nat} {st1 : Stmt} {rest : List Stmt} (Fn : Fun K "law" qual st f fd) (S : FnScope ("_law_script" :: N) ["_law_script"] (defScope st))
    (hst : defBody st = st1 :: rest) (GT : FnOk P w K mg base CX0 1 ft fdt ["_law_script"] (spTape K)) (i : Nat)
    (h1 : ∀ (cdv : Value) (A : Around) (outer : List PySem.Env) (s : Shared) (H : Hp) (E : XK), Room k (A.deeper (envOfC qual (defScope st) s.heap.objs.size f cdv)) →
      PS (cxOf CX0 P w K mg base ("_law_script" :: N) qual (defScope st) f cdv A outer s H E).nox st1 (tAsg (tCall (spTape K) [] E0 (tCons (tVar 0) tNil)) (gName (i + 1))))
    (h2 : ∀ (cdv : Value) (A : Around) (outer : List PySem.Env) (s : Shared) (H : Hp) (E : XK), Room k (A.deeper (envOfC qual (defScope st) s.heap.objs.size f cdv)) →
      ∃ ds, DSs (cxOf CX0 P w K mg base ("_law_script" :: N) qual (defScope st) f cdv A outer s H E).nox noE rest ds ∧ ∀ T, Tape 0 T → ds { nx := fun _ => False, rt := fun r _ => r = .f (.bl true) } (none :: (List.replicate N.length none).set i (some (.o T)))) :
    FnOk P w K mg base CX0 (k + 1) f fd ["_law_script"] (spLaw K) := by
  refine Fn.ok S (fun vs H Q E h => ?_) fun cdv A outer s H vs Q E hr h => ?_
  · obtain ⟨a, ns, rfl, _⟩ := h
    rfl
  · obtain ⟨a, ns, rfl, hS, hlen, q⟩ := h
    obtain ⟨ds, hds, hq⟩ := h2 cdv A outer s H E hr
    obtain ⟨t2, p2, s2⟩ := hds.ex
    rw [hst]
    refine ⟨_, pss_cons (h1 cdv A outer s H E hr) p2, ?_⟩
    refine ⟨.ref a, rfl, a, ns, rfl, hS, fun t c H' ht hc htc hx hcl htp => ?_⟩
    -- the objects: t the def's own, c frozen, all else as it was
    let C : Cc := ⟨fun q => if q = t ∨ q = c then none else H' q, fun _ => none, fun _ => none⟩
    let F : Hp := upd (fun _ => none) c (.lst ((ns.take 63).map V.int))
    have fr : Fr (fun _ => False) C F H' := {
      fz := fun q o e => by
        by_cases z : q = c
        · subst z
          have : F q = some (.lst ((ns.take 63).map V.int)) := upd_same
          rw [this] at e; cases e; exact .inl hcl
        · have : F q = none := upd_ne z
          rw [this] at e; cases e
      fn := fun q n => by
        by_cases z : q = c
        · subst z
          exact absurd (if_pos (.inr rfl)) n
        · exact .inl (upd_ne z)
      kp := fun q o e _ => by
        by_cases z : q = t ∨ q = c
        · have : C.H0 q = none := if_pos z
          rw [this] at e; cases e
        · have : C.H0 q = H' q := if_neg z
          rw [this] at e; exact .inl e
      th := fun q n => by
        by_cases z : q = t ∨ q = c
        · exact absurd (if_pos z) n
        · have : C.H0 q = H' q := if_neg z
          rw [this] at n; exact n
      lk := fun _ z => z.elim
      wf := fun q o e => by cases e
      wa := fun i q e => by cases e
      wb := fun i q e => rfl
      fl := fun q ob o e => by
        by_cases z : q = t ∨ q = c
        · rcases z with z | z
          · rw [z, htp] at e; cases e
          · rw [z, hcl] at e; cases e
        · exact (if_neg z).trans e }
    have own : Own C F H' t (tapeD (ns.take 63) 0 0) := by
      refine ⟨if_pos (.inl rfl), upd_ne htc, _, htp, ?_⟩
      exact .cons (.lst upd_same (Reps.ofInts _)) (.cons (.int 0) (.cons (.int 0) .nil))
    have len0 : (L2.start ("_law_script" :: N) [V.ref a]).length = N.length + 1 := by simp [L2.start]
    have R0 : Rl (fun _ => False) C F H' (L2.start ("_law_script" :: N) [V.ref a]) (none :: List.replicate N.length none) := by
      refine ⟨fr, by rw [len0]; simp, fun j s e => ?_, fun j l p _ hj _ _ _ => ?_⟩
      · cases j with
        | zero => cases e
        | succ j =>
          rw [List.getElem?_cons_succ, List.getElem?_replicate] at e
          split at e <;> cases e
      · obtain ⟨s, e, _⟩ := isO_get hj
        cases j with
        | zero => cases e
        | succ j =>
          rw [List.getElem?_cons_succ, List.getElem?_replicate] at e
          split at e <;> cases e
    have R1 := R0.setO own (fun j hj => by
      obtain ⟨s, e, _⟩ := isO_get hj
      cases j with
      | zero => cases e
      | succ j =>
        rw [List.getElem?_cons_succ, List.getElem?_replicate] at e
        split at e <;> cases e) (i + 1)
    rw [List.set_cons_succ] at R1
    refine s2 _ C F H' _ _ _ _ R1 (hq _ ⟨ns.take 63, 0, 0, rfl, by rw [List.length_take]; omega, Int.le_refl _, Int.le_refl _⟩) ⟨fun _ _ _ _ _ _ z => z.elim, fun F' H2 σ' env' v r _ _ rv e => ?_, fun _ _ _ _ _ _ z => z.elim, fun _ _ _ _ _ _ z => z.elim⟩ fun _ _ _ _ _ _ _ _ _ _ _ z => z.elim
    have e : r = .f (.bl true) := e
    subst e
    cases rv
    exact q _
end
end DL
namespace DL
open PySem PySem.Spec PyProof.Rows L2
variable [ClsV]
section
variable {mg : Str → Option Value} {base : Heap} {K : PySem.W.Frag} {w : World} {P : Program}
/-- a def by its reading -/
theorem def_cal {x qual : Str} {st : Stmt} {f : Addr} {fd : FuncData} {N ps : List Str} {k : Nat} {dsp : DSp} {rd : DS} (Fn : Fun K x qual st f fd) (S : FnScope N ps (defScope st)) (hm : mg x = some (.ref f)) (hb : Binds K fd ps [])
    (hd : ∀ (cdv : Value) (A : Around) (outer : List PySem.Env) (s : Shared) (H : Hp) (E : XK), Room k (A.deeper (envOfC qual (defScope st) s.heap.objs.size f cdv)) → DSs (cxOf CX0 P w K mg base N qual (defScope st) f cdv A outer s H E).nox noE (defBody st) rd)
    (hp : ∀ as Q X, dsp as Q X → as.length = ps.length ∧ rd { nx := fun env => rtD as Q (.f .non) env, rt := rtD as Q } (startE N as)) : Cal P w K mg base (k + 1) x ps dsp :=
  ⟨f, fd, def_ok Fn S (fun as Q X h => (hp as Q X h).1) (fun cdv A outer s H E hr => ⟨rd, hd cdv A outer s H E hr, fun as Q X h => (hp as Q X h).2⟩), hm, Fn.kp, hb⟩
theorem tape_ok {st : Stmt} {f : Addr} {fd : FuncData} (Fn : Fun K "_law_tape" "_law_tape" st f fd) (S : FnScope ["_law_script"] ["_law_script"] (defScope st))
    (hd : ∀ (cdv : Value) (A : Around) (outer : List PySem.Env) (s : Shared) (H : Hp) (E : XK), PSs (cxOf CX0 P w K mg base ["_law_script"] "_law_tape" (defScope st) f cdv A outer s H E).nox (defBody st) (tRet (tDisp [(tC (.str "cells"), tSl (rSlL K) (tVar 0) tNoPart (tPart (tC (.int 63)))), (tC (.str "spot"), tC (.int 0)), (tC (.str "left"), tC (.int 0))]))) :
    FnOk P w K mg base CX0 1 f fd ["_law_script"] (spTape K) := by
  refine Fn.ok S (fun vs H Q E h => ?_) (fun cdv A outer s H vs Q E hr h => ⟨_, hd cdv A outer s H E, ?_⟩)
  · obtain ⟨a, ns, rfl, _⟩ := h
    rfl
  · obtain ⟨a, ns, rfl, hS, q⟩ := h
    intro p hp
    have hS1 : SqL K (upd H p (.dK [])) a (ns.map V.int) := by
      rcases hS with (z | ⟨ob, z⟩) | z
      · exact .inl (.inl (by rw [upd_ne (ne_of_none z hp)]; exact z))
      · exact .inl (.inr ⟨ob, by rw [upd_ne (ne_of_none z hp)]; exact z⟩)
      · exact .inr z
    refine ⟨.ref a, rfl, 63, rfl, a, ns.map V.int, rfl, hS1, fun c hc => ?_⟩
    have hcp : c ≠ p := fun z => by subst z; rw [upd_same] at hc; cases hc
    have hc0 : H c = none := by rw [upd_ne hcp] at hc; exact hc
    refine ⟨by rw [upd_ne (Ne.symm hcp), upd_same], [(.inr "cells", .ref c), (.inr "spot", .int 0), (.inr "left", .int 0)], rfl, by show 3 ≤ 15; decide, ?_⟩
    have em : mergeK [] [((.inr "cells" : Key), V.ref c), (.inr "spot", .int 0), (.inr "left", .int 0)] = [(.inr "cells", .ref c), (.inr "spot", .int 0), (.inr "left", .int 0)] := rfl
    rw [em]
    refine q p c _ hp hc0 (Ne.symm hcp) (fun b o e => ?_) ?_ upd_same
    · rw [upd_ne (ne_of_none e hp), upd_ne (ne_of_none e hc0), upd_ne (ne_of_none e hp)]; exact e
    · rw [upd_ne hcp, upd_same, cut63]
end
end DL

set_option Elab.async false
set_option linter.all false
set_option maxRecDepth 100000
set_option maxHeartbeats 2000000
namespace DL
open PySem PySem.Spec PyProof.Rows L2
variable [ClsV]

section
variable {X : Cx} {E : L2.St → XK} {a b c e tg : Expr} {da db dc de : DE} {dr : DA} {p q pos apos cpos : Pos}
/-! ### a op b op c -/
def isBl (r : Res) (k : Bool → Prop) : Prop := match r with
  | .f (.bl b) => k b
  | _ => False
def dChain (g g' : G2) (da db dc : DE) : DE := fun env Q X => da env (fun ra env1 => db env1 (fun rb env2 => withD (view env2 (fzR ra)) fun x => withD (view env2 (fzR rb)) fun y =>
  g x y fun r => isBl r fun k => IfB k (dc env2 (fun rc env3 => withD (view env3 (fzR rb)) fun y' => withD (view env3 (fzR rc)) fun z => g' y' z fun r' => Q r' env3) X) (Q (.f (.bl false)) env2)) X) X
theorem se_chain {r r' : R2} {g g' : G2} {ta tb tc : TE} (ho : Op2 r g) (ho' : Op2 r' g') (ha : SE E ta da) (hb : SE E tb db) (hc : SE E tc dc) : SE E (tChain r r' ta tb tc) (dChain g g' da db dc) := fun L C F H σ env Q Qd Xd R h k x =>
  ha L C F H σ env _ _ Xd R h (fun F1 H1 v1 r1 env1 e1 R1 v1r h1 => by
    obtain ⟨F2, e2, R2, a2⟩ := R1.fzv v1r
    refine hb L C F2 H1 σ env1 _ _ Xd R2 h1 (fun F3 H3 v3 r3 env3 e3 R3 v3r h3 => ?_) (x.mono (e1.trans e2))
    obtain ⟨F4, e4, R4, a4⟩ := R3.fzv v3r
    obtain ⟨d1, hd1, h3⟩ := withD_of h3
    obtain ⟨d2, hd2, h3⟩ := withD_of h3
    refine ho L C F4 H3 v1 v3 d1 d2 _ _ R4.fr ((a2.mono (e3.trans e4)).rep1 R4 hd1) (a4.rep1 R4 hd2) h3 fun F5 H5 v5 r5 g5 n5 q5 => ?_
    unfold isBl at q5
    split at q5
    · next k5 =>
      cases n5
      refine ⟨k5, rfl, ?_⟩
      have R5 := R4.grow g5
      have x5 : Ex F F5 := e1.trans (e2.trans (e3.trans (e4.trans g5.fx)))
      cases k5 with
      | false =>
        rw [if_neg (by decide)]
        exact k F5 H5 _ (.f (.bl false)) env3 x5 R5 (Rep.bl false) q5.f
      | true =>
        rw [if_pos rfl]
        refine hc L C F5 H5 σ env3 _ _ Xd R5 q5.t (fun F6 H6 v6 r6 env6 e6 R6 v6r h6 => ?_) (x.mono x5)
        obtain ⟨F7, e7, R7, a7⟩ := R6.fzv v6r
        obtain ⟨y', hy, h6⟩ := withD_of h6
        obtain ⟨z, hz, h6⟩ := withD_of h6
        exact ho' L C F7 H6 v3 v6 y' z Q _ R7.fr ((a4.mono (g5.fx.trans (e6.trans e7))).rep1 R7 hy) (a7.rep1 R7 hz) h6 fun F8 H8 v8 r8 g8 n8 q8 =>
          k F8 H8 v8 r8 env6 (x5.trans (e6.trans (e7.trans g8.fx))) (R7.grow g8) (n8.rv R7) q8
    · exact q5.elim) x
theorem de_chain {op op' : CmpOp} {r r' : R2} {g g' : G2} (o1 : OpR X (compareOp op) r) (o2 : OpR X (compareOp op') r') (ho : Op2 r g) (ho' : Op2 r' g') (ha : DEx X E a da) (hb : DEx X E b db) (hc : DEx X E c dc)
    (hm : lastMarks [op, op'] [b, c] = false := by with_unfolding_all rfl) : DEx X E (.Compare a [op, op'] [b, c] pos) (dChain g g' da db dc) := by
  obtain ⟨ta, pa, sa⟩ := ha.ex
  obtain ⟨tb, pb, sb⟩ := hb.ex
  obtain ⟨tc, pc, sc⟩ := hc.ex
  exact ⟨_, pe_chain o1 o2 pa pb pc hm, se_chain ho ho' sa sb sc⟩
theorem dt_chain {op op' : CmpOp} {r r' : R2} {g g' : G2} (o1 : OpR X (compareOp op) r) (o2 : OpR X (compareOp op') r') (ho : Op2 r g) (ho' : Op2 r' g') (ha : DEx X E a da) (hb : DEx X E b db) (hc : DEx X E c dc)
    (hm : lastMarks [op, op'] [b, c] = false := by with_unfolding_all rfl) : DTx X E (.Compare a [op, op'] [b, c] pos) (dB (dChain g g' da db dc)) := by
  obtain ⟨ta, pa, sa⟩ := ha.ex
  obtain ⟨tb, pb, sb⟩ := hb.ex
  obtain ⟨tc, pc, sc⟩ := hc.ex
  exact ⟨_, pt_chain o1 o2 pa pb pc hm, st_B (se_chain ho ho' sa sb sc)⟩

/-! ### reversed(range(..)), reversed(list or tuple) -/
def downD (hi : Int) (n : Nat) : List Dat := (List.range n).map fun (k : Nat) => Dat.int (hi - 1 - (k : Int))
theorem downD_len {hi : Int} {n : Nat} : (downD hi n).length = n := by simp [downD]
theorem downD_some {hi : Int} {n i : Nat} {d : Dat} (h : (downD hi n)[i]? = some d) : i < n ∧ d = .int (hi - 1 - (i : Int)) := by
  have hl : i < n := by
    rcases Nat.lt_or_ge i n with z | z
    · exact z
    · rw [List.getElem?_eq_none (by rw [downD_len]; exact z)] at h; cases h
  unfold downD at h
  rw [List.getElem?_map, List.getElem?_range hl] at h
  cases h
  exact ⟨hl, rfl⟩
theorem walks_down {L : Addr → Prop} {C : Cc} {F : Hp} {lo hi : Int} {n : Nat} (h : lo = hi - 1) : Walks L C F (Itc lo (-1) n) (downD hi n) := fun F' H' σ' env' e' R' i => by
  refine ⟨fun d hd => ?_, fun hl => by rw [downD_len] at hl; exact hl⟩
  obtain ⟨hi, rfl⟩ := downD_some hd
  refine ⟨hi, fun x H2 ⟨e, y⟩ => ?_⟩
  subst e y
  refine ⟨F', Gr.refl R'.fr, ?_⟩
  rw [h, show ((i : Nat) : Int) * (-1) = - (i : Int) by omega, ← Int.sub_eq_add_neg]
  exact .int _
def dRev1 (da : DE) : DI := fun env Q X => da env (fun r env1 => match r with
  | .f (.int j) => (-(2 ^ 62) ≤ j ∧ j < 2 ^ 62) ∧ Q (downD (j.toNat : Int) j.toNat) env1
  | _ => False) X
def dRev2 (da db : DE) : DI := fun env Q X => da env (fun r env1 => match r with
  | .f (.int i) => db env1 (fun r' env2 => match r' with
    | .f (.int j) => (-(2 ^ 62) ≤ i ∧ i < 2 ^ 62 ∧ -(2 ^ 62) ≤ j ∧ j < 2 ^ 62) ∧ Q (downD (i + ((j - i).toNat : Int)) (j - i).toNat) env2
    | _ => False) X
  | _ => False) X
theorem di_rev1 (hg : Gl X "reversed") (hm : X.mg "reversed" = none) (hg2 : Gl X "range") (hm2 : X.mg "range" = none) (ha : DEx X E a da) (hs : starEach [a] X.env = (false, eval a X.env) :: starEach [] X.env := by rfl)
    (hs2 : starEach [Expr.Call (.Name "range" q) [a] [] pos] X.env = (false, eval (Expr.Call (.Name "range" q) [a] [] pos) X.env) :: starEach [] X.env := by rfl) :
    DIx X E tg (.Call (.Name "reversed" p) [.Call (.Name "range" q) [a] [] pos] [] cpos) (dRev1 da) := by
  obtain ⟨t, pa, s⟩ := ha.ex
  refine ⟨_, pi_revR hg hm (prg_1 hg2 hm2 pa hs) hs2, fun L C F H σ env R Rd Xd Rr h k x => s L C F H σ env _ _ Xd Rr h (fun F1 H1 v r env1 e1 R1 rv q => ?_) x⟩
  split at q
  · next j =>
    cases rv
    refine ⟨j, rfl, by omega, by omega, q.1.1, q.1.2, ?_⟩
    rw [Int.sub_zero]
    exact k F1 H1 _ _ env1 e1 R1 (walks_down (by omega)) q.2
  · exact q.elim
theorem di_rev2 (hg : Gl X "reversed") (hm : X.mg "reversed" = none) (hg2 : Gl X "range") (hm2 : X.mg "range" = none) (ha : DEx X E a da) (hb : DEx X E b db) (na : starEach [a, b] X.env = (false, eval a X.env) :: starEach [b] X.env := by rfl)
    (nb : starEach [b] X.env = (false, eval b X.env) :: starEach [] X.env := by rfl) (hp : (backTo pos (starEach [b] X.env)).any (·.1) = false := by rfl)
    (hs2 : starEach [Expr.Call (.Name "range" q) [a, b] [] pos] X.env = (false, eval (Expr.Call (.Name "range" q) [a, b] [] pos) X.env) :: starEach [] X.env := by rfl) :
    DIx X E tg (.Call (.Name "reversed" p) [.Call (.Name "range" q) [a, b] [] pos] [] cpos) (dRev2 da db) := by
  obtain ⟨t, pa, s⟩ := ha.ex
  obtain ⟨t', pb, s'⟩ := hb.ex
  refine ⟨_, pi_revR hg hm (prg_2 hg2 hm2 pa pb na nb hp) hs2, fun L C F H σ env R Rd Xd Rr h k x => s L C F H σ env _ _ Xd Rr h (fun F1 H1 v r env1 e1 R1 rv q => ?_) x⟩
  split at q
  · next i =>
    cases rv
    refine s' L C F1 H1 σ env1 _ _ Xd R1 q (fun F2 H2 v2 r2 env2 e2 R2 rv2 q2 => ?_) (x.mono e1)
    split at q2
    · next j =>
      cases rv2
      refine ⟨i, j, rfl, rfl, q2.1.1, q2.1.2.1, q2.1.2.2.1, q2.1.2.2.2, ?_⟩
      exact k F2 H2 _ _ env2 (e1.trans e2) R2 (walks_down rfl) q2.2
    · exact q2.elim
  · exact q.elim
theorem rev_get {α : Type} {l : List α} {i : Nat} (h : i < l.length) : l.reverse[i]? = l[l.length - 1 - i]? := by
  rw [List.getElem?_reverse h]
theorem walks_revL {L : Addr → Prop} {C : Cc} {K : PySem.W.Frag} {F : Hp} {a : Addr} {vs : List V} {ds : List Dat} (h : F a = some (.lst vs)) (r : Reps F vs ds) : Walks L C F (Itv K a vs.length) ds.reverse := fun F' H' σ' env' e' R' i => by
  have ha : H' a = some (.lst vs) := R'.fr.fz.ex (e' _ _ h) rfl
  have hs : SqL K H' a vs := .inl (.inl ha)
  refine ⟨fun d hd => ?_, fun hl => by rw [List.length_reverse] at hl; show vs.length ≤ i; rw [r.len]; exact hl⟩
  have hi : i < ds.length := by
    rcases Nat.lt_or_ge i ds.length with z | z
    · exact z
    · rw [List.getElem?_eq_none (by rw [List.length_reverse]; exact z)] at hd; cases hd
  rw [rev_get hi, ← r.len] at hd
  obtain ⟨v, hv, rv⟩ := r.get hd
  refine ⟨⟨by rw [r.len]; exact hi, vs, v, hs, hv⟩, fun x H2 ⟨e, y⟩ => ?_⟩
  subst e
  have := y vs hs
  rw [hv] at this; cases this
  exact ⟨F', Gr.refl R'.fr, rv.mono e'⟩
theorem walks_revT {L : Addr → Prop} {C : Cc} {K : PySem.W.Frag} {F : Hp} {a : Addr} {vs : List V} {ds : List Dat} (h : F a = some (.tup vs)) (r : Reps F vs ds) : Walks L C F (RT.ItvT K a vs.length) ds.reverse := fun F' H' σ' env' e' R' i => by
  have ha : H' a = some (.tup vs) := R'.fr.fz.ex (e' _ _ h) rfl
  have hs : SqT K H' a vs := .inl (.inl ha)
  refine ⟨fun d hd => ?_, fun hl => by rw [List.length_reverse] at hl; show vs.length ≤ i; rw [r.len]; exact hl⟩
  have hi : i < ds.length := by
    rcases Nat.lt_or_ge i ds.length with z | z
    · exact z
    · rw [List.getElem?_eq_none (by rw [List.length_reverse]; exact z)] at hd; cases hd
  rw [rev_get hi, ← r.len] at hd
  obtain ⟨v, hv, rv⟩ := r.get hd
  refine ⟨⟨by rw [r.len]; exact hi, vs, v, hs, hv⟩, fun x H2 ⟨e, y⟩ => ?_⟩
  subst e
  have := y vs hs
  rw [hv] at this; cases this
  exact ⟨F', Gr.refl R'.fr, rv.mono e'⟩
def dRevL (de : DE) : DI := fun env Q X => de env (fun r env1 => itR r env1 fun ds env2 => Q ds.reverse env2) X
theorem si_revl {K : PySem.W.Frag} {tl : TE} (s : SE E tl de) : SI E (RT.iRevA K tl) (dRevL de) := fun L C F H σ env R Rd Xd Rr h k x =>
  s L C F H σ env _ _ Xd Rr h (fun F1 H1 v r env1 e1 R1 rv q => by
    have lst : ∀ F2 env2 ds, Ex F1 F2 → Rl L C F2 H1 σ env2 → Rep F2 v (.lst ds) → Rd ds.reverse env2 → ∃ (a : Addr) (xs : List V), v = .ref a ∧ ((SqL K H1 a xs ∧ R (Itv K a xs.length) H1) ∨ (SqT K H1 a xs ∧ R (RT.ItvT K a xs.length) H1)) := fun F2 env2 ds e2 R2 r2 q2 => by
      cases r2 with
      | @lst a vs _ h r => exact ⟨a, vs, rfl, .inl ⟨.inl (.inl (R2.fr.fz.ex h rfl)), k F2 H1 _ ds.reverse env2 (e1.trans e2) R2 (walks_revL h r) q2⟩⟩
    unfold itR at q
    split at q
    · next ds => exact lst F1 env1 ds (Ex.refl _) R1 rv q
    · next ds =>
      cases rv with
      | @tup a vs _ h r => exact ⟨a, vs, rfl, .inr ⟨.inl (.inl (R1.fr.fz.ex h rfl)), k F1 H1 _ ds.reverse env1 e1 R1 (walks_revT h r) q⟩⟩
    · next ds =>
      obtain ⟨F2, e2, R2, r2⟩ := R1.frz rv
      exact lst F2 env1 ds e2 R2 r2 q
    · next i =>
      split at q
      · next ds e =>
        obtain ⟨F2, w, e2, hw, R2, r2⟩ := R1.frzSlot e
        have rv : σ[i]? = some (some v) := rv
        rw [hw] at rv; cases rv
        exact lst F2 _ ds e2 R2 r2 q
      · exact q.elim
    · exact q.elim) x
theorem di_revl (hg : Gl X "reversed") (hm : X.mg "reversed" = none) (h : DEx X E e de) (hs : starEach [e] X.env = (false, eval e X.env) :: starEach [] X.env := by rfl) : DIx X E tg (.Call (.Name "reversed" p) [e] [] pos) (dRevL de) := by
  obtain ⟨t, pe, s⟩ := h.ex
  exact ⟨_, RT.pi_revA hg hm pe hs, si_revl s⟩

/-! ### list.index of whole numbers -/
theorem eqV_int (i j : Int) : eqV (.int i) (.int j) = decide (i = j) := rfl
def gIndex : Dat → List Dat → (Res → Prop) → Prop := fun d ds Q => match d, ds with
  | .lst l, [.int k] => IntsL l fun ns => ∃ j : Nat, ns[j]? = some k ∧ (∀ m, m < j → ns[m]? ≠ some k) ∧ Q (.f (.int j))
  | _, _ => False
theorem o_index {K : PySem.W.Frag} : OpR1 (rIndex K) gIndex := fun L C F H x vs d ds Q Qd fr rx rs h k => by
  unfold gIndex at h
  split at h
  · next l n =>
    obtain ⟨ns, hn, j, hj, hno, h⟩ := h.ex
    obtain ⟨a, ws, rfl, ha, rl⟩ := rx
    obtain ⟨v, rfl, rv⟩ := rs.one
    cases rep1_int rv
    rw [hn] at rl
    rw [rl.ints] at ha
    refine ⟨a, ns.map V.int, .int n, j, .int n, rfl, rfl, .inl (.inl ha), rfl, flats_ints ns, by rw [List.getElem?_map, hj]; rfl, by rw [eqV_int]; exact decide_eq_true rfl, fun m z' hm hz => ?_, k F H _ (.f _) (Gr.refl fr) (Rep.int _) h⟩
    rw [List.getElem?_map] at hz
    cases e : ns[m]? with
    | none => rw [e] at hz; cases hz
    | some y =>
      rw [e] at hz
      cases hz
      rw [eqV_int]
      refine decide_eq_false fun z => ?_
      subst z
      exact hno m hm e
  · exact h.elim
theorem de_index (ho : DEx X E a da) (ha : DAx X E [e] dr) (hbase : attributeBase a "index" X.env (eval a X.env) = eval a X.env := by rfl)
    (hfew : ((backTo cpos (starEach [e] X.env)).all (fun x => !x.1) && (backToKw cpos (keywordEach [] X.env)).all (fun x => x.1.isSome) && decide (([e] : List Expr).length + ([] : List Keyword).length + (if ([] : List Keyword).isEmpty then 0 else 1) < 30)) = true := by rfl)
    (hs : starEach [e] X.env = (false, eval e X.env) :: starEach [] X.env := by rfl) (hplain : (backTo cpos (starEach [] X.env)).any (·.1) = false := by rfl) (hline : (apos.endLine == cpos.line) = true := by rfl) :
    DEx X E (.Call (.Attribute a "index" apos) [e] [] cpos) (dMeth isL gIndex da dr) := by
  obtain ⟨t, p, s⟩ := ho.ex
  obtain ⟨t', p', s'⟩ := ha.ex
  exact ⟨_, pe_bm PySem.F.plainAttrs_list PySem.F.slot_list_index PySem.F.type_list_index mt_index p p' hbase hfew hline hs hplain, se_meth tyL o_index s s'⟩
end
end DL

set_option Elab.async false
set_option linter.all false
set_option maxRecDepth 100000
set_option maxHeartbeats 2000000
namespace DL
open PySem PySem.Spec PyProof.Rows L2
variable [ClsV]

section
variable {X : Cx} {E : L2.St → XK} {a b c e tg : Expr} {da db dc de : DE} {dr : DA} {p q pos apos cpos : Pos} {L : Addr → Prop} {C : Cc} {F H : Hp}
/-! ### zip -/
def pairZ (x y : Dat) : Dat := .tup [x, y]
def zipD (xs ys : List Dat) : List Dat := List.zipWith pairZ xs ys
theorem zipD_some {xs ys : List Dat} {i : Nat} {d : Dat} (h : (zipD xs ys)[i]? = some d) : ∃ x y, xs[i]? = some x ∧ ys[i]? = some y ∧ d = .tup [x, y] := by
  unfold zipD at h
  rw [List.getElem?_zipWith] at h
  cases e1 : xs[i]? with
  | none => rw [e1] at h; cases h
  | some x =>
    cases e2 : ys[i]? with
    | none => rw [e1, e2] at h; cases h
    | some y => rw [e1, e2] at h; cases h; exact ⟨x, y, rfl, rfl, rfl⟩
theorem zipD_len (xs ys : List Dat) : (zipD xs ys).length = min xs.length ys.length := by unfold zipD; rw [List.length_zipWith]
theorem zip_yld {F' H' : Hp} {T : Addr} {x y : V} {dx dy : Dat} (fr : Fr L C F' H') (hT : H' T = none) (rx : Rep F' x dx) (ry : Rep F' y dy) : ∃ F2, Gr F' H' F2 (upd H' T (.tup [x, y])) ∧ Rep F2 (.ref T) (.tup [dx, dy]) :=
  ⟨_, fr.grF hT _, new_tup fr hT (.cons rx (.cons ry .nil))⟩
theorem walks_zipL {K : PySem.W.Frag} {a b : Addr} {vs ws : List V} {ds es : List Dat} (h : F a = some (.lst vs)) (h2 : F b = some (.lst ws)) (r : Reps F vs ds) (r2 : Reps F ws es) : Walks L C F (Itz K a b) (zipD ds es) := fun F' H' σ' env' e' R' i => by
  have ha : SqL K H' a vs := .inl (.inl (R'.fr.fz.ex (e' _ _ h) rfl))
  have hb : SqL K H' b ws := .inl (.inl (R'.fr.fz.ex (e' _ _ h2) rfl))
  refine ⟨fun d hd => ?_, fun hl => ⟨vs, ws, ha, hb, by rw [zipD_len] at hl; rw [r.len, r2.len]; omega⟩⟩
  obtain ⟨x, y, hx, hy, rfl⟩ := zipD_some hd
  obtain ⟨v, hv, rv⟩ := r.get hx
  obtain ⟨w, hw, rw'⟩ := r2.get hy
  refine ⟨⟨vs, ws, v, w, ha, hb, hv, hw⟩, fun z H2 ⟨T, x', y', e1, hT, e2, q1, q2⟩ => ?_⟩
  subst e1 e2
  have z1 := q1 vs ha
  have z2 := q2 ws hb
  rw [hv] at z1; cases z1
  rw [hw] at z2; cases z2
  exact zip_yld R'.fr hT (rv.mono e') (rw'.mono e')
theorem walks_zipT {K : PySem.W.Frag} {a b : Addr} {vs ws : List V} {ds es : List Dat} (h : F a = some (.tup vs)) (h2 : F b = some (.tup ws)) (r : Reps F vs ds) (r2 : Reps F ws es) : Walks L C F (RZ.ItzT K a b) (zipD ds es) := fun F' H' σ' env' e' R' i => by
  have ha : SqT K H' a vs := .inl (.inl (R'.fr.fz.ex (e' _ _ h) rfl))
  have hb : SqT K H' b ws := .inl (.inl (R'.fr.fz.ex (e' _ _ h2) rfl))
  refine ⟨fun d hd => ?_, fun hl => ⟨vs, ws, ha, hb, by rw [zipD_len] at hl; rw [r.len, r2.len]; omega⟩⟩
  obtain ⟨x, y, hx, hy, rfl⟩ := zipD_some hd
  obtain ⟨v, hv, rv⟩ := r.get hx
  obtain ⟨w, hw, rw'⟩ := r2.get hy
  refine ⟨⟨vs, ws, v, w, ha, hb, hv, hw⟩, fun z H2 ⟨T, x', y', e1, hT, e2, q1, q2⟩ => ?_⟩
  subst e1 e2
  have z1 := q1 vs ha
  have z2 := q2 ws hb
  rw [hv] at z1; cases z1
  rw [hw] at z2; cases z2
  exact zip_yld R'.fr hT (rv.mono e') (rw'.mono e')
/-- a list (false) or tuple (true), frozen -/
def itK (r : Res) (env : Env) (k : Bool → List Dat → Env → Prop) : Prop := match r with
  | .f (.lst ds) => k false ds env
  | .f (.tup ds) => k true ds env
  | .n (.lst ds) => k false ds env
  | .l i => match env[i]? with
    | some (some (.o (.lst ds))) => k false ds (env.set i (some (.f (.lst ds))))
    | _ => False
  | _ => False
theorem itK_of {σ : L2.St} {env : Env} {v : V} {r : Res} {k : Bool → List Dat → Env → Prop} (R : Rl L C F H σ env) (rv : RV2 C F H σ env v r) (h : itK r env k) :
    ∃ F' env' t ds a vs, Ex F F' ∧ Rl L C F' H σ env' ∧ v = .ref a ∧ F' a = some (if t then .tup vs else .lst vs) ∧ Reps F' vs ds ∧ k t ds env' := by
  have lst : ∀ F' env' ds, Ex F F' → Rl L C F' H σ env' → Rep F' v (.lst ds) → k false ds env' → ∃ F' env' t ds a vs, Ex F F' ∧ Rl L C F' H σ env' ∧ v = .ref a ∧ F' a = some (if t then .tup vs else .lst vs) ∧ Reps F' vs ds ∧ k t ds env' := fun F' env' ds e R' r q => by
    cases r with
    | @lst a vs _ h r => exact ⟨F', env', false, ds, a, vs, e, R', rfl, h, r, q⟩
  unfold itK at h
  split at h
  · next ds => exact lst F env ds (Ex.refl _) R rv h
  · next ds =>
    cases rv with
    | @tup a vs _ h1 r => exact ⟨F, env, true, ds, a, vs, Ex.refl _, R, rfl, h1, r, h⟩
  · next ds =>
    obtain ⟨F2, e2, R2, r2⟩ := R.frz rv
    exact lst F2 env ds e2 R2 r2 h
  · next i =>
    split at h
    · next ds e =>
      obtain ⟨F2, w, e2, hw, R2, r2⟩ := R.frzSlot e
      have rv : σ[i]? = some (some v) := rv
      rw [hw] at rv; cases rv
      exact lst F2 _ ds e2 R2 r2 h
    · exact h.elim
  · exact h.elim
def dZip (da db : DE) : DI := fun env Q X => da env (fun r env1 => itK r env1 fun t xs env2 => db env2 (fun r' env3 => itK r' env3 fun t' ys env4 => t = t' ∧ Q (zipD xs ys) env4) X) X
theorem di_zip {elts : List Expr} {kk : Nat} {tpos : Pos} (hg : Gl X "zip") (hm : X.mg "zip" = none) (ha : DEx X E a da) (hb : DEx X E b db) (hs : starEach [a, b] X.env = (false, eval a X.env) :: starEach [b] X.env := by rfl) (hs2 : starEach [b] X.env = (false, eval b X.env) :: starEach [] X.env := by rfl)
    (hpl : (backTo pos (starEach [b] X.env)).any (·.1) = false := by rfl) : DIx X E (.Tuple elts kk tpos) (.Call (.Name "zip" p) [a, b] [] pos) (dZip da db) := by
  obtain ⟨t, pa, s⟩ := ha.ex
  obtain ⟨t', pb, s'⟩ := hb.ex
  refine ⟨_, RZ.pi_zipA hg hm (pa_cons pa (pa_cons pb pa_nil hs2) hs) hs hpl, fun L C F H σ env R Rd Xd Rr h k x => s L C F H σ env _ _ Xd Rr h (fun F1 H1 v r env1 e1 R1 rv q => ?_) x⟩
  obtain ⟨F2, env2, tt, xs, a0, vs, e2, R2, rfl, h2, rs2, q⟩ := itK_of R1 rv q
  refine s' L C F2 H1 σ env2 _ _ Xd R2 q (fun F3 H3 v3 r3 env3 e3 R3 rv3 q3 => ?_) (x.mono (e1.trans e2))
  obtain ⟨F4, env4, tt', ys, b0, ws, e4, R4, rfl, h4, rs4, eq, q4⟩ := itK_of R3 rv3 q3
  subst eq
  have h2 := (e3.trans e4) _ _ h2
  have rs2 := rs2.mono (e3.trans e4)
  have ee := e1.trans (e2.trans (e3.trans e4))
  cases tt with
  | false => exact ⟨a0, b0, vs, ws, rfl, .inl ⟨.inl (.inl (R4.fr.fz.ex h2 rfl)), .inl (.inl (R4.fr.fz.ex h4 rfl)), k F4 H3 _ _ env4 ee R4 (walks_zipL h2 h4 rs2 rs4) q4⟩⟩
  | true => exact ⟨a0, b0, vs, ws, rfl, .inr ⟨.inl (.inl (R4.fr.fz.ex h2 rfl)), .inl (.inl (R4.fr.fz.ex h4 rfl)), k F4 H3 _ _ env4 ee R4 (walks_zipT h2 h4 rs2 rs4) q4⟩⟩
end
end DL

set_option Elab.async false
set_option linter.all false
set_option maxRecDepth 100000
set_option maxHeartbeats 2000000
namespace DL
open PySem PySem.Spec PyProof.Rows L2
variable [ClsV]
section
variable {X : Cx} {E : L2.St → XK}
/-! ### what is never reached -/
def dNever : DS := fun _ _ => False
theorem ds_never {st : Stmt} : DSx X E st dNever := ⟨fun _ _ _ => False, ⟨fun _ _ _ _ _ _ h => h.elim⟩, fun L C F H σ env D Dd R h k x => h.elim⟩
def dNevE : DE := fun _ _ _ => False
theorem de_never {e : Expr} : DEx X E e dNevE := ⟨fun _ _ _ => False, ⟨fun _ _ _ _ _ _ h => h.elim⟩, fun L C F H σ env Q Qd Xd R h k x => h.elim⟩
end
end DL

set_option Elab.async false
set_option linter.all false
set_option maxRecDepth 100000
set_option maxHeartbeats 2000000
/-! Exceptions: raise, try, isinstance of what was caught, its fields. -/
namespace DL
open PySem PySem.Spec PyProof.Rows L2
variable [ClsV]
/-- the wish of a heap cell that bears an exception's object is kept by what keeps the cell -/
theorem excHO_st {a : Addr} {cls : Value} {d : Option Addr} (g g2 : Heap) : (∃ (oe : Obj) (vs : Array Value), g.get? a = some oe ∧ oe.cls = cls ∧ oe.dict = d ∧ oe.data = .fields vs) →
    (∀ o, g.get? a = some o → g2.get? a = some o) → ∃ (oe : Obj) (vs : Array Value), g2.get? a = some oe ∧ oe.cls = cls ∧ oe.dict = d ∧ oe.data = .fields vs
  | ⟨oe, vs, at', more⟩, k => ⟨oe, vs, k oe at', more⟩

/-- an exception that stands on the ground of X: st is the state ahead of it, now the state with it -/
structure Down (X : Cx) (pins : List (Addr × Obj)) (σ : L2.St) (H : Hp) (x : Addr) (cls : Value) (d : Option Addr) (G : Heap) (st now : Shared) : Prop where
  ours : Inv X pins σ H st
  held : ∀ b o, st.heap.get? b = some o → b ∉ frs X.stack → G.get? b = some o
  grew : st.heap.UpToSlots now.heap
  fly : HandSPX.FlyingZ G (X.env :: X.outer) x (Zc cls d) now.heap
  free : H x = none
  same : now.os = st.os
  bare : AllBare now.gens
section
variable {X : Cx} {pins : List (Addr × Obj)} {σ : L2.St} {H : Hp} {x : Addr} {cls : Value} {d : Option Addr} {G : Heap} {st now : Shared} {D : Ends}
theorem Down.inv (w : Down X pins σ H x cls d G st now) : Inv X pins σ H now := w.ours.landed w.held w.fly.1 w.grew w.same w.bare
theorem Down.on {g : Heap} (w : Down X pins σ H x cls d G st now) (f : HandSPX.FlyingZ G (X.env :: X.outer) x (Zc cls d) g) (u : now.heap.UpToSlots g) : Down X pins σ H x cls d G st { now with heap := g } :=
  { w with grew := w.grew.trans u, fly := f }
/-- no frame of the stack is the exception -/
theorem Down.notFrame (w : Down X pins σ H x cls d G st now) : x ∉ frs (X.env :: X.outer) := by
  intro inFrs
  obtain ⟨oe, vs, here, -, isF⟩ := w.fly.there
  obtain ⟨-, fr, there, notF⟩ := w.fly.2.2.1.mem inFrs
  have : fr = oe := Option.some.inj (there.symm.trans here)
  exact notF vs (this ▸ isF)
theorem Down.notLocals (w : Down X pins σ H x cls d G st now) (own : X.env.frame = some X.env.locals) : x ≠ X.env.locals := by
  rintro rfl
  refine w.notFrame ?_
  unfold frs
  rw [List.filterMap_cons, own]
  exact List.mem_cons_self
/-- it is new: it was not there ahead -/
theorem Down.isNew (w : Down X pins σ H x cls d G st now) (top : X.stack = X.env :: X.outer) : st.heap.get? x = none := by
  rcases q : st.heap.get? x with - | o
  · rfl
  · have inG := w.held x o q (top ▸ w.notFrame)
    exact absurd (inG.symm.trans w.fly.2.1) (by simp)
theorem Down.isNew0 (w : Down X pins σ H x cls d G st now) (top : X.stack = X.env :: X.outer) (noEx : X.ex = []) : X.s_0.heap.get? x = none := by
  rcases q : X.s_0.heap.get? x with - | o
  · rfl
  · obtain ⟨o2, still⟩ := w.ours.base.there x o q (noEx ▸ List.not_mem_nil)
    exact absurd (still.symm.trans (w.isNew top)) (by simp)
/-- from now on it is one of the objects that are followed -/
theorem Down.adopt (w : Down X pins σ H x cls d G st now) (top : X.stack = X.env :: X.outer) (own : X.env.frame = some X.env.locals) (noEx : X.ex = []) : Inv X pins σ (upd H x (excHO x cls d)) now := by
  have I := w.inv
  obtain ⟨oe, vs, here, zc, isF⟩ := w.fly.there
  have beside : ∀ {b : Addr} {o : HO}, H b = some o → upd H x (excHO x cls d) b = some o := fun {b o} q => (upd_ne (ne_of_none q w.free)).trans q
  have apart : ∀ {b : Addr}, b ≠ x → H b = none → upd H x (excHO x cls d) b = none := fun n q => (upd_ne n).trans q
  exact {
    ok := I.ok
    os := I.os
    bare := I.bare
    loc := I.loc
    cell := I.cell
    len := I.len
    free := apart (w.notLocals own).symm I.free
    freeC := fun y c q => apart (by
      rintro rfl
      obtain ⟨v, oc, at', isC⟩ := I.cell y c q
      rw [Option.some.inj (at'.symm.trans here), isF] at isC
      cases isC) (I.freeC y c q)
    pin := fun pr m => by
      obtain ⟨p1, p2, p3⟩ := I.pin pr m
      refine ⟨p1, apart ?_ p2, p3⟩
      rintro q
      have older := (w.ours.pin pr m).1
      rw [q, w.isNew top] at older
      cases older
    base := {
      keep := I.base.keep
      slot := I.base.slot
      there := I.base.there
      free := fun b o q n m => apart (by rintro rfl; rw [w.isNew0 top noEx] at q; cases q) (I.base.free b o q n m)
      tups := fun b l q => beside (I.base.tups b l q)
      frzs := fun b o u q => beside (I.base.frzs b o u q)
      tbls := fun b l q => (I.base.tbls b l q).imp fun _ z => beside z }
    hok := fun b o q => by
      by_cases isX : b = x
      · subst isX
        cases upd_same.symm.trans q
        exact ⟨⟨oe, vs, here, zc.1, zc.2, isF⟩, ⟨oe, here⟩, excHO_st⟩
      · exact (I.hok b o ((upd_ne isX).symm.trans q)).stay (fun _ _ _ z => z) (fun _ z => beside z) fun _ _ z => beside z }
/-- into an except suite, and out of it -/
theorem toSuite (I : Inv X pins σ H now) (x : Addr) : Inv (X.suite x (X.pn ++ pins)) [] σ H now :=
  { I with ok := I.ok.suite _ _, pin := fun pr m => I.pin pr (by simpa using m) }
theorem ofSuite {more : List (Addr × Obj)} (ok : X.Ok) (I : Inv (X.suite x (X.pn ++ pins)) more σ H now) : Inv X pins σ H now :=
  { I with ok := ok, pin := fun pr m => I.pin pr (List.mem_append.mpr (.inl m)) }
end

/-- a clause: its class, the slot of its name, its suite -/
abbrev Cl := Value × Option Nat × List Stmt
def bindA : Option Nat → Addr → L2.St → L2.St
  | none, _, σ => σ
  | some i, a, σ => σ.set i (some (.ref a))
def goneA : Option Nat → L2.St → L2.St
  | none, σ => σ
  | some i, σ => σ.set i none
def endsA (oi : Option Nat) (D : Ends) : Ends := { nx := fun σ H => D.nx (goneA oi σ) H, rt := D.rt, bk := fun σ H => D.bk (goneA oi σ) H, ct := fun σ H => D.ct (goneA oi σ) H }
def wCl (X : Cx) (Wout : WX) (D : Ends) : List Cl → WX
  | [] => Wout
  | (c, oi, su) :: r => fun cls d σ H => ∃ b, PySem.W.exmOne X.K cls c = some b ∧ (b = true → ∀ a, H a = none → ∀ pn, ∃ ts, PSs (X.suite a pn) su ts ∧ ts (endsA oi D) (bindA oi a σ) (upd H a (excHO a cls d))) ∧ (b = false → wCl X Wout D r cls d σ H)
/-- the name of a clause -/
def NmOk (X : Cx) : Option Nat → Option Str → Prop
  | none, none => True
  | some i, some n => X.N.Nodup ∧ X.N[i]? = some n ∧ X.env.kindOf n = some .local
  | _, _ => False
inductive ClsOk (X : Cx) : List ExceptHandler → List Cl → Prop
  | nil : ClsOk X [] []
  | cons {y : Str} {on : Option Str} {oi : Option Nat} {c : Value} {b₀ : Stmt} {suite : List Stmt} {np hp : Pos} {hds : List ExceptHandler} {l : List Cl} : Names X y c → NmOk X oi on → ClsOk X hds l →
      ClsOk X (.ExceptHandler (some (.Name y np)) on (b₀ :: suite) hp :: hds) ((c, oi, b₀ :: suite) :: l)
section
variable {X : Cx} {pins : List (Addr × Obj)} {σ : L2.St} {H : Hp} {x : Addr} {cls : Value} {d : Option Addr} {G : Heap} {st now : Shared} {D : Ends} {Wout : WX}
/-- no clause takes it: it flies on -/
theorem Down.flies (w : Down X pins σ H x cls d G st now) (top : X.stack = X.env :: X.outer) (own : X.env.frame = some X.env.locals) (tk : Takes X Wout) (q : Wout cls d σ H) :
    wpAny (model X.prog X.w) X.A (handleBy (.ref x) X.env []) (SP X pins D) X.xe now := by
  have onward : wpAny (model X.prog X.w) X.A (setFlight (.ref x) X.env.frame) (fun _ s2 => wpAny (model X.prog X.w) X.A (throw (.ref x) : Sem Flow) (SP X pins D) X.xe s2) X.xe now := by
    rw [own]
    exact HandSPX.setFlight_upZ w.fly fun g hd u => wpAny_throw (tk _ _ ⟨x, G, st, pins, σ, H, cls, d, rfl, w.ours, w.held, w.grew.trans u, .inr (.inr (top ▸ hd)), w.free, w.same, w.bare, q⟩)
  obtain ⟨-, -, -, oe, vs, T, -, -, here, -, isF, first, -⟩ := w.fly
  apply wpAny_handleBy_nil
  unfold PySem.passOn
  apply wpAny_bind
  apply wpAny_field here isF first
  rw [if_neg (by simp)]
  first
    | exact wpAny_bind (wpAny_pure (wpAny_bind onward))
    | exact wpAny_bind onward
/-- the class of a clause is read -/
theorem Down.reads (w : Down X pins σ H x cls d G st now) {y : Str} {c : Value} {np : Pos} (nm : Names X y c) {Q : Value → Shared → Prop} {E : Value → Shared → Prop} (q : Q c now) :
    wpAny (model X.prog X.w) (X.A.mark (some (.ref x))) (eval (.Name y np) X.env) Q E now := by
  have S := toSuite w.inv x
  rcases nm with ⟨gl, nd, own | ⟨no, boot, nn⟩⟩
  · exact ld_glob (X := X.suite x (X.pn ++ pins)) S gl own q nd
  · exact ld_blt (X := X.suite x (X.pn ++ pins)) S gl no boot q nn nd
theorem Down.kind (w : Down X pins σ H x cls d G st now) : PySem.W.Looks (model X.prog X.w) now.heap (typeOf (.ref x)) cls := by
  obtain ⟨oe, vs, here, zc, -⟩ := w.fly.there
  exact fun A Q E s keep q => wpAny_typeOf_ref (keep x oe here) (zc.1 ▸ q)
/-- one clause: its suite where it takes the exception, else what stands behind it -/
theorem Down.clause (w : Down X pins σ H x cls d G st now) (top : X.stack = X.env :: X.outer) (own : X.env.frame = some X.env.locals) (noEx : X.ex = []) {y : Str} {on : Option Str} {oi : Option Nat} {c : Value} {b₀ : Stmt} {suite : List Stmt} {np hp : Pos} {hds : List ExceptHandler} {b : Bool}
    (nm : Names X y c) (no : NmOk X oi on) (ans : PySem.W.exmOne X.K cls c = some b) (yes : b = true → ∀ pn, ∃ ts, PSs (X.suite x pn) (b₀ :: suite) ts ∧ ts (endsA oi D) (bindA oi x σ) (upd H x (excHO x cls d)))
    (rest : b = false → wpAny (model X.prog X.w) X.A (handleBy (.ref x) X.env hds) (SP X pins D) X.xe now) :
    wpAny (model X.prog X.w) X.A (handleBy (.ref x) X.env (.ExceptHandler (some (.Name y np)) on (b₀ :: suite) hp :: hds)) (SP X pins D) X.xe now := by
  have ok := w.inv.ok
  apply wpAny_handleBy_cons (codeAny_handlers_test (w.reads nm ((PySem.W.exm_one w.inv.kIn w.kind ans).here ?_))) (fun q => by cases q)
  rcases b with - | -
  · exact rest rfl
  obtain ⟨ts, runs, ready⟩ := yes rfl (X.pn ++ pins)
  match oi, on, no with
  | none, none, _ =>
    apply codeAny_handlers_suite
    apply HandSPX.lands_againZ w.fly
    intro g f u
    refine wpAny_mono (runs.run [] _ _ _ _ (toSuite ((w.on f u).adopt top own noEx) x) ready) ?_ fun _ _ never => never.elim
    rintro (- | - | - | v) s2 sp
    all_goals first
      | (obtain ⟨σ2, H2, J, q⟩ := sp; exact ⟨σ2, H2, ofSuite ok J, q⟩)
      | (obtain ⟨v2, σ2, H2, J, r, q⟩ := sp; exact ⟨v2, σ2, H2, ofSuite ok J, r, q⟩)
  | some i, some n, ⟨nd, ix, lo⟩ =>
    apply codeAny_handlers_suite_as
    apply HandSPX.lands_againZ w.fly
    intro g f u
    apply store_ok (X := X.suite x (X.pn ++ pins)) (v := .ref x) (toSuite ((w.on f u).adopt top own noEx) x) nd ix (.inl lo) rfl _ (.inr lo)
    intro s1 bound
    refine wpAny_mono (runs.run [] s1 _ _ _ bound ready) ?_ fun _ _ never => never.elim
    rintro (- | - | - | v) s2 sp
    all_goals first
      | (obtain ⟨σ2, H2, J, q⟩ := sp; exact gone_ok (ofSuite ok J) nd ix lo fun s3 J3 => ⟨_, H2, J3, q⟩)
      | (obtain ⟨v2, σ2, H2, J, r, q⟩ := sp; exact gone_ok (ofSuite ok J) nd ix lo fun s3 J3 => ⟨v2, _, H2, J3, r, q⟩)
theorem Down.clauses (w : Down X pins σ H x cls d G st now) (top : X.stack = X.env :: X.outer) (own : X.env.frame = some X.env.locals) (noEx : X.ex = []) (tk : Takes X Wout) : ∀ {hds : List ExceptHandler} {l : List Cl}, ClsOk X hds l → wCl X Wout D l cls d σ H →
    wpAny (model X.prog X.w) X.A (handleBy (.ref x) X.env hds) (SP X pins D) X.xe now
  | _, _, .nil, q => w.flies top own tk q
  | _, _, .cons nm no more, ⟨_, ans, yes, else'⟩ => w.clause top own noEx nm no ans (fun e => yes e x w.free) fun e => w.clauses top own noEx tk more (else' e)
/-- where an exception of the body comes -/
def caughtBy (X : Cx) (pins : List (Addr × Obj)) (D : Ends) (hs : List ExceptHandler) : Value → Shared → Prop := fun e t1 =>
  wpAny (model X.prog X.w) X.A (noteFrame e X.env) (fun _ t2 => wpAny (model X.prog X.w) X.A (setFlight e none) (fun _ t3 => wpAny (model X.prog X.w) X.A (handleBy e X.env hs) (SP X pins D) X.xe t3) X.xe t2) X.xe t1
/-- try .. except: a body that may raise, any clauses -/
theorem ps_tryC {body : List Stmt} {h₀ : ExceptHandler} {hds : List ExceptHandler} {l : List Cl} {pos : Pos} (top : X.stack = X.env :: X.outer) (own : X.env.frame = some X.env.locals) (noEx : X.ex = []) (tk : Takes X Wout) (hh : ClsOk X (h₀ :: hds) l) :
    PS X (.Try body (h₀ :: hds) [] [] pos) (fun D σ H => ∀ (pn : List (Addr × Obj)) (xe : Value → Shared → Prop), Takes (X.tr pn xe) (wCl X Wout D l) → PassesOwn (model X.prog X.w) X.A X.env xe → ∃ ts, PSs (X.tr pn xe) body ts ∧ ts D σ H) := by
  constructor
  intro pins s σ H D I h
  apply wpAny_Try_except
  refine Exists.elim (h (X.pn ++ pins) (caughtBy X pins D (h₀ :: hds)) (fun u s2 air => ?air) PassesOwn.looking) ?main
  case main =>
    rintro ts ⟨runs, ready⟩
    refine wpAny_mono (runs.run [] s σ H D (I.toTry _) ready) ?_ fun _ _ z => z
    rintro (- | - | - | v) s2 sp
    all_goals first
      | (obtain ⟨σ2, H2, J, q⟩ := sp; exact wpAny_execs_nil ⟨σ2, H2, J.ofTry I.ok, q⟩)
      | (obtain ⟨σ2, H2, J, q⟩ := sp; exact ⟨σ2, H2, J.ofTry I.ok, q⟩)
      | (obtain ⟨v2, σ2, H2, J, r, q⟩ := sp; exact ⟨v2, σ2, H2, J.ofTry I.ok, r, q⟩)
  case air =>
    obtain ⟨x, G, st, pins2, σ2, H2, cls, d, rfl, J, held, grew, sky, free, same, bare, q⟩ := air
    have frames : X.A.frames = some (X.env :: X.outer) := top ▸ I.ok.frames
    refine Sky.land Zc.steady frames own (top ▸ sky) fun g f u => ?_
    have w : Down X pins σ2 H2 x cls d G st { s2 with heap := g } := ⟨J.ofTry I.ok, held, grew.trans u, f, free, same, bare⟩
    exact w.clauses top own noEx tk hh q
end
end DL

set_option Elab.async false
set_option linter.all false
set_option maxRecDepth 100000
set_option maxHeartbeats 2000000
namespace DL
open PySem PySem.Spec PyProof.Rows L2
variable [ClsV]
/-! ### the own classes of exceptions -/
def subC (c x : Str) : Bool := decide (x = c) || (decide (x = "JoinError") || decide (x = "ValueError"))
def fieldOf (c : Str) : Str := if c = "Nought" then "at" else if c = "Bare" then "given" else if c = "Loose" then "thing" else if c = "Leans" then "place" else if c = "NoAnswer" then "places" else "row"
structure XCls (K : PySem.W.Frag) (mg : Str → Option Value) (J : Addr) (n : Str) (C : Addr) : Prop where
  mg : mg n = some (.ref C)
  ne : C ≠ J
  keeps : PySem.W.keepIn K (.ref C) = true
  mro : (PySem.W.clsIn K C).map (·.mro) = some (.ref C :: .ref J :: PySem.HandSPX.veTail)
  ty : PySem.W.typeIn K (.ref C) = some (.type "type")
  exc : ExcC K C
  fl : PySem.W.findIn K (.ref C) (fieldOf n) = some none
structure XTab (K : PySem.W.Frag) (mg : Str → Option Value) : Prop where
  J : ∃ J, mg "JoinError" = some (.ref J) ∧ (PySem.W.clsIn K J).isSome = true ∧ PySem.W.typeIn K (.ref J) = some (.type "type") ∧ PySem.W.subIn K (.ref J) (.type "BaseException") = some true ∧ ∀ n, ClsV.ok n → ∃ C, ClsV.v n = .ref C ∧ XCls K mg J n C
  inj : ∀ n m, ClsV.ok n → ClsV.ok m → ClsV.v n = ClsV.v m → n = m
  nj : ∀ n, ClsV.ok n → n ≠ "JoinError" ∧ n ≠ "ValueError"
section
variable {K : PySem.W.Frag} {mg : Str → Option Value} {J C : Addr} {n : Str}
theorem XCls.sub (h : XCls K mg J n C) (b : Value) : PySem.W.subIn K (.ref C) b = some ((Value.ref C :: .ref J :: PySem.HandSPX.veTail).contains b) := by
  show PySem.W.mroIn K C b = _
  unfold PySem.W.mroIn
  have e := h.mro
  rcases q : PySem.W.clsIn K C with - | cd
  · simp [q] at e
  · rw [q] at e
    have e2 : cd.mro = .ref C :: .ref J :: PySem.HandSPX.veTail := by simpa using e
    show (if cd.mro.isEmpty then none else some (cd.mro.contains b)) = _
    rw [e2]; rfl
theorem XCls.sm (h : XCls K mg J n C) : (PySem.W.clsIn K C).isSome = true := by
  have e := h.mro
  rcases q : PySem.W.clsIn K C with - | cd
  · simp [q] at e
  · rfl
theorem XCls.base (h : XCls K mg J n C) : PySem.W.subIn K (.ref C) (.type "BaseException") = some true := by
  rw [h.sub]; rfl
theorem contains_ref {C J D : Addr} : (Value.ref C :: .ref J :: PySem.HandSPX.veTail).contains (.ref D) = (decide (D = C) || decide (D = J)) := by
  have : ∀ a b : Addr, (Value.ref a == Value.ref b) = decide (a = b) := fun a b => by
    by_cases z : a = b
    · subst z; simp
    · rw [decide_eq_false z]; simpa using z
  show (Value.ref D == Value.ref C || (Value.ref D == Value.ref J || _)) = _
  rw [this, this]
  have z : (PySem.HandSPX.veTail).contains (Value.ref D) = false := by simp [PySem.HandSPX.veTail]
  cases hq : decide (D = C) <;> cases hr : decide (D = J) <;> first | rfl | exact z
/-- a class that is named: its value, what isinstance tells of it -/
structure CN (X : Cx) (x : Str) (v : V) (u : Value) : Prop where
  pe : ∀ pos, PE X (.Name x pos) (tC v)
  rel : ∀ u', RelV v u' → u' = u
  kit : ∀ c, ClsV.ok c → PySem.W.kitOne X.K (ClsV.v c) u = some (subC c x)
theorem kitOne_ref {C D : Addr} {b : Bool} (h1 : (PySem.W.clsIn K D).isSome = true) (h2 : PySem.W.typeIn K (.ref D) = some (.type "type")) (h3 : PySem.W.subIn K (.ref C) (.ref D) = some b) (h4 : C = D → b = true) : PySem.W.kitOne K (.ref C) (.ref D) = some b := by
  unfold PySem.W.kitOne
  by_cases z : C = D
  · subst z
    rw [if_pos (by simp), h4 rfl]
  · rw [if_neg (by simpa using z)]
    show (if ((PySem.W.clsIn K D).isSome && PySem.W.typeIn K (.ref D) == some (.type "type")) = true then PySem.W.subIn K (.ref C) (.ref D) else none) = _
    rw [if_pos (by rw [h1, h2]; rfl), h3]
variable {X : Cx}
theorem cn_ve (T : XTab X.K X.mg) (hg : Gl X "ValueError") (hm : X.mg "ValueError" = none) : ∃ v u, CN X "ValueError" v u := by
  refine ⟨.ty "ValueError", .type "ValueError", fun pos => pe_bltn hg hm PyProof.Rows.Boot.«ValueError» rfl, fun u h => h, fun c hc => ?_⟩
  obtain ⟨J, _, _, _, _, h⟩ := T.J
  obtain ⟨C, e, xc⟩ := h c hc
  rw [e]
  have e1 := xc.sub (.type "ValueError")
  have e2 : subC c "ValueError" = true := by unfold subC; simp
  rw [e2]
  show (if (Value.ref C == Value.type "ValueError") = true then some true else (if PySem.W.kitMeta "ValueError" = true then PySem.W.subIn X.K (.ref C) (.type "ValueError") else none)) = some true
  rw [if_neg (by simp), if_pos (by decide +kernel), e1]
  rfl
theorem cn_je (T : XTab X.K X.mg) (hg : Gl X "JoinError") : ∃ v u, CN X "JoinError" v u := by
  obtain ⟨J, h1, h2, h3, _, h⟩ := T.J
  refine ⟨.ref J, .ref J, fun pos => pe_glob hg h1 rfl, fun u h => h, fun c hc => ?_⟩
  obtain ⟨C, e, xc⟩ := h c hc
  rw [e, show subC c "JoinError" = true by unfold subC; simp]
  exact kitOne_ref h2 h3 (by rw [xc.sub, contains_ref]; simp) fun _ => rfl
theorem cn_own {x : Str} (T : XTab X.K X.mg) (hx : ClsV.ok x) (hg : Gl X x) (hd : (x == ("__debug__" : Str)) = false := by decide) : ∃ v u, CN X x v u := by
  obtain ⟨J, _, _, _, _, h⟩ := T.J
  obtain ⟨D, e, xd⟩ := h x hx
  refine ⟨.ref D, .ref D, fun pos => pe_glob hg xd.mg rfl hd, fun u h => h, fun c hc => ?_⟩
  obtain ⟨C, e2, xc⟩ := h c hc
  have hs : subC c x = decide (D = C) := by
    have nj := T.nj x hx
    unfold subC
    rw [decide_eq_false nj.1, decide_eq_false nj.2]
    by_cases z : x = c
    · subst z; rw [e] at e2; cases e2; simp
    · rw [decide_eq_false z, decide_eq_false fun q => z (T.inj x c hx hc (by rw [e, e2, q]))]; rfl
  rw [e2]
  refine kitOne_ref xd.sm xd.ty ?_ fun q => ?_
  · rw [xc.sub, contains_ref, hs, decide_eq_false xd.ne, Bool.or_false]
  · rw [hs, q]; simp
/-- a class in an except clause -/
structure CX1 (X : Cx) (x : Str) (u : Value) : Prop where
  nm : Names X x u
  exm : ∀ c, ClsV.ok c → PySem.W.exmOne X.K (ClsV.v c) u = some (subC c x)
theorem exm_of {C D : Addr} {b : Bool} (h0 : PySem.W.subIn K (.ref D) (.type "BaseException") = some true) (h1 : (PySem.W.clsIn K D).isSome = true) (h2 : PySem.W.typeIn K (.ref D) = some (.type "type")) (h3 : PySem.W.subIn K (.ref C) (.ref D) = some b) : PySem.W.exmOne K (.ref C) (.ref D) = some b := by
  unfold PySem.W.exmOne
  rw [if_pos (by rw [h0]; rfl)]
  show (if ((PySem.W.clsIn K D).isSome && PySem.W.typeIn K (.ref D) == some (.type "type")) = true then PySem.W.subIn K (.ref C) (.ref D) else none) = _
  rw [if_pos (by rw [h1, h2]; rfl), h3]
theorem cx_je (T : XTab X.K X.mg) (hg : Gl X "JoinError") : ∃ u, CX1 X "JoinError" u := by
  obtain ⟨J, h1, h2, h3, h4, h⟩ := T.J
  refine ⟨.ref J, ⟨hg, by decide, .inl h1⟩, fun c hc => ?_⟩
  obtain ⟨C, e, xc⟩ := h c hc
  rw [e, show subC c "JoinError" = true by unfold subC; simp]
  exact exm_of h4 h2 h3 (by rw [xc.sub, contains_ref]; simp)
theorem cx_own {x : Str} (T : XTab X.K X.mg) (hx : ClsV.ok x) (hg : Gl X x) (hd : (x == ("__debug__" : Str)) = false := by decide) : ∃ u, CX1 X x u := by
  obtain ⟨J, _, _, _, _, h⟩ := T.J
  obtain ⟨D, e, xd⟩ := h x hx
  refine ⟨.ref D, ⟨hg, hd, .inl xd.mg⟩, fun c hc => ?_⟩
  obtain ⟨C, e2, xc⟩ := h c hc
  have hs : subC c x = decide (D = C) := by
    have nj := T.nj x hx
    unfold subC
    rw [decide_eq_false nj.1, decide_eq_false nj.2]
    by_cases z : x = c
    · subst z; rw [e] at e2; cases e2; simp
    · rw [decide_eq_false z, decide_eq_false fun q => z (T.inj x c hx hc (by rw [e, e2, q]))]; rfl
  rw [e2]
  exact exm_of xd.base xd.sm xd.ty (by rw [xc.sub, contains_ref, hs, decide_eq_false xd.ne, Bool.or_false])
end

/-! ### isinstance of an exception, its fields -/
section
variable {a C : Addr} {d : Option Addr} {X : Cx} {pins : List (Addr × Obj)} {σ : L2.St} {H : Hp} {s : Shared}
theorem exc_inst (I : Inv X pins σ H s) (h : H a = some (excHO a (.ref C) d)) (hd : ∀ dd, d = some dd → ∃ fs, H dd = some (.xd fs)) : ∃ ox od, PySem.W.InstAt s.heap a ox C od := by
  obtain ⟨⟨oe, vs, h1, h2, h3, h4⟩, _⟩ := I.hok a _ h
  cases d with
  | none => exact ⟨oe, none, h1, h2, by unfold PySem.W.notCls; rw [h4] <;> rfl, by rw [h3]; trivial⟩
  | some dd =>
    obtain ⟨fs, hf⟩ := hd dd rfl
    obtain ⟨mA, hns, _⟩ := I.hok dd _ hf
    obtain ⟨od, ho, _⟩ := lookIn_ns hns
    exact ⟨oe, some od, h1, h2, by unfold PySem.W.notCls; rw [h4] <;> rfl, by rw [h3]; exact ho⟩
theorem kitX_of (T : XTab X.K X.mg) {c : Str} (hc : ClsV.ok c) (e : ClsV.v c = .ref C) {ox : Obj} {od : Option Obj} : PySem.W.KitX X.K (.ref a) (.ref C) (fun h => PySem.W.InstAt h a ox C od) := by
  obtain ⟨J, _, _, _, _, h⟩ := T.J
  obtain ⟨C', e', xc⟩ := h c hc
  rw [e] at e'; cases e'
  exact PySem.W.kitx_exc xc.sm xc.exc.hg xc.exc.hk xc.base xc.exc.ha xc.exc.hn xc.exc.ht xc.exc.hm
/-- isinstance(e, C) -/
def rIsX1 (K : PySem.W.Frag) : List V → Hp → VK → Prop := fun xs H Q => ∃ (c : Str) (a : Addr) (d : Option Addr) (y : V) (u : Value) (b : Bool), xs = [.ref a, y] ∧ ClsV.ok c ∧ H a = some (excHO a (ClsV.v c) d) ∧ (∀ dd, d = some dd → ∃ fs, H dd = some (.xd fs)) ∧ (∀ u', RelV y u' → u' = u) ∧ PySem.W.kitOne K (ClsV.v c) u = some b ∧ Q (.bl b) H
theorem call_isX1 (T : XTab X.K X.mg) : CallR X (.builtin "isinstance") (rIsX1 X.K) := by
  rintro pins s σ H xs us Q I r ⟨c, a, d, y, u, b, rfl, hc, ha, hd, hu, hk, q⟩
  obtain ⟨J, _, _, _, _, hj⟩ := T.J
  obtain ⟨C, e, xc⟩ := hj c hc
  rw [e] at ha hk
  cases r with
  | cons rx rr =>
    cases rr with
    | cons rt rr =>
      cases rr
      cases rx
      have ec := hu _ rt
      subst ec
      obtain ⟨ox, od, J⟩ := exc_inst I ha hd
      exact PySem.W.kia_one (kitX_of T hc e) I.kIn J hk (fun z => nomatch z) fun tk => ⟨.bl b, H, I.kept (t' := tk) fun _ _ z => z, rfl, q⟩
/-- isinstance(e, (C, ..)) -/
def rIsXs (K : PySem.W.Frag) : List V → Hp → VK → Prop := fun xs H Q => ∃ (c : Str) (a t : Addr) (d : Option Addr) (ys : List V) (us : List Value) (b : Bool), xs = [.ref a, .ref t] ∧ ClsV.ok c ∧ H a = some (excHO a (ClsV.v c) d) ∧ (∀ dd, d = some dd → ∃ fs, H dd = some (.xd fs)) ∧ H t = some (.tup ys) ∧ (∀ us', Vals ys us' → us' = us) ∧ PySem.W.kitAny K (ClsV.v c) us = some b ∧ Q (.bl b) H
theorem call_isXs (T : XTab X.K X.mg) : CallR X (.builtin "isinstance") (rIsXs X.K) := by
  rintro pins s σ H xs us Q I r ⟨c, a, t, d, ys, us', b, rfl, hc, ha, hd, ht, hu, hk, q⟩
  obtain ⟨J, _, _, _, _, hj⟩ := T.J
  obtain ⟨C, e, xc⟩ := hj c hc
  rw [e] at ha hk
  cases r with
  | cons rx rr =>
    cases rr with
    | cons rt rr =>
      cases rr
      cases rx
      cases rt
      obtain ⟨ox, od, J⟩ := exc_inst I ha hd
      obtain ⟨_, its, hv, ⟨ocl, odd, oda, osl⟩, h1, h2, n, h3⟩ := I.hok t _ ht
      have := hu its hv
      subst this
      dsimp only at h2 h3
      subst h2 h3
      exact PySem.W.kia_tup (kitX_of T hc e) I.kIn J h1 hk (fun z => nomatch z) fun tk => ⟨.bl b, H, I.kept (t' := tk) fun _ _ z => z, rfl, q⟩
/-- e.f -/
def tXfD (f : Str) (te : TE) : TE := fun σ H Q => te σ H fun x H1 => ∃ (c : Str) (a dd : Addr) (fs : List (Str × V)) (v : V), x = .ref a ∧ ClsV.ok c ∧ fieldOf c = f ∧ H1 a = some (excHO a (ClsV.v c) (some dd)) ∧ H1 dd = some (.xd fs) ∧ fs.lookup f = some v ∧ Q v H1
theorem pe_xfD {e : Expr} {te : TE} {pos : Pos} {n : Str} (T : XTab X.K X.mg) (he : PE X e te) (hb : attributeBase e n X.env (eval e X.env) = eval e X.env := by rfl) : PE X (.Attribute e n pos) (tXfD n te) := by
  constructor
  intro pins s0 σ H Q I0 h
  apply attr_of hb
  apply thn (he.run pins s0 σ H _ I0 h)
  rintro vx s ⟨y, H1, J, rel, c, a, dd, fs, v, rfl, okc, isF, atA, atD, has, q⟩
  cases rel
  obtain ⟨JE, -, -, -, -, own⟩ := T.J
  obtain ⟨C, ev, xc⟩ := own c okc
  rw [ev] at atA
  obtain ⟨⟨oe, vs, here, ofC, withD, data⟩, -⟩ := J.hok a _ atA
  obtain ⟨names, ns, told⟩ := J.hok dd _ atD
  obtain ⟨dict, there, look⟩ := lookIn_ns ns
  have toldN := told n
  rw [has] at toldN
  obtain ⟨val, isVal, rv⟩ := RelO.some_of toldN
  have inst : PySem.W.InstAt s.heap a oe C (some dict) := ⟨here, ofC, by unfold PySem.W.notCls; rw [data] <;> rfl, by rw [withD]; exact there⟩
  exact HandSPX.exc_get J.kIn inst xc.exc.hg xc.exc.hk xc.base (PySem.W.findObj_own xc.exc.hd (isF ▸ xc.fl) rfl (by rw [look, isVal])) (handed_of rv) ⟨v, H1, J.tok _, rv, q⟩
end
end DL

set_option Elab.async false
set_option linter.all false
set_option maxRecDepth 100000
set_option maxHeartbeats 2000000
namespace DL
open PySem PySem.Spec PyProof.Rows L2
variable [ClsV]
section
variable {L : Addr → Prop} {C : Cc} {F H F' H' : Hp} {σ : L2.St} {env : Env} {i : Nat} {d : Dat} {v : V} {p : Addr} {o : HO}
variable {X : Cx} {E : L2.St → XK} {e a b : Expr} {es : List Expr} {pos pp px tp : Pos} {da db de : DE} {dt : DT} {dr : DA} {ds dw : DS} {dsp : DSp} {x : Str} {k : Nat} {ps : List Str} {ms : List Bool}
/-! ### isinstance(e, C), isinstance(e, (C, ..)), e.f -/
def dIsX (xs : List Str) (de : DE) : DE := fun env Q X => de env (fun r env1 => match r with
  | .f (.exc c _) => Q (.f (.bl (xs.any (subC c)))) env1
  | _ => False) X
theorem Rep.ofExc {c : Str} {fs : Option (List (Str × Dat))} (r : Rep F v (.exc c fs)) (z : Fz F H) : ∃ a od, v = .ref a ∧ ClsV.ok c ∧ H a = some (excHO a (ClsV.v c) od) ∧ ∀ dd, od = some dd → ∃ vs, H dd = some (.xd vs) := by
  cases r with
  | exc o h => exact ⟨_, none, rfl, o, z.ex h rfl, fun dd z => by cases z⟩
  | excD o h h2 r => exact ⟨_, some _, rfl, o, z.ex h rfl, fun dd q => by cases q; exact ⟨_, z.ex h2 rfl⟩⟩
theorem de_isX1 (hg : Gl X "isinstance") (hm : X.mg "isinstance" = none) (T : XTab X.K X.mg) (hx : ∃ v u, CN X x v u) (he : DEx X E e de) (hs : starEach [e, .Name x px] X.env = (false, eval e X.env) :: starEach [.Name x px] X.env := by rfl)
    (hs2 : starEach [.Name x px] X.env = (false, eval (.Name x px) X.env) :: starEach [] X.env := by rfl) (hpl : (backTo pos (starEach [.Name x px] X.env)).any (·.1) = false := by rfl) : DEx X E (.Call (.Name "isinstance" pp) [e, .Name x px] [] pos) (dIsX [x] de) := by
  obtain ⟨v, u, cn⟩ := hx
  obtain ⟨t, p, s⟩ := he.ex
  refine ⟨_, pe_callB (call_isX1 T) hg hm (by decide +kernel) (pa_cons p (pa_cons (cn.pe px) pa_nil hs2) hs) (he := hs) (hpl := hpl), fun L C F H σ env Q Qd Xd R h k xx => s L C F H σ env _ _ Xd R h (fun F1 H1 v1 r1 env1 e1 R1 rv q => ?_) xx⟩
  split at q
  · next c fs =>
    obtain ⟨a, od, rfl, hc, ha, hd⟩ := Rep.ofExc (show Rep F1 v1 (.exc c fs) from rv) R1.fr.fz
    refine ⟨c, a, od, v, u, subC c x, rfl, hc, ha, hd, cn.rel, cn.kit c hc, k F1 H1 _ (.f (.bl (subC c x))) env1 e1 R1 (Rep.bl _) ?_⟩
    simpa using q
  · exact q.elim
inductive CNl (X : Cx) : List Expr → List Str → List V → List Value → Prop
  | nil : CNl X [] [] [] []
  | cons {x : Str} {p : Pos} {v : V} {u : Value} {es : List Expr} {xs : List Str} {vs : List V} {us : List Value} : CN X x v u → CNl X es xs vs us → CNl X (.Name x p :: es) (x :: xs) (v :: vs) (u :: us)
def tNms : List V → TA
  | [] => tNil
  | v :: vs => tCons (tC v) (tNms vs)
theorem CNl.pa : ∀ {es : List Expr} {xs : List Str} {vs : List V} {us : List Value}, CNl X es xs vs us → PA X es (tNms vs)
  | _, _, _, _, .nil => pa_nil
  | _, _, _, _, .cons h r => pa_cons (h.pe _) r.pa
theorem CNl.rel : ∀ {es : List Expr} {xs : List Str} {vs : List V} {us : List Value}, CNl X es xs vs us → ∀ us', Vals vs us' → us' = us
  | _, _, _, _, .nil, _, .nil => rfl
  | _, _, _, _, .cons h r, _, .cons a t => by rw [h.rel _ a, r.rel _ t]
theorem CNl.kit {c : Str} (hc : ClsV.ok c) : ∀ {es : List Expr} {xs : List Str} {vs : List V} {us : List Value}, CNl X es xs vs us → PySem.W.kitAny X.K (ClsV.v c) us = some (xs.any (subC c))
  | _, _, _, _, .nil => rfl
  | _, _, _, _, @CNl.cons _ _ x p v u es xs vs us h r => by
    unfold PySem.W.kitAny
    rw [h.kit c hc, List.any_cons]
    cases subC c x with
    | true => rfl
    | false => exact r.kit hc
theorem tNms_run : ∀ (vs : List V) (σ : L2.St) (H : Hp) (Q : List V → Hp → Prop), Q vs H → tNms vs σ H Q
  | [], _, _, _, h => h
  | v :: vs, σ, H, Q, h => tNms_run vs σ H (fun xs H2 => Q (v :: xs) H2) h
theorem de_isXs {xs : List Str} {kk : Nat} (hg : Gl X "isinstance") (hm : X.mg "isinstance" = none) (T : XTab X.K X.mg) (hx : ∃ vs us, CNl X es xs vs us) (he : DEx X E e de) (hl : es.length ≤ 1000 := by decide) (hs : starEach [e, .Tuple es kk tp] X.env = (false, eval e X.env) :: starEach [.Tuple es kk tp] X.env := by rfl)
    (hs2 : starEach [.Tuple es kk tp] X.env = (false, eval (.Tuple es kk tp) X.env) :: starEach [] X.env := by rfl) (hpl : (backTo pos (starEach [.Tuple es kk tp] X.env)).any (·.1) = false := by rfl) : DEx X E (.Call (.Name "isinstance" pp) [e, .Tuple es kk tp] [] pos) (dIsX xs de) := by
  obtain ⟨vs, us, cn⟩ := hx
  obtain ⟨t, p, s⟩ := he.ex
  refine ⟨_, pe_callB (call_isXs T) hg hm (by decide +kernel) (pa_cons p (pa_cons (pe_tup cn.pa) pa_nil hs2) hs) (he := hs) (hpl := hpl), fun L C F H σ env Q Qd Xd R h k xx => s L C F H σ env _ _ Xd R h (fun F1 H1 v1 r1 env1 e1 R1 rv q => ?_) xx⟩
  split at q
  · next c fs =>
    refine tNms_run vs σ H1 _ ⟨?_, fun t ht => ?_⟩
    · have : ∀ {es : List Expr} {xs : List Str} {vs : List V} {us : List Value}, CNl X es xs vs us → vs.length = es.length := by
        intro es xs vs us h
        induction h with
        | nil => rfl
        | cons _ _ ih => simp [ih]
      rw [this cn]
      exact line_ok (by omega)
    · have g := R1.fr.grF ht (.tup vs)
      have R2 := R1.grow g
      obtain ⟨a, od, rfl, hc, ha, hd⟩ := Rep.ofExc (Rep.mono g.fx (show Rep F1 v1 (.exc c fs) from rv)) R2.fr.fz
      exact ⟨c, a, t, od, vs, us, xs.any (subC c), rfl, hc, ha, hd, upd_same, cn.rel, cn.kit hc, k _ _ _ (.f (.bl (xs.any (subC c)))) env1 (e1.trans g.fx) R2 (Rep.bl _) q⟩
  · exact q.elim
def luF (fs : List (Str × Dat)) (f : Str) : Option Dat := fs.lookup f
def dXf (f : Str) (de : DE) : DE := fun env Q X => de env (fun r env1 => match r with
  | .f (.exc c (some fs)) => fieldOf c = f ∧ Got (luF fs f) fun d => Q (.f d) env1
  | _ => False) X
theorem RepF.look {vs : List (Str × V)} {ds : List (Str × Dat)} {f : Str} : RepF F vs ds → ∀ {d : Dat}, ds.lookup f = some d → ∃ v, vs.lookup f = some v ∧ Rep F v d
  | .nil, _, h => by cases h
  | .cons (k := k') r t, d, h => by
    rw [List.lookup_cons] at h ⊢
    by_cases z : f = k'
    · subst z
      rw [show (f == f) = true by simp] at h ⊢
      cases h
      exact ⟨_, rfl, r⟩
    · rw [show (f == k') = false by simpa using z] at h ⊢
      exact t.look h
theorem de_xf {f : Str} (T : XTab X.K X.mg) (he : DEx X E e de) (hb : attributeBase e f X.env (eval e X.env) = eval e X.env := by rfl) : DEx X E (.Attribute e f pos) (dXf f de) := by
  obtain ⟨t, p, s⟩ := he.ex
  refine ⟨_, pe_xfD T p hb, fun L C F H σ env Q Qd Xd R h k xx => s L C F H σ env _ _ Xd R h (fun F1 H1 v1 r1 env1 e1 R1 rv q => ?_) xx⟩
  split at q
  · next c fs =>
    obtain ⟨hf, q⟩ := q
    obtain ⟨d, hd, q⟩ := q.ex
    have rv : Rep F1 v1 (.exc c (some fs)) := rv
    cases rv with
    | excD o h h2 r =>
      obtain ⟨v, hv, rd⟩ := r.look hd
      exact ⟨c, _, _, _, v, rfl, o, hf, R1.fr.fz.ex h rfl, R1.fr.fz.ex h2 rfl, hv, k F1 H1 v (.f d) env1 e1 R1 rd q⟩
  · exact q.elim

/-! ### the call of a def that may raise -/
structure CalX (P : Program) (w : World) (K : PySem.W.Frag) (mg : Str → Option Value) (base : Heap) (k : Nat) (x : Str) (ps : List Str) (dsp : DSp) : Prop where
  ex : ∃ f fd, FnOk P w K mg base (L2.CX P w) k f fd ps (lift dsp) ∧ mg x = some (.ref f) ∧ PySem.W.keepIn K (.ref f) = true ∧ Binds K fd ps []
abbrev Tk (X : Cx) (E : L2.St → XK) : Prop := Takes X (fun cls d σ H => E σ cls d H)
def dCallX (ms : List Bool) (dsp : DSp) (dr : DA) : DE := fun env Q X => dr env (fun rs env1 => okLoans ms rs = true ∧ withD (argsOf env1 ms rs) fun as =>
  dsp as (fun r ds => immOk (frzI ms rs) r ds ∧ Q r (putOuts env1 ms rs ds)) (fun c fds ds => immOkX (frzI ms rs) fds ds ∧ X c fds (putOuts env1 ms rs ds))) X
theorem se_callX {ta : TA} (s : SA E ta dr) : SE E (tCallS (lift dsp) E ta) (dCallX ms dsp dr) := fun L C F H σ env Q Qd Xd R h kk xx =>
  s L C F H σ env _ _ Xd R h (fun F1 H1 vs rs env1 e1 R1 av q => by
    obtain ⟨hok, q⟩ := q
    obtain ⟨as, ha, q⟩ := withD_of q
    obtain ⟨C', hC, fr', inj, ao, out⟩ := call_ok (ms := ms) R1 av ha hok
    refine ⟨L, C', as, _, _, hC, fr', inj, ao, q, fun r ds F' H' v hq fr2 rr oo => ?_, fun cls fds ds F' H' od hq fr2 xf okc oo => ?_⟩
    · obtain ⟨hi, hq⟩ := hq
      have hi' := immOk_nil hi
      obtain ⟨F2, e2, R2, k2, kn, h0⟩ := out F' H' ds fr2 oo (hi'.imp id fun z => z.2)
      exact kk F2 H' v r _ (e1.trans e2) R2 (rr_back hC h0 rr k2 kn (hi'.imp id fun z => z.1)) hq
    · obtain ⟨hi, hq⟩ := hq
      have hi' := immOkX_nil hi
      obtain ⟨F2, e2, R2, k2, kn, h0⟩ := out F' H' ds fr2 oo (hi'.imp id fun z => z.2)
      refine xx F2 H' σ _ cls od fds (e1.trans e2) R2 ?_ okc hq
      cases od with
      | none => cases fds with
        | none => trivial
        | some fs => exact xf.elim
      | some dd => cases fds with
        | none => exact xf.elim
        | some fs =>
          obtain ⟨ws, h1, h2⟩ := xf
          refine ⟨ws, k2 _ _ h1 (.inl rfl), ?_⟩
          rcases hi' with z | z
          · exact RepF.mono (fun q o e => k2 q o e (.inr z)) h2
          · exact imm_repF (fun q o e t => k2 q o e (.inl t)) z.1 h2) xx
theorem de_callX (ms : List Bool) (c : CalX X.prog X.w X.K X.mg X.base k x ps dsp) (hr : Room k X.A) (hg : Gl X x) (tk : Tk X E) (ha : DAx X E (e :: es) dr) (hdb : (x == ("__debug__" : Str)) = false := by decide) (he : starEach (e :: es) X.env = (false, eval e X.env) :: starEach es X.env := by rfl) (hpl : (backTo pos (starEach es X.env)).any (·.1) = false := by rfl) :
    DEx X E (.Call (.Name x pp) (e :: es) [] pos) (dCallX ms dsp dr) := by
  obtain ⟨f, fd, G, hm, hk, hb⟩ := c.ex
  obtain ⟨t, p, s⟩ := ha.ex
  exact ⟨_, pe_callS G hr hg hm hk hb (fun σ => passAt tk σ) p hdb he hpl, se_callX s⟩

/-! ### raise -/
abbrev DM := Env → XD → Prop
structure DMx (X : Cx) (E : L2.St → XK) (e : Expr) (dm : DM) : Prop where
  ex : ∃ t, PMk X e t ∧ ∀ (L : Addr → Prop) (C : Cc) (F H : Hp) (σ : L2.St) (env : Env) (Q : XK) (Xd : XD), Rl L C F H σ env → dm env Xd → XOk L C F E Xd →
    (∀ F' H' cls od fds env', Ex F F' → Rl L C F' H' σ env' → XF F' od fds → ClsV.ok cls → Xd cls fds env' → Q (ClsV.v cls) od H') → t σ H Q
def dRaise (dm : DM) : DS := fun D env => dm env D.xr
theorem ds_raise {dm : DM} (hc : X.calm = true) (tk : Tk X E) (he : DMx X E e dm) : DSx X E (.Raise (some e) none pos) (dRaise dm) := by
  obtain ⟨t, p, s⟩ := he.ex
  exact ⟨_, ps_raise hc tk p, fun L C F H σ env D Dd R h k xx => s L C F H σ env _ _ R h xx fun F' H' cls od fds env' e R' xf o hx => xx F' H' σ env' cls od fds e R' xf o hx⟩
def dMkT (n : Str) : DM := fun env X => X n none env
theorem dm_text {n m : Str} {j : Nat} {p p2 pos : Pos} (T : XTab X.K X.mg) (hn : ClsV.ok n) (q : ∀ C, ClsV.v n = .ref C → PySem.W.excIn X.K C PySem.HandSPX.veTail "ValueError.__new__" = true) (hg : Gl X n) (hdb : (n == ("__debug__" : Str)) = false := by decide) :
    DMx X E (.Call (.Name n p) [.Constant (.str m) j p2] [] pos) (dMkT n) := by
  obtain ⟨J, _, _, _, _, h⟩ := T.J
  obtain ⟨C, e, xc⟩ := h n hn
  refine ⟨_, pmk_own PySem.F.excBase_ValueError (q C e) xc.mg xc.keeps (raises_own xc.base xc.ty) hg hdb, fun L C' F H σ env Q Xd R hx xx k => ?_⟩
  have := k F H n none none env (Ex.refl F) R trivial hn hx
  rw [e] at this
  exact this
/-- the own __init__ of a class with one field -/
def spIni (K : PySem.W.Frag) (f : Str) : Sp := fun vs H Q _ => ∃ (a C : Addr) (v : V), vs = [.ref a, v] ∧ OexC K C ∧ PySem.W.findIn K (.ref C) f = some none ∧ H a = some (exo a C none) ∧ ∀ dx, H dx = none → dx ≠ a → Q .non (upd (upd H dx (exd dx [(f, v)])) a (exo a C (some dx)))
structure XMk (P : Program) (w : World) (K : PySem.W.Frag) (mg : Str → Option Value) (base : Heap) (n : Str) (sp : Sp) : Prop where
  ok : ClsV.ok n
  ex : ∃ (C fI : Addr) (fd : FuncData) (ps : List Str), ClsV.v n = .ref C ∧ mg n = some (.ref C) ∧ OexC K C ∧ PySem.W.findIn K (.ref C) "__init__" = some (some (.ref fI)) ∧ PySem.W.typeIn K (.ref fI) = some (.type "function") ∧ FnOk P w K mg base CX0 1 fI fd ps sp ∧ Binds K fd ps [] ∧ PySem.W.findIn K (.ref C) (fieldOf n) = some none
def dMkF (n : Str) (dr : DA) : DM := fun env X => dr env (fun rs env1 => match rs with
  | [.f d] => X n (some [(fieldOf n, d)]) env1
  | _ => False) X
theorem mk_heap {H1 : Hp} {a dx : Addr} {o1 o2 o3 o4 : HO} (ha : H1 a = none) (nd : dx ≠ a) : upd (del (upd (upd (upd H1 a o1) dx o2) a o3) a) dx o4 = upd H1 dx o4 := by
  funext b
  by_cases z : b = dx
  · subst z; rw [upd_same, upd_same]
  · rw [upd_ne z, upd_ne z]
    by_cases y : b = a
    · subst y; rw [del_same, ha]
    · rw [del_ne y, upd_ne y, upd_ne z, upd_ne y]
theorem dm_field {n : Str} {p pos : Pos} {k : Nat} (M : XMk X.prog X.w X.K X.mg X.base n (spIni X.K (fieldOf n))) (hr : Room (k + 2) X.A) (hg : Gl X n) (ha : DAx X E [e] dr)
    (hdb : (n == ("__debug__" : Str)) = false := by decide) (he : starEach [e] X.env = (false, eval e X.env) :: starEach [] X.env := by rfl) (hpl : (backTo pos (starEach [] X.env)).any (·.1) = false := by rfl) :
    DMx X E (.Call (.Name n p) [e] [] pos) (dMkF n dr) := by
  obtain ⟨hn, C, fI, fd, ps, e1, hm, T, iC, tI, G, hb, hfl⟩ := M
  obtain ⟨t, pa, s⟩ := ha.ex
  refine ⟨_, pmk_oex T iC tI G (hr.mono (by omega)) hb .nil pass0 hg hm pa hdb he hpl, fun L C' F H σ env Q Xd R hx xx kq => s L C' F H σ env _ _ Xd R hx (fun F1 H1 vs rs env1 ex1 R1 av q => ?_) xx⟩
  split at q
  · next d =>
    cases av with
    | @cons v0 _ _ _ r t =>
      cases t
      refine ⟨by simp, fun a0 ha0 => ⟨a0, C, _, rfl, T, hfl, upd_same, fun dx hdx ndx => ⟨rfl, dx, _, upd_same, by rw [upd_ne ndx, upd_same], ?_, ?_⟩⟩⟩
      · rw [upd_ne ndx] at hdx; exact hdx
      · have hd1 : H1 dx = none := by rw [upd_ne ndx] at hdx; exact hdx
        rw [mk_heap ha0 ndx]
        have g := R1.fr.grF hd1 (.xd [(fieldOf n, v0)])
        have := kq _ _ n (some dx) (some [(fieldOf n, d)]) env1 (ex1.trans g.fx) (R1.grow g) ⟨_, upd_same, .cons (Rep.mono g.fx r) .nil⟩ hn q
        rw [e1] at this
        exact this
  · exact q.elim

/-! ### try -/
abbrev DCl := Str × Option Nat × DS
def bindD : Option Nat → Str → Option (List (Str × Dat)) → Env → Env
  | none, _, _, env => env
  | some i, c, fs, env => env.set i (some (.f (.exc c fs)))
def goneD : Option Nat → Env → Env
  | none, env => env
  | some i, env => env.set i none
def endsD (oi : Option Nat) (D : DEnds) : DEnds := { nx := fun env => D.nx (goneD oi env), rt := D.rt, bk := fun env => D.bk (goneD oi env), ct := fun env => D.ct (goneD oi env) }
def dCl (D : DEnds) : List DCl → XD
  | [] => D.xr
  | (x, oi, su) :: r => fun c fds env => IfB (subC c x) (su (endsD oi D) (bindD oi c fds env)) (dCl D r c fds env)
def dTry (ds : DS) (l : List DCl) : DS := fun D env => ds { D with xr := dCl D l } env
inductive ClD (X : Cx) : List ExceptHandler → List Cl → List DCl → Prop
  | nil : ClD X [] [] []
  | no {x : Str} {u : Value} {su : DS} {b₀ : Stmt} {suite : List Stmt} {np pos' : Pos} {hds : List ExceptHandler} {l : List Cl} {dl : List DCl} (hc : CX1 X x u) (hsu : ∀ (a : Addr) (pn : List (Addr × Obj)), DSs (X.suite a pn) noE (b₀ :: suite) su) (r : ClD X hds l dl) :
      ClD X (.ExceptHandler (some (.Name x np)) none (b₀ :: suite) pos' :: hds) ((u, none, b₀ :: suite) :: l) ((x, none, su) :: dl)
  | as {x n : Str} {i : Nat} {u : Value} {su : DS} {b₀ : Stmt} {suite : List Stmt} {np pos' : Pos} {hds : List ExceptHandler} {l : List Cl} {dl : List DCl} (hc : CX1 X x u) (hN : X.N.Nodup) (hi : X.N[i]? = some n) (hln : X.env.kindOf n = some .local)
      (hsu : ∀ (a : Addr) (pn : List (Addr × Obj)), DSs (X.suite a pn) noE (b₀ :: suite) su) (r : ClD X hds l dl) :
      ClD X (.ExceptHandler (some (.Name x np)) (some n) (b₀ :: suite) pos' :: hds) ((u, some i, b₀ :: suite) :: l) ((x, some i, su) :: dl)
theorem ClD.ok : ∀ {hds : List ExceptHandler} {l : List Cl} {dl : List DCl}, ClD X hds l dl → ClsOk X hds l
  | _, _, _, .nil => .nil
  | _, _, _, .no hc _ r => .cons hc.nm trivial r.ok
  | _, _, _, .as hc a b c _ r => .cons hc.nm ⟨a, b, c⟩ r.ok
structure DHs (X : Cx) (hds : List ExceptHandler) (dl : List DCl) : Prop where
  ex : ∃ l, ClD X hds l dl
theorem dh_nil : DHs X [] [] := ⟨_, .nil⟩
theorem dh_no {su : DS} {b₀ : Stmt} {suite : List Stmt} {np pos' : Pos} {hds : List ExceptHandler} {dl : List DCl} (hc : ∃ u, CX1 X x u) (hsu : ∀ (a : Addr) (pn : List (Addr × Obj)), DSs (X.suite a pn) noE (b₀ :: suite) su) (r : DHs X hds dl) :
    DHs X (.ExceptHandler (some (.Name x np)) none (b₀ :: suite) pos' :: hds) ((x, none, su) :: dl) := by
  obtain ⟨u, hc⟩ := hc
  obtain ⟨l, r⟩ := r.ex
  exact ⟨_, .no hc hsu r⟩
theorem dh_as {n : Str} {i : Nat} {su : DS} {b₀ : Stmt} {suite : List Stmt} {np pos' : Pos} {hds : List ExceptHandler} {dl : List DCl} (hc : ∃ u, CX1 X x u) (hN : X.N.Nodup) (hi : X.N[i]? = some n) (hln : X.env.kindOf n = some .local)
    (hsu : ∀ (a : Addr) (pn : List (Addr × Obj)), DSs (X.suite a pn) noE (b₀ :: suite) su) (r : DHs X hds dl) :
    DHs X (.ExceptHandler (some (.Name x np)) (some n) (b₀ :: suite) pos' :: hds) ((x, some i, su) :: dl) := by
  obtain ⟨u, hc⟩ := hc
  obtain ⟨l, r⟩ := r.ex
  exact ⟨_, .as hc hN hi hln hsu r⟩
theorem rl_bind {c : Str} {fds : Option (List (Str × Dat))} {od : Option Addr} (R : Rl L C F H σ env) (xf : XF F od fds) (hc : ClsV.ok c) (ha : H p = none) (oi : Option Nat) :
    ∃ F2, Ex F F2 ∧ Rl L C F2 (upd H p (excHO p (ClsV.v c) od)) (bindA oi p σ) (bindD oi c fds env) := by
  have g := R.fr.grF ha (excHO p (ClsV.v c) od)
  have R2 := R.grow g
  refine ⟨_, g.fx, ?_⟩
  cases oi with
  | none => exact R2
  | some i =>
    refine R2.setF ?_ i
    cases od with
    | none => cases fds with
      | none => exact .exc hc upd_same
      | some fs => exact xf.elim
    | some dd => cases fds with
      | none => exact xf.elim
      | some fs =>
        obtain ⟨vs, h1, h2⟩ := xf
        exact .excD hc upd_same (g.fx _ _ h1) (RepF.mono g.fx h2)
theorem rl_gone (R : Rl L C F H σ env) (oi : Option Nat) : Rl L C F H (goneA oi σ) (goneD oi env) := by
  cases oi with
  | none => exact R
  | some i => exact R.drop i none
theorem endsOk_gone {D : Ends} {Dd : DEnds} (k : EndsOk L C F D Dd) (oi : Option Nat) : EndsOk L C F (endsA oi D) (endsD oi Dd) :=
  ⟨fun F' H' σ' env' e R' q => k.nx F' H' _ _ e (rl_gone R' oi) q, k.rt, fun F' H' σ' env' e R' q => k.bk F' H' _ _ e (rl_gone R' oi) q, fun F' H' σ' env' e R' q => k.ct F' H' _ _ e (rl_gone R' oi) q⟩
theorem xok_cl {D : Ends} {Dd : DEnds} (k : EndsOk L C F D Dd) (xx : XOk L C F E Dd.xr) : ∀ {hds : List ExceptHandler} {l : List Cl} {dl : List DCl}, ClD X hds l dl → XOk L C F (WE (wCl X (fun cls d σ H => E σ cls d H) D l)) (dCl Dd dl)
  | _, _, _, .nil => xx
  | _, _, _, @ClD.no _ _ x u su b₀ suite np pos' hds l dl hc hsu r => fun F' H' σ' env' c od fds ex R' xf okc h => by
    refine ⟨subC c x, hc.exm c okc, fun hb a ha pn => ?_, fun hb => xok_cl k xx r F' H' σ' env' c od fds ex R' xf okc (h.2 hb)⟩
    obtain ⟨ts, ps, ss⟩ := (hsu a pn).ex
    obtain ⟨F2, e2, R2⟩ := rl_bind R' xf okc ha none
    exact ⟨ts, ps, ss L C F2 _ _ _ _ _ R2 (h.1 hb) ((endsOk_gone k none).mono (ex.trans e2)) fun _ _ _ _ _ _ _ _ _ _ _ z => z.elim⟩
  | _, _, _, @ClD.as _ _ x n i u su b₀ suite np pos' hds l dl hc _ _ _ hsu r => fun F' H' σ' env' c od fds ex R' xf okc h => by
    refine ⟨subC c x, hc.exm c okc, fun hb a ha pn => ?_, fun hb => xok_cl k xx r F' H' σ' env' c od fds ex R' xf okc (h.2 hb)⟩
    obtain ⟨ts, ps, ss⟩ := (hsu a pn).ex
    obtain ⟨F2, e2, R2⟩ := rl_bind R' xf okc ha (some i)
    exact ⟨ts, ps, ss L C F2 _ _ _ _ _ R2 (h.1 hb) ((endsOk_gone k (some i)).mono (ex.trans e2)) fun _ _ _ _ _ _ _ _ _ _ _ z => z.elim⟩
theorem ds_try {body : List Stmt} {h₀ : ExceptHandler} {hds : List ExceptHandler} {dl : List DCl} (hs : X.stack = X.env :: X.outer) (hf : X.env.frame = some X.env.locals) (hex : X.ex = []) (tk : Tk X E)
    (hb : ∀ (W : WX) (pn : List (Addr × Obj)) (xe : Value → Shared → Prop), Tk (X.tr pn xe) (WE W) → PassesOwn (model X.prog X.w) X.A X.env xe → DSs (X.tr pn xe) (WE W) body ds)
    (hh : DHs X (h₀ :: hds) dl) : DSx X E (.Try body (h₀ :: hds) [] [] pos) (dTry ds dl) := by
  obtain ⟨l, cl⟩ := hh.ex
  refine ⟨_, ps_tryC hs hf hex tk cl.ok, fun L C F H σ env D Dd R h k xx pn xe tk2 po => ?_⟩
  obtain ⟨ts, ps, ss⟩ := (hb _ pn xe tk2 po).ex
  exact ⟨ts, ps, ss L C F H σ env D { Dd with xr := dCl Dd dl } R h ⟨k.nx, k.rt, k.bk, k.ct⟩ (xok_cl k xx cl)⟩

/-! ### a def that may raise -/
/-- a call of such a def where it raises nothing -/
theorem de_callX0 (ms : List Bool) (c : CalX X.prog X.w X.K X.mg X.base k x ps dsp) (hr : Room k X.A) (hg : Gl X x) (ha : DAx X E (e :: es) dr) (hdb : (x == ("__debug__" : Str)) = false := by decide) (he : starEach (e :: es) X.env = (false, eval e X.env) :: starEach es X.env := by rfl) (hpl : (backTo pos (starEach es X.env)).any (·.1) = false := by rfl) :
    DEx X E (.Call (.Name x pp) (e :: es) [] pos) (dCall0 ms dsp dr) := by
  obtain ⟨f, fd, G, hm, hk, hb⟩ := c.ex
  obtain ⟨t, p, s⟩ := ha.ex
  exact ⟨_, pe_call G hr hg hm hk hb .nil (E := fun _ _ _ => False) (fun _ _ _ _ _ _ _ h => by obtain ⟨_, _, _, _, _, _, _, _, _, _, _, _, z⟩ := h; exact z.elim) p hdb he hpl, se_call0 s⟩
def xrD (as : List Ar) (X : Str → Option (List (Str × Dat)) → List Dat → Prop) : XD := fun c fds env => withD (outs as env) (X c fds)
variable {mg : Str → Option Value} {base : Heap} {K : PySem.W.Frag} {w : World} {P : Program}
theorem def_calX {qual : Str} {st : Stmt} {f : Addr} {fd : FuncData} {N ps : List Str} {k : Nat} {dsp : DSp} {rd : DS} (Fn : Fun K x qual st f fd) (S : FnScope N ps (defScope st)) (hm : mg x = some (.ref f)) (hb : Binds K fd ps [])
    (hd : ∀ (cdv : Value) (A : Around) (outer : List PySem.Env) (s : Shared) (H : Hp) (E : XK), Room k (A.deeper (envOfC qual (defScope st) s.heap.objs.size f cdv)) →
      Tk (cxOf (L2.CX P w) P w K mg base N qual (defScope st) f cdv A outer s H E) (fun _ => E) →
      PassesOwn (model P w) (cxOf (L2.CX P w) P w K mg base N qual (defScope st) f cdv A outer s H E).A (cxOf (L2.CX P w) P w K mg base N qual (defScope st) f cdv A outer s H E).env (cxOf (L2.CX P w) P w K mg base N qual (defScope st) f cdv A outer s H E).xe →
      DSs (cxOf (L2.CX P w) P w K mg base N qual (defScope st) f cdv A outer s H E) (fun _ => E) (defBody st) rd)
    (hp : ∀ as Q X, dsp as Q X → as.length = ps.length ∧ rd { nx := fun env => rtD as Q (.f .non) env, rt := rtD as Q, xr := xrD as X } (startE N as)) : CalX P w K mg base (k + 1) x ps dsp := by
  refine ⟨f, fd, Fn.okX S (fun vs H Q E h => ?_) (fun cdv A outer s H vs Q E hr h => ?_), hm, Fn.kp, hb⟩
  · obtain ⟨L, C, as, Qd, Xd, hC, fr, inj, ao, hd, _⟩ := h
    rw [ao.len]; exact (hp as Qd Xd hd).1
  · obtain ⟨L, C, as, Qd, Xd, hC, fr, inj, ao, hdd, hQ, hX⟩ := h
    obtain ⟨t, p, ss⟩ := (hd cdv A outer s H E hr (takes_of rfl rfl rfl rfl) (passes_of rfl)).ex
    refine ⟨t, p, ss L C C.F0 H (start N vs) (startE N as) _ _ (rl_start N fr inj ao) (hp as Qd Xd hdd).2 ⟨fun F' H' σ' env' e R' q => ?_, fun F' H' σ' env' v r e R' rv q => ?_, fun _ _ _ _ _ _ z => z.elim, fun _ _ _ _ _ _ z => z.elim⟩ fun F' H' σ' env' cls od fds ex R' xf okc q => ?_⟩
    · exact rt_ok R' (v := .non) (r := .f .non) Rep.non ao q hQ
    · exact rt_ok R' rv ao q hQ
    · obtain ⟨ds, h1, h2⟩ := withD_of q
      exact hX cls fds ds F' H' od h2 R'.fr xf okc (outOk_of R' (fun i => by rw [Nat.zero_add]) ao h1)
theorem tk0 {X : Cx} : Tk X noE := takes0
/-- __init__ of a class with one field -/
theorem ini_ok {qual : Str} {st : Stmt} {f : Addr} {fd : FuncData} {N ps : List Str} {g : Str} (Fn : Fun K "__init__" qual st f fd) (S : FnScope N ps (defScope st)) (hl : ps.length = 2)
    (hd : ∀ (cdv : Value) (A : Around) (outer : List PySem.Env) (s : Shared) (H : Hp) (E : XK), PSs (cxOf CX0 P w K mg base N qual (defScope st) f cdv A outer s H E).nox (defBody st) (tOst K g (tVar 0) (tVar 1))) :
    FnOk P w K mg base CX0 1 f fd ps (spIni K g) := by
  refine Fn.ok S (fun vs H Q E h => ?_) (fun cdv A outer s H vs Q E hr h => ⟨_, hd cdv A outer s H E, ?_⟩)
  · obtain ⟨a, C, v, rfl, _⟩ := h
    exact hl.symm
  · obtain ⟨a, C, v, rfl, T, hf, ha, q⟩ := h
    exact ⟨v, start_get (v := v) (i := 1) rfl, .ref a, start_get (i := 0) rfl, a, C, rfl, T, hf, .inl ⟨ha, q⟩⟩
end
end DL

set_option Elab.async false
set_option linter.all false
set_option maxRecDepth 100000
set_option maxHeartbeats 2000000
namespace DL
open PySem PySem.Spec PyProof.Rows L2
/-! ### the table of the own classes -/
def clsOf (tab : List (Str × Addr)) : ClsV := ⟨fun n => match tab.lookup n with
  | some C => .ref C
  | none => .none, fun n => ∃ C, tab.lookup n = some C⟩
def XClsAll (K : PySem.W.Frag) (mg : Str → Option Value) (J : Addr) : List (Str × Addr) → Prop
  | [] => True
  | p :: r => XCls K mg J p.1 p.2 ∧ XClsAll K mg J r
theorem lookup_mem {n : Str} {C : Addr} : ∀ {tab : List (Str × Addr)}, tab.lookup n = some C → (n, C) ∈ tab
  | [], h => by cases h
  | (m, D) :: r, h => by
    rw [List.lookup_cons] at h
    by_cases z : n = m
    · subst z
      rw [show (n == n) = true by simp] at h
      cases h
      exact List.mem_cons_self
    · rw [show (n == m) = false by simpa using z] at h
      exact List.mem_cons_of_mem _ (lookup_mem h)
theorem XClsAll.mem {K : PySem.W.Frag} {mg : Str → Option Value} {J : Addr} {n : Str} {C : Addr} : ∀ {tab : List (Str × Addr)}, XClsAll K mg J tab → (n, C) ∈ tab → XCls K mg J n C
  | [], _, h => by cases h
  | p :: r, h, m => by
    rcases List.mem_cons.mp m with z | z
    · rw [← z] at h; exact h.1
    · exact h.2.mem z
theorem inj_of {n m : Str} {C : Addr} : ∀ {tab : List (Str × Addr)}, (tab.map (·.2)).Nodup → (n, C) ∈ tab → (m, C) ∈ tab → n = m
  | [], _, h, _ => by cases h
  | p :: r, nd, h1, h2 => by
    have nd := List.nodup_cons.mp (List.map_cons ▸ nd)
    rcases List.mem_cons.mp h1 with z1 | z1 <;> rcases List.mem_cons.mp h2 with z2 | z2
    · rw [← z1] at z2; cases z2; rfl
    · exact absurd (List.mem_map.mpr ⟨_, z2, by rw [← z1]⟩) nd.1
    · exact absurd (List.mem_map.mpr ⟨_, z1, by rw [← z2]⟩) nd.1
    · exact inj_of nd.2 z1 z2
theorem xtab_of {K : PySem.W.Frag} {mg : Str → Option Value} {J : Addr} {tab : List (Str × Addr)} (aJ : mg "JoinError" = some (.ref J)) (sJ : (PySem.W.clsIn K J).isSome = true) (tJ : PySem.W.typeIn K (.ref J) = some (.type "type")) (bJ : PySem.W.subIn K (.ref J) (.type "BaseException") = some true)
    (h : XClsAll K mg J tab) (nd : (tab.map (·.2)).Nodup)
    (hn : tab.all (fun p => !decide (p.1 = "JoinError") && !decide (p.1 = "ValueError")) = true) : @XTab (clsOf tab) K mg := by
  letI := clsOf tab
  refine ⟨⟨J, aJ, sJ, tJ, bJ, fun n ⟨C, hC⟩ => ⟨C, ?_, h.mem (lookup_mem hC)⟩⟩, fun n m ⟨C, hC⟩ ⟨D, hD⟩ e => ?_, fun n ⟨C, hC⟩ => ?_⟩
  · show (match tab.lookup n with | some C => Value.ref C | none => Value.none) = .ref C
    rw [hC]
  · have e' : (match tab.lookup n with | some C => Value.ref C | none => Value.none) = (match tab.lookup m with | some C => Value.ref C | none => Value.none) := e
    rw [hC, hD] at e'
    cases e'
    exact inj_of nd (lookup_mem hC) (lookup_mem hD)
  · have := List.all_eq_true.mp hn _ (lookup_mem hC)
    simpa using this
section
variable [ClsV] {X : Cx} {x : Str}
theorem cnl_nil : ∃ vs us, CNl X [] [] vs us := ⟨_, _, .nil⟩
theorem cnl_cons {p : Pos} {es : List Expr} {xs : List Str} (h : ∃ v u, CN X x v u) (r : ∃ vs us, CNl X es xs vs us) : ∃ vs us, CNl X (.Name x p :: es) (x :: xs) vs us := by
  obtain ⟨v, u, h⟩ := h
  obtain ⟨vs, us, r⟩ := r
  exact ⟨_, _, .cons h r⟩
theorem XTab.sub_ok {K : PySem.W.Frag} {mg : Str → Option Value} (T : XTab K mg) {n : Str} {C : Addr} (hn : ClsV.ok n) (e : ClsV.v n = .ref C) : PySem.W.subIn K (.ref C) (.type "BaseException") = some true := by
  obtain ⟨J, _, _, _, _, h⟩ := T.J
  obtain ⟨D, e2, xd⟩ := h n hn
  rw [e] at e2; cases e2
  exact xd.base
/-! ### an exception with a list of its own -/
def spIniL (K : PySem.W.Frag) : Sp := fun vs H Q _ => ∃ (a C p : Addr) (ys : List V), vs = [.ref a, .ref p] ∧ OexC K C ∧ PySem.W.findIn K (.ref C) "places" = some none ∧ H a = some (exo a C none) ∧ H p = some (.lst ys) ∧
  ∀ l dx, H l = none → H dx = none → dx ≠ l → dx ≠ a → Q .non (upd (upd (upd H l (.lst ys)) dx (exd dx [("places", .ref l)])) a (exo a C (some dx)))
def dMkL (n : Str) (dr : DA) : DM := fun env X => dr env (fun rs env1 => match rs with
  | [r] => withD (view env1 r) fun d => match d with
    | .lst ds => X n (some [("places", .lst ds)]) env1
    | _ => False
  | _ => False) X
theorem mk_heapL {H1 : Hp} {a dx l : Addr} {o1 o2 o3 o4 ol : HO} (ha : H1 a = none) (nl : l ≠ a) (nd : dx ≠ a) : upd (del (upd (upd (upd (upd H1 a o1) l ol) dx o2) a o3) a) dx o4 = upd (upd H1 l ol) dx o4 := by
  funext b
  by_cases z : b = dx
  · subst z; rw [upd_same, upd_same]
  · rw [upd_ne z, upd_ne z]
    by_cases y : b = a
    · subst y; rw [del_same, upd_ne (Ne.symm nl), ha]
    · rw [del_ne y, upd_ne y, upd_ne z]
      by_cases w : b = l
      · subst w; rw [upd_same, upd_same]
      · rw [upd_ne w, upd_ne w, upd_ne y]
theorem dm_list {E : L2.St → XK} {e : Expr} {dr : DA} {p pos : Pos} {n : Str} (M : XMk X.prog X.w X.K X.mg X.base n (spIniL X.K)) (hr : Room 2 X.A) (hg : Gl X n) (ha : DAx X E [e] dr) (hnf : fieldOf n = "places" := by rfl)
    (hdb : (n == ("__debug__" : Str)) = false := by decide) (he : starEach [e] X.env = (false, eval e X.env) :: starEach [] X.env := by rfl) (hpl : (backTo pos (starEach [] X.env)).any (·.1) = false := by rfl) :
    DMx X E (.Call (.Name n p) [e] [] pos) (dMkL n dr) := by
  obtain ⟨hn, C, fI, fd, ps, e1, hm, T, iC, tI, G, hb, hfl⟩ := M
  rw [hnf] at hfl
  obtain ⟨t, pa, s⟩ := ha.ex
  refine ⟨_, pmk_oex T iC tI G hr hb .nil pass0 hg hm pa hdb he hpl, fun L C' F H σ env Q Xd R hx xx kq => s L C' F H σ env _ _ Xd R hx (fun F1 H1 vs rs env1 ex1 R1 av q => ?_) xx⟩
  split at q
  · next r =>
    obtain ⟨d, hd, q⟩ := withD_of q
    split at q
    · next ds =>
      cases av with
      | @cons v0 _ _ _ r0 t =>
        cases t
        obtain ⟨pl, ws, rfl, hl, rp⟩ := r0.rep1 R1 hd
        refine ⟨by simp, fun a0 ha0 => ⟨a0, C, pl, ws, rfl, T, hfl, upd_same, by rw [upd_ne (ne_of_none hl ha0)]; exact hl, fun l dx hl0 hdx ndl ndx => ⟨rfl, dx, _, upd_same, by rw [upd_ne ndx, upd_same], ?_, ?_⟩⟩⟩
        · rw [upd_ne ndx] at hdx; exact hdx
        · have nl : l ≠ a0 := fun z => by subst z; rw [upd_same] at hl0; cases hl0
          have hd1 : H1 dx = none := by rw [upd_ne ndx] at hdx; exact hdx
          have hl1 : H1 l = none := by rw [upd_ne nl] at hl0; exact hl0
          rw [mk_heapL ha0 nl ndx]
          have g := R1.fr.grF hl1 (.lst ws)
          have R2 := R1.grow g
          have hd2 : (upd H1 l (.lst ws)) dx = none := by rw [upd_ne ndl]; exact hd1
          have g2 := R2.fr.grF hd2 (.xd [("places", .ref l)])
          have := kq _ _ n (some dx) (some [("places", .lst ds)]) env1 (ex1.trans (g.fx.trans g2.fx)) (R2.grow g2) ⟨_, upd_same, .cons (Rep.lst (g2.fx _ _ upd_same) ((rp.mono g.fx).mono g2.fx)) .nil⟩ hn q
          rw [e1] at this
          exact this
    · exact q.elim
  · exact q.elim
variable {mg : Str → Option Value} {base : Heap} {K : PySem.W.Frag} {w : World} {P : Program}
theorem iniL_ok {qual : Str} {st : Stmt} {f : Addr} {fd : FuncData} {N ps : List Str} (Fn : Fun K "__init__" qual st f fd) (S : FnScope N ps (defScope st)) (hl : ps.length = 2)
    (hd : ∀ (cdv : Value) (A : Around) (outer : List PySem.Env) (s : Shared) (H : Hp) (E : XK), PSs (cxOf CX0 P w K mg base N qual (defScope st) f cdv A outer s H E).nox (defBody st) (tOst K "places" (tVar 0) (tCB (fun xs H Q => ∃ p ys, xs = [.ref p] ∧ (SqL K H p ys ∨ SqT K H p ys) ∧ ∀ l, H l = none → Q (.ref l) (upd H l (.lst ys))) (tCons (tVar 1) tNil)))) :
    FnOk P w K mg base CX0 1 f fd ps (spIniL K) := by
  refine Fn.ok S (fun vs H Q E h => ?_) (fun cdv A outer s H vs Q E hr h => ⟨_, hd cdv A outer s H E, ?_⟩)
  · obtain ⟨a, C, p, ys, rfl, _⟩ := h
    exact hl.symm
  · obtain ⟨a, C, p, ys, rfl, T, hf, ha, hp, q⟩ := h
    refine ⟨.ref p, start_get (i := 1) rfl, p, ys, rfl, .inl (.inl (.inl hp)), fun l hl => ⟨.ref a, start_get (i := 0) rfl, a, C, rfl, T, hf, .inl ⟨by rw [upd_ne (ne_of_none ha hl)]; exact ha, fun dx hdx ndx => ?_⟩⟩⟩
    have ndl : dx ≠ l := fun z => by subst z; rw [upd_same] at hdx; cases hdx
    exact q l dx hl (by rw [upd_ne ndl] at hdx; exact hdx) ndl ndx
end
/-- the facts that isinstance wants of a class, by what it was built from -/
theorem excC_of {K : PySem.W.Frag} {J C : Addr} (mro : (PySem.W.clsIn K C).map (·.mro) = some (.ref C :: .ref J :: PySem.HandSPX.veTail)) (hg : PySem.W.findIn K (.ref C) "__getattribute__" = some (some (.builtin "BaseException.__getattribute__"))) (hk : PySem.W.findIn K (.ref C) "__getattr__" = some none)
    (hd : PySem.W.hasDictIn K C = true) (ha : PySem.W.findIn K (.ref C) "__class__" = some (some (.builtin "object.__class__"))) (hn : PySem.W.specialIn K (.builtin "object.__class__") "__get__" = some (some (.builtin "getset_descriptor.__get__"))) (ht : PySem.W.takesIn K (.builtin "object.__class__") = some true) : ExcC K C := by
  have sub : ∀ b, PySem.W.mroIn K C b = some ((Value.ref C :: .ref J :: PySem.HandSPX.veTail).contains b) := fun b => by
    unfold PySem.W.mroIn
    rcases q : PySem.W.clsIn K C with - | cd
    · simp [q] at mro
    · rw [q] at mro
      have e2 : cd.mro = .ref C :: .ref J :: PySem.HandSPX.veTail := by simpa using mro
      show (if cd.mro.isEmpty then none else some (cd.mro.contains b)) = _
      rw [e2]; rfl
  exact ⟨hg, hk, sub (.type "BaseException"), hd, ha, hn, ht, sub (.type "object")⟩
def clsBody (s : Stmt) : List Stmt := match s with
  | .ClassDef _ _ _ b _ _ _ _ _ _ _ => b
  | _ => []
end DL

set_option Elab.async false
set_option linter.all false
set_option maxRecDepth 100000
set_option maxHeartbeats 2000000
namespace DL
open PySem PySem.Spec PyProof.Rows L2
variable [ClsV]

section
variable {X : Cx} {E : L2.St → XK} {L : Addr → Prop} {C : Cc} {F H : Hp} {a b e : Expr} {da db de : DE} {pos : Pos}
/-! ### a list from its last item on -/
def gRevL : G1 := fun d Q => match d with
  | .lst l => Q (.n (.lst l.reverse))
  | _ => False
theorem Reps.rev {vs : List V} {ds : List Dat} (r : Reps F vs ds) : Reps F vs.reverse ds.reverse := by
  have key : ∀ {vs : List V} {ds : List Dat}, Reps F vs ds → Reps F vs.reverse ds.reverse := by
    intro vs
    induction vs with
    | nil => intro ds r; cases r; exact .nil
    | cons v vs ih =>
      intro ds r
      cases r with
      | cons h t => rw [List.reverse_cons, List.reverse_cons]; exact (ih t).append (.cons h .nil)
  exact key r
def rRevL (K : PySem.W.Frag) : V → Hp → VK → Prop := fun x H Q => ∃ a xs, x = .ref a ∧ SqL K H a xs ∧ ∀ p, H p = none → Q (.ref p) (upd H p (.lst xs.reverse))
theorem o_revL {K : PySem.W.Frag} : Op1 (rRevL K) gRevL := fun L C F H x d Q Qd fr rx h k => by
  unfold gRevL at h
  split at h
  · next l =>
    obtain ⟨a, vs, rfl, ha, rs⟩ := rx
    exact ⟨a, vs, rfl, .inl (.inl ha), fun p hp => k F _ _ (.n _) (fr.grO hp _) (new_lst fr hp rs.rev) h⟩
  · exact h.elim
theorem de_revL {k : Nat} {p1 p2 p3 : Pos} (ha : DEx X E a da) : DEx X E (.Subscript a (.Slice none none (some (.UnaryOp .USub (.Constant (.int 1) k p1) p2)) p3) pos) (dUn gRevL da) := by
  obtain ⟨t, p, s⟩ := ha.ex
  exact ⟨_, pe_revL p, se_un (r := rRevL X.K) o_revL s⟩
/-! ### equality with truths within -/
def plv : Nat → Dat → Bool
  | _, .int _ => true
  | _, .bl _ => true
  | _, .non => true
  | _, .str s => PyData.canLay0 (.str s)
  | n + 1, .tup l => l.all (plv n)
  | n + 1, .lst l => l.all (plv n)
  | _, _ => false
def eqvD (a b : Dat) : Bool := PyData.eqv (toPy a) (toPy b)
/-- what stands for a datum -/
structure PvOk (K : PySem.W.Frag) (H : Hp) (n : Nat) (v : V) (d : Dat) : Prop where
  dp : Dp K H v (toPy d)
  lay : (toPy d).canLay0 = true
  dep : (toPy d).depth ≤ n
structure PvsOk (K : PySem.W.Frag) (H : Hp) (n : Nat) (vs : List V) (l : List Dat) : Prop where
  dp : DpAll K H vs (toPys l)
  lay : PyData.canLayAll0 (toPys l) = true
  dep : PyData.depthAll (toPys l) ≤ n
theorem pvs_of {K : PySem.W.Frag} {n : Nat} (one : ∀ d v, plv n d = true → Rep F v d → PvOk K H n v d) : ∀ {l : List Dat} {vs : List V}, l.all (plv n) = true → Reps F vs l → PvsOk K H n vs l
  | [], _, _, .nil => ⟨.nil, by simp [toPys, PyData.canLayAll0], by simp [toPys, PyData.depthAll]⟩
  | d :: l, _, h, .cons r t => by
    have h : (plv n d && l.all (plv n)) = true := h
    rw [Bool.and_eq_true] at h
    have a := one d _ h.1 r
    have b := pvs_of one h.2 t
    exact ⟨.cons a.dp b.dp, by simp [toPys, PyData.canLayAll0, a.lay, b.lay], by have := a.dep; have := b.dep; simp only [toPys, PyData.depthAll]; omega⟩
theorem pv_of {K : PySem.W.Frag} (z : Fz F H) : ∀ (n : Nat) (d : Dat) (v : V), plv n d = true → Rep F v d → PvOk K H n v d := by
  intro n
  induction n with
  | zero =>
    intro d v h r
    cases r with
    | non => exact ⟨.non, by simp [toPy, PyData.canLay0], by simp [toPy, PyData.depth]⟩
    | bl b => exact ⟨.bl b, by simp [toPy, PyData.canLay0], by simp [toPy, PyData.depth]⟩
    | int i => exact ⟨.int i, by simp [toPy, PyData.canLay0], by simp [toPy, PyData.depth]⟩
    | str s => exact ⟨.str s, h, by simp [toPy, PyData.depth]⟩
    | _ => cases h
  | succ n ih =>
    intro d v h r
    cases r with
    | non => exact ⟨.non, by simp [toPy, PyData.canLay0], by simp [toPy, PyData.depth]⟩
    | bl b => exact ⟨.bl b, by simp [toPy, PyData.canLay0], by simp [toPy, PyData.depth]⟩
    | int i => exact ⟨.int i, by simp [toPy, PyData.canLay0], by simp [toPy, PyData.depth]⟩
    | str s => exact ⟨.str s, h, by simp [toPy, PyData.depth]⟩
    | tup e r =>
      have a := pvs_of (K := K) (H := H) ih h r
      refine ⟨.tup (.inl (.inl (z.ex e rfl))) a.dp, ?_, ?_⟩
      · simp only [toPy, PyData.canLay0]; exact a.lay
      · have := a.dep; simp only [toPy, PyData.depth]; omega
    | lst e r =>
      have a := pvs_of (K := K) (H := H) ih h r
      refine ⟨.lst (.inl (.inl (z.ex e rfl))) a.dp, ?_, ?_⟩
      · simp only [toPy, PyData.canLay0]; exact a.lay
      · have := a.dep; simp only [toPy, PyData.depth]; omega
    | _ => cases h
theorem pv1_of {K : PySem.W.Frag} (z : Fz F H) {n : Nat} {d : Dat} {v : V} (h : plv n d = true) (r : Rep1 F H v d) : PvOk K H n v d := by
  cases d with
  | lst l =>
    obtain ⟨a, vs, rfl, ha, rs⟩ := r
    cases n with
    | zero => cases h
    | succ n =>
      have a := pvs_of (K := K) (H := H) (pv_of z n) h rs
      refine ⟨.lst (.inl (.inl ha)) a.dp, ?_, ?_⟩
      · simp only [toPy, PyData.canLay0]; exact a.lay
      · have := a.dep; simp only [toPy, PyData.depth]; omega
  | tup l =>
    obtain ⟨a, vs, rfl, fa, ha, rs⟩ := r
    exact pv_of z n _ _ h (.tup fa rs)
  | int i => exact pv_of z n _ _ h r
  | bl i => exact pv_of z n _ _ h r
  | non => exact pv_of z n _ _ h r
  | str s => exact pv_of z n _ _ h r
  | _ => cases n <;> cases h
theorem pv_shape {d : PyData} (h1 : d.canLay0 = true) (h2 : d.depth ≤ 40) : SeqAt.shaped d = true := by
  unfold SeqAt.shaped
  rw [h1, decide_eq_true (by omega)]; rfl
def gEqV (n : Bool) : G2 := fun a b Q => plv 40 a = true ∧ plv 40 b = true ∧ Q (.f (.bl (n ^^ eqvD a b)))
theorem o_eqV {K : PySem.W.Frag} : Op2 (rEqD K) (gEqV false) := fun L C F H x y dx dy Q Qd fr rx ry ⟨h1, h2, h3⟩ k => by
  have a := pv1_of (K := K) fr.fz h1 rx
  have b := pv1_of (K := K) fr.fz h2 ry
  exact ⟨_, _, a.dp, b.dp, pv_shape a.lay a.dep, pv_shape b.lay b.dep, k F H _ (.f _) (Gr.refl fr) (by rw [Bool.false_xor]; exact Rep.bl _) h3⟩
theorem o_neV {K : PySem.W.Frag} : Op2 (rNeD K) (gEqV true) := fun L C F H x y dx dy Q Qd fr rx ry ⟨h1, h2, h3⟩ k => by
  have a := pv1_of (K := K) fr.fz h1 rx
  have b := pv1_of (K := K) fr.fz h2 ry
  exact ⟨_, _, a.dp, b.dp, pv_shape a.lay a.dep, pv_shape b.lay b.dep, k F H _ (.f _) (Gr.refl fr) (by rw [Bool.true_xor]; exact Rep.bl _) h3⟩
theorem de_eqV {k : Nat} (hr : Room k X.A) (ha : DEx X E a da) (hb : DEx X E b db) : DEx X E (.Compare a [.Eq] [b] pos) (dOp (gEqV false) da db) := de_cmp (op_eqD hr.units) o_eqV ha hb
theorem de_neV {k : Nat} (hr : Room k X.A) (ha : DEx X E a da) (hb : DEx X E b db) : DEx X E (.Compare a [.NotEq] [b] pos) (dOp (gEqV true) da db) := de_cmp (op_neD hr.units) o_neV ha hb
theorem dt_eqV {k : Nat} (hr : Room k X.A) (ha : DEx X E a da) (hb : DEx X E b db) : DTx X E (.Compare a [.Eq] [b] pos) (dB (dOp (gEqV false) da db)) := dt_cmp (op_eqD hr.units) o_eqV ha hb
theorem dt_neV {k : Nat} (hr : Room k X.A) (ha : DEx X E a da) (hb : DEx X E b db) : DTx X E (.Compare a [.NotEq] [b] pos) (dB (dOp (gEqV true) da db)) := dt_cmp (op_neD hr.units) o_neV ha hb
theorem pln_plv : ∀ (n : Nat) (d : Dat), pln n d = true → plv n d = true := by
  intro n
  induction n with
  | zero => intro d h; cases d <;> first | exact h | rfl | cases h
  | succ n ih =>
    intro d h
    cases d with
    | tup l => exact List.all_eq_true.2 fun x hx => ih x (List.all_eq_true.1 h x hx)
    | lst l => exact List.all_eq_true.2 fun x hx => ih x (List.all_eq_true.1 h x hx)
    | _ => first | exact h | rfl | cases h
theorem plv_up : ∀ {n : Nat} {d : Dat}, plv n d = true → ∀ k, plv (n + k) d = true := by
  intro n
  induction n with
  | zero => intro d h k; cases d <;> first | (cases h; done) | (cases k <;> exact h) | (cases k <;> rfl)
  | succ n ih =>
    intro d h k
    rw [Nat.add_right_comm]
    cases d with
    | tup l => exact List.all_eq_true.2 fun x hx => ih (List.all_eq_true.1 h x hx) k
    | lst l => exact List.all_eq_true.2 fun x hx => ih (List.all_eq_true.1 h x hx) k
    | _ => first | exact h | rfl | cases h
/-! ### a, b = x, y -/
def dPar (i j : Nat) (dr : DA) : DS := fun D env => dr env (fun rs env1 => match rs with
  | [.f d, .f d'] => D.nx ((env1.set i (some (.f d))).set j (some (.f d')))
  | _ => False) D.xr
theorem ds_par {i j : Nat} {x y : Str} {dr : DA} {px py pt pos : Pos} {kt k2 : Nat} {pt2 : Pos} (hc : X.calm = true) (hN : X.N.Nodup) (hi : X.N[i]? = some x) (hj : X.N[j]? = some y) (hij : i ≠ j)
    (hx : X.env.scope.names.lookup x = some .local) (hy : X.env.scope.names.lookup y = some .local) (ha : DAx X E [a, b] dr)
    (hw : swappedStores [.Tuple [.Name x px, .Name y py] kt pt] (.Tuple [a, b] k2 pt2) X.env = pure (some [x, y]))
    (hs : swapsWithSole [.Tuple [.Name x px, .Name y py] kt pt] (.Tuple [a, b] k2 pt2) pos.line X.env = pure false := by rfl) :
    DSx X E (.Assign [.Tuple [.Name x px, .Name y py] kt pt] (.Tuple [a, b] k2 pt2) pos) (dPar i j dr) := by
  obtain ⟨t, p, s⟩ := ha.ex
  refine ⟨_, ps_par hc hN hi hj hij hx hy p hw hs, fun L C F H σ env D Dd R h k xx => s L C F H σ env _ _ _ R h (fun F1 H1 vs rs env1 e1 R1 av q => ?_) xx⟩
  split at q
  · next d d' =>
    cases av with
    | cons a1 t1 =>
      cases t1 with
      | cons a2 t2 =>
        cases t2
        exact ⟨_, _, rfl, k.nx F1 H1 _ _ e1 ((R1.setF a1 i).setF a2 j) q⟩
  · exact q.elim
end
end DL

set_option Elab.async false
set_option linter.all false
set_option maxRecDepth 100000
set_option maxHeartbeats 2000000
namespace DL
open PySem PySem.Spec PyProof.Rows L2
variable [ClsV]

section
variable {X : Cx} {E : L2.St → XK} {L : Addr → Prop} {C : Cc} {F H : Hp} {a b c e f o : Expr} {da db dd dy dx : DE} {pos apos cpos : Pos} {σ : L2.St} {env : Env}
/-! ### dicts -/
def dNewK : DE := fun env Q _ => Q (.n (.dk [])) env
def dNewT : DE := fun env Q _ => Q (.n (.dt [])) env
theorem de_newK : DEx X E (.Dict [] [] pos) dNewK := ⟨_, pe_dnewK, fun L C F H σ env Q Qd Xd R h k x p hp =>
  k F _ (.ref p) (.n (.dk [])) env (Ex.refl F) (R.grow (R.fr.grO hp _)) ⟨p, rfl, ⟨R.fr.new0 hp, R.fr.fz_eq hp, [], upd_same, .nil⟩, fun i => R.not_none hp⟩ h⟩
theorem de_newT : DEx X E (.Dict [] [] pos) dNewT := ⟨_, pe_dnewT, fun L C F H σ env Q Qd Xd R h k x p hp =>
  k F _ (.ref p) (.n (.dt [])) env (Ex.refl F) (R.grow (R.fr.grO hp _)) ⟨p, rfl, ⟨R.fr.new0 hp, R.fr.fz_eq hp, [], upd_same, .nil⟩, fun i => R.not_none hp⟩ h⟩
def isDk : Dat → Bool
  | .dk _ => true
  | .dt _ => true
  | _ => false
theorem isD_of {v : V} {d : Dat} (h : isDk d = true) (r : Rep1 F H v d) : ∃ p, v = .ref p ∧ IsD H p := by
  cases d with
  | dk l => obtain ⟨p, vs, rfl, hp, _⟩ := r; exact ⟨p, rfl, .inl ⟨vs, hp⟩⟩
  | dt l => obtain ⟨p, vs, rfl, hp, _⟩ := r; exact ⟨p, rfl, .inr ⟨vs, hp⟩⟩
  | _ => cases h
/-- d.get(y, x) -/
def dGet2 (dd dy dx : DE) : DE := fun env Q X => dd env (fun r env1 => withD (view env1 (fzR r)) fun d0 => isDk d0 = true ∧ dy env1 (fun ry env2 => dx env2 (fun rx env3 => match rx with
  | .f z => withD (view env3 (fzR r)) fun d => withD (view env3 (fzR ry)) fun y => Got (dGetD d y) fun od => Q (.f (od.getD z)) env3
  | _ => False) X) X) X
theorem de_get2 {k : Nat} (hr : Room k X.A) (ho : DEx X E o dd) (he : DEx X E e dy) (hf : DEx X E f dx) (hb : attributeBase o "get" X.env (eval o X.env) = eval o X.env := by rfl)
    (hfew : ((backTo cpos (starEach [e, f] X.env)).all (fun x => !x.1) && (backToKw cpos (keywordEach [] X.env)).all (fun x => x.1.isSome) && decide (([e, f] : List Expr).length + ([] : List Keyword).length + (if ([] : List Keyword).isEmpty then 0 else 1) < 30)) = true := by rfl)
    (hline : (apos.endLine == cpos.line) = true := by rfl) (htr : backTo cpos (starEach [e, f] X.env) = [(false, eval e X.env), (false, eval f X.env)] := by rfl) : DEx X E (.Call (.Attribute o "get" apos) [e, f] [] cpos) (dGet2 dd dy dx) := by
  obtain ⟨t1, p1, s1⟩ := ho.ex
  obtain ⟨t2, p2, s2⟩ := he.ex
  obtain ⟨t3, p3, s3⟩ := hf.ex
  refine ⟨_, pe_dget2 (hu_of hr) p1 p2 p3 ⟨hb, hfew, hline, htr⟩, fun L C F H σ env Q Qd Xd R h k x => s1 L C F H σ env _ _ Xd R h (fun F1 H1 v1 r1 env1 e1 R1 rv1 q1 => ?_) x⟩
  obtain ⟨d0, hd0, hk, q1⟩ := withD_of q1
  obtain ⟨F2, e2, R2, a2⟩ := R1.fzv rv1
  obtain ⟨p, rfl, isd⟩ := isD_of hk (a2.rep1 R2 hd0)
  refine ⟨p, rfl, isd, s2 L C F2 H1 σ env1 _ _ Xd R2 q1 (fun F3 H3 v3 r3 env3 e3 R3 rv3 q3 => ?_) (x.mono (e1.trans e2))⟩
  obtain ⟨F4, e4, R4, a4⟩ := R3.fzv rv3
  refine s3 L C F4 H3 σ env3 _ _ Xd R4 q3 (fun F5 H5 v5 r5 env5 e5 R5 rv5 q5 => ?_) (x.mono (e1.trans (e2.trans (e3.trans e4))))
  split at q5
  · next z =>
    obtain ⟨d, hd, q5⟩ := withD_of q5
    obtain ⟨y, hy, q5⟩ := withD_of q5
    obtain ⟨od, hg, q5⟩ := q5.ex
    obtain ⟨a', ov, ea, g, hv⟩ := dget_of hg ((a2.mono (e3.trans (e4.trans e5))).rep1 R5 hd) ((a4.mono e5).rep1 R5 hy)
    cases ea
    refine ⟨ov, g, k F5 H5 _ (.f (od.getD z)) env5 (e1.trans (e2.trans (e3.trans (e4.trans e5)))) R5 ?_ q5⟩
    cases od with
    | none => rw [hv]; exact rv5
    | some d' => obtain ⟨v', rfl, r'⟩ := hv; exact r'
  · exact q5.elim
/-- d.get(y) -/
def dGet1 (dd dy : DE) : DE := fun env Q X => dd env (fun r env1 => withD (view env1 (fzR r)) fun d0 => isDk d0 = true ∧ dy env1 (fun ry env3 =>
  withD (view env3 (fzR r)) fun d => withD (view env3 (fzR ry)) fun y => Got (dGetD d y) fun od => Q (.f (od.getD .non)) env3) X) X
theorem de_get1 {k : Nat} (hr : Room k X.A) (ho : DEx X E o dd) (he : DEx X E e dy) (hb : attributeBase o "get" X.env (eval o X.env) = eval o X.env := by rfl)
    (hfew : ((backTo cpos (starEach [e] X.env)).all (fun x => !x.1) && (backToKw cpos (keywordEach [] X.env)).all (fun x => x.1.isSome) && decide (([e] : List Expr).length + ([] : List Keyword).length + (if ([] : List Keyword).isEmpty then 0 else 1) < 30)) = true := by rfl)
    (hline : (apos.endLine == cpos.line) = true := by rfl) (htr : backTo cpos (starEach [e] X.env) = [(false, eval e X.env)] := by rfl) : DEx X E (.Call (.Attribute o "get" apos) [e] [] cpos) (dGet1 dd dy) := by
  obtain ⟨t1, p1, s1⟩ := ho.ex
  obtain ⟨t2, p2, s2⟩ := he.ex
  refine ⟨_, pe_dget1 (hu_of hr) p1 p2 ⟨hb, hfew, hline, htr⟩, fun L C F H σ env Q Qd Xd R h k x => s1 L C F H σ env _ _ Xd R h (fun F1 H1 v1 r1 env1 e1 R1 rv1 q1 => ?_) x⟩
  obtain ⟨d0, hd0, hk, q1⟩ := withD_of q1
  obtain ⟨F2, e2, R2, a2⟩ := R1.fzv rv1
  obtain ⟨p, rfl, isd⟩ := isD_of hk (a2.rep1 R2 hd0)
  refine ⟨p, rfl, isd, s2 L C F2 H1 σ env1 _ _ Xd R2 q1 (fun F3 H3 v3 r3 env3 e3 R3 rv3 q3 => ?_) (x.mono (e1.trans e2))⟩
  obtain ⟨F4, e4, R4, a4⟩ := R3.fzv rv3
  obtain ⟨d, hd, q5⟩ := withD_of q3
  obtain ⟨y, hy, q5⟩ := withD_of q5
  obtain ⟨od, hg, q5⟩ := q5.ex
  obtain ⟨a', ov, ea, g, hv⟩ := dget_of hg ((a2.mono (e3.trans e4)).rep1 R4 hd) (a4.rep1 R4 hy)
  cases ea
  refine ⟨ov, g, k F4 H3 _ (.f (od.getD .non)) env3 (e1.trans (e2.trans (e3.trans e4))) R4 ?_ q5⟩
  cases od with
  | none => rw [hv]; exact Rep.non
  | some d' => obtain ⟨v', rfl, r'⟩ := hv; exact r'
/-- d.setdefault(y, x), d a dict of the def's own -/
def gSetd (d y z : Dat) (Q : Dat → Dat → Prop) : Prop := match d with
  | .dk l => Got (keyD y) fun k => l.length < 100000 ∧ match luK l k with
    | some v => Q v (.dk l)
    | none => Q z (.dk (putD l k z))
  | _ => False
def dSetd (dd dy dx : DE) : DE := fun env Q X => dd env (fun ro env1 => match ro with
  | .l j => withD (ownD env1 j) fun d0 => isDk d0 = true ∧ dy env1 (fun ry env2 => dx env2 (fun rx env3 => match rx with
    | .f z => withD (view env3 (fzR ry)) fun y => withD (ownD env3 j) fun d => gSetd d y z fun v d' => Q (.f v) (putO env3 j d')
    | _ => False) X) X
  | _ => False) X
theorem Rl.same {j : Nat} {d : Dat} {p : Addr} (R : Rl L C F H σ env) (h : ownD env j = some d) : putO env j d = env := by
  rcases ownD_o h with e | e
  · unfold putO; rw [e]
    apply List.ext_getElem?
    intro i
    by_cases z : j = i
    · subst z
      have hl := (List.getElem?_eq_some_iff.1 e).1
      rw [List.getElem?_set_self hl, e]
    · rw [List.getElem?_set_ne z]
  · unfold putO; rw [e]
    apply List.ext_getElem?
    intro i
    by_cases z : j = i
    · subst z
      have hl := (List.getElem?_eq_some_iff.1 e).1
      rw [List.getElem?_set_self hl, e]
    · rw [List.getElem?_set_ne z]
theorem de_setd (ho : DEx X E o dd) (he : DEx X E e dy) (hf : DEx X E f dx) (hb : attributeBase o "setdefault" X.env (eval o X.env) = eval o X.env := by rfl)
    (hfew : ((backTo cpos (starEach [e, f] X.env)).all (fun x => !x.1) && (backToKw cpos (keywordEach [] X.env)).all (fun x => x.1.isSome) && decide (([e, f] : List Expr).length + ([] : List Keyword).length + (if ([] : List Keyword).isEmpty then 0 else 1) < 30)) = true := by rfl)
    (hline : (apos.endLine == cpos.line) = true := by rfl) (htr : backTo cpos (starEach [e, f] X.env) = [(false, eval e X.env), (false, eval f X.env)] := by rfl) : DEx X E (.Call (.Attribute o "setdefault" apos) [e, f] [] cpos) (dSetd dd dy dx) := by
  obtain ⟨t1, p1, s1⟩ := ho.ex
  obtain ⟨t2, p2, s2⟩ := he.ex
  obtain ⟨t3, p3, s3⟩ := hf.ex
  refine ⟨_, pe_dsetd p1 p2 p3 ⟨hb, hfew, hline, htr⟩, fun L C F H σ env Q Qd Xd R h k x => s1 L C F H σ env _ _ Xd R h (fun F1 H1 v1 r1 env1 e1 R1 rv1 q1 => ?_) x⟩
  split at q1
  · next j =>
    obtain ⟨d0, hd0, hk, q1⟩ := withD_of q1
    have rv1 : σ[j]? = some (some v1) := rv1
    obtain ⟨p, hp, hf0, c0, _⟩ := R1.own hd0
    rw [rv1] at hp; cases hp
    have isd : IsD H1 p := by
      cases d0 with
      | dk l => obtain ⟨ws, hw, _⟩ := c0; exact .inl ⟨ws, .inl hw⟩
      | dt l => obtain ⟨ws, hw, _⟩ := c0; exact .inr ⟨ws, .inl hw⟩
      | _ => cases hk
    refine ⟨p, rfl, isd, s2 L C F1 H1 σ env1 _ _ Xd R1 q1 (fun F3 H3 v3 r3 env3 e3 R3 rv3 q3 => ?_) (x.mono e1)⟩
    obtain ⟨F4, e4, R4, a4⟩ := R3.fzv rv3
    refine s3 L C F4 H3 σ env3 _ _ Xd R4 q3 (fun F5 H5 v5 r5 env5 e5 R5 rv5 q5 => ?_) (x.mono (e1.trans (e3.trans e4)))
    split at q5
    · next z =>
      obtain ⟨y, hy, q5⟩ := withD_of q5
      obtain ⟨d, hd, q5⟩ := withD_of q5
      obtain ⟨p5, hp5, hf5, c5, _⟩ := R5.own hd
      rw [rv1] at hp5; cases hp5
      have ee := e1.trans (e3.trans (e4.trans e5))
      unfold gSetd at q5
      split at q5
      · next l =>
        obtain ⟨key, hkey, hl, q5⟩ := q5.ex
        obtain ⟨ws, hw, rl⟩ := c5
        have look := luK_repK (k := key) rl
        refine ⟨ws, key, hw, keyD_v hkey ((a4.mono e5).rep1 R5 hy), line_lt (by rw [rl.len]; exact hl), fun v hv => ?_, fun hn => ?_⟩
        · cases el : luK l key with
          | none => rw [el] at look; rw [look] at hv; cases hv
          | some d' =>
            rw [el] at look q5
            obtain ⟨v', hv', r'⟩ := look
            rw [hv'] at hv; cases hv
            refine k F5 H5 _ (.f d') env5 ee R5 r' ?_
            have q5 : Qd (.f d') (putO env5 j (.dk l)) := q5
            rw [R5.same (p := p) hd] at q5
            exact q5
        · cases el : luK l key with
          | some d' =>
            rw [el] at look
            obtain ⟨v', hv', _⟩ := look
            rw [hv'] at hn; cases hn
          | none =>
            rw [el] at q5
            exact k F5 _ _ (.f z) _ ee (R5.mut (d' := .dk (putD l key z)) hd rv1 ⟨_, upd_same, RepK.put rv5 rl⟩) rv5 q5
      · exact q5.elim
    · exact q5.elim
  · exact q1.elim
theorem dss_never {st : List Stmt} : DSs X E st dNever := ⟨fun _ _ _ => False, ⟨fun _ _ _ _ _ _ h => h.elim⟩, fun L C F H σ env D Dd R h k x => h.elim⟩
end
end DL

set_option Elab.async false
set_option linter.all false
set_option maxRecDepth 100000
set_option maxHeartbeats 2000000
namespace DL
open PySem PySem.Spec PyProof.Rows L2
variable [ClsV]

section
variable {X : Cx} {E : L2.St → XK} {L : Addr → Prop} {C : Cc} {F H F2 H2 : Hp} {a b c e f o : Expr} {da db dd dy dx dk dv : DE} {dr : DA} {tg : Expr} {p0 pos apos cpos : Pos} {σ : L2.St} {env env2 : Env} {p : Addr} {u : HO}
/-! ### range(i, j, -1) -/
def dRng3 (dr : DA) : DI := fun env Q X => dr env (fun rs env1 => withD (views env1 rs) fun ds => match ds with
  | [.int i, .int j, .int k] => (k = -1 ∧ -(2 ^ 62) ≤ i ∧ i < 2 ^ 62 ∧ -(2 ^ 62) ≤ j ∧ j < 2 ^ 62) ∧ Q (downD (i + 1) (i - j).toNat) env1
  | _ => False) X
theorem di_range3 (hg : Gl X "range") (hm : X.mg "range" = none) (ha : DAx X E [a, b, c] dr) (hs : starEach [a, b, c] X.env = (false, eval a X.env) :: starEach [b, c] X.env := by rfl) (hpl : (backTo pos (starEach [b, c] X.env)).any (·.1) = false := by rfl) :
    DIx X E tg (.Call (.Name "range" p0) [a, b, c] [] pos) (dRng3 dr) := by
  obtain ⟨t, pa, s⟩ := ha.ex
  refine ⟨_, pi_range3 hg hm pa hs hpl, fun L C F H σ env R Rd Xd Rr h k x => s L C F H σ env _ _ Xd Rr h (fun F1 H1 vs rs env1 e1 R1 rv q => ?_) x⟩
  obtain ⟨ds, hd, q⟩ := withD_of q
  split at q
  · next i j m =>
    obtain ⟨v, w, z, rfl, r, r', r''⟩ := (rv.rep1 R1 hd).three
    cases rep1_int r
    cases rep1_int r'
    cases rep1_int r''
    obtain ⟨⟨rfl, h1, h2, h3, h4⟩, q⟩ := q
    exact ⟨i, j, -1, _, rfl, RgC.neg h1 h2 h3 h4, k F1 H1 _ _ env1 e1 R1 (walks_down (by omega)) q⟩
  · exact q.elim
/-! ### {k: v} -/
def Cc.with (C : Cc) (p : Addr) (o : HO) : Cc := { C with H0 := upd C.H0 p o }
theorem Fr.out (R : Fr L C F H) (h : H p = none) : C.H0 p = none := by
  cases z : C.H0 p with
  | none => rfl
  | some o => exact absurd h (R.th p (by rw [z]; exact fun y => by cases y))
theorem Fr.ne (R : Fr L C F H) (h : H p = none) {q : Addr} (hq : C.H0 q ≠ none) : q ≠ p := fun z => hq (by rw [z]; exact R.out h)
theorem Rl.lift (R : Rl L C F H σ env) (h : H p = none) (o : HO) (nf : isFz o = false := by rfl) : Rl L (C.with p o) F (upd H p o) σ env where
  len := R.len
  nd := R.nd
  fr := {
    wb := R.fr.wb
    fl := fun q ob u e => by
      by_cases z : q = p
      · subst z; rw [upd_same] at e; cases e; cases nf
      · rw [upd_ne z] at e
        rw [show (C.with p o).H0 q = C.H0 q from upd_ne z]; exact R.fr.fl q ob u e
    fz := (R.fr.grO h o nf).fz
    fn := fun q hq => by
      by_cases z : q = p
      · subst z
        rw [R.fr.fz_eq h]
        refine .inl ?_
        show none = C.F0 q
        cases y : C.F0 q with
        | none => rfl
        | some w => exact absurd (R.fr.out h) (R.fr.wf q w y)
      · exact (R.fr.fn q (by rw [show (C.with p o).H0 q = C.H0 q from upd_ne z] at hq; exact hq)).imp id fun ⟨y, vs, t⟩ => ⟨y, vs, (upd_ne z).trans t⟩
    kp := fun q w hq nb => by
      by_cases z : q = p
      · subst z
        rw [show (C.with q o).H0 q = some o from upd_same] at hq
        cases hq
        exact .inl upd_same
      · rw [show (C.with p o).H0 q = C.H0 q from upd_ne z] at hq
        rw [upd_ne z]
        exact R.fr.kp q w hq nb
    th := fun q hq => by
      by_cases z : q = p
      · subst z; rw [upd_same]; exact fun y => by cases y
      · rw [show (C.with p o).H0 q = C.H0 q from upd_ne z] at hq
        rw [upd_ne z]; exact R.fr.th q hq
    lk := fun q hq => by
      obtain ⟨ob, w, y⟩ := R.fr.lk q hq
      have z : q ≠ p := fun z => by rw [z, h] at y; cases y
      exact ⟨ob, w, by rw [upd_ne z]; exact y⟩
    wf := fun q w y => by
      have hq := R.fr.wf q w y
      rw [show (C.with p o).H0 q = C.H0 q from upd_ne (R.fr.ne h hq)]; exact hq
    wa := fun i q y => by
      have hq := R.fr.wa i q y
      rw [show (C.with p o).H0 q = C.H0 q from upd_ne (R.fr.ne h hq)]; exact hq }
  sl := fun i s es => by
    obtain ⟨ov, h1, h2⟩ := (R.grow (R.fr.grO h o nf)).sl i s es
    refine ⟨ov, h1, ?_⟩
    cases s with
    | f d => exact h2
    | o d =>
      obtain ⟨p', e, n0, nf, ct⟩ := h2
      obtain ⟨_, g1, p2, g2, _, _, ct0⟩ := R.sl i _ es
      rw [h1] at g1; cases g1
      rw [e] at g2; cases g2
      have z : p' ≠ p := fun z => by obtain ⟨w, hw⟩ := ct0.there; rw [z, h] at hw; cases hw
      exact ⟨p', e, by rw [show (C.with p o).H0 p' = C.H0 p' from upd_ne z]; exact n0, nf, ct⟩
    | b d => exact h2
theorem unlift (R0 : Fr L C F H) (h : H p = none) (R : Rl L (C.with p u) F2 H2 σ env2) (hu : ∀ ob w, u ≠ .frz ob w) (nT : ∀ vs, u ≠ .tup vs) (nl : ¬ L p) (v : HO) (nv : isFz v = false := by rfl) : Rl L C F2 (upd H2 p v) σ env2 ∧ C.H0 p = none ∧ F2 p = none ∧ H2 p = some u ∧ ∀ i, IsO env2 i → σ[i]? ≠ some (some (.ref p)) := by
  have c0 := R0.out h
  have cp : (C.with p u).H0 p = some u := upd_same
  have cn : ∀ q, C.H0 q ≠ none → q ≠ p ∧ (C.with p u).H0 q = C.H0 q := fun q hq => ⟨R0.ne h hq, upd_ne (R0.ne h hq)⟩
  have nb : ¬ (C.with p u).Bor p := fun ⟨i, hi⟩ => R0.wa i p hi c0
  have hp : H2 p = some u := (R.fr.kp p u cp nb).elim id fun z => absurd z.1 nl
  have fp : F2 p = none := by
    rcases R.fr.fn p (by rw [cp]; exact fun y => by cases y) with z | ⟨_, vs, z⟩
    · rw [z]
      show C.F0 p = none
      cases y : C.F0 p with
      | none => rfl
      | some w => exact absurd c0 (R0.wf p w y)
    · rw [hp] at z; exact absurd (Option.some.inj z) (nT vs)
  refine ⟨{ len := R.len, nd := R.nd, fr := ?_, sl := ?_ }, c0, fp, hp, ?_⟩
  · exact {
      fz := fun q w hq => by
        have z : q ≠ p := fun z => by rw [z, fp] at hq; cases hq
        rw [upd_ne z]; exact R.fr.fz q w hq
      fn := fun q hq => (R.fr.fn q (by rw [(cn q hq).2]; exact hq)).imp id fun ⟨y, vs, t⟩ => ⟨y, vs, (upd_ne (cn q hq).1).trans t⟩
      kp := fun q w hq n => by
        have hz : C.H0 q ≠ none := by rw [hq]; exact fun y => by cases y
        rw [upd_ne (cn q hz).1]
        exact R.fr.kp q w (by rw [(cn q hz).2]; exact hq) n
      th := fun q hq => by
        rw [upd_ne (cn q hq).1]
        exact R.fr.th q (by rw [(cn q hq).2]; exact hq)
      lk := fun q hq => by
        obtain ⟨ob, w, y⟩ := R.fr.lk q hq
        have z : q ≠ p := fun z => nl (z ▸ hq)
        exact ⟨ob, w, by rw [upd_ne z]; exact y⟩
      wf := R0.wf
      wa := R0.wa
      wb := R0.wb
      fl := fun q ob w e => by
        by_cases z : q = p
        · subst z; rw [upd_same] at e; cases e; cases nv
        · rw [upd_ne z] at e
          have := R.fr.fl q ob w e
          rw [show (C.with p u).H0 q = C.H0 q from upd_ne z] at this; exact this }
  · intro i s es
    obtain ⟨ov, h1, h2⟩ := R.sl i s es
    refine ⟨ov, h1, ?_⟩
    cases s with
    | f d => exact h2
    | o d =>
      obtain ⟨p', e, n0, nf, ct⟩ := h2
      have z : p' ≠ p := fun z => by rw [z, cp] at n0; cases n0
      exact ⟨p', e, by rw [show (C.with p u).H0 p' = C.H0 p' from upd_ne z] at n0; exact n0, nf, ct.mono (Ex.refl _) (upd_ne z)⟩
    | b d =>
      obtain ⟨p', e, n0, nf, ct⟩ := h2
      have z : p' ≠ p := fun z => nb ⟨i, z ▸ n0⟩
      exact ⟨p', e, n0, nf, ct.mono (Ex.refl _) (upd_ne z)⟩
  · rintro i ⟨d, hd⟩ es
    obtain ⟨q, h1, _, _, h4⟩ := R.own hd
    rw [h1] at es; cases es
    rcases h4 with h4 | h4
    · rw [cp] at h4; cases h4
    · exact nb h4
theorem XOk.lift {Xd : XD} (R0 : Fr L C F H) (h : H p = none) (hu : ∀ ob w, u ≠ .frz ob w) (nT : ∀ vs, u ≠ .tup vs) (nl : ¬ L p) (nv : isFz u = false) (x : XOk L C F E Xd) : XOk L (C.with p u) F E Xd := fun F' H' σ' env' cls od fds e R xf ok q => by
  obtain ⟨R1, _, _, hp, _⟩ := unlift R0 h R hu nT nl u nv
  have : upd H' p u = H' := by
    funext q
    by_cases z : q = p
    · rw [z, upd_same, hp]
    · rw [upd_ne z]
  rw [this] at R1
  exact x F' H' σ' env' cls od fds e R1 xf ok q
def dDisp1 (dk dv : DE) : DE := fun env Q X => dk env (fun rk env1 => match rk with
  | .f (.int i) => dv env1 (fun rv env2 => withD (elD rv) fun d => Q (.n (.dk [(Sum.inl i, d)])) env2) X
  | _ => False) X
theorem de_disp1 (hk : DEx X E a dk) (hv : DEx X E b dv) : DEx X E (.Dict [some a] [b] pos) (dDisp1 dk dv) := by
  obtain ⟨t1, p1, s1⟩ := hk.ex
  obtain ⟨t2, p2, s2⟩ := hv.ex
  refine ⟨_, pe_disp (pps_cons p1 p2 pps_nil) rfl rfl (by simp) (by simp), fun L C F H σ env Q Qd Xd R h k x p hp => ?_⟩
  have nl : ¬ L p := fun z => by obtain ⟨ob, w, y⟩ := R.fr.lk p z; rw [hp] at y; cases y
  have hu : ∀ ob w, (HO.dK [] : HO) ≠ .frz ob w := fun _ _ y => by cases y
  have x' := XOk.lift (u := .dK []) R.fr hp hu (fun _ y => by cases y) nl rfl x
  refine s1 L (C.with p (.dK [])) F _ σ env _ _ Xd (R.lift hp (.dK [])) h (fun F1 H1 v1 r1 env1 e1 R1 rv1 q1 => ?_) x'
  split at q1
  · next i =>
    cases rv1
    refine s2 L _ F1 H1 σ env1 _ _ Xd R1 q1 (fun F2 H2 v2 r2 env2 e2 R2 rv2 q2 => ?_) (x'.mono e1)
    obtain ⟨d, hd, q2⟩ := withD_of q2
    obtain ⟨F3, e3, R3, r3⟩ : ∃ F3, Ex F2 F3 ∧ Rl L (C.with p (.dK [])) F3 H2 σ env2 ∧ Rep F3 v2 d := by
      cases r2 with
      | f d => cases hd; exact ⟨F2, Ex.refl _, R2, rv2⟩
      | n d => cases hd; exact R2.frz rv2
      | l j => cases hd
    obtain ⟨R4, c0, fp, h2p, no⟩ := unlift R.fr hp R3 hu (fun _ y => by cases y) nl (.dK [(Sum.inl i, v2)])
    refine ⟨h2p, [(Sum.inl i, v2)], rfl, by simp, ?_⟩
    exact k F3 _ (.ref p) (.n (.dk [(Sum.inl i, d)])) env2 (e1.trans (e2.trans e3)) R4 ⟨p, rfl, ⟨c0, fp, [(Sum.inl i, v2)], upd_same, .cons r3 .nil⟩, no⟩ q2
  · exact q1.elim
end
end DL

set_option Elab.async false
set_option linter.all false
set_option maxRecDepth 100000
set_option maxHeartbeats 2000000
namespace DL
open PySem PySem.Spec PyProof.Rows L2
variable [ClsV]
section
variable {X : Cx} {E : L2.St → XK} {a b e : Expr} {da db de : DE} {dr : DA} {p q pos apos cpos : Pos} {F H : Hp}
/-! ### x in l, l.count(x): data of any depth -/
theorem toPys_any (d : Dat) : ∀ l : List Dat, ((toPys l).any fun z => PyData.eqv z (toPy d)) = l.any fun z => eqvD z d
  | [] => rfl
  | x :: l => by
    show (PyData.eqv (toPy x) (toPy d) || _) = _
    rw [toPys_any d l]; rfl
theorem toPys_count (d : Dat) : ∀ l : List Dat, (toPys l).countP (fun z => PyData.eqv z (toPy d)) = l.countP fun z => eqvD z d
  | [] => rfl
  | x :: l => by
    show (toPy x :: toPys l).countP _ = _
    rw [List.countP_cons, List.countP_cons, toPys_count d l]; rfl
theorem room65 {k : Nat} {A : Around} (r : Room k A) : A.units + 65 < cLine := by have := r.un; omega
def itemsD : Dat → Option (List Dat)
  | .lst l => some l
  | .tup l => some l
  | _ => none
def gInV (n : Bool) : G2 := fun a b Q => plv 40 a = true ∧ plv 40 b = true ∧ Got (itemsD b) fun l => Q (.f (.bl (n ^^ l.any fun z => eqvD z a)))
def rInT (K : PySem.W.Frag) : R2 := fun x y H Q => ∃ d ds, Dp K H x d ∧ Dp K H y (.tuple ds) ∧ SeqAt.shaped d = true ∧ SeqAt.shaped (.tuple ds) = true ∧ Q (.bl (ds.any fun z => PyData.eqv z d)) H
theorem op_inT (hu : X.A.units + 65 < cLine) : OpR X (compareOp .In) (rInT X.K) := fun pins s σ H x y v u Q I rx ry ⟨d, ds, hd, hs, sd, ss, q⟩ => by
  obtain ⟨_, r1⟩ := Dp.reads I d x v hd rx
  obtain ⟨_, r2⟩ := Dp.reads I (.tuple ds) y u hs ry
  exact SeqAt.in_tuple_reads r2 r1 (SeqAt.canLay_of_shaped ss) (SeqAt.canLay_of_shaped sd) (room_in_shaped sd hu) ⟨.bl _, H, I, rfl, q⟩
theorem o_inV {K : PySem.W.Frag} : Op2 (fun x y H Q => rInD K x y H Q ∨ rInT K x y H Q) (gInV false) := fun L C F H x y dx dy Q Qd fr rx ry ⟨h1, h2, h3⟩ k => by
  have u := pv1_of (K := K) fr.fz h1 rx
  have v := pv1_of (K := K) fr.fz h2 ry
  cases dy with
  | lst l' =>
    obtain ⟨_, hl, h3⟩ := h3.ex
    cases hl
    rw [Bool.false_xor] at h3
    exact .inl ⟨_, _, u.dp, v.dp, pv_shape u.lay u.dep, pv_shape v.lay v.dep, k F H _ (.f _) (Gr.refl fr) (by rw [toPys_any]; exact Rep.bl _) h3⟩
  | tup l' =>
    obtain ⟨_, hl, h3⟩ := h3.ex
    cases hl
    rw [Bool.false_xor] at h3
    exact .inr ⟨_, _, u.dp, v.dp, pv_shape u.lay u.dep, pv_shape v.lay v.dep, k F H _ (.f _) (Gr.refl fr) (by rw [toPys_any]; exact Rep.bl _) h3⟩
  | _ => obtain ⟨_, hl, _⟩ := h3.ex; cases hl
theorem de_inV {k : Nat} (hr : Room k X.A) (ha : DEx X E a da) (hb : DEx X E b db) (hm : behindInMarks .In b = false := by rfl) : DEx X E (.Compare a [.In] [b] pos) (dOp (gInV false) da db) := de_cmp ((op_inD (room65 hr)).or (op_inT (room65 hr))) o_inV ha hb hm
theorem dt_inV {k : Nat} (hr : Room k X.A) (ha : DEx X E a da) (hb : DEx X E b db) (hm : behindInMarks .In b = false := by rfl) : DTx X E (.Compare a [.In] [b] pos) (dB (dOp (gInV false) da db)) := dt_cmp ((op_inD (room65 hr)).or (op_inT (room65 hr))) o_inV ha hb hm
/-- l.count(x) -/
def rCntD (K : PySem.W.Frag) : V → List V → Hp → VK → Prop := fun x xs H Q => ∃ (p : Addr) (y : V) (d : PyData) (ds : List PyData), x = .ref p ∧ xs = [y] ∧ Dp K H (.ref p) (.list ds) ∧ Dp K H y d ∧ SeqAt.shaped (.list ds) = true ∧ SeqAt.shaped d = true ∧ Q (.int (ds.countP (fun z => PyData.eqv z d) : Nat)) H
theorem mt_cntD (hu : X.A.units + 65 < cLine) : MtR X "list.count" (rCntD X.K) := fun pins s σ H x xs v us Q I rx rxs ⟨p, y, d, ds, ex, exs, hl, hy, sl, sd, q⟩ => by
  subst ex exs
  obtain ⟨u, eu, ru⟩ := rxs.one
  subst eu
  cases rx
  obtain ⟨_, ry⟩ := Dp.reads I d y u hy ru
  have lay : PyData.canLayAll0 ds = true := SeqAt.canLay_of_shaped sl
  cases hl with
  | lst hs ha =>
    obtain ⟨its, rv, ⟨⟨kl, dd, dat, sls⟩, n, ho, ek, _, ed⟩, _⟩ := I.list hs
    dsimp only at ek ed
    subst ek ed
    obtain ⟨_, rs⟩ := Dp.readsAll I ds _ its ha rv
    have ar := PySem.F.args_list_count_2 (.ref p) u
    refine call_meets PySem.F.slot_list_count ⟨_, ho, rfl⟩ PySem.F.entry_list_count ar
      (SeqAt.list_countAt p its.toArray n dd sls u fun w => PyData.eqv (SeqAt.readOf s.heap w) d)
      ⟨ho, SeqAt.items_eqAt (vs := its.toArray) (by simpa using rs) ry lay (SeqAt.canLay_of_shaped sd) (room_in_shaped sd hu), ?_⟩
    refine ⟨.int (ds.countP (fun z => PyData.eqv z d) : Nat), H, I.tok _, ⟨s.toks, ?_⟩, q⟩
    have e : its.countP (fun w => PyData.eqv (SeqAt.readOf s.heap w) d) = ds.countP fun z => PyData.eqv z d := by
      rw [← SeqAt.readsAll_map ds its _ lay rs, List.countP_map]; rfl
    show Value.int ((its.toArray.toList.countP _ : Nat) : Int) s.toks = _
    rw [List.toList_toArray, e]
def gCountV : Dat → List Dat → (Res → Prop) → Prop := fun d ds Q => match d, ds with
  | .lst l, [x] => plv 40 (.lst l) = true ∧ plv 40 x = true ∧ Q (.f (.int (l.countP (fun z => eqvD z x) : Nat)))
  | _, _ => False
theorem o_countV {K : PySem.W.Frag} : OpR1 (rCntD K) gCountV := fun L C F H x vs d ds Q Qd fr rx rs h k => by
  unfold gCountV at h
  split at h
  · next l y =>
    obtain ⟨h1, h2, h3⟩ := h
    obtain ⟨v, rfl, rv⟩ := rs.one
    have u := pv1_of (K := K) fr.fz h1 rx
    have w := pv1_of (K := K) fr.fz h2 rv
    obtain ⟨a, ws, rfl, ha, rl⟩ := rx
    exact ⟨a, v, _, _, rfl, rfl, u.dp, w.dp, pv_shape u.lay u.dep, pv_shape w.lay w.dep, k F H _ (.f _) (Gr.refl fr) (by rw [toPys_count]; exact Rep.int _) h3⟩
  · exact h.elim
theorem de_countV {k : Nat} (hr : Room k X.A) (ho : DEx X E a da) (ha : DAx X E [e] dr) (hbase : attributeBase a "count" X.env (eval a X.env) = eval a X.env := by rfl)
    (hfew : ((backTo cpos (starEach [e] X.env)).all (fun x => !x.1) && (backToKw cpos (keywordEach [] X.env)).all (fun x => x.1.isSome) && decide (([e] : List Expr).length + ([] : List Keyword).length + (if ([] : List Keyword).isEmpty then 0 else 1) < 30)) = true := by rfl)
    (hs : starEach [e] X.env = (false, eval e X.env) :: starEach [] X.env := by rfl) (hplain : (backTo cpos (starEach [] X.env)).any (·.1) = false := by rfl) (hline : (apos.endLine == cpos.line) = true := by rfl) :
    DEx X E (.Call (.Attribute a "count" apos) [e] [] cpos) (dMeth isL gCountV da dr) := by
  obtain ⟨t, p, s⟩ := ho.ex
  obtain ⟨t', p', s'⟩ := ha.ex
  exact ⟨_, pe_bm PySem.F.plainAttrs_list PySem.F.slot_list_count PySem.F.type_list_count (mt_cntD (room65 hr)) p p' hbase hfew hline hs hplain, se_meth tyL o_countV s s'⟩
end
end DL

set_option Elab.async false
set_option linter.all false
set_option maxRecDepth 100000
set_option maxHeartbeats 2000000
namespace DL
open PySem PySem.Spec PyProof.Rows L2
/-! ### zip of a list with a tuple -/
def ItM (K : PySem.W.Frag) (p q : Addr) (m n : Nat) : It where
  go i H := ∃ us vs u v, (SqL K H p us ∧ us.length = m ∧ us[i]? = some u) ∧ SqT K H q vs ∧ vs.length = n ∧ vs[i]? = some v
  yld i H r H' := ∃ T u v, (r = .ref T ∧ H T = none ∧ H' = upd H T (.tup [u, v])) ∧ (∀ us, SqL K H p us → us[i]? = some u) ∧ ∀ vs, SqT K H q vs → vs[i]? = some v
  stop i H := (∃ us vs, (SqL K H p us ∧ us.length = m) ∧ SqT K H q vs ∧ vs.length = n) ∧ (m ≤ i ∨ n ≤ i)
/-- the five cells of such a zip, at its turn i -/
structure MSt (m n : Nat) (p q z e f g k : Addr) (i : Nat) (h : Heap) : Prop where
  lm : i ≤ m
  ln : i ≤ n
  zp : IsZip h z e f .none
  pr : IsTupOf2 h e (.ref g) (.ref k)
  ou : ∃ x y, IsTupOf2 h f x y
  i1 : h.IsListIter g p i
  i2 : h.IsTupleIter k q i
theorem MSt.all {m n i : Nat} {p q z e f g k : Addr} {h : Heap} (S : MSt m n p q z e f g k i h) : ∀ b ∈ [z, e, f, g, k], ∃ o, h.get? b = some o ∧ ∀ v, o.data ≠ .cell v := fun b hb => by
  obtain ⟨x, y, ou⟩ := S.ou
  obtain ⟨o1, a1, _, c1⟩ := S.i1
  obtain ⟨o2, a2, _, c2⟩ := S.i2
  rw [List.mem_cons, List.mem_cons, List.mem_cons, List.mem_cons, List.mem_singleton] at hb
  rcases hb with w | w | w | w | w <;> subst w
  · exact ⟨_, S.zp, fun v w => nomatch w⟩
  · exact ⟨_, S.pr, fun v w => nomatch w⟩
  · exact ⟨_, ou, fun v w => nomatch w⟩
  · exact ⟨o1, a1, fun v w => by rw [c1] at w; cases w⟩
  · exact ⟨o2, a2, fun v w => by rw [c2] at w; cases w⟩
theorem MSt.same {m n i : Nat} {p q z e f g k : Addr} {h h' : Heap} (S : MSt m n p q z e f g k i h) (kp : ∀ b ∈ [z, e, f, g, k], ∀ o, h.get? b = some o → h'.get? b = some o) : MSt m n p q z e f g k i h' := by
  obtain ⟨x, y, ou⟩ := S.ou
  exact ⟨S.lm, S.ln, kp z (by simp) _ S.zp, kp e (by simp) _ S.pr, ⟨x, y, kp f (by simp) _ ou⟩, S.i1.at fun o w => kp g (by simp) o w, S.i2.at fun o w => kp k (by simp) o w⟩
theorem turnM {P : Program} {w : World} {K : PySem.W.Frag} {es : List Expr} {kk : Nat} {tp : Pos} {m n : Nat} {p q z e f g k : Addr} (D : ZipApart z e f g k p q) :
    Turn P w K (.Tuple es kk tp) (ItM K p q m n) [z, e, f, g, k] z (MSt m n p q z e f g k) where
  mem := List.mem_cons_self
  obj _ _ S := S.all
  keep _ _ _ S := S.same
  self A i s Q E S := wpAny_pyIter_zip S.zp
  item X hP hw hK hc i pins s σ H E I hf S hg := by
    subst hP hw hK
    obtain ⟨us, vs, u, v, ⟨su, lu, gu⟩, sv, lv, gv⟩ := hg
    obtain ⟨is1, r1, p1, _⟩ := I.list su
    obtain ⟨is2, r2, p2, _⟩ := I.tuple sv
    obtain ⟨x1, hx1, rx1⟩ := r1.get gu
    obtain ⟨x2, hx2, rx2⟩ := r2.get gv
    obtain ⟨o1, o2, ou⟩ := S.ou
    have hh : X.A.in1.handled = none := I.ok.hd hc
    have zl : z < s.heap.objs.size := Heap.lt_size S.zp
    have b1 : i < is1.length := (List.getElem?_eq_some_iff.1 hx1).1
    have b2 : i < is2.length := (List.getElem?_eq_some_iff.1 hx2).1
    have l1 := r1.length
    have l2 := r2.length
    refine wpAny_pyNext_zipD2_item (S := ⟨D.TIz, D.TOz, D.TITO, D.TIi1, by simp, ?_, ?_, D.TIi2, by simp, ?_, ?_, ?_, ?_⟩) (Draws.list hh g p D.l1i1 is1.toArray) (Draws.tuple hh k q D.l2i2 is2.toArray)
      S.zp S.pr ou ⟨S.i1, p1.isList⟩ ⟨S.i2, p2⟩ (by simpa using b1) (by simpa using b2) fun y1 y2 h1 tk e1 e2 z1 f1 t1 t2 nw sz kp => ?_
    · simp only [List.mem_cons, List.not_mem_nil, or_false, not_or]; exact ⟨D.i1z.symm, D.l1z.symm⟩
    · simp only [List.mem_cons, List.not_mem_nil, or_false, not_or]; exact ⟨D.TOi1, D.l1TO.symm⟩
    · simp only [List.mem_cons, List.not_mem_nil, or_false, not_or]; exact ⟨D.i2z.symm, D.l2z.symm⟩
    · simp only [List.mem_cons, List.not_mem_nil, or_false, not_or]; exact ⟨D.TOi2, D.l2TO.symm⟩
    · simp only [List.mem_cons, List.not_mem_nil, or_false, not_or]; exact ⟨D.i12, D.l2i1.symm⟩
    · simp only [List.mem_cons, List.not_mem_nil, or_false, not_or]; exact ⟨D.i12.symm, D.l1i2.symm⟩
    have e1 : y1 = x1 := by
      have : is1.toArray[i]? = some x1 := by simpa using hx1
      rw [this] at e1; cases e1; rfl
    have e2 : y2 = x2 := by
      have : is2.toArray[i]? = some x2 := by simpa using hx2
      rw [this] at e2; cases e2; rfl
    subst e1 e2
    refine ⟨_, rfl, wpAny_letOwnedTupleGo_zip (s := { s with heap := h1, toks := tk }) z1 fun h2 z2 sb => ?_⟩
    have nw2 : h2.get? s.heap.objs.size = some { cls := .type "tuple", data := .seq #[y1, y2] } := (sb.2 _ (Nat.ne_of_gt zl)).trans nw
    have kp2 : ∀ b o, b ∉ [z, e, f, g, k] → s.heap.get? b = some o → h2.get? b = some o := fun b o nb hb => by
      simp only [List.mem_cons, List.not_mem_nil, or_false, not_or] at nb
      exact (sb.2 b nb.1).trans (kp b o nb.1 nb.2.2.1 nb.2.2.2.1 nb.2.2.2.2 hb)
    have fresh : H s.heap.objs.size = none := I.hok.fresh (Nat.le_refl _)
    have J := I.turnedNew (t' := tk) (ch := [z, e, f, g, k]) kp2 hf (Nat.le_refl _)
      (show ObjOk X.prog X.w (upd H s.heap.objs.size (.tup [u, v])) h2 s.heap.objs.size (.tup [u, v]) from ⟨show 2 ≤ sizeLine by decide, [y1, y2], .cons rx1 (.cons rx2 .nil), _, nw2, rfl, _, rfl⟩)
    refine ⟨.ref s.heap.objs.size, _, J, rfl, ⟨_, u, v, ⟨rfl, fresh, rfl⟩, fun l hl => by rw [I.list_inj hl su]; exact gu, fun l hl => by rw [I.tuple_inj hl sv]; exact gv⟩, ?_, fun c hcm => ?_⟩
    · exact ⟨by omega, by omega, z2, (sb.2 _ D.TIz).trans (kp _ _ D.TIz D.TITO D.TIi1 D.TIi2 S.pr), ⟨_, _, (sb.2 _ D.TOz).trans f1⟩, t1.1.at fun o w => (sb.2 _ D.i1z).trans w, t2.1.at fun o w => (sb.2 _ D.i2z).trans w⟩
    · obtain ⟨o, ho, _⟩ := S.all c hcm
      exact (upd_ne (Nat.ne_of_lt (Heap.lt_size ho))).trans (hf c hcm).1
  done X hP hw hK hc i pins s σ H E I hf S hg := by
    subst hP hw hK
    obtain ⟨⟨us, vs, ⟨su, lu⟩, sv, lv⟩, hend⟩ := hg
    obtain ⟨is1, r1, p1, _⟩ := I.list su
    obtain ⟨is2, r2, p2, _⟩ := I.tuple sv
    obtain ⟨o1, o2, ou⟩ := S.ou
    have hh : X.A.in1.handled = none := I.ok.hd hc
    have l1 := r1.length
    have l2 := r2.length
    have lm := S.lm
    have ln := S.ln
    refine wpAny_pyNext_zipD2_end (S := ⟨D.TIz, D.TOz, D.TITO, D.TIi1, by simp, ?_, ?_, D.TIi2, by simp, ?_, ?_, ?_, ?_⟩) (Draws.list hh g p D.l1i1 is1.toArray) (Draws.tuple hh k q D.l2i2 is2.toArray)
      S.zp S.pr ou ⟨S.i1, p1.isList⟩ ⟨S.i2, p2⟩ (by simp; omega) (by simp; omega) (by simp; omega) fun h1 tk kp => ⟨rfl, I.turnedL (t' := tk) (ch := [z, e, f, g, k]) (fun b o nb hb => ?_) hf⟩
    · simp only [List.mem_cons, List.not_mem_nil, or_false, not_or]; exact ⟨D.i1z.symm, D.l1z.symm⟩
    · simp only [List.mem_cons, List.not_mem_nil, or_false, not_or]; exact ⟨D.TOi1, D.l1TO.symm⟩
    · simp only [List.mem_cons, List.not_mem_nil, or_false, not_or]; exact ⟨D.i2z.symm, D.l2z.symm⟩
    · simp only [List.mem_cons, List.not_mem_nil, or_false, not_or]; exact ⟨D.TOi2, D.l2TO.symm⟩
    · simp only [List.mem_cons, List.not_mem_nil, or_false, not_or]; exact ⟨D.i12, D.l2i1.symm⟩
    · simp only [List.mem_cons, List.not_mem_nil, or_false, not_or]; exact ⟨D.i12.symm, D.l1i2.symm⟩
    simp only [List.mem_cons, List.not_mem_nil, or_false, not_or] at nb
    exact kp b o nb.1 nb.2.2.1 nb.2.2.2.1 nb.2.2.2.2 hb
def iZipM (K : PySem.W.Frag) (ta : TA) : TI := fun σ H R => ta σ H fun rs H1 => ∃ p q us vs, rs = [.ref p, .ref q] ∧ (SqL K H1 p us ∧ SqT K H1 q vs) ∧ R (ItM K p q us.length vs.length) H1
theorem pi_zipM {X : Cx} {a b : Expr} {ta : TA} {np pos tp : Pos} {es : List Expr} {kk : Nat} (hg : Gl X "zip") (hm : X.mg "zip" = none) (ha : PA X [a, b] ta)
    (hs : starEach [a, b] X.env = (false, eval a X.env) :: starEach [b] X.env := by rfl) (hl : (backTo pos (starEach [b] X.env)).any (·.1) = false := by rfl) :
    PI X (.Tuple es kk tp) (.Call (.Name "zip" np) [a, b] [] pos) (iZipM X.K ta) := ⟨fun pins s σ H R I h => by
  refine Call_ (ld_blt I hg hm PyProof.Rows.boot_zip (PyProof.Rows.callWith_type1 (thn (ha.run pos pins s σ H _ I h) fun ws s1 ⟨rs, H1, I1, r1, p, q, us, vs, er, ⟨su, sv⟩, k⟩ => ?_) hs hl))
  subst er
  obtain ⟨w1, w2, rfl, e1, e2⟩ : ∃ w1 w2, ws = [w1, w2] ∧ RelV (.ref p) w1 ∧ RelV (.ref q) w2 := by
    cases r1 with
    | cons x t => cases t with
      | cons y t => cases t; exact ⟨_, _, rfl, x, y⟩
  cases e1
  cases e2
  obtain ⟨is1, _, p1, _⟩ := I1.list su
  obtain ⟨is2, _, p2, _⟩ := I1.tuple sv
  have ql : p < s1.heap.objs.size := p1.lt
  have qt : q < s1.heap.objs.size := by obtain ⟨o, ho, _⟩ := id p2; exact Heap.lt_size ho
  refine zip_begins2 (begins_list p is1.toArray) (begins_tuple q is2.toArray) p1.isList p2 fun h' hz hT hO g1 g2 sz kp => wpAny_pyIter_zip hz ?_
  have J : Inv X pins σ H1 { s1 with heap := h' } := I1.kept (t' := s1.toks) kp
  refine ⟨_, _, _, _, H1, rfl, J, turnM (PySem.W.ktu_apart s1.heap.objs.size p q ql qt), ⟨Nat.zero_le _, Nat.zero_le _, hz, hT, ⟨_, _, hO⟩, ⟨_, g1, rfl, rfl⟩, ⟨_, g2, rfl, rfl⟩⟩, fun c hc => ?_, k⟩
  have le : s1.heap.objs.size ≤ c := by
    simp only [List.mem_cons, List.not_mem_nil, or_false] at hc
    rcases hc with d | d | d | d | d <;> rw [d] <;> first | exact Nat.le_refl _ | exact Nat.le_add_right _ _
  exact I1.fpOk le (I1.hok.fresh le)⟩
variable [ClsV]
section
variable {X : Cx} {E : L2.St → XK} {L : Addr → Prop} {C : Cc} {F : Hp} {a b : Expr} {da db : DE} {np pos tp : Pos}
theorem walks_zipM {K : PySem.W.Frag} {p q : Addr} {us vs : List V} {ds es : List Dat} (h1 : F p = some (.lst us)) (h2 : F q = some (.tup vs)) (r1 : Reps F us ds) (r2 : Reps F vs es) : Walks L C F (ItM K p q us.length vs.length) (zipD ds es) := fun F' H' σ' env' ex R' i => by
  have su : SqL K H' p us := .inl (.inl (R'.fr.fz.ex (ex _ _ h1) rfl))
  have sv : SqT K H' q vs := .inl (.inl (R'.fr.fz.ex (ex _ _ h2) rfl))
  refine ⟨fun d hd => ?_, fun hl => ⟨⟨us, vs, ⟨su, rfl⟩, sv, rfl⟩, by rw [zipD_len] at hl; rw [r1.len, r2.len]; omega⟩⟩
  obtain ⟨x, y, hx, hy, rfl⟩ := zipD_some hd
  obtain ⟨u, hu, ru⟩ := r1.get hx
  obtain ⟨v, hv, rv⟩ := r2.get hy
  refine ⟨⟨us, vs, u, v, ⟨su, rfl, hu⟩, sv, rfl, hv⟩, fun r H2 ⟨T, u', v', ⟨er, hT, eH⟩, f1, f2⟩ => ?_⟩
  subst er eH
  have g1 := f1 us su
  have g2 := f2 vs sv
  rw [hu] at g1
  rw [hv] at g2
  cases g1
  cases g2
  exact zip_yld R'.fr hT (ru.mono ex) (rv.mono ex)
def dZipM (da db : DE) : DI := fun env Q X => da env (fun r env1 => itK r env1 fun t xs env2 => db env2 (fun r' env3 => itK r' env3 fun t' ys env4 => (t = false ∧ t' = true) ∧ Q (zipD xs ys) env4) X) X
theorem di_zipM {elts : List Expr} {kk : Nat} (hg : Gl X "zip") (hm : X.mg "zip" = none) (ha : DEx X E a da) (hb : DEx X E b db) (hs : starEach [a, b] X.env = (false, eval a X.env) :: starEach [b] X.env := by rfl) (hs2 : starEach [b] X.env = (false, eval b X.env) :: starEach [] X.env := by rfl)
    (hl : (backTo pos (starEach [b] X.env)).any (·.1) = false := by rfl) : DIx X E (.Tuple elts kk tp) (.Call (.Name "zip" np) [a, b] [] pos) (dZipM da db) := by
  obtain ⟨ta, pa, sa⟩ := ha.ex
  obtain ⟨tb, pb, sb⟩ := hb.ex
  refine ⟨_, pi_zipM hg hm (pa_cons pa (pa_cons pb pa_nil hs2) hs) hs hl, fun L C F H σ env R Rd Xd Rr h k x => sa L C F H σ env _ _ Xd Rr h (fun F1 H1 v1 r1 env1 e1 R1 rv1 q1 => ?_) x⟩
  obtain ⟨F2, env2, t1, xs, p, us, e2, R2, rfl, h2, rs2, q2⟩ := itK_of R1 rv1 q1
  refine sb L C F2 H1 σ env2 _ _ Xd R2 q2 (fun F3 H3 v3 r3 env3 e3 R3 rv3 q3 => ?_) (x.mono (e1.trans e2))
  obtain ⟨F4, env4, t4, ys, q, vs, e4, R4, rfl, h4, rs4, ⟨f1, f2⟩, q4⟩ := itK_of R3 rv3 q3
  subst f1 f2
  have h2 := (e3.trans e4) _ _ h2
  exact ⟨p, q, us, vs, rfl, ⟨.inl (.inl (R4.fr.fz.ex h2 rfl)), .inl (.inl (R4.fr.fz.ex h4 rfl))⟩, k F4 H3 _ _ env4 (e1.trans (e2.trans (e3.trans e4))) R4 (walks_zipM h2 h4 (rs2.mono (e3.trans e4)) rs4) q4⟩
end
end DL

set_option Elab.async false
set_option linter.all false
set_option maxRecDepth 100000
set_option maxHeartbeats 2000000
namespace DL
open PySem PySem.Spec PyProof.Rows L2
variable [ClsV]
/-! ### a comprehension over an own dict: it is frozen, and locked while it is walked over -/
def kyD : Key → Dat
  | .inl i => .int i
  | .inr x => .str x
theorem rep_key (F : Hp) (k : Key) : Rep F (kV k) (kyD k) := by
  cases k with
  | inl i => exact .int i
  | inr x => exact .str x
section
variable {X : Cx} {E : L2.St → XK} {L : Addr → Prop} {C : Cc} {F H F2 H2 : Hp} {σ : L2.St} {env env2 : Env} {p : Addr} {u : HO} {ob : Obj} {v : V} {r : Res}
def Cc.lkd (C : Cc) (p : Addr) (ob : Obj) (u : HO) : Cc := { C with H0 := upd C.H0 p (.frz ob u), F0 := upd C.F0 p u }
theorem Rl.lock (R : Rl L C F H σ env) (nb : ∀ i, C.ad i ≠ some p) (hf : F p = some u) (hH : H p = some u) (hd : isD u = true) (nu : ∀ o w, u ≠ .frz o w) (ob : Obj) : Rl L (C.lkd p ob u) F (upd H p (.frz ob u)) σ env where
  len := R.len
  nd := R.nd
  fr := {
    fz := fun a o e => by
      by_cases z : a = p
      · subst z; rw [hf] at e; cases e; exact .inr ⟨hd, ob, upd_same⟩
      · rw [upd_ne z]; exact R.fr.fz a o e
    fn := fun q hq => by
      by_cases z : q = p
      · subst z; rw [hf]; exact .inl (upd_same (H := C.F0)).symm
      · rw [show (C.lkd p ob u).H0 q = C.H0 q from upd_ne z] at hq
        rw [show (C.lkd p ob u).F0 q = C.F0 q from upd_ne z]
        exact (R.fr.fn q hq).imp id fun ⟨y, vs, t⟩ => ⟨y, vs, (upd_ne z).trans t⟩
    kp := fun q w hq nb => by
      by_cases z : q = p
      · subst z
        rw [show (C.lkd q ob u).H0 q = some (.frz ob u) from upd_same] at hq
        cases hq
        exact .inl upd_same
      · rw [show (C.lkd p ob u).H0 q = C.H0 q from upd_ne z] at hq
        rw [upd_ne z]
        exact R.fr.kp q w hq nb
    th := fun q hq => by
      by_cases z : q = p
      · subst z; rw [upd_same]; exact fun y => by cases y
      · rw [show (C.lkd p ob u).H0 q = C.H0 q from upd_ne z] at hq
        rw [upd_ne z]; exact R.fr.th q hq
    lk := fun q hq => by
      obtain ⟨o, w, y⟩ := R.fr.lk q hq
      have z : q ≠ p := fun z => by rw [z, hH] at y; exact nu _ _ (Option.some.inj y)
      exact ⟨o, w, by rw [upd_ne z]; exact y⟩
    wf := fun q w y => by
      by_cases z : q = p
      · subst z; rw [show (C.lkd q ob u).H0 q = some (.frz ob u) from upd_same]; exact fun y => by cases y
      · rw [show (C.lkd p ob u).F0 q = C.F0 q from upd_ne z] at y
        rw [show (C.lkd p ob u).H0 q = C.H0 q from upd_ne z]; exact R.fr.wf q w y
    wa := fun i q y => by
      have hq := R.fr.wa i q y
      have z : q ≠ p := fun z => nb i (z ▸ y)
      rw [show (C.lkd p ob u).H0 q = C.H0 q from upd_ne z]; exact hq
    wb := fun i q y => by
      have z : q ≠ p := fun z => nb i (z ▸ y)
      exact (upd_ne z).trans (R.fr.wb i q y)
    fl := fun q o w y => by
      by_cases z : q = p
      · subst z; rw [upd_same] at y; cases y; exact upd_same
      · rw [upd_ne z] at y
        exact (upd_ne z).trans (R.fr.fl q o w y) }
  sl := fun i s es => by
    obtain ⟨ov, h1, h2⟩ := R.sl i s es
    refine ⟨ov, h1, ?_⟩
    cases s with
    | f d => exact h2
    | o d =>
      obtain ⟨p', e, n0, nf, ct⟩ := h2
      have z : p' ≠ p := fun z => by rw [z, hf] at nf; cases nf
      exact ⟨p', e, by rw [show (C.lkd p ob u).H0 p' = C.H0 p' from upd_ne z]; exact n0, nf, ct.mono (Ex.refl _) (upd_ne z)⟩
    | b d =>
      obtain ⟨p', e, n0, nf, ct⟩ := h2
      have z : p' ≠ p := fun z => by rw [z, hf] at nf; cases nf
      exact ⟨p', e, n0, nf, ct.mono (Ex.refl _) (upd_ne z)⟩
theorem at_lock (nb0 : ∀ i, C.ad i ≠ some p) (R : Rl L (C.lkd p ob u) F2 H2 σ env2) : H2 p = some (.frz ob u) ∧ F2 p = some u := by
  have cp : (C.lkd p ob u).H0 p = some (.frz ob u) := upd_same
  have nb : ¬ (C.lkd p ob u).Bor p := fun ⟨i, hi⟩ => nb0 i hi
  refine ⟨(R.fr.kp p _ cp nb).elim id fun z => absurd rfl (z.2.1 _ _), ?_⟩
  have up : (C.lkd p ob u).F0 p = some u := upd_same
  rcases R.fr.fn p (by rw [cp]; exact fun y => by cases y) with z | ⟨z, _⟩
  · rw [z]; exact up
  · rw [up] at z; cases z
theorem unlock (R0 : Fr L C F H) (nb : ∀ i, C.ad i ≠ some p) (hf : F p = some u) (hd : isD u = true) (hH : H p = some u) (nu : ∀ o w, u ≠ .frz o w) (R : Rl L (C.lkd p ob u) F2 H2 σ env2) : Rl L C F2 (upd H2 p u) σ env2 := by
  obtain ⟨hp, fp⟩ := at_lock nb R
  have cn : ∀ q, q ≠ p → (C.lkd p ob u).H0 q = C.H0 q := fun q z => upd_ne z
  have cp : C.H0 p ≠ none → C.H0 p = some u ∧ C.F0 p = some u := fun hq => by
    cases e : C.H0 p with
    | none => exact absurd e hq
    | some w =>
      rcases R0.kp p w e fun ⟨i, hi⟩ => nb i hi with z | ⟨_, _, _, z⟩
      · rw [hH] at z
        refine ⟨z.symm, ?_⟩
        rcases R0.fn p hq with y | ⟨_, vs, y⟩
        · exact y.symm.trans hf
        · rw [hH] at y; cases y; cases hd
      · rw [hH] at z; cases z; exact absurd rfl (nu _ _)
  have nl : ¬ L p := fun z => by obtain ⟨o, w, y⟩ := R0.lk p z; rw [hH] at y; exact nu _ _ (Option.some.inj y)
  refine { len := R.len, nd := R.nd, fr := ?_, sl := ?_ }
  · exact {
      fz := fun q w hq => by
        by_cases z : q = p
        · subst z; rw [fp] at hq; cases hq; exact .inl upd_same
        · rw [upd_ne z]; exact R.fr.fz q w hq
      fn := fun q hq => by
        by_cases z : q = p
        · subst z; exact .inl (fp.trans (cp hq).2.symm)
        · have f0 : (C.lkd p ob u).F0 q = C.F0 q := upd_ne z
          have := R.fr.fn q (by rw [cn q z]; exact hq)
          rw [f0] at this
          exact this.imp id fun ⟨y, vs, t⟩ => ⟨y, vs, (upd_ne z).trans t⟩
      kp := fun q w hq n => by
        by_cases z : q = p
        · subst z
          rw [(cp (by rw [hq]; exact fun y => by cases y)).1] at hq
          cases hq
          exact .inl upd_same
        · rw [upd_ne z]
          exact R.fr.kp q w (by rw [cn q z]; exact hq) n
      th := fun q hq => by
        by_cases z : q = p
        · subst z; rw [upd_same]; exact fun y => by cases y
        · rw [upd_ne z]
          exact R.fr.th q (by rw [cn q z]; exact hq)
      lk := fun q hq => by
        obtain ⟨o, w, y⟩ := R.fr.lk q hq
        have z : q ≠ p := fun z => nl (z ▸ hq)
        exact ⟨o, w, by rw [upd_ne z]; exact y⟩
      wf := R0.wf
      wa := R0.wa
      wb := R0.wb
      fl := fun q o w y => by
        by_cases z : q = p
        · subst z; rw [upd_same] at y; exact absurd (Option.some.inj y) (nu _ _)
        · rw [upd_ne z] at y
          have := R.fr.fl q o w y
          rw [cn q z] at this
          exact this }
  · intro i s es
    obtain ⟨ov, h1, h2⟩ := R.sl i s es
    refine ⟨ov, h1, ?_⟩
    cases s with
    | f d => exact h2
    | o d =>
      obtain ⟨p', e, n0, nf, ct⟩ := h2
      have z : p' ≠ p := fun z => by rw [z, fp] at nf; cases nf
      exact ⟨p', e, by rw [show (C.lkd p ob u).H0 p' = C.H0 p' from upd_ne z] at n0; exact n0, nf, ct.mono (Ex.refl _) (upd_ne z)⟩
    | b d =>
      obtain ⟨p', e, n0, nf, ct⟩ := h2
      have z : p' ≠ p := fun z => by rw [z, fp] at nf; cases nf
      exact ⟨p', e, n0, nf, ct.mono (Ex.refl _) (upd_ne z)⟩
theorem rv_unlock (fp : F2 p = some u) (h : RV2 (C.lkd p ob u) F2 H2 σ env2 v r) : RV2 C F2 (upd H2 p u) σ env2 v r := by
  cases r with
  | f d => exact h
  | l i => exact h
  | n d =>
    obtain ⟨q, e, ⟨n0, nf, ct⟩, no⟩ := h
    have z : q ≠ p := fun z => by rw [z, fp] at nf; cases nf
    exact ⟨q, e, ⟨by rw [show (C.lkd p ob u).H0 q = C.H0 q from upd_ne z] at n0; exact n0, nf, ct.mono (Ex.refl _) (upd_ne z)⟩, no⟩
theorem repK_len : ∀ {vs : List (Key × V)} {ds : List (Key × Dat)}, RepK F vs ds → vs.length = ds.length
  | _, _, .nil => rfl
  | _, _, .cons _ r => by rw [List.length_cons, List.length_cons, repK_len r]
theorem repK_key : ∀ {vs : List (Key × V)} {ds : List (Key × Dat)}, RepK F vs ds → vs.map (·.1) = ds.map (·.1)
  | _, _, .nil => rfl
  | _, _, .cons _ r => by rw [List.map_cons, List.map_cons, repK_key r]
/-- the keys of an own dict -/
def dKeysI (j : Nat) : DI := fun env Q _ => match env[j]? with
  | some (some (.o (.dk l))) => Q (l.map fun e => kyD e.1) (env.set j (some (.f (.dk l))))
  | _ => False
theorem se_lcD {tg : TG} {tt : TT} {te : TE} {g : DG} {dt : DT} {de : DE} {vs ws : List Nat} {j : Nat} (hg : SG ws tg g) (hw : ∀ i ∈ ws, i ∈ vs) (ht : ST E tt dt) (he : SE E te de) : SE E (tLockE (tLc (iKeys (tVar j)) tg tt te vs)) (dLc (dKeysI j) g dt de vs) := fun L C F H σ env Q Qd Xd R h k x => by
  unfold dLc dKeysI at h
  split at h
  · next l hd =>
    obtain ⟨hlen, W, w0, turn, done⟩ := h
    obtain ⟨ov, h1, p, h2, n0, nf, ⟨kvs, hH, rk⟩⟩ := R.sl _ _ hd
    subst h2
    obtain ⟨F1, v, e1, hv, R1, rep⟩ := R.frzSlot hd
    rw [h1] at hv; cases hv
    have fH : F1 p = some (.dK kvs) ∧ RepK F1 kvs l := by
      cases rep with
      | @dk a vs' ds hF r =>
        rcases R1.fr.fz _ _ hF with z | ⟨_, o, z⟩
        · rw [hH] at z; cases z; exact ⟨hF, r⟩
        · rw [hH] at z; cases z
    have nu : ∀ o w, HO.dK kvs ≠ .frz o w := fun o w z => by cases z
    refine ⟨p, .dK kvs, hH, trivial, fun od => ⟨.ref p, h1, p, od, rfl, .inl ⟨kvs, upd_same, ?_⟩⟩⟩
    have nb : ∀ i, C.ad i ≠ some p := fun i z => R1.fr.wa i p z n0
    have R2 := R1.lock nb fH.1 hH rfl nu od
    refine lc_core (J := Itk p od kvs) (Q := fun v H' => H' p = some (.frz od (.dK kvs)) ∧ Q v (upd H' p (.dK kvs))) (Qd := Qd) hg hw ht he (F := F) (fun F' H' v r env' e R' rv q => ?_) e1 R2 hlen W w0 turn done fun F' H' env' e R' i acc hW => ?_
    · obtain ⟨a, b⟩ := at_lock nb R'
      exact ⟨a, k F' _ v r env' e (unlock R1.fr nb fH.1 rfl hH nu R') (rv_unlock b rv) q⟩
    · obtain ⟨a, b⟩ := at_lock nb R'
      have lk := repK_len fH.2
      refine ⟨fun d hd => ?_, fun hl => ⟨a, by rw [lk]; rw [List.length_map] at hl; exact hl⟩⟩
      rw [List.getElem?_map] at hd
      cases ei : l[i]? with
      | none => rw [ei] at hd; cases hd
      | some y =>
        rw [ei] at hd; cases hd
        have il : i < l.length := (List.getElem?_eq_some_iff.1 ei).1
        refine ⟨⟨a, by omega⟩, fun x H2 ⟨eH, kk, vv, ek, ex⟩ => ?_⟩
        subst eH
        have key : kk = y.1 := by
          have := congrArg (·[i]?) (repK_key fH.2)
          simp only [List.getElem?_map, ek, ei] at this
          exact Option.some.inj this
        rw [ex, key]
        exact ⟨F', Gr.refl R'.fr, rep_key F' y.1⟩
  · exact h.elim
theorem de_lcD {elt tg : Expr} {y : Str} {py : Pos} {j : Nat} {ifs : List Expr} {scope : Scope} {own : List (Str × Nat)} {pos : Pos} {g : DG} {dt : DT} {de : DE} {ws : List Nat} (hc : X.calm = true) (hN : X.N.Nodup) (hy : X.N[j]? = some y) (hv : Vis X.env.scope y) (ok : BlkOk X.N X.env.scope scope own)
    (hg : ∀ (s : Shared) (H : Hp) (C : Addr) (cl : List (Str × Addr)) (fp : List Addr), DGx (X.blk s H scope (compEnvC scope cl C X.env) fp) tg ws g) (ht : ∀ (s : Shared) (H : Hp) (C : Addr) (cl : List (Str × Addr)) (fp : List Addr), DTs (X.blk s H scope (compEnvC scope cl C X.env) fp) E ifs dt)
    (he : ∀ (s : Shared) (H : Hp) (C : Addr) (cl : List (Str × Addr)) (fp : List Addr), DEx (X.blk s H scope (compEnvC scope cl C X.env) fp) E elt de) (hw : ∀ i ∈ ws, i ∈ own.map (·.2) := by decide) (hdb : (y == ("__debug__" : Str)) = false := by decide) (hcd : (y == ("__classdict__" : Str)) = false := by decide) :
    DEx X E (.ListComp elt [⟨tg, .Name y py, ifs, 0⟩] scope pos) (dLc (dKeysI j) g dt de (own.map (·.2))) := by
  obtain ⟨g', pg, sg⟩ := lc_g hg
  obtain ⟨t', pt, st⟩ := lc_t ht
  obtain ⟨e', pe, se⟩ := lc_e he
  exact ⟨_, pe_lock (pe_lc hc hN (pi_keys (pe_var hy hv hdb hcd)) ok pg pt pe (by intro _; rfl)), se_lcD sg hw st se⟩
end
end DL

set_option Elab.async false
set_option linter.all false
set_option maxRecDepth 100000
set_option maxHeartbeats 2000000
namespace DL
open PySem PySem.Spec PyProof.Rows L2
variable [ClsV]
/-! ### a tuple many times -/
section
variable {X : Cx} {E : L2.St → XK}
def gRepT : G2 := fun a b Q => match a, b with
  | .tup xs, .int k => (xs ≠ [] ∧ 2 ≤ k ∧ k ≤ 1000 ∧ xs.length ≤ 1000) ∧ Q (.f (.tup (List.replicate k.toNat xs).flatten))
  | _, _ => False
theorem o_repT {K : PySem.W.Frag} : Op2 (rRepT K) gRepT := fun L C F H x y dx dy Q Qd fr rx ry h k => by
  unfold gRepT at h
  split at h
  · next xs n =>
    obtain ⟨a, vs, rfl, fa, ha, ra⟩ := rx
    cases rep1_int ry
    obtain ⟨⟨h1, h2, h3, h4⟩, q⟩ := h
    refine ⟨a, n, vs, rfl, rfl, .inl (.inl ha), fun z => h1 ((reps_nil ra).mp z), h2, h3, by rw [ra.len]; exact h4, fun p hp => ?_⟩
    exact k (upd F p (.tup (List.replicate n.toNat vs).flatten)) _ _ (.f _) (fr.grF hp _) (Rep.tup upd_same ((ra.rep _).mono (fr.grF hp (.tup (List.replicate n.toNat vs).flatten)).fx)) q
  · exact h.elim
theorem de_mulT {a b : Expr} {pos : Pos} {da db : DE} (ha : DEx X E a da) (hb : DEx X E b db) : DEx X E (.BinOp a .Mult b pos) (dOp gRepT da db) := de_op op_repT o_repT ha hb
end
end DL

set_option Elab.async false
set_option linter.all false
set_option maxRecDepth 100000
set_option maxHeartbeats 2000000
/-! Walks over the keys of any dict: own or frozen, keys of any form. -/
namespace DL
open PySem PySem.Spec PyProof.Rows L2
variable [ClsV]
def keyItems : Dat → Option (List Dat)
  | .dk l => some (l.map fun e => kyD e.1)
  | .dt l => some (l.map fun e => .tup (e.1.map kyD))
  | _ => none
/-- a slot of the def's own is frozen -/
def fzE (env : Env) : Option Nat → Env
  | none => env
  | some j => match env[j]? with
    | some (some (.o d)) => env.set j (some (.f d))
    | _ => env
section
variable {X : Cx} {E : L2.St → XK} {L : Addr → Prop} {C : Cc} {F H F2 H2 : Hp} {σ : L2.St} {env env2 : Env} {p : Addr} {u : HO} {ob : Obj} {v : V} {r : Res} {d : Dat} {items : List Dat}
theorem Rl.fzE (R : Rl L C F H σ env) (j : Option Nat) : ∃ F', Ex F F' ∧ Rl L C F' H σ (fzE env j) := by
  cases j with
  | none => exact ⟨F, Ex.refl F, R⟩
  | some j =>
    show ∃ F', Ex F F' ∧ Rl L C F' H σ (match env[j]? with
    | some (some (.o d)) => env.set j (some (.f d))
    | _ => env)
    split
    · next dd e =>
      obtain ⟨F', v, e1, _, R', _⟩ := R.frzSlot e
      exact ⟨F', e1, R'⟩
    · exact ⟨F, Ex.refl F, R⟩
/-- an expression whose value can be told without a change, locked dicts or not -/
def SPth (td : TE) (pd : Env → Option Dat) : Prop := ∀ (L : Addr → Prop) (C : Cc) (F H : Hp) (σ : L2.St) (env : Env) (d : Dat), Rl L C F H σ env → pd env = some d →
  ∃ v, Rep F v d ∧ ∀ (H2 : Hp) (Q : VK), (∀ q o, H q = some o → isD o = false → isFz o = false → H2 q = some o) → Q v H2 → td σ H2 Q
def pdVar (j : Nat) : Env → Option Dat := fun env => match env[j]? with
  | some (some (.f d)) => some d
  | _ => none
theorem sp_var {j : Nat} : SPth (tVar j) (pdVar j) := fun L C F H σ env d R h => by
  unfold pdVar at h
  split at h
  · next d' e =>
    cases h
    obtain ⟨ov, h1, v, h2, h3⟩ := R.sl _ _ e
    subst h2
    exact ⟨v, h3, fun H2 Q _ q => ⟨v, h1, q⟩⟩
  · cases h
theorem repT_len : ∀ {vs : List (List Key × V)} {ds : List (List Key × Dat)}, RepT F vs ds → vs.length = ds.length
  | _, _, .nil => rfl
  | _, _, .cons _ r => by rw [List.length_cons, List.length_cons, repT_len r]
theorem repT_key : ∀ {vs : List (List Key × V)} {ds : List (List Key × Dat)}, RepT F vs ds → vs.map (·.1) = ds.map (·.1)
  | _, _, .nil => rfl
  | _, _, .cons _ r => by rw [List.map_cons, List.map_cons, repT_key r]
theorem reps_keys (F : Hp) : ∀ ks : List Key, Reps F (ks.map kV) (ks.map kyD)
  | [] => .nil
  | k :: ks => .cons (rep_key F k) (reps_keys F ks)
/-- a tuple of keys that stands in the heap is frozen -/
theorem Fr.tupF (R : Fr L C F H) {q : Addr} {ks : List Key} (h : H q = some (.tup (ks.map kV))) : ∃ F2, Gr F H F2 H ∧ Rep F2 (.ref q) (.tup (ks.map kyD)) := by
  cases e : F q with
  | none =>
    refine ⟨upd F q (.tup (ks.map kV)), ⟨Ex.refl H, Ex.new e, fun a n => ?_, fun a o ea => ?_, fun _ _ _ z => z⟩, .tup upd_same (reps_keys _ ks)⟩
    · by_cases z : a = q
      · subst z; exact .inr ⟨e, _, h⟩
      · exact .inl (upd_ne z)
    · by_cases z : a = q
      · subst z; rw [upd_same] at ea; cases ea; exact .inl h
      · rw [upd_ne z] at ea; exact R.fz a o ea
  | some o =>
    have : o = .tup (ks.map kV) := by
      rcases R.fz q o e with z | ⟨_, ob, z⟩
      · rw [h] at z; cases z; rfl
      · rw [h] at z; cases z
    subst this
    exact ⟨F, Gr.refl R, .tup e (reps_keys _ ks)⟩
/-- how the keys of a dict are walked over while it is locked -/
theorem keys_walk (rep : Rep F v d) (hk : keyItems d = some items) : ∃ p u, v = .ref p ∧ F p = some u ∧ isD u = true ∧ (∀ o w, u ≠ .frz o w) ∧ Mut (some u) ∧ ∃ J : Obj → It,
    (∀ ob H1 (R : It → Hp → Prop), H1 p = some (.frz ob u) → R (J ob) H1 → (∃ d o, v = .ref d ∧ ((∃ kvs, H1 d = some (.frz o (.dK kvs)) ∧ R (Itk d o kvs) H1) ∨ ∃ kvs, H1 d = some (.frz o (.dT kvs)) ∧ R (Itkt d o kvs) H1))) ∧
    ∀ ob L C F' H' σ' env', Ex F F' → Rl L C F' H' σ' env' → H' p = some (.frz ob u) → ∀ i, (∀ d, items[i]? = some d → (J ob).go i H' ∧ ∀ x H2, (J ob).yld i H' x H2 → ∃ F2, Gr F' H' F2 H2 ∧ Rep F2 x d) ∧ (items.length ≤ i → (J ob).stop i H') := by
  cases rep with
  | @dk p kvs l hF rk =>
    cases hk
    refine ⟨p, .dK kvs, rfl, hF, rfl, fun o w z => (by cases z), trivial, fun ob => Itk p ob kvs, fun ob H1 R h1 h2 => ⟨p, ob, rfl, .inl ⟨kvs, h1, h2⟩⟩, fun ob L C F' H' σ' env' e R a i => ?_⟩
    have lk := repK_len rk
    refine ⟨fun d hd => ?_, fun hl => ⟨a, by rw [lk]; rw [List.length_map] at hl; exact hl⟩⟩
    rw [List.getElem?_map] at hd
    cases ei : l[i]? with
    | none => rw [ei] at hd; cases hd
    | some y =>
      rw [ei] at hd; cases hd
      have il : i < l.length := (List.getElem?_eq_some_iff.1 ei).1
      refine ⟨⟨a, by omega⟩, fun x H2 ⟨eH, kk, vv, ek, ex⟩ => ?_⟩
      subst eH
      have key : kk = y.1 := by
        have := congrArg (·[i]?) (repK_key rk)
        simp only [List.getElem?_map, ek, ei] at this
        exact Option.some.inj this
      rw [ex, key]
      exact ⟨F', Gr.refl R.fr, rep_key F' y.1⟩
  | @dt p kvs l hF rk =>
    cases hk
    refine ⟨p, .dT kvs, rfl, hF, rfl, fun o w z => (by cases z), trivial, fun ob => Itkt p ob kvs, fun ob H1 R h1 h2 => ⟨p, ob, rfl, .inr ⟨kvs, h1, h2⟩⟩, fun ob L C F' H' σ' env' e R a i => ?_⟩
    have lk := repT_len rk
    refine ⟨fun d hd => ?_, fun hl => ⟨a, by rw [lk]; rw [List.length_map] at hl; exact hl⟩⟩
    rw [List.getElem?_map] at hd
    cases ei : l[i]? with
    | none => rw [ei] at hd; cases hd
    | some y =>
      rw [ei] at hd; cases hd
      have il : i < l.length := (List.getElem?_eq_some_iff.1 ei).1
      refine ⟨⟨a, by omega⟩, fun x H2 ⟨eH, kk, vv, q, ek, ex, hq⟩ => ?_⟩
      subst eH
      have key : kk = y.1 := by
        have := congrArg (·[i]?) (repT_key rk)
        simp only [List.getElem?_map, ek, ei] at this
        exact Option.some.inj this
      rw [ex]
      rw [key] at hq
      exact R.fr.tupF hq
  | _ => cases hk
/-- a frozen dict is not lent to be changed -/
theorem Fr.nbF (R : Fr L C F H) (hF : F p = some u) (hd : isD u = true) : ∀ i, C.ad i ≠ some p := fun i z => by
  rcases R.fn p (R.wa i p z) with y | ⟨_, vs, y⟩
  · rw [R.wb i p z, hF] at y; cases y
  · rcases R.fz p u hF with w | ⟨_, ob, w⟩
    · rw [y] at w; cases w; cases hd
    · rw [y] at w; cases w
def dKeysP (fz : Option Nat) (pd : Env → Option Dat) : DI := fun env Q _ => withD (pd (fzE env fz)) fun d => withD (keyItems d) fun items => Q items (fzE env fz)
def tLk (t : TE) : TE := fun σ H Q => tLockE t σ H Q ∨ t σ H Q
theorem pe_lk {e : Expr} {t : TE} (h : PE X e t) : PE X e (tLk t) := ⟨fun pins s σ H Q I hw => hw.elim ((pe_lock h).run pins s σ H Q I) (h.run pins s σ H Q I)⟩
def tLkS (t : TS) : TS := fun D σ H => tLock t D σ H ∨ t D σ H
theorem ps_lk {st : Stmt} {t : TS} (h : PS X st t) : PS X st (tLkS t) := ⟨fun pins s σ H D I hw => hw.elim ((ps_lock h).run pins s σ H D I) (h.run pins s σ H D I)⟩
theorem lock_other {q : Addr} {o w : HO} (hp : H p = some u) (hd : isD u = true) (h : H q = some o) (h1 : isD o = false) : upd H p w q = some o := by
  have z : q ≠ p := fun z => by rw [z, hp] at h; cases h; rw [hd] at h1; cases h1
  rw [upd_ne z]; exact h
theorem se_lcP {td : TE} {pd : Env → Option Dat} {fz : Option Nat} {tg : TG} {tt : TT} {te : TE} {g : DG} {dt : DT} {de : DE} {vs ws : List Nat} (hp : SPth td pd) (hg : SG ws tg g) (hw : ∀ i ∈ ws, i ∈ vs) (ht : ST E tt dt) (he : SE E te de) :
    SE E (tLk (tLc (iKeys td) tg tt te vs)) (dLc (dKeysP fz pd) g dt de vs) := fun L C F H σ env Q Qd Xd R h k x => by
  unfold dLc dKeysP at h
  obtain ⟨d, hd, h⟩ := withD_of h
  obtain ⟨items, hk, hlen, W, w0, turn, done⟩ := withD_of h
  obtain ⟨F1, e1, R1⟩ := R.fzE fz
  obtain ⟨v, rep, ev⟩ := hp L C F1 H σ _ d R1 hd
  obtain ⟨p, u, rfl, hF, du, nu, mu, J, hJ, wk⟩ := keys_walk rep hk
  have nb := R1.fr.nbF hF du
  rcases R1.fr.fz p u hF with hH | ⟨_, ob, hH⟩
  · refine .inl ⟨p, u, hH, mu, fun od => ?_⟩
    have R2 := R1.lock nb hF hH du nu od
    refine ev _ _ (fun q o z1 z2 _ => lock_other hH du z1 z2) ?_
    refine hJ od _ (fun J H1 => tLc (fun _ H R => R J H) tg tt te vs σ H1 fun v H' => H' p = some (.frz od u) ∧ Q v (upd H' p u)) upd_same ?_
    refine lc_core (J := J od) (Q := fun v H' => H' p = some (.frz od u) ∧ Q v (upd H' p u)) (Qd := Qd) hg hw ht he (F := F) (fun F' H' v r env' e R' rv q => ?_) e1 R2 hlen W w0 turn done fun F' H' env' e R' i acc hW => ?_
    · obtain ⟨a, b⟩ := at_lock nb R'
      exact ⟨a, k F' _ v r env' e (unlock R1.fr nb hF du hH nu R') (rv_unlock b rv) q⟩
    · exact wk od _ _ F' H' _ _ e R' (at_lock nb R').1 i
  · refine .inr (ev _ _ (fun q o z1 _ _ => z1) (hJ ob _ (fun J H1 => tLc (fun _ H R => R J H) tg tt te vs σ H1 Q) hH ?_))
    have c0 := R1.fr.fl p ob u hH
    refine lc_core (J := J ob) (Q := Q) (Qd := Qd) hg hw ht he (F := F) (fun F' H' v r env' e R' rv q => k F' H' v r env' e R' rv q) e1 R1 hlen W w0 turn done fun F' H' env' e R' i acc hW => ?_
    refine wk ob _ _ F' H' _ _ e R' ?_ i
    rcases R'.fr.kp p _ c0 fun ⟨i, hi⟩ => nb i hi with z | ⟨_, z, _⟩
    · exact z
    · exact absurd rfl (z ob u)
/-- the turns of a for over what gives these items -/
theorem for_core {tg : TG} {tb : TS} {g : DG} {ds : DS} {vs : List Nat} (s1 : SG vs tg g) (s2 : SS E tb ds) {D : Ends} {Dd : DEnds} {F1 H1 : Hp} {J : It} {env1 : Env} (R1 : Rl L C F1 H1 σ env1) (k : EndsOk L C F1 D Dd) (x : XOk L C F1 E Dd.xr) (w1 : Walks L C F1 J items) (W : Nat → Env → Prop) (w0 : W 0 env1)
    (turn : ∀ i d env', items[i]? = some d → W i env' → g (.f d) env' fun env2 => ds { Dd with nx := W (i + 1), ct := W (i + 1), bk := Dd.nx } env2) (done : ∀ env', W items.length env' → Dd.nx env') : tFor (fun _ H R => R J H) tg tb D σ H1 := by
  refine ⟨fun i m σ' H' => m = items.length - i ∧ i ≤ items.length ∧ ∃ F' env', Ex F1 F' ∧ Rl L C F' H' σ' env' ∧ W i env', ⟨_, rfl, Nat.zero_le _, F1, env1, Ex.refl F1, R1, w0⟩, ?_⟩
  rintro i m σ2 H2 ⟨rfl, hi, F2, env2, e2, R2, w2⟩
  by_cases hlt : i < items.length
  · have hd : items[i]? = some items[i] := List.getElem?_eq_getElem hlt
    obtain ⟨go, yld⟩ := (w1 F2 H2 σ2 env2 e2 R2 i).1 _ hd
    refine .inr ⟨go, fun σ' H' => ∃ F' env', Ex F1 F' ∧ Rl L C F' H' σ' env' ∧ W (i + 1) env', ?_, fun v H3 y => ?_⟩
    · rintro σ' H' ⟨F', env', e', R', w'⟩
      exact ⟨items.length - (i + 1), by omega, rfl, hlt, F', env', e', R', w'⟩
    · obtain ⟨F3, g3, r3⟩ := yld v H3 y
      refine s1 L C F3 H3 σ2 env2 v (.f items[i]) _ _ (R2.grow g3) r3 (turn i _ env2 hd w2) fun F4 H4 σ4 env4 e4 R4 _ q4 => ?_
      have e14 := e2.trans (g3.fx.trans e4)
      exact s2 L C F4 H4 σ4 env4 _ _ R4 q4 ⟨fun F5 H5 σ5 env5 e5 R5 q5 => ⟨F5, env5, e14.trans e5, R5, q5⟩, (k.mono e14).rt, fun F5 H5 σ5 env5 e5 R5 q5 => k.nx F5 H5 σ5 env5 (e14.trans e5) R5 q5, fun F5 H5 σ5 env5 e5 R5 q5 => ⟨F5, env5, e14.trans e5, R5, q5⟩⟩ (x.mono e14)
  · have e : i = items.length := by omega
    subst e
    exact .inl ⟨(w1 F2 H2 σ2 env2 e2 R2 _).2 (Nat.le_refl _), k.nx F2 H2 σ2 env2 e2 R2 (done env2 w2)⟩
/-- for x in d -/
def dForK (fz : Option Nat) (pd : Env → Option Dat) (g : DG) (ds : DS) : DS := fun D env => dKeysP fz pd env (fun items env1 => ∃ W : Nat → Env → Prop, W 0 env1 ∧
  (∀ i d env', items[i]? = some d → W i env' → g (.f d) env' fun env2 => ds { D with xr := noX, nx := W (i + 1), ct := W (i + 1), bk := D.nx } env2) ∧ ∀ env', W items.length env' → D.nx env') noX
theorem ss_forK {td : TE} {pd : Env → Option Dat} {fz : Option Nat} {tg : TG} {tb : TS} {g : DG} {ds : DS} {vs : List Nat} (hp : SPth td pd) (s1 : SG vs tg g) (s2 : SS E tb ds) : SS E (tLkS (tFor (iKeys td) tg tb)) (dForK fz pd g ds) := fun L C F H σ env D Dd R h k x => by
  unfold dForK dKeysP at h
  obtain ⟨d, hd, h⟩ := withD_of h
  obtain ⟨items, hk, W, w0, turn, done⟩ := withD_of h
  obtain ⟨F1, e1, R1⟩ := R.fzE fz
  obtain ⟨v, rep, ev⟩ := hp L C F1 H σ _ d R1 hd
  obtain ⟨p, u, rfl, hF, du, nu, mu, J, hJ, wk⟩ := keys_walk rep hk
  have nb := R1.fr.nbF hF du
  have x0 : ∀ L C F', XOk L C F' E noX := fun _ _ F' _ _ _ _ _ _ _ _ _ _ _ z => z.elim
  rcases R1.fr.fz p u hF with hH | ⟨_, ob, hH⟩
  · refine .inl ⟨p, u, hH, mu, fun od => ?_⟩
    have R2 := R1.lock nb hF hH du nu od
    refine ev _ _ (fun q o z1 z2 _ => lock_other hH du z1 z2) ?_
    refine hJ od _ (fun J H1 => tFor (fun _ H R => R J H) tg tb ⟨fun σ' H' => H' p = some (.frz od u) ∧ D.nx σ' (upd H' p u), fun v H' => H' p = some (.frz od u) ∧ D.rt v (upd H' p u), fun σ' H' => H' p = some (.frz od u) ∧ D.bk σ' (upd H' p u), fun σ' H' => H' p = some (.frz od u) ∧ D.ct σ' (upd H' p u)⟩ σ H1) upd_same ?_
    refine for_core (Dd := { Dd with xr := noX }) s1 s2 R2 ⟨fun F' H' σ' env' e R' q => ?_, fun F' H' σ' env' v r e R' rv q => ?_, fun F' H' σ' env' e R' q => ?_, fun F' H' σ' env' e R' q => ?_⟩ (x0 _ _ _) (fun F' H' σ' env' e R' i => wk od _ _ F' H' _ _ e R' (at_lock nb R').1 i) W w0 turn done
    · exact ⟨(at_lock nb R').1, k.nx F' _ σ' env' (e1.trans e) (unlock R1.fr nb hF du hH nu R') q⟩
    · exact ⟨(at_lock nb R').1, k.rt F' _ σ' env' v r (e1.trans e) (unlock R1.fr nb hF du hH nu R') (rv_unlock (at_lock nb R').2 rv) q⟩
    · exact ⟨(at_lock nb R').1, k.bk F' _ σ' env' (e1.trans e) (unlock R1.fr nb hF du hH nu R') q⟩
    · exact ⟨(at_lock nb R').1, k.ct F' _ σ' env' (e1.trans e) (unlock R1.fr nb hF du hH nu R') q⟩
  · refine .inr (ev _ _ (fun q o z1 _ _ => z1) (hJ ob _ (fun J H1 => tFor (fun _ H R => R J H) tg tb D σ H1) hH ?_))
    have c0 := R1.fr.fl p ob u hH
    have k1 := k.mono e1
    refine for_core (Dd := { Dd with xr := noX }) s1 s2 R1 ⟨k1.nx, k1.rt, k1.bk, k1.ct⟩ (x0 _ _ _) (fun F' H' σ' env' e R' i => wk ob _ _ F' H' _ _ e R' ?_ i) W w0 turn done
    rcases R'.fr.kp p _ c0 fun ⟨i, hi⟩ => nb i hi with z | ⟨_, z, _⟩
    · exact z
    · exact absurd rfl (z ob u)
/-- a path: the expression, what it tells -/
structure DPx (X : Cx) (e : Expr) (pd : Env → Option Dat) : Prop where
  ex : ∃ td, PE X e td ∧ SPth td pd
theorem dp_var (j : Nat) {x : Str} {pos : Pos} (hN : X.N[j]? = some x := by rfl) (hv : Vis X.env.scope x := by first | exact Or.inl rfl | exact Or.inr (Or.inl rfl) | exact Or.inr (Or.inr rfl)) (hd : (x == ("__debug__" : Str)) = false := by decide)
    (hcd : (x == ("__classdict__" : Str)) = false := by decide) : DPx X (.Name x pos) (pdVar j) := ⟨_, pe_var hN hv hd hcd, sp_var⟩
theorem de_lcP {elt tg iter : Expr} {ifs : List Expr} {scope : Scope} {own : List (Str × Nat)} {pos : Pos} {g : DG} {dt : DT} {de : DE} {ws : List Nat} {pd : Env → Option Dat} (fz : Option Nat) (hc : X.calm = true) (hN : X.N.Nodup) (hi : DPx X iter pd) (ok : BlkOk X.N X.env.scope scope own)
    (hg : ∀ (s : Shared) (H : Hp) (C : Addr) (cl : List (Str × Addr)) (fp : List Addr), DGx (X.blk s H scope (compEnvC scope cl C X.env) fp) tg ws g) (ht : ∀ (s : Shared) (H : Hp) (C : Addr) (cl : List (Str × Addr)) (fp : List Addr), DTs (X.blk s H scope (compEnvC scope cl C X.env) fp) E ifs dt)
    (he : ∀ (s : Shared) (H : Hp) (C : Addr) (cl : List (Str × Addr)) (fp : List Addr), DEx (X.blk s H scope (compEnvC scope cl C X.env) fp) E elt de) (hw : ∀ i ∈ ws, i ∈ own.map (·.2) := by decide) (hs : ∀ x, foldedSetIterable iter X.env x = pure x := by intro _; rfl) :
    DEx X E (.ListComp elt [⟨tg, iter, ifs, 0⟩] scope pos) (dLc (dKeysP fz pd) g dt de (own.map (·.2))) := by
  obtain ⟨td, pt, sp⟩ := hi.ex
  obtain ⟨g', pg, sg⟩ := lc_g hg
  obtain ⟨t', ptt, st⟩ := lc_t ht
  obtain ⟨e', pe, se⟩ := lc_e he
  exact ⟨_, pe_lk (pe_lc hc hN (pi_keys pt) ok pg ptt pe hs), se_lcP sp sg hw st se⟩
theorem ds_setLcP {i : Nat} {y : Str} {py : Pos} {elt tg iter : Expr} {ifs : List Expr} {scope : Scope} {own : List (Str × Nat)} {pos spos : Pos} {g : DG} {dt : DT} {de : DE} {ws : List Nat} {pd : Env → Option Dat} (fz : Option Nat) (hc : X.calm = true) (hN : X.N.Nodup) (hy : X.N[i]? = some y) (hyl : X.env.scope.names.lookup y = some .local)
    (hsw : swapsWith (.ListComp elt [⟨tg, iter, ifs, 0⟩] scope pos) (some (.Name y py)) spos.line X.env = pure true) (hi : DPx X iter pd) (ok : BlkOk X.N X.env.scope scope own)
    (hg : ∀ (s : Shared) (H : Hp) (C : Addr) (cl : List (Str × Addr)) (fp : List Addr), DGx (X.blk s H scope (compEnvC scope cl C X.env) fp) tg ws g) (ht : ∀ (s : Shared) (H : Hp) (C : Addr) (cl : List (Str × Addr)) (fp : List Addr), DTs (X.blk s H scope (compEnvC scope cl C X.env) fp) E ifs dt)
    (he : ∀ (s : Shared) (H : Hp) (C : Addr) (cl : List (Str × Addr)) (fp : List Addr), DEx (X.blk s H scope (compEnvC scope cl C X.env) fp) E elt de) (hw : ∀ i ∈ ws, i ∈ own.map (·.2) := by decide) (hs : ∀ x, foldedSetIterable iter X.env x = pure x := by intro _; rfl) :
    DSx X E (.Assign [.Name y py] (.ListComp elt [⟨tg, iter, ifs, 0⟩] scope pos) spos) (dAsg (dLc (dKeysP fz pd) g dt de (own.map (·.2))) i) := by
  obtain ⟨td, pt, sp⟩ := hi.ex
  obtain ⟨g', pg, sg⟩ := lc_g hg
  obtain ⟨t', ptt, st⟩ := lc_t ht
  obtain ⟨e', pe, se⟩ := lc_e he
  refine ⟨tLkS (tAsg (tLc (iKeys td) g' t' e' (own.map (·.2))) (gName i)), ps_lk (ps_setLc hc hN hy hyl hsw (pi_keys pt) ok pg ptt pe hs), ?_⟩
  intro L C F H σ env D Dd R h k x
  have q := se_lcP (E := E) (fz := fz) sp sg hw st se L C F H σ env (fun v H' => D.nx (σ.set i (some v)) H') (fun r env1 => stS r env1 i Dd.nx) Dd.xr R h (fun F' H' v r env' e R' rv q =>
    stS_ok (Q := fun σ H => D.nx σ H) R' rv q fun F2 env2 e2 R2 q2 => k.nx F2 H' _ env2 (e.trans e2) R2 q2) x
  rcases q with ⟨dd, u, h1, h2, q⟩ | q
  · exact .inl ⟨dd, u, h1, h2, fun od => q od⟩
  · exact .inr q
theorem ds_forK {tg iter : Expr} {body : List Stmt} {pos : Pos} {vs : List Nat} {g : DG} {ds : DS} {pd : Env → Option Dat} (fz : Option Nat) (hp : PassesOwn (model X.prog X.w) X.A X.env X.xe) (hc : X.calm = true) (hi : DPx X iter pd) (hg : DGx X tg vs g) (hb : DSs X E body ds)
    (hs : ∀ x, foldedSetIterable iter X.env x = pure x := by intro _; rfl) : DSx X E (.For tg iter body [] pos) (dForK fz pd g ds) := by
  obtain ⟨td, pt, sp⟩ := hi.ex
  obtain ⟨t1, p1, s1⟩ := hg.ex
  obtain ⟨t2, p2, s2⟩ := hb.ex
  exact ⟨_, ps_lk (ps_for hp hc (pi_keys pt) p1 p2 hs), ss_forK sp s1 s2⟩
/-- one way or another -/
def dOrS (d1 d2 : DS) : DS := fun D env => d1 D env ∨ d2 D env
theorem ds_or {st : Stmt} {d1 d2 : DS} (h1 : DSx X E st d1) (h2 : DSx X E st d2) : DSx X E st (dOrS d1 d2) := by
  obtain ⟨t1, p1, s1⟩ := h1.ex
  obtain ⟨t2, p2, s2⟩ := h2.ex
  exact ⟨fun D σ H => t1 D σ H ∨ t2 D σ H, ⟨fun pins s σ H D I hw => hw.elim (p1.run pins s σ H D I) (p2.run pins s σ H D I)⟩, fun L C F H σ env D Dd R h k x => h.imp (fun h => s1 L C F H σ env D Dd R h k x) fun h => s2 L C F H σ env D Dd R h k x⟩
end
end DL

set_option Elab.async false
set_option linter.all false
set_option maxRecDepth 100000
set_option maxHeartbeats 400000
/-! a for over an own list that its turns leave as it is, and that is changed later: while the turns run, the list is lent -/
namespace DL
open PySem PySem.Spec PyProof.Rows L2
variable [ClsV]
section
variable {X : Cx} {E : L2.St → XK} {L : Addr → Prop} {C : Cc} {F H F2 H2 : Hp} {σ σ2 : L2.St} {env env2 : Env} {p : Addr} {o : HO} {d d2 : Dat} {j : Nat}
def Cc.lent (C : Cc) (H : Hp) (j : Nat) (p : Addr) : Cc := ⟨fun q => if q = p ∨ C.ad j = some q then H q else C.H0 q, C.F0, fun i => if i = j then some p else C.ad i⟩
theorem lent_in {q : Addr} (h : q = p ∨ C.ad j = some q) : (C.lent H j p).H0 q = H q := if_pos h
theorem lent_out {q : Addr} (h : q ≠ p) (h2 : C.ad j ≠ some q) : (C.lent H j p).H0 q = C.H0 q := if_neg fun z => z.elim h h2
theorem lent_ad : (C.lent H j p).ad j = some p := if_pos rfl
theorem lent_ad' {i : Nat} (h : i ≠ j) : (C.lent H j p).ad i = C.ad i := if_neg h
theorem lent_up (fr : Fr L C F H) (hp : H p = some o) {q : Addr} (n : C.H0 q ≠ none) : (C.lent H j p).H0 q ≠ none := by
  by_cases h : q = p ∨ C.ad j = some q
  · rw [lent_in h]; exact fr.th q n
  · rw [lent_out (fun z => h (.inl z)) (fun z => h (.inr z))]; exact n
theorem lent_dn (fr : Fr L C F H) {q : Addr} (n : (C.lent H j p).H0 q ≠ none) : q = p ∨ C.H0 q ≠ none := by
  by_cases h : q = p
  · exact .inl h
  · by_cases h2 : C.ad j = some q
    · exact .inr (fr.wa j q h2)
    · rw [lent_out h h2] at n; exact .inr n
theorem isO_ls {s s2 : S} {i : Nat} (hj : env[j]? = some (some s)) (n : ∀ d, s ≠ .f d) (h : IsO (env.set j (some s2)) i) : IsO env i := by
  obtain ⟨u, h1, h2⟩ := isO_get h
  rcases get_set_cases h1 with ⟨z, _, _⟩ | ⟨z, e⟩
  · subst z; exact isO_of hj n
  · exact isO_of e h2
theorem Rl.lent (R : Rl L C F H σ env) (hj : env[j]? = some (some (.o d))) (hs : σ[j]? = some (some (.ref p))) (h0 : C.H0 p = none) (hf : F p = none) (hp : H p = some o) (hc : Cont F H p d) (nf : isFz o = false) : Rl L (C.lent H j p) F H σ (env.set j (some (.b d))) where
  fr := {
    fz := R.fr.fz
    fn := fun q n => by
      rcases lent_dn R.fr n with z | z
      · subst z
        refine .inl (hf.trans ?_)
        cases e : C.F0 q with
        | none => exact e.symm
        | some u => exact absurd h0 (R.fr.wf q u e)
      · exact R.fr.fn q z
    kp := fun q u h n => by
      have z : q ≠ p := fun z => n ⟨j, by subst z; exact lent_ad⟩
      by_cases h2 : C.ad j = some q
      · rw [lent_in (.inr h2)] at h; exact .inl h
      · rw [lent_out z h2] at h
        refine R.fr.kp q u h fun ⟨i, hi⟩ => n ⟨i, ?_⟩
        rw [lent_ad' (fun y => by subst y; exact h2 hi)]; exact hi
    th := fun q n => by
      rcases lent_dn R.fr n with z | z
      · subst z; rw [hp]; exact fun z => by cases z
      · exact R.fr.th q z
    lk := R.fr.lk
    wf := fun q u h => lent_up R.fr hp (R.fr.wf q u h)
    wa := fun i q h => by
      by_cases z : i = j
      · subst z
        rw [lent_ad] at h; cases h
        rw [lent_in (.inl rfl), hp]; exact fun z => by cases z
      · rw [lent_ad' z] at h; exact lent_up R.fr hp (R.fr.wa i q h)
    wb := fun i q h => by
      by_cases z : i = j
      · subst z
        rw [lent_ad] at h; cases h
        show C.F0 p = none
        cases e : C.F0 p with
        | none => rfl
        | some u => exact absurd h0 (R.fr.wf p u e)
      · rw [lent_ad' z] at h; exact R.fr.wb i q h
    fl := fun q ob u e => by
      by_cases h : q = p ∨ C.ad j = some q
      · rw [lent_in h]; exact e
      · rw [lent_out (fun z => h (.inl z)) (fun z => h (.inr z))]; exact R.fr.fl q ob u e }
  len := by rw [List.length_set]; exact R.len
  nd := fun i k q n a b => R.nd i k q n (isO_ls hj (fun _ => by simp) a) (isO_ls hj (fun _ => by simp) b)
  sl := fun i s h => by
    rcases get_set_cases h with ⟨z, y, _⟩ | ⟨z, e⟩
    · subst z; cases y
      exact ⟨_, hs, p, rfl, lent_ad, hf, hc⟩
    · obtain ⟨ov, h1, h2⟩ := R.sl i s e
      refine ⟨ov, h1, ?_⟩
      cases s with
      | f d => exact h2
      | o d3 =>
        obtain ⟨p2, rfl, a, b, c⟩ := h2
        refine ⟨p2, rfl, ?_, b, c⟩
        rw [lent_out (fun y => by subst y; exact R.nd i j p2 z (isO_o e) (isO_o hj) h1 hs) (fun y => R.fr.wa j p2 y a)]
        exact a
      | b d3 =>
        obtain ⟨p2, rfl, a, b⟩ := h2
        exact ⟨p2, rfl, by rw [lent_ad' z]; exact a, b⟩
theorem Rl.unlent (fr : Fr L C F H) (h0 : C.H0 p = none) (hp : H p = some o) (nf : isFz o = false) (R : Rl L (C.lent H j p) F2 H2 σ2 env2) (hj : env2[j]? = some (some (.b d2))) : Rl L C F2 H2 σ2 (env2.set j (some (.o d2))) where
  fr := {
    fz := R.fr.fz
    fn := fun q n => R.fr.fn q (lent_up fr hp n)
    kp := fun q u h n => by
      have z : q ≠ p := fun z => by subst z; rw [h0] at h; cases h
      refine R.fr.kp q u ?_ fun ⟨i, hi⟩ => ?_
      · rw [lent_out z (fun y => n ⟨j, y⟩)]; exact h
      · by_cases y : i = j
        · subst y; rw [lent_ad] at hi; cases hi; exact z rfl
        · rw [lent_ad' y] at hi; exact n ⟨i, hi⟩
    th := fun q n => R.fr.th q (lent_up fr hp n)
    lk := R.fr.lk
    wf := fr.wf
    wa := fr.wa
    wb := fr.wb
    fl := fun q ob u e => by
      have e2 := R.fr.fl q ob u e
      by_cases h : q = p ∨ C.ad j = some q
      · rw [lent_in h] at e2; exact fr.fl q ob u e2
      · rw [lent_out (fun z => h (.inl z)) (fun z => h (.inr z))] at e2; exact e2 }
  len := by rw [List.length_set]; exact R.len
  nd := fun i k q n a b => R.nd i k q n (isO_ls hj (fun _ => by simp) a) (isO_ls hj (fun _ => by simp) b)
  sl := fun i s h => by
    rcases get_set_cases h with ⟨z, y, _⟩ | ⟨z, e⟩
    · subst z; cases y
      obtain ⟨ov, h1, p2, rfl, a, b, c⟩ := R.sl i _ hj
      rw [lent_ad] at a; cases a
      exact ⟨_, h1, p, rfl, h0, b, c⟩
    · obtain ⟨ov, h1, h2⟩ := R.sl i s e
      refine ⟨ov, h1, ?_⟩
      cases s with
      | f d => exact h2
      | o d3 =>
        obtain ⟨p2, rfl, a, b, c⟩ := h2
        refine ⟨p2, rfl, ?_, b, c⟩
        cases e3 : C.H0 p2 with
        | none => rfl
        | some u => exact absurd a (lent_up fr hp (by rw [e3]; exact fun z => by cases z))
      | b d3 =>
        obtain ⟨p2, rfl, a, b⟩ := h2
        exact ⟨p2, rfl, by rw [lent_ad' z] at a; exact a, b⟩
def unB (j : Nat) (env : Env) (Q : Env → Prop) : Prop := match env[j]? with
  | some (some (.b d)) => Q (env.set j (some (.o d)))
  | _ => False
theorem unB_of {Q : Env → Prop} (h : unB j env Q) : ∃ d, env[j]? = some (some (.b d)) ∧ Q (env.set j (some (.o d))) := by
  unfold unB at h
  split at h
  · next d e => exact ⟨d, e, h⟩
  · exact h.elim
theorem RV2.unlent {v : V} {r : Res} (fr : Fr L C F H) (hp : H p = some o) (hj : env2[j]? = some (some (.b d2))) (h : RV2 (C.lent H j p) F2 H2 σ2 env2 v r) : RV2 C F2 H2 σ2 (env2.set j (some (.o d2))) v r := by
  cases r with
  | f d => exact h
  | l i => exact h
  | n d =>
    obtain ⟨p2, rfl, ⟨a, b, c⟩, nn⟩ := h
    refine ⟨p2, rfl, ⟨?_, b, c⟩, fun i hi => nn i (isO_ls hj (fun _ => by simp) hi)⟩
    cases e3 : C.H0 p2 with
    | none => rfl
    | some u => exact absurd a (lent_up fr hp (by rw [e3]; exact fun z => by cases z))
/-- for x in y, y an own list -/
def dForO (j : Nat) (g : DG) (ds : DS) : DS := fun D env => match env[j]? with
  | some (some (.o (.lst items))) => ∃ W : Nat → Env → Prop, W 0 (env.set j (some (.b (.lst items)))) ∧
    (∀ i d env', items[i]? = some d → W i env' → g (.f d) env' fun env2 => ds ⟨W (i + 1), fun r e => unB j e (D.rt r), fun c f e => unB j e (D.xr c f), fun e => unB j e D.nx, W (i + 1)⟩ env2) ∧
    (∀ i env', W i env' → env'[j]? = some (some (.b (.lst items)))) ∧ ∀ env', W items.length env' → unB j env' D.nx
  | _ => dFor (dSeqI (dVar j)) g ds D env
theorem for_run {wi : TI} {di : DI} {tg : TG} {tb : TS} {g : DG} {ds : DS} {vs : List Nat} (s : SI E wi di) (s1 : SG vs tg g) (s2 : SS E tb ds) : SS E (tFor wi tg tb) (dFor di g ds) := fun L C F H σ env D Dd R h k x => s L C F H σ env _ _ _ R h (fun F1 H1 J items env1 e1 R1 w1 q1 => by
  obtain ⟨W, w0, turn, done⟩ := q1
  exact for_core s1 s2 R1 (k.mono e1) (x.mono e1) w1 W w0 turn done) x
theorem ss_forO {K : PySem.W.Frag} {tg : TG} {tb : TS} {g : DG} {ds : DS} {vs : List Nat} (s1 : SG vs tg g) (s2 : SS E tb ds) : SS E (tFor (iSeq K (tVar j)) tg tb) (dForO j g ds) := fun L C F H σ env D Dd R h k x => by
  unfold dForO at h
  split at h
  · next items hd =>
    obtain ⟨W, w0, turn, keep, done⟩ := h
    obtain ⟨ov, hs, p, rfl, h0, hf, vs0, hp, rs⟩ := R.sl j _ hd
    have R1 := R.lent hd hs h0 hf hp ⟨vs0, hp, rs⟩ rfl
    refine ⟨.ref p, hs, p, rfl, .inl ⟨⟨vs0, .inl (.inl hp)⟩, ?_⟩⟩
    refine ⟨fun i m σ' H' => m = items.length - i ∧ i ≤ items.length ∧ ∃ F' env', Ex F F' ∧ Rl L (C.lent H j p) F' H' σ' env' ∧ W i env', ⟨_, rfl, Nat.zero_le _, F, _, Ex.refl F, R1, w0⟩, ?_⟩
    rintro i m σ2 H2 ⟨rfl, hi, F2, env2, e2, R2, w2⟩
    obtain ⟨ov2, hs2, p2, rfl, ad2, hf2, vs2, hp2, rs2⟩ := R2.sl j _ (keep i env2 w2)
    rw [lent_ad] at ad2; cases ad2
    have hsq : SqL K H2 p vs2 := .inl (.inl hp2)
    have back : ∀ {F5 H5 σ5 env5} {Q : Env → Prop}, Rl L (C.lent H j p) F5 H5 σ5 env5 → unB j env5 Q → ∃ d, env5[j]? = some (some (.b d)) ∧ Rl L C F5 H5 σ5 (env5.set j (some (.o d))) ∧ Q (env5.set j (some (.o d))) := fun R5 q => by
      obtain ⟨d, e, q⟩ := unB_of q
      exact ⟨d, e, Rl.unlent R.fr h0 hp rfl R5 e, q⟩
    by_cases hlt : i < items.length
    · have hd2 : items[i]? = some items[i] := List.getElem?_eq_getElem hlt
      obtain ⟨v, hv, rv⟩ := rs2.get hd2
      refine .inr ⟨⟨vs2, v, hsq, hv⟩, fun σ' H' => ∃ F' env', Ex F F' ∧ Rl L (C.lent H j p) F' H' σ' env' ∧ W (i + 1) env', ?_, fun x3 H3 y => ?_⟩
      · rintro σ' H' ⟨F', env', e', R', w'⟩
        exact ⟨items.length - (i + 1), by omega, rfl, hlt, F', env', e', R', w'⟩
      · obtain ⟨y0, y⟩ := y
        subst y0
        have := y vs2 hsq
        rw [hv] at this; cases this
        refine s1 L _ F2 H3 σ2 env2 v (.f items[i]) _ _ R2 rv (turn i _ env2 hd2 w2) fun F4 H4 σ4 env4 e4 R4 _ q4 => ?_
        have e14 := e2.trans e4
        refine s2 L _ F4 H4 σ4 env4 _ _ R4 q4 ⟨fun F5 H5 σ5 env5 e5 R5 q5 => ⟨F5, env5, e14.trans e5, R5, q5⟩, fun F5 H5 σ5 env5 v r e5 R5 rv5 q5 => ?_, fun F5 H5 σ5 env5 e5 R5 q5 => ?_, fun F5 H5 σ5 env5 e5 R5 q5 => ⟨F5, env5, e14.trans e5, R5, q5⟩⟩ fun F5 H5 σ5 env5 cls od fds e5 R5 xf ok q5 => ?_
        · obtain ⟨d, ed, R6, q6⟩ := back R5 q5
          exact k.rt F5 H5 σ5 _ v r (e14.trans e5) R6 (RV2.unlent R.fr hp ed rv5) q6
        · obtain ⟨d, ed, R6, q6⟩ := back R5 q5
          exact k.nx F5 H5 σ5 _ (e14.trans e5) R6 q6
        · obtain ⟨d, ed, R6, q6⟩ := back R5 q5
          exact x F5 H5 σ5 _ cls od fds (e14.trans e5) R6 xf ok q6
    · have e : i = items.length := by omega
      subst e
      obtain ⟨d, ed, R6, q6⟩ := back R2 (done env2 w2)
      exact .inl ⟨⟨vs2, hsq, by rw [rs2.len]; exact Nat.le_refl _⟩, k.nx F2 H2 σ2 _ e2 R6 q6⟩
  · exact for_run (si_seq se_var) s1 s2 L C F H σ env D Dd R h k x
theorem ds_forO {tg : Expr} {body : List Stmt} {vs : List Nat} {g : DG} {ds : DS} {y : Str} {py pos : Pos} (j : Nat) (hp : PassesOwn (model X.prog X.w) X.A X.env X.xe) (hc : X.calm = true) (hy : X.N[j]? = some y) (hv : Vis X.env.scope y) (hg : DGx X tg vs g) (hb : DSs X E body ds)
    (hdb : (y == ("__debug__" : Str)) = false := by decide) (hcd : (y == ("__classdict__" : Str)) = false := by decide) : DSx X E (.For tg (.Name y py) body [] pos) (dForO j g ds) := by
  obtain ⟨t1, p1, s1⟩ := hg.ex
  obtain ⟨t2, p2, s2⟩ := hb.ex
  exact ⟨_, ps_for hp hc (pi_seq (pe_var hy hv hdb hcd)) p1 p2 (by intro _; rfl), ss_forO s1 s2⟩
end
end DL

set_option Elab.async false
set_option linter.all false
set_option maxRecDepth 100000
set_option maxHeartbeats 4000000
namespace DP
open PySem PySem.Spec PyProof.Rows L2 DL
variable [ClsV]
/-! ### numbers by their bits -/
theorem band_nat (a b : Nat) : Builtin.bitAnd (a : Int) (b : Int) = ((a &&& b : Nat) : Int) := by
  rw [bitAnd_pp (by omega) (by omega)]; simp
theorem bor_nat (a b : Nat) : Builtin.bitOr (a : Int) (b : Int) = ((a ||| b : Nat) : Int) := by
  rw [bitOr_and, band_nat]
  have := nat_or_add_and a b
  omega
theorem or_sub_and (a : Nat) : ∀ b : Nat, (a ^^^ b) + (a &&& b) = a ||| b := by
  induction a using Nat.strongRecOn with
  | ind a ih =>
    intro b
    by_cases h : a = 0
    · subst h; simp
    · have e := ih (a / 2) (by omega) (b / 2)
      have h1 : (a ^^^ b) / 2 = a / 2 ^^^ b / 2 := by rw [Nat.xor_div_two]
      have h2 : (a &&& b) / 2 = a / 2 &&& b / 2 := by rw [Nat.and_div_two]
      have h3 : (a ||| b) / 2 = a / 2 ||| b / 2 := by rw [Nat.or_div_two]
      have g1 : (a ^^^ b) % 2 = (a + b) % 2 := by
        have := @Nat.xor_mod_two_pow a b 1
        rcases Nat.mod_two_eq_zero_or_one a with x | x <;> rcases Nat.mod_two_eq_zero_or_one b with y | y <;> simp [x, y, Nat.add_mod] at this ⊢ <;> exact this
      have g2 : (a &&& b) % 2 = a % 2 * (b % 2) := by
        have := @Nat.and_mod_two_pow a b 1
        rcases Nat.mod_two_eq_zero_or_one a with x | x <;> rcases Nat.mod_two_eq_zero_or_one b with y | y <;> simp [x, y] at this ⊢ <;> exact this
      have g3 : (a ||| b) % 2 = a % 2 + b % 2 - a % 2 * (b % 2) := by
        have := @Nat.or_mod_two_pow a b 1
        rcases Nat.mod_two_eq_zero_or_one a with x | x <;> rcases Nat.mod_two_eq_zero_or_one b with y | y <;> simp [x, y] at this ⊢ <;> exact this
      have k1 := Nat.div_add_mod (a ^^^ b) 2
      have k2 := Nat.div_add_mod (a &&& b) 2
      have k3 := Nat.div_add_mod (a ||| b) 2
      rw [h1, g1] at k1
      rw [h2, g2] at k2
      rw [h3, g3] at k3
      rcases Nat.mod_two_eq_zero_or_one a with x | x <;> rcases Nat.mod_two_eq_zero_or_one b with y | y <;> simp only [x, y] at k1 k2 k3 <;> omega
theorem bxor_nat (a b : Nat) : Builtin.bitXor (a : Int) (b : Int) = ((a ^^^ b : Nat) : Int) := by
  unfold Builtin.bitXor
  rw [bor_nat, band_nat]
  have := or_sub_and a b
  omega
theorem shr_nat (n k : Nat) : (n : Int) / 2 ^ ((k : Int).toNat) = ((n / 2 ^ k : Nat) : Int) := by
  rw [Int.toNat_natCast]; norm_cast
theorem bit_nat (n k : Nat) : Builtin.bitAnd ((n : Int) / 2 ^ ((k : Int).toNat)) 1 = ((n.testBit k).toNat : Int) := by
  rw [shr_nat, show (1 : Int) = ((1 : Nat) : Int) from rfl, band_nat]
  congr 1
  rw [Nat.and_one_is_mod, Nat.testBit_eq_decide_div_mod_eq]
  rcases Nat.mod_two_eq_zero_or_one (n / 2 ^ k) with x | x <;> simp [x]
theorem shl_nat (a k : Nat) : (a : Int) * 2 ^ ((k : Int).toNat) = ((a * 2 ^ k : Nat) : Int) := by
  rw [Int.toNat_natCast]; norm_cast
theorem one_shl (k : Nat) : (1 : Int) * 2 ^ ((k : Int).toNat) = ((2 ^ k : Nat) : Int) := by
  rw [Int.toNat_natCast]; norm_cast; omega
/-- the number of bits -/
def popc (n : Nat) : Nat := if h : n = 0 then 0 else n % 2 + popc (n / 2)
termination_by n
decreasing_by omega
theorem popc_zero : popc 0 = 0 := by unfold popc; simp
theorem popc_eq (n : Nat) : popc n = n % 2 + popc (n / 2) := by
  by_cases h : n = 0
  · subst h; simp [popc_zero]
  · rw [popc]; simp [h]
theorem popc_pos {n : Nat} (h : n ≠ 0) : 0 < popc n := by
  induction n using Nat.strongRecOn with
  | ind n ih =>
    rw [popc_eq]
    by_cases h2 : n / 2 = 0
    · have : n % 2 = 1 := by omega
      omega
    · have := ih (n / 2) (by omega) h2
      omega
theorem popc_low {n : Nat} (h : n ≠ 0) : popc (n &&& (n - 1)) + 1 = popc n := by
  induction n using Nat.strongRecOn with
  | ind n ih =>
    rw [popc_eq (n &&& (n - 1)), popc_eq n, Nat.and_div_two]
    rcases Nat.mod_two_eq_zero_or_one n with x | x
    · have h2 : n / 2 ≠ 0 := by omega
      have e : (n - 1) / 2 = n / 2 - 1 := by omega
      rw [e]
      have := ih (n / 2) (by omega) h2
      have z : (n &&& (n - 1)) % 2 = 0 := by
        have := @Nat.and_mod_two_pow n (n - 1) 1
        simp [x] at this; exact this
      omega
    · have e : (n - 1) / 2 = n / 2 := by omega
      rw [e, Nat.and_self]
      have z : (n &&& (n - 1)) % 2 = 0 := by
        have := @Nat.and_mod_two_pow n (n - 1) 1
        have y : (n - 1) % 2 = 0 := by omega
        simp [y] at this; exact this
      omega
/-- the places of bits below B, rising -/
def gls (B n : Nat) : List Nat := (List.range B).filter fun k => n.testBit k
theorem mem_gls {B n k : Nat} : k ∈ gls B n ↔ k < B ∧ n.testBit k = true := by
  unfold gls; rw [List.mem_filter, List.mem_range]
theorem gls_succ (B n : Nat) : gls (B + 1) n = gls B n ++ if n.testBit B then [B] else [] := by
  unfold gls
  rw [List.range_succ, List.filter_append]
  congr 1
  by_cases h : n.testBit B = true
  · simp [h]
  · simp [h]
theorem gls_more {B n : Nat} (h : n < 2 ^ B) : ∀ k, gls (B + k) n = gls B n
  | 0 => rfl
  | k + 1 => by
    rw [← Nat.add_assoc, gls_succ, gls_more h k]
    have : n.testBit (B + k) = false := Nat.testBit_lt_two_pow (Nat.lt_of_lt_of_le h (Nat.pow_le_pow_right (by omega) (by omega)))
    simp [this]
theorem gls_eq {B C n : Nat} (h : n < 2 ^ B) (h' : n < 2 ^ C) : gls B n = gls C n := by
  rcases Nat.le_total B C with z | z
  · obtain ⟨k, rfl⟩ := Nat.exists_eq_add_of_le z
    exact (gls_more h k).symm
  · obtain ⟨k, rfl⟩ := Nat.exists_eq_add_of_le z
    exact gls_more h' k
theorem gls_cons (B n : Nat) : gls (B + 1) n = (if n.testBit 0 then [0] else []) ++ (gls B (n / 2)).map (· + 1) := by
  unfold gls
  rw [List.range_succ_eq_map, List.filter_cons, List.filter_map]
  have : ((fun k => n.testBit k) ∘ Nat.succ) = fun k => (n / 2).testBit k := by
    funext k; simp [Nat.testBit_succ]
  rw [this]
  by_cases h : n.testBit 0 = true
  · simp [h]
  · simp [h]
theorem gls_len : ∀ (B n : Nat), n < 2 ^ B → (gls B n).length = popc n
  | 0, n, h => by
    have : n = 0 := by simpa using h
    subst this; rw [popc_zero]; rfl
  | B + 1, n, h => by
    rw [gls_cons, List.length_append, List.length_map, gls_len B (n / 2) (by rw [Nat.pow_succ] at h; omega), popc_eq n, Nat.testBit_zero]
    rcases Nat.mod_two_eq_zero_or_one n with x | x <;> simp [x]
/-- the odd sum -/
def xorl : List Nat → Nat
  | [] => 0
  | a :: l => a ^^^ xorl l
theorem xorl_append : ∀ (a b : List Nat), xorl (a ++ b) = xorl a ^^^ xorl b
  | [], b => by simp [xorl]
  | x :: a, b => by rw [List.cons_append, xorl, xorl, xorl_append a b, Nat.xor_assoc]
def rowOf (gs : List Nat) : Nat := xorl (gs.map (2 ^ ·))
theorem testBit_rowOf (k : Nat) : ∀ gs : List Nat, (rowOf gs).testBit k = decide (gs.count k % 2 = 1)
  | [] => by simp [rowOf, xorl]
  | g :: gs => by
    have ih := testBit_rowOf k gs
    unfold rowOf at ih ⊢
    rw [List.map_cons, xorl, Nat.testBit_xor, ih, Nat.testBit_two_pow, List.count_cons]
    by_cases e : g = k
    · subst e
      rcases Nat.mod_two_eq_zero_or_one (List.count g gs) with x | x
      · have : (List.count g gs + 1) % 2 = 1 := by omega
        simp [x, this]
      · have : (List.count g gs + 1) % 2 = 0 := by omega
        simp [x, this]
    · simp [e]
theorem gls_nodup (B n : Nat) : (gls B n).Nodup := List.Pairwise.filter _ List.nodup_range
theorem rowOf_gls {B n : Nat} (h : n < 2 ^ B) : rowOf (gls B n) = n := by
  apply Nat.eq_of_testBit_eq
  intro k
  rw [testBit_rowOf, (gls_nodup B n).count]
  by_cases e : k ∈ gls B n
  · rw [if_pos e]; simp [(mem_gls.mp e).2]
  · rw [if_neg e]
    have : n.testBit k = false := by
      by_cases z : k < B
      · cases y : n.testBit k with
        | false => rfl
        | true => exact absurd (mem_gls.mpr ⟨z, y⟩) e
      · exact Nat.testBit_lt_two_pow (Nat.lt_of_lt_of_le h (Nat.pow_le_pow_right (by omega) (by omega)))
    simp [this]
theorem sum_bits : ∀ (B : Nat) (p : Nat → Bool) (n : Nat), (∀ k, k < B → n.testBit k = p k) → n < 2 ^ B → (((List.range B).filter p).map (2 ^ ·)).sum = n
  | 0, p, n, _, h => by
    have : n = 0 := by simpa using h
    subst this; rfl
  | B + 1, p, n, hp, h => by
    rw [List.range_succ, List.filter_append, List.map_append, List.sum_append]
    have e : n % 2 ^ B < 2 ^ B := Nat.mod_lt _ (Nat.two_pow_pos B)
    rw [sum_bits B p (n % 2 ^ B) (fun k hk => by rw [Nat.testBit_mod_two_pow, ← hp k (by omega)]; simp [hk]) e]
    have hb := hp B (by omega)
    rw [Nat.testBit_eq_decide_div_mod_eq] at hb
    have hd : n / 2 ^ B < 2 := by
      rw [Nat.div_lt_iff_lt_mul (Nat.two_pow_pos B)]
      rw [Nat.pow_succ] at h; omega
    have hm := Nat.div_add_mod n (2 ^ B)
    cases y : p B with
    | true =>
      rw [y] at hb
      have : n / 2 ^ B = 1 := by
        have := of_decide_eq_true hb
        clear hm
        generalize n / 2 ^ B = u at *
        omega
      rw [this] at hm
      simp [y]; omega
    | false =>
      rw [y] at hb
      have : n / 2 ^ B = 0 := by
        have := of_decide_eq_false hb
        clear hm
        generalize n / 2 ^ B = u at *
        omega
      rw [this] at hm
      simp [y]; omega
end DP

set_option Elab.async false
set_option linter.all false
set_option maxRecDepth 100000
set_option maxHeartbeats 4000000
namespace DP
open PySem PySem.Spec PyProof.Rows L2 DL
variable [ClsV]
local macro_rules | `(tactic| walk_at "dw") => `(tactic| ((conv => whnf); (try dsimp only)))
local macro_rules | `(tactic| walk_at "om") => `(tactic| first | omega | (dsimp only; omega) | (simp only [List.length_cons, List.length_nil, List.length_map, List.length_append, rangeD_len]; omega))
local macro_rules | `(tactic| walk_at "ok") => `(tactic| (refine ⟨by walk_at "om", ?_⟩; walk_at "dw"))
local macro_rules | `(tactic| walk_at "no") => `(tactic| (refine ⟨fun z => (by cases z), fun _ => ?_⟩; walk_at "dw"))
local macro_rules | `(tactic| walk_at "yes") => `(tactic| (refine ⟨fun _ => ?_, fun z => (by cases z)⟩; walk_at "dw"))
local macro_rules | `(tactic| walk_at "got") => `(tactic| (refine ⟨_, rfl, ?_⟩; walk_at "dw"))
abbrev N_weight : List Str := ["row", "many"]
def r_weight : DS :=
  (dSeq (dAsg (dC (.int 0)) 1)
  (dSeq (dWhile (dB (dOp (gB0 fun i j => decide (j < i)) (dVar 0) (dC (.int 0)))) (dSeq (dAsg (dOp (gI0 Builtin.bitAnd) (dVar 0) (dOp (gI0 fun i j => i - j) (dVar 0) (dC (.int 1)))) 0)
  (dAug 1 (gI0 fun i j => i + j) (dC (.int 1)))))
  (dRet (dVar 1))))
abbrev N_givens_of : List Str := ["row", "k"]
def r_givens_of : DS :=
  (dRet (dLc (dRng1 (dCons (dUn gBits (dVar 0)) dNil)) (dgName 1) (dB (dOp (gEq false) (dOp (gI0 Builtin.bitAnd) (dOp (gI (fun _ j => 0 ≤ j) fun i j => i / 2 ^ j.toNat) (dVar 0) (dVar 1)) (dC (.int 1))) (dC (.int 1)))) (dVar 1) [1]))
abbrev N_row_of : List Str := ["givens", "row", "given"]
def r_row_of : DS :=
  (dSeq (dAsg (dC (.int 0)) 1)
  (dSeq (dFor (dSeqI (dVar 0)) (dgName 2) (dAsg (dOp (gI0 Builtin.bitXor) (dVar 1) (dOp (gI CSh fun i j => i * 2 ^ j.toNat) (dC (.int 1)) (dVar 2))) 1))
  (dRet (dVar 1))))
abbrev N_joined : List Str := ["one", "other"]
def r_joined : DS :=
  (dRet (dOp (gI0 Builtin.bitXor) (dVar 0) (dVar 1)))
abbrev N_law_draw : List Str := ["_law_tape_here", "_law_many", "_law_found", "_law_spot", "_law_cells", "_law_cell", "_law_seed"]
def r_law_draw : DS :=
  (dSeq (dIfS (dB (dOp (gB0 fun i j => decide (j < i)) (dOp gIx (dVar 0) (dC (.str "left"))) (dC (.int 0)))) (dSeq (dAsg (dOp (gI (fun _ j => 0 < j) fun i j => i % j) (dOp gIx (dVar 0) (dC (.str "left"))) (dVar 1)) 2)
  (dSeq (dSet (dOp (gI CDivW fun i j => i / j) (dOp gIx (dVar 0) (dC (.str "left"))) (dVar 1)) (dVar 0) (dC (.str "left")))
  (dRet (dVar 2)))) dNext)
  (dSeq (dAsg (dOp gIx (dVar 0) (dC (.str "spot"))) 3)
  (dSeq (dSet (dOp gAdd (dVar 3) (dC (.int 1))) (dVar 0) (dC (.str "spot")))
  (dSeq (dAsg (dOp gIx (dVar 0) (dC (.str "cells"))) 4)
  (dSeq (dAsg (dC (.int 0)) 5)
  (dSeq (dIfS (dB (dOp (gB0 fun i j => decide (j < i)) (dCB gLen (dCons (dVar 4) dNil)) (dC (.int 0)))) (dAsg (dOp gIx (dVar 4) (dOp (gI (fun _ j => 0 < j) fun i j => i % j) (dVar 3) (dCB gLen (dCons (dVar 4) dNil)))) 5) dNext)
  (dSeq (dIfS (dAnd (dB (dOp (gB0 fun i j => decide (j ≤ i)) (dVar 5) (dOp (gI CPow fun i j => i ^ j.toNat) (dC (.int 10)) (dC (.int 18))))) (dB (dOp (gB0 fun i j => decide (i < j)) (dVar 3) (dCB gLen (dCons (dVar 4) dNil))))) (dSeq (dSet (dOp (gI CDivW fun i j => i / j) (dOp (gI0 fun i j => i - j) (dVar 5) (dOp (gI CPow fun i j => i ^ j.toNat) (dC (.int 10)) (dC (.int 18)))) (dVar 1)) (dVar 0) (dC (.str "left")))
  (dRet (dOp (gI (fun _ j => 0 < j) fun i j => i % j) (dOp (gI0 fun i j => i - j) (dVar 5) (dOp (gI CPow fun i j => i ^ j.toNat) (dC (.int 10)) (dC (.int 18)))) (dVar 1)))) dNext)
  (dSeq (dAsg (dOp (gI (fun _ j => 0 < j) fun i j => i % j) (dOp gMul (dOp gAdd (dOp gAdd (dOp gAdd (dOp (gI (fun _ j => 0 < j) fun i j => i % j) (dVar 5) (dC (.int 2147483629))) (dOp gMul (dOp gMul (dC (.int 7919)) (dVar 3)) (dVar 3))) (dOp gMul (dC (.int 48271)) (dVar 3))) (dC (.int 1))) (dC (.int 69621))) (dC (.int 2147483647))) 6)
  (dRet (dOp (gI (fun _ j => 0 < j) fun i j => i % j) (dOp (gI CDivW fun i j => i / j) (dOp (gI (fun _ j => 0 < j) fun i j => i % j) (dOp gMul (dVar 6) (dOp gAdd (dVar 6) (dC (.int 16807)))) (dC (.int 2147483629))) (dC (.int 64))) (dVar 1)))))))))))
abbrev N_law_whole : List Str := ["_law_found"]
def r_law_whole : DS :=
  (dRet (dAndV (dCB gIsi (dCons (dVar 0) (dCons (dC (.raw (.ty "int"))) dNil))) (dNotV (dCB gIsi (dCons (dVar 0) (dCons (dC (.raw (.ty "bool"))) dNil))))))
abbrev iN (l : List Nat) : List Int := l.map Int.ofNat
abbrev natsD (l : List Nat) : List Dat := (iN l).map Dat.int
theorem natsD_len (l : List Nat) : (natsD l).length = l.length := by simp [natsD, iN]
theorem natsD_get {l : List Nat} {i : Nat} {d : Dat} (h : (natsD l)[i]? = some d) : ∃ g, l[i]? = some g ∧ d = .int (g : Int) := by
  unfold natsD iN at h
  rw [List.getElem?_map, List.getElem?_map] at h
  cases e : l[i]? with
  | none => rw [e] at h; cases h
  | some g => rw [e] at h; cases h; exact ⟨g, rfl, rfl⟩
def sp_weight : DSp := fun as Q _ => ∃ n : Nat, as = [.f (.int n)] ∧ Q (.f (.int (popc n))) []
theorem p_weight : ∀ as Q X, sp_weight as Q X → as.length = 1 ∧ r_weight { nx := fun env => rtD as Q (.f .non) env, rt := rtD as Q } (startE N_weight as) := by
  rintro as Q X ⟨n, rfl, h⟩
  refine ⟨rfl, ?_⟩
  walk_at "dw"
  refine ⟨fun m env => ∃ r c : Nat, env = [some (.f (.int r)), some (.f (.int c))] ∧ m = popc r ∧ popc r + c = popc n, ⟨_, n, 0, rfl, rfl, rfl⟩, ?_⟩
  rintro m env ⟨r, c, rfl, rfl, e⟩
  walk_at "dw"
  refine ⟨fun hb => ?_, fun hb => ?_⟩
  · have hb := of_decide_eq_true hb
    have r0 : r ≠ 0 := by omega
    walk_at "dw"
    have hl := popc_low r0
    refine ⟨popc (r &&& (r - 1)), by omega, r &&& (r - 1), c + 1, ?_, rfl, by omega⟩
    show [some (S.f (.int (Builtin.bitAnd (r : Int) ((r : Int) - 1)))), some (S.f (.int ((c : Int) + 1)))] = _
    rw [show (r : Int) - 1 = ((r - 1 : Nat) : Int) by omega, band_nat]; rfl
  · have hb := of_decide_eq_false hb
    have r0 : r = 0 := by omega
    subst r0
    rw [popc_zero] at e
    walk_at "dw"
    rw [show c = popc n by omega]
    exact h
def sp_givens_of : DSp := fun as Q _ => ∃ n B : Nat, as = [.f (.int n)] ∧ n < 2 ^ B ∧ B ≤ 1000 ∧ Q (.n (.lst (natsD (gls B n)))) []
theorem intBits_nat (n : Nat) : n < 2 ^ (Builtin.Int.intBits (n : Int)) := by
  unfold Builtin.Int.intBits
  by_cases h : n = 0
  · subst h; simp
  · have : ((n : Int) == 0) = false := by simpa using h
    rw [this]
    simp only [Bool.false_eq_true, if_false, Int.natAbs_natCast]
    exact Nat.lt_log2_self
theorem intBits_le {n B : Nat} (h : n < 2 ^ B) : Builtin.Int.intBits (n : Int) ≤ B := by
  unfold Builtin.Int.intBits
  by_cases h0 : n = 0
  · subst h0; simp
  · have : ((n : Int) == 0) = false := by simpa using h0
    rw [this]
    simp only [Bool.false_eq_true, if_false, Int.natAbs_natCast]
    have := (Nat.log2_lt h0).mpr h
    omega
/-- the bit test of a comprehension -/
theorem bit_is (n k : Nat) : deq (.int (Builtin.bitAnd ((n : Int) / 2 ^ ((k : Int).toNat)) 1)) (.int 1) = n.testBit k := by
  rw [bit_nat, deq_int]
  cases n.testBit k <;> simp
theorem p_givens_of : ∀ as Q X, sp_givens_of as Q X → as.length = 1 ∧ r_givens_of { nx := fun env => rtD as Q (.f .non) env, rt := rtD as Q } (startE N_givens_of as) := by
  rintro as Q X ⟨n, B, rfl, hn, hB, h⟩
  refine ⟨rfl, ?_⟩
  walk_at "dw"
  have hb := intBits_le hn
  walk_at "ok"
  walk_at "ok"
  rw [Int.toNat_natCast]
  refine ⟨by rw [rangeD_len]; omega, fun i acc env => env = [some (.f (.int n)), none] ∧ acc = natsD (gls i n), ⟨rfl, by simp [gls]⟩, ?_, ?_⟩
  · rintro i d acc env hd ⟨rfl, rfl⟩
    obtain ⟨hi, rfl⟩ := rangeD_some hd
    rw [Int.zero_add]
    walk_at "dw"
    refine ⟨by omega, ?_⟩
    walk_at "dw"
    refine ⟨rfl, rfl, ?_⟩
    walk_at "dw"
    refine ⟨fun hb => ?_, fun hb => ?_⟩
    · rw [Bool.false_xor, bit_is] at hb
      walk_at "dw"
      refine ⟨rfl, ?_⟩
      rw [gls_succ, hb]; simp [natsD, iN]
    · rw [Bool.false_xor, bit_is] at hb
      walk_at "dw"
      refine ⟨rfl, ?_⟩
      rw [gls_succ, hb]; simp [natsD, iN]
  · rintro acc env ⟨rfl, rfl⟩
    rw [rangeD_len]
    walk_at "dw"
    rw [gls_eq (intBits_nat n) hn]
    exact h
def sp_row_of : DSp := fun as Q _ => ∃ gs : List Nat, as = [.f (.lst (natsD gs))] ∧ (∀ g ∈ gs, g ≤ 1000) ∧ Q (.f (.int (rowOf gs))) []
theorem csh {j : Nat} (h : j ≤ 1000000) : CSh 1 (j : Int) := .inl ⟨by omega, by omega, by decide⟩
theorem p_row_of : ∀ as Q X, sp_row_of as Q X → as.length = 1 ∧ r_row_of { nx := fun env => rtD as Q (.f .non) env, rt := rtD as Q } (startE N_row_of as) := by
  rintro as Q X ⟨gs, rfl, hg, h⟩
  refine ⟨rfl, ?_⟩
  walk_at "dw"
  refine ⟨fun i env => ∃ x, env = [some (.f (.lst (natsD gs))), some (.f (.int (rowOf (gs.take i)))), x], ⟨none, rfl⟩, ?_, ?_⟩
  · rintro i d env hd ⟨x, rfl⟩
    obtain ⟨g, hgi, rfl⟩ := natsD_get hd
    have hgm : g ∈ gs := List.mem_of_getElem? hgi
    walk_at "dw"
    refine ⟨csh (by have := hg g hgm; omega), ?_⟩
    walk_at "dw"
    refine ⟨some (.f (.int g)), ?_⟩
    show [_, some (S.f (.int (Builtin.bitXor (rowOf (gs.take i) : Int) (1 * 2 ^ (g : Int).toNat)))), _] = _
    rw [one_shl, bxor_nat, List.take_add_one, hgi]
    have : rowOf (gs.take i ++ [g]) = rowOf (gs.take i) ^^^ 2 ^ g := by
      unfold rowOf; rw [List.map_append, xorl_append]; simp [xorl]
    simp [this]
  · rintro env ⟨x, rfl⟩
    rw [natsD_len, List.take_length]
    walk_at "dw"
    exact h
def sp_joined : DSp := fun as Q _ => ∃ a b : Nat, as = [.f (.int a), .f (.int b)] ∧ Q (.f (.int ((a ^^^ b : Nat) : Int))) []
theorem p_joined : ∀ as Q X, sp_joined as Q X → as.length = 2 ∧ r_joined { nx := fun env => rtD as Q (.f .non) env, rt := rtD as Q } (startE N_joined as) := by
  rintro as Q X ⟨a, b, rfl, h⟩
  refine ⟨rfl, ?_⟩
  walk_at "dw"
  rw [bxor_nat]
  exact h
def isInt : Dat → Bool
  | .int _ => true
  | _ => false
def sp_law_whole : DSp := fun as Q _ => ∃ i : Int, as = [.f (.int i)] ∧ Q (.f (.bl true)) []
theorem p_law_whole : ∀ as Q X, sp_law_whole as Q X → as.length = 1 ∧ r_law_whole { nx := fun env => rtD as Q (.f .non) env, rt := rtD as Q } (startE N_law_whole as) := by
  rintro as Q X ⟨i, rfl, h⟩
  refine ⟨rfl, ?_⟩
  walk_at "dw"
  refine ⟨fun _ => ?_, fun z => by cases z⟩
  walk_at "dw"
  exact h
def sp_law_draw : DSp := fun as Q _ => ∃ (k : Nat) (T : Dat) (many : Nat), as = [.m T, .f (.int many)] ∧ Tape k T ∧ k ≤ 1000000000 ∧ 0 < many ∧ many < 2 ^ 5000 ∧ ∀ (v : Nat) (T' : Dat), Tape (k + 1) T' → v < many → Q (.f (.int v)) [T']
theorem cdivw {i : Int} {n : Nat} (h0 : 0 < n) (h : n < 2 ^ 5000) : CDivW i (n : Int) := wide_div (by omega) (b := 5000) (by simpa using h) (by omega) (by omega)
theorem cdivw64 {i : Int} : CDivW i 64 := ⟨by decide, by decide⟩
theorem mod_nat (i : Int) {n : Nat} (h : 0 < n) : ∃ v : Nat, v < n ∧ i % (n : Int) = (v : Int) := by
  refine ⟨(i % (n : Int)).toNat, ?_, ?_⟩
  · have h1 := Int.emod_lt_of_pos i (show (0 : Int) < n by omega)
    have h2 := Int.emod_nonneg i (show (n : Int) ≠ 0 by omega)
    omega
  · have h2 := Int.emod_nonneg i (show (n : Int) ≠ 0 by omega)
    omega
theorem mod_end {i : Int} {n : Nat} (h : 0 < n) (P : Int → Prop) (k : ∀ v : Nat, v < n → P (v : Int)) : P (i % (n : Int)) := by
  obtain ⟨v, hv, e⟩ := mod_nat i h
  rw [e]; exact k v hv
theorem cpow18 : CPow 10 18 := ⟨by decide, by decide, by decide⟩
theorem tape_set {cells : List Int} {spot' left' : Int} {k : Nat} (hc : cells.length ≤ 63) (h0 : 0 ≤ spot') (h1 : spot' ≤ (k : Int)) : Tape k (tapeD cells spot' left') := ⟨cells, spot', left', rfl, hc, h0, h1⟩
theorem seed_b (x : Int) : -(2 ^ 64) < x % 2147483647 ∧ x % 2147483647 < 2 ^ 64 := by omega
theorem p_law_draw : ∀ as Q X, sp_law_draw as Q X → as.length = 2 ∧ r_law_draw { nx := fun env => rtD as Q (.f .non) env, rt := rtD as Q } (startE N_law_draw as) := by
  rintro as Q X ⟨k, T, many, rfl, ⟨cells, spot, left, rfl, hc, hs0, hsk⟩, hk, hm0, hm1, h⟩
  refine ⟨rfl, ?_⟩
  walk_at "dw"
  walk_at "got"
  walk_at "got"
  refine ⟨fun hb => ?_, fun hb => ?_⟩
  · walk_at "dw"
    walk_at "got"
    walk_at "got"
    walk_at "ok"
    walk_at "got"
    walk_at "got"
    refine ⟨cdivw hm0 hm1, ?_⟩
    walk_at "dw"
    walk_at "got"
    refine ⟨by show 3 < 100000; decide, ?_⟩
    walk_at "dw"
    obtain ⟨v, hv, e⟩ := mod_nat left hm0
    rw [e]
    exact h v _ (tape_set (k := k + 1) hc hs0 (by omega)) hv
  · walk_at "dw"
    walk_at "got"
    walk_at "got"
    walk_at "got"
    refine ⟨by show 3 < 100000; decide, ?_⟩
    walk_at "dw"
    walk_at "got"
    walk_at "got"
    have rest : ∀ (c : Int) (left' : Int), CMul 7919 spot ∧ CMul (7919 * spot) spot ∧ CMul 48271 spot := fun c l => ⟨.inl (by decide), .inr (by omega), .inl (by decide)⟩
    refine ⟨fun hl => ?_, fun hl => ?_⟩
    · have hl := of_decide_eq_true hl
      rw [List.length_map] at hl
      walk_at "dw"
      refine ⟨by rw [List.length_map]; exact hl, ?_⟩
      walk_at "dw"
      have hx : ∃ c, atI (cells.map Dat.int) (spot % ((cells.map Dat.int).length : Int)) = some (.int c) := by
        rw [List.length_map]
        obtain ⟨v, hv, e⟩ := mod_nat spot (n := cells.length) (by omega)
        rw [e]
        exact ⟨cells[v], atI_nat (by simp [hv])⟩
      obtain ⟨c, hc'⟩ := hx
      refine ⟨_, hc', ?_⟩
      walk_at "dw"
      refine ⟨cpow18, ?_⟩
      walk_at "dw"
      generalize c = cell
      clear hc'
      refine ⟨fun h1 => ?_, fun h1 => ?_⟩
      · walk_at "dw"
        refine ⟨fun h2 => ?_, fun h2 => ?_⟩
        · walk_at "dw"
          refine ⟨cpow18, ?_⟩
          walk_at "dw"
          refine ⟨cdivw hm0 hm1, ?_⟩
          walk_at "dw"
          walk_at "got"
          refine ⟨by show 3 < 100000; decide, ?_⟩
          walk_at "dw"
          refine ⟨cpow18, ?_⟩
          walk_at "dw"
          walk_at "ok"
          obtain ⟨v, hv, e⟩ := mod_nat (cell - 10 ^ Int.toNat 18) hm0
          rw [e]
          exact h v _ (tape_set (k := k + 1) (spot' := spot + 1) hc (by omega) (by omega)) hv
        · walk_at "dw"
          walk_at "ok"
          refine ⟨.inl (.inl (by decide)), ?_⟩
          walk_at "dw"
          refine ⟨.inl (.inr ⟨by omega, by omega⟩), ?_⟩
          walk_at "dw"
          refine ⟨.inl (.inl (by decide)), ?_⟩
          walk_at "dw"
          refine ⟨.inl (.inr (by decide)), ?_⟩
          walk_at "dw"
          walk_at "ok"
          refine ⟨.inl (.inl (seed_b _)), ?_⟩
          walk_at "dw"
          walk_at "ok"
          refine ⟨cdivw64, ?_⟩
          walk_at "dw"
          walk_at "ok"
          refine mod_end hm0 (fun z => Q (.f (.int z)) _) fun v hv => ?_
          exact h v _ (tape_set (k := k + 1) (spot' := spot + 1) hc (by omega) (by omega)) hv
      · walk_at "dw"
        refine ⟨fun z => (by cases z), fun _ => ?_⟩
        walk_at "dw"
        walk_at "ok"
        refine ⟨.inl (.inl (by decide)), ?_⟩
        walk_at "dw"
        refine ⟨.inl (.inr ⟨by omega, by omega⟩), ?_⟩
        walk_at "dw"
        refine ⟨.inl (.inl (by decide)), ?_⟩
        walk_at "dw"
        refine ⟨.inl (.inr (by decide)), ?_⟩
        walk_at "dw"
        walk_at "ok"
        refine ⟨.inl (.inl (seed_b _)), ?_⟩
        walk_at "dw"
        walk_at "ok"
        refine ⟨cdivw64, ?_⟩
        walk_at "dw"
        walk_at "ok"
        refine mod_end hm0 (fun z => Q (.f (.int z)) _) fun v hv => ?_
        exact h v _ (tape_set (k := k + 1) (spot' := spot + 1) hc (by omega) (by omega)) hv
    · walk_at "dw"
      refine ⟨cpow18, ?_⟩
      walk_at "dw"
      refine ⟨fun h1 => ?_, fun h1 => ?_⟩
      · exact absurd (of_decide_eq_true h1) (by decide)
      · walk_at "dw"
        refine ⟨fun z => (by cases z), fun _ => ?_⟩
        walk_at "dw"
        walk_at "ok"
        refine ⟨.inl (.inl (by decide)), ?_⟩
        walk_at "dw"
        refine ⟨.inl (.inr ⟨by omega, by omega⟩), ?_⟩
        walk_at "dw"
        refine ⟨.inl (.inl (by decide)), ?_⟩
        walk_at "dw"
        refine ⟨.inl (.inr (by decide)), ?_⟩
        walk_at "dw"
        walk_at "ok"
        refine ⟨.inl (.inl (seed_b _)), ?_⟩
        walk_at "dw"
        walk_at "ok"
        refine ⟨cdivw64, ?_⟩
        walk_at "dw"
        walk_at "ok"
        refine mod_end hm0 (fun z => Q (.f (.int z)) _) fun v hv => ?_
        exact h v _ (tape_set (k := k + 1) (spot' := spot + 1) hc (by omega) (by omega)) hv
end DP

set_option Elab.async false
set_option linter.all false
set_option maxRecDepth 100000
set_option maxHeartbeats 4000000
namespace DP
open PySem PySem.Spec PyProof.Rows L2 DL
variable [ClsV]
local macro_rules | `(tactic| walk_at "dw") => `(tactic| ((conv => whnf); (try dsimp only)))
local macro_rules | `(tactic| walk_at "om") => `(tactic| first | omega | (dsimp only; omega) | (simp only [List.length_cons, List.length_nil, List.length_map, List.length_append, rangeD_len, natsD_len]; omega))
local macro_rules | `(tactic| walk_at "ok") => `(tactic| (refine ⟨by walk_at "om", ?_⟩; walk_at "dw"))
local macro_rules | `(tactic| walk_at "no") => `(tactic| (refine ⟨fun z => (by cases z), fun _ => ?_⟩; walk_at "dw"))
local macro_rules | `(tactic| walk_at "yes") => `(tactic| (refine ⟨fun _ => ?_, fun z => (by cases z)⟩; walk_at "dw"))
local macro_rules | `(tactic| walk_at "got") => `(tactic| (refine ⟨_, rfl, ?_⟩; walk_at "dw"))
local macro_rules | `(tactic| walk_at "rfl") => `(tactic| (refine ⟨rfl, ?_⟩; walk_at "dw"))
local macro_rules | `(tactic| walk_at "tr") => `(tactic| (refine ⟨trivial, ?_⟩; walk_at "dw"))
local macro_rules | `(tactic| walk_at "im") => `(tactic| (refine ⟨⟨rfl, rfl⟩, ?_⟩; walk_at "dw"))
abbrev N_law_givens : List Str := ["_law_row_here", "_law_k"]
def r_law_givens : DS :=
  (dRet (dLc (dRng1 (dCons (dC (.int 12)) dNil)) (dgName 1) (dB (dOp (gEq false) (dOp (gI0 Builtin.bitAnd) (dOp (gI (fun _ j => 0 ≤ j) fun i j => i / 2 ^ j.toNat) (dVar 0) (dVar 1)) (dC (.int 1))) (dC (.int 1)))) (dVar 1) [1]))
abbrev N_law_same : List Str := ["_law_found", "_law_due", "_law_one"]
def r_law_same (sp_law_whole : DSp) : DS :=
  (dRet (dAndV (dCB gIsi (dCons (dVar 0) (dCons (dC (.raw (.ty "list"))) dNil))) (dAndV (dOp (gEq false) (dVar 0) (dVar 1)) (dCB gAll (dCons (dLc (dSeqI (dVar 0)) (dgName 2) dYes (dCall0 [false] sp_law_whole (dCons (dVar 2) dNil)) [2]) dNil)))))
theorem lt5000 {n : Nat} (h : n < 2 ^ 64) : n < 2 ^ 5000 := Nat.lt_of_lt_of_le h (Nat.pow_le_pow_right (by omega) (by omega))
theorem pln_ints (l : List Int) : (l.map Dat.int).all (pln 7) = true := by
  rw [List.all_eq_true]
  intro d hd
  obtain ⟨i, _, rfl⟩ := List.mem_map.mp hd
  rfl
theorem pln_nats (l : List Nat) : pln 8 (.lst (natsD l)) = true := pln_ints _
theorem pln_natsT (l : List Nat) : pln 8 (.tup (natsD l)) = true := pln_ints _
theorem ofNat_inj : ∀ {a b : List Nat}, iN a = iN b → a = b
  | [], [], _ => rfl
  | [], _ :: _, h => by cases h
  | _ :: _, [], h => by cases h
  | x :: a, y :: b, h => by
    simp only [iN, List.map_cons, List.cons.injEq] at h
    rw [ofNat_inj h.2, Int.ofNat.inj h.1]
theorem ints_inj : ∀ {a b : List Int}, a.map Dat.int = b.map Dat.int → a = b
  | [], [], _ => rfl
  | [], _ :: _, h => by cases h
  | _ :: _, [], h => by cases h
  | x :: a, y :: b, h => by
    simp only [List.map_cons, List.cons.injEq] at h
    rw [ints_inj h.2, Dat.int.inj h.1]
theorem natsD_inj {a b : List Nat} (h : natsD a = natsD b) : a = b := ofNat_inj (ints_inj h)
theorem deq_nats (a b : List Nat) : deq (.lst (natsD a)) (.lst (natsD b)) = decide (a = b) := by
  by_cases h : a = b
  · subst h; rw [deq_refl]; simp
  · rw [decide_eq_false h]
    cases e : deq (.lst (natsD a)) (.lst (natsD b)) with
    | false => rfl
    | true => exact absurd (natsD_inj (Dat.lst.inj (deq_iff.mp e))) h
def sp_law_givens : DSp := fun as Q _ => ∃ n : Nat, as = [.f (.int n)] ∧ Q (.n (.lst (natsD (gls 12 n)))) []
theorem p_law_givens : ∀ as Q X, sp_law_givens as Q X → as.length = 1 ∧ r_law_givens { nx := fun env => rtD as Q (.f .non) env, rt := rtD as Q } (startE N_law_givens as) := by
  rintro as Q X ⟨n, rfl, h⟩
  refine ⟨rfl, ?_⟩
  walk_at "dw"
  walk_at "ok"
  walk_at "ok"
  refine ⟨by decide, fun i acc env => env = [some (.f (.int n)), none] ∧ acc = natsD (gls i n), ⟨rfl, by simp [gls]⟩, ?_, ?_⟩
  · rintro i d acc env hd ⟨rfl, rfl⟩
    obtain ⟨hi, rfl⟩ := rangeD_some hd
    rw [Int.zero_add]
    walk_at "dw"
    walk_at "ok"
    walk_at "rfl"
    walk_at "rfl"
    refine ⟨fun hb => ?_, fun hb => ?_⟩
    · rw [Bool.false_xor, bit_is] at hb
      walk_at "dw"
      refine ⟨rfl, ?_⟩
      rw [gls_succ, hb]; simp [natsD, iN]
    · rw [Bool.false_xor, bit_is] at hb
      walk_at "dw"
      refine ⟨rfl, ?_⟩
      rw [gls_succ, hb]; simp [natsD, iN]
  · rintro acc env ⟨rfl, rfl⟩
    rw [rangeD_len]
    walk_at "dw"
    exact h
def sp_law_same : DSp := fun as Q _ => ∃ a b : List Nat, as = [.f (.lst (natsD a)), .f (.lst (natsD b))] ∧ a.length ≤ 1000 ∧ Q (.f (.bl (decide (a = b)))) []
theorem p_law_same : ∀ as Q X, sp_law_same as Q X → as.length = 2 ∧ r_law_same sp_law_whole { nx := fun env => rtD as Q (.f .non) env, rt := rtD as Q } (startE N_law_same as) := by
  rintro as Q X ⟨a, b, rfl, ha, h⟩
  refine ⟨rfl, ?_⟩
  walk_at "dw"
  walk_at "yes"
  refine ⟨pln_nats a, pln_nats b, ?_⟩
  walk_at "dw"
  rw [Bool.false_xor, deq_nats]
  refine ⟨fun e => ?_, fun e => ?_⟩
  · rw [e] at h
    walk_at "dw"
    refine ⟨by rw [natsD_len]; omega, fun i acc env => env = [some (.f (.lst (natsD a))), some (.f (.lst (natsD b))), none] ∧ acc = (List.replicate i true).map Dat.bl, ⟨rfl, rfl⟩, ?_, ?_⟩
    · rintro i d acc env hd ⟨rfl, rfl⟩
      obtain ⟨g, hg, rfl⟩ := natsD_get hd
      walk_at "dw"
      walk_at "yes"
      walk_at "rfl"
      refine ⟨_, rfl, ?_⟩
      walk_at "dw"
      walk_at "tr"
      refine ⟨rfl, ?_⟩
      rw [List.replicate_succ', List.map_append]; rfl
    · rintro acc env ⟨rfl, rfl⟩
      walk_at "dw"
      refine ⟨_, rfl, ?_⟩
      walk_at "dw"
      rw [show (List.replicate (natsD a).length true).all id = true by simp]
      exact h
  · rw [e] at h
    exact h
theorem gls_le (B n : Nat) : (gls B n).length ≤ B := by
  unfold gls
  have := List.length_filter_le (fun k => n.testBit k) (List.range B)
  simpa using this
theorem mem_gls12 (k n : Nat) (h : k < 12) : decide (((k : Int)) ∈ iN (gls 12 n)) = n.testBit k := by
  have : ((k : Int) ∈ iN (gls 12 n)) ↔ n.testBit k = true := by
    unfold iN
    rw [List.mem_map]
    constructor
    · rintro ⟨a, ha, e⟩
      have : a = k := Int.ofNat.inj e
      subst this
      exact (mem_gls.mp ha).2
    · intro e
      exact ⟨k, mem_gls.mpr ⟨h, e⟩, rfl⟩
  cases e : n.testBit k with
  | true => exact decide_eq_true (this.mpr e)
  | false => exact decide_eq_false fun z => by rw [this.mp z] at e; cases e
theorem sum_iN : ∀ l : List Nat, (iN l).sum = ((l.sum : Nat) : Int)
  | [] => rfl
  | a :: l => by
    have := sum_iN l
    simp only [iN, List.map_cons, List.sum_cons] at this ⊢
    rw [this]; simp
theorem range_filter_succ (i : Nat) (p : Nat → Bool) : (List.range (i + 1)).filter p = (List.range i).filter p ++ if p i then [i] else [] := by
  rw [List.range_succ, List.filter_append]
  congr 1
  by_cases h : p i = true <;> simp [h]
theorem atI_nats {rs : List Nat} {j : Nat} (h : j < rs.length) : atI (natsD rs) (j : Int) = some (.int (rs[j] : Nat)) := by
  refine atI_nat ?_
  unfold natsD iN
  rw [List.getElem?_map, List.getElem?_map, List.getElem?_eq_getElem h]; rfl
theorem atI_pred {rs : List Nat} {i : Nat} (h : i < rs.length) : ∃ o, o ∈ rs ∧ atI (natsD rs) ((i : Int) - 1) = some (.int (o : Nat)) := by
  cases i with
  | zero =>
    have hl := natsD_len rs
    refine ⟨rs[rs.length - 1], List.getElem_mem _, ?_⟩
    show atI (natsD rs) (-1) = _
    unfold atI ixN
    rw [if_neg (by omega), if_pos (by omega)]
    have : (-1 + ((natsD rs).length : Int)).toNat = rs.length - 1 := by omega
    rw [this]
    show (natsD rs)[rs.length - 1]? = _
    unfold natsD iN
    rw [List.getElem?_map, List.getElem?_map, List.getElem?_eq_getElem (by omega)]; rfl
  | succ i =>
    refine ⟨rs[i], List.getElem_mem _, ?_⟩
    rw [show ((i + 1 : Nat) : Int) - 1 = (i : Int) by omega]
    exact atI_nats (by omega)
theorem count_nats (l : List Nat) (k : Nat) : List.count (k : Int) (iN l) = List.count k l := by
  induction l with
  | nil => rfl
  | cons a l ih =>
    simp only [iN, List.map_cons, List.count_cons] at ih ⊢
    rw [ih]
    congr 1
    by_cases e : a = k
    · subst e; simp
    · have : ¬ (Int.ofNat a = (k : Int)) := fun z => e (Int.ofNat.inj z)
      simp [e]; omega
end DP

set_option Elab.async false
set_option linter.all false
set_option maxRecDepth 100000
set_option maxHeartbeats 4000000
namespace DP
open PySem PySem.Spec PyProof.Rows L2 DL
variable [ClsV]
section
variable {A B : Prop}
theorem if_t (k : A) : (true = true → A) ∧ (true = false → B) := ⟨fun _ => k, fun z => by cases z⟩
theorem if_f (k : B) : (false = true → A) ∧ (false = false → B) := ⟨fun z => (by cases z), fun _ => k⟩
theorem ne_no {a b : Dat} (h : a = b) (k : B) : ((true ^^ deq a b) = true → A) ∧ ((true ^^ deq a b) = false → B) := by
  subst h; rw [deq_refl]; exact ⟨fun z => (by cases z), fun _ => k⟩
theorem ne_yes {a b : Dat} (h : a ≠ b) (k : A) : ((true ^^ deq a b) = true → A) ∧ ((true ^^ deq a b) = false → B) := by
  have : deq a b = false := by
    cases e : deq a b with
    | false => rfl
    | true => exact absurd (deq_iff.mp e) h
  rw [this]; exact ⟨fun _ => k, fun z => (by cases z)⟩
theorem eq_yes {a b : Dat} (h : a = b) (k : A) : ((false ^^ deq a b) = true → A) ∧ ((false ^^ deq a b) = false → B) := by
  subst h; rw [deq_refl]; exact ⟨fun _ => k, fun z => (by cases z)⟩
theorem eq_no {a b : Dat} (h : a ≠ b) (k : B) : ((false ^^ deq a b) = true → A) ∧ ((false ^^ deq a b) = false → B) := by
  have : deq a b = false := by
    cases e : deq a b with
    | false => rfl
    | true => exact absurd (deq_iff.mp e) h
  rw [this]; exact ⟨fun z => (by cases z), fun _ => k⟩
theorem eq_cases {x y : Int} (h1 : x = y → A) (h2 : x ≠ y → B) : ((false ^^ deq (.int x) (.int y)) = true → A) ∧ ((false ^^ deq (.int x) (.int y)) = false → B) := by
  by_cases h : x = y
  · exact eq_yes (by rw [h]) (h1 h)
  · exact eq_no (fun z => h (Dat.int.inj z)) (h2 h)
theorem ne_cases {x y : Int} (h1 : x ≠ y → A) (h2 : x = y → B) : ((true ^^ deq (.int x) (.int y)) = true → A) ∧ ((true ^^ deq (.int x) (.int y)) = false → B) := by
  by_cases h : x = y
  · exact ne_no (by rw [h]) (h2 h)
  · exact ne_yes (fun z => h (Dat.int.inj z)) (h1 h)
theorem dec_cases {p : Prop} [Decidable p] (h1 : p → A) (h2 : ¬ p → B) : (decide p = true → A) ∧ (decide p = false → B) :=
  ⟨fun h => h1 (of_decide_eq_true h), fun h => h2 (of_decide_eq_false h)⟩
theorem dec_yes {p : Prop} [Decidable p] (h : p) (k : A) : (decide p = true → A) ∧ (decide p = false → B) := ⟨fun _ => k, fun z => absurd h (of_decide_eq_false z)⟩
theorem dec_no {p : Prop} [Decidable p] (h : ¬ p) (k : B) : (decide p = true → A) ∧ (decide p = false → B) := ⟨fun z => absurd (of_decide_eq_true z) h, fun _ => k⟩
theorem deq_no {a b : Dat} (h : a ≠ b) : deq a b = false := by
  cases e : deq a b with
  | false => rfl
  | true => exact absurd (deq_iff.mp e) h
theorem bb_cases {b : Bool} (h1 : b = true → A) (h2 : b = false → B) : (b = true → A) ∧ (b = false → B) := ⟨h1, h2⟩
end
section
variable {B : Prop}
theorem and_leN {a b : Nat} (h : a ≤ b) (k : B) : a ≤ b ∧ B := ⟨h, k⟩
theorem and_ltN {a b : Nat} (h : a < b) (k : B) : a < b ∧ B := ⟨h, k⟩
theorem and_leI {a b : Int} (h : a ≤ b) (k : B) : a ≤ b ∧ B := ⟨h, k⟩
theorem and_ltI {a b : Int} (h : a < b) (k : B) : a < b ∧ B := ⟨h, k⟩
theorem and_le4 {a b c d e f g h : Int} (h1 : a ≤ b) (h2 : c < d) (h3 : e ≤ f) (h4 : g < h) (k : B) : (a ≤ b ∧ c < d ∧ e ≤ f ∧ g < h) ∧ B := ⟨⟨h1, h2, h3, h4⟩, k⟩
theorem and_le2 {a b c d : Int} (h1 : a ≤ b) (h2 : c ≤ d) (k : B) : (a ≤ b ∧ c ≤ d) ∧ B := ⟨⟨h1, h2⟩, k⟩
theorem and_lelt {a b c d : Int} (h1 : a ≤ b) (h2 : c < d) (k : B) : (a ≤ b ∧ c < d) ∧ B := ⟨⟨h1, h2⟩, k⟩
theorem and_le4n {a b c d e f g h : Int} (h1 : a ≤ b) (h2 : c ≤ d) (h3 : e ≤ f) (h4 : g ≤ h) (k : B) : (a ≤ b ∧ c ≤ d ∧ e ≤ f ∧ g ≤ h) ∧ B := ⟨⟨h1, h2, h3, h4⟩, k⟩
theorem and_eqB {a b : Bool} (h : a = b) (k : B) : a = b ∧ B := ⟨h, k⟩
theorem and_eqN {a b : Nat} (h : a = b) (k : B) : a = b ∧ B := ⟨h, k⟩
theorem and_imm (fl : List Nat) (r : Res) (ds : List Dat) (h : immOk fl r ds) (k : B) : immOk fl r ds ∧ B := ⟨h, k⟩
theorem immL_ints : ∀ l : List Int, immL (l.map Dat.int) = true
  | [] => rfl
  | i :: l => by show (true && immL (l.map Dat.int)) = true; rw [immL_ints l]; rfl
theorem imm_nats (l : List Nat) : immR (.n (.lst (natsD l))) = true := immL_ints _
theorem imm_natsT (l : List Nat) : immR (.f (.tup (natsD l))) = true := immL_ints _
theorem and_csh {j : Nat} (h : j ≤ 1000000) (k : B) : CSh 1 (j : Int) ∧ B := ⟨csh h, k⟩
end
/-! ### parity -/
def par (n : Nat) : Nat := popc n % 2
theorem par_xor (a : Nat) : ∀ b : Nat, par (a ^^^ b) = (par a + par b) % 2 := by
  induction a using Nat.strongRecOn with
  | ind a ih =>
    intro b
    by_cases h : a = 0
    · subst h; simp [par, popc_zero]
    · have e := ih (a / 2) (by omega) (b / 2)
      unfold par at e ⊢
      rw [popc_eq (a ^^^ b), popc_eq a, popc_eq b, Nat.xor_div_two]
      have g1 : (a ^^^ b) % 2 = (a + b) % 2 := by
        have := @Nat.xor_mod_two_pow a b 1
        rcases Nat.mod_two_eq_zero_or_one a with x | x <;> rcases Nat.mod_two_eq_zero_or_one b with y | y <;> simp [x, y, Nat.add_mod] at this ⊢ <;> exact this
      omega
theorem par_lt (n : Nat) : par n < 2 := Nat.mod_lt _ (by omega)
theorem band_one (n : Nat) : Builtin.bitAnd (n : Int) 1 = ((n % 2 : Nat) : Int) := by
  rw [show (1 : Int) = ((1 : Nat) : Int) from rfl, band_nat, Nat.and_one_is_mod]
end DP

set_option Elab.async false
set_option linter.all false
set_option maxRecDepth 100000
set_option maxHeartbeats 4000000
namespace DP
open PySem PySem.Spec PyProof.Rows L2 DL
variable [ClsV]
local macro_rules | `(tactic| walk_at "dw") => `(tactic| ((conv => whnf); (try dsimp only [putOuts, putO, fzR, List.set_cons_zero, List.set_cons_succ, List.getElem?_cons_zero, List.getElem?_cons_succ, startE, arS, List.map_cons, List.map_nil, wipeE, restF, List.length_cons, List.length_nil])))
local macro_rules | `(tactic| walk_at "om") => `(tactic| first | omega | (dsimp only; omega) | (simp only [List.length_cons, List.length_nil, List.length_map, List.length_append, rangeD_len, natsD_len]; omega))
local macro_rules | `(tactic| walk_at "pl") => `(tactic| first | rfl | exact pln_nats _ | exact pln_natsT _ | exact pln_ints _)
local macro_rules | `(tactic| walk_at "go1") => `(tactic| ((first
  | refine and_imm _ _ _ (by first | exact trivial | exact ⟨rfl, rfl⟩) ?_
  | refine and_eqB (by first | rfl | exact pln_nats _ | exact pln_natsT _ | exact pln_ints _) ?_
  | refine and_leN (by walk_at "om") ?_ | refine and_ltN (by walk_at "om") ?_ | refine and_leI (by walk_at "om") ?_ | refine and_ltI (by walk_at "om") ?_
  | refine Got.mk ⟨_, rfl, ?_⟩ | refine IntsL.mk ⟨_, rfl, ?_⟩ | refine BlsL.mk ⟨_, rfl, ?_⟩
  | refine if_t ?_ | refine if_f ?_
  | refine and_csh (by walk_at "om") ?_ | refine and_le4 (by walk_at "om") (by walk_at "om") (by walk_at "om") (by walk_at "om") ?_ | refine and_eqN (by walk_at "om") ?_); walk_at "dw"))
local macro_rules | `(tactic| walk_at "go") => `(tactic| (walk_at "dw"; repeat walk_at "go1"))
abbrev N_tells : List Str := ["row", "setting"]
def r_tells (sp_weight : DSp) : DS :=
  (dRet (dOp (gI0 Builtin.bitAnd) (dCall0 [false] sp_weight (dCons (dOp (gI0 Builtin.bitAnd) (dVar 0) (dVar 1)) dNil)) (dC (.int 1))))
abbrev N_law_counted_k02 : List Str := ["_law_row", "_law_setting", "_law_k"]
def r_law_counted_k02 : DS :=
  (dRet (dOp (gI (fun _ j => 0 < j) fun i j => i % j) (dCB gLen (dCons (dLc (dRng1 (dCons (dC (.int 12)) dNil)) (dgName 2) (dAnd (dB (dOp (gEq false) (dOp (gI0 Builtin.bitAnd) (dOp (gI (fun _ j => 0 ≤ j) fun i j => i / 2 ^ j.toNat) (dVar 0) (dVar 2)) (dC (.int 1))) (dC (.int 1)))) (dB (dOp (gEq false) (dOp (gI0 Builtin.bitAnd) (dOp (gI (fun _ j => 0 ≤ j) fun i j => i / 2 ^ j.toNat) (dVar 1) (dVar 2)) (dC (.int 1))) (dC (.int 1))))) (dVar 2) [2]) dNil)) (dC (.int 2))))
def sp_tells : DSp := fun as Q _ => ∃ r s : Nat, as = [.f (.int r), .f (.int s)] ∧ Q (.f (.int (par (r &&& s)))) []
theorem p_tells : ∀ as Q X, sp_tells as Q X → as.length = 2 ∧ r_tells sp_weight { nx := fun env => rtD as Q (.f .non) env, rt := rtD as Q } (startE N_tells as) := by
  rintro as Q X ⟨r, s, rfl, h⟩
  refine ⟨rfl, ?_⟩
  walk_at "go"
  rw [band_nat]
  refine ⟨_, rfl, ?_⟩
  walk_at "go"
  rw [band_one]
  exact h
def sp_law_counted_k02 : DSp := fun as Q _ => ∃ r s : Nat, as = [.f (.int r), .f (.int s)] ∧ r < 4096 ∧ Q (.f (.int (par (r &&& s)))) []
theorem p_law_counted_k02 : ∀ as Q X, sp_law_counted_k02 as Q X → as.length = 2 ∧ r_law_counted_k02 { nx := fun env => rtD as Q (.f .non) env, rt := rtD as Q } (startE N_law_counted_k02 as) := by
  rintro as Q X ⟨r, s, rfl, hr, h⟩
  refine ⟨rfl, ?_⟩
  walk_at "go"
  refine ⟨fun i acc env => env = [some (.f (.int r)), some (.f (.int s)), none] ∧ acc = natsD (gls i (r &&& s)), ⟨rfl, by simp [gls]⟩, ?_, ?_⟩
  · rintro i d acc env hd ⟨rfl, rfl⟩
    obtain ⟨hi, rfl⟩ := rangeD_some hd
    rw [Int.zero_add]
    walk_at "go"
    rw [Bool.false_xor, bit_is]
    refine ⟨fun e => ?_, fun e => ?_⟩
    · walk_at "go"
      rw [Bool.false_xor, bit_is]
      refine ⟨fun e2 => ?_, fun e2 => ?_⟩
      · walk_at "dw"
        refine ⟨rfl, ?_⟩
        rw [gls_succ, Nat.testBit_and, e, e2]; simp [natsD, iN]
      · walk_at "dw"
        refine ⟨rfl, ?_⟩
        rw [gls_succ, Nat.testBit_and, e, e2]; simp [natsD, iN]
    · walk_at "go"
      refine ⟨rfl, ?_⟩
      rw [gls_succ, Nat.testBit_and, e]; simp [natsD, iN]
  · rintro acc env ⟨rfl, rfl⟩
    walk_at "go"
    rw [natsD_len, rangeD_len, show Int.toNat 12 = 12 from rfl, gls_len 12 _ (Nat.lt_of_le_of_lt Nat.and_le_left hr)]
    exact h
end DP

set_option Elab.async false
set_option linter.all false
set_option maxRecDepth 100000
set_option maxHeartbeats 4000000
namespace DP
open PySem PySem.Spec PyProof.Rows L2 DL
variable [ClsV]
/-! nets -/
def pairD (j : Nat × Nat) : Dat := .tup [.int (j.1 : Nat), .int (j.2 : Nat)]
def netD (m : Nat) (js : List (Nat × Nat)) (os : List Nat) : Dat := .tup [.int (m : Nat), .tup (js.map pairD), .tup (natsD os)]
def stepF (f : Nat → Nat → Nat) (rs : List Nat) (j : Nat × Nat) : List Nat := rs ++ [f (rs.getD j.1 0) (rs.getD j.2 0)]
def runF (f : Nat → Nat → Nat) (rs : List Nat) (js : List (Nat × Nat)) : List Nat := js.foldl (stepF f) rs
abbrev xorF (a b : Nat) : Nat := a ^^^ b
def giv (m : Nat) : List Nat := (List.range m).map (2 ^ ·)
def rowsL (m : Nat) (js : List (Nat × Nat)) : List Nat := runF xorF (giv m) js
theorem giv_len (m : Nat) : (giv m).length = m := by simp [giv]
theorem runF_len (f : Nat → Nat → Nat) : ∀ (js : List (Nat × Nat)) (rs : List Nat), (runF f rs js).length = rs.length + js.length
  | [], rs => by simp [runF]
  | j :: js, rs => by
    show (runF f (stepF f rs j) js).length = _
    rw [runF_len f js]; simp [stepF]; omega
theorem rowsL_len (m : Nat) (js : List (Nat × Nat)) : (rowsL m js).length = m + js.length := by rw [rowsL, runF_len, giv_len]
theorem runF_snoc (f : Nat → Nat → Nat) (js : List (Nat × Nat)) (j : Nat × Nat) (rs : List Nat) : runF f rs (js ++ [j]) = stepF f (runF f rs js) j := by
  unfold runF; rw [List.foldl_append]; rfl
theorem runF_append (f : Nat → Nat → Nat) (js ks : List (Nat × Nat)) (rs : List Nat) : runF f rs (js ++ ks) = runF f (runF f rs js) ks := by
  unfold runF; rw [List.foldl_append]
theorem runF_get (f : Nat → Nat → Nat) : ∀ (js : List (Nat × Nat)) (rs : List Nat) (i : Nat), i < rs.length → (runF f rs js)[i]? = rs[i]?
  | [], rs, i, h => rfl
  | j :: js, rs, i, h => by
    show (runF f (stepF f rs j) js)[i]? = _
    rw [runF_get f js _ _ (by simp [stepF]; omega)]
    unfold stepF
    rw [List.getElem?_append_left h]
theorem runF_getD (f : Nat → Nat → Nat) (js : List (Nat × Nat)) (rs : List Nat) (i : Nat) (h : i < rs.length) : (runF f rs js).getD i 0 = rs.getD i 0 := by
  rw [List.getD_eq_getElem?_getD, List.getD_eq_getElem?_getD, runF_get f js rs i h]
theorem take_snoc {α : Type} {l : List α} {i : Nat} {x : α} (h : l[i]? = some x) : l.take (i + 1) = l.take i ++ [x] := by
  rw [List.take_succ, h]; rfl
theorem runF_take (f : Nat → Nat → Nat) {js : List (Nat × Nat)} {i : Nat} {j : Nat × Nat} (h : js[i]? = some j) (rs : List Nat) : runF f rs (js.take (i + 1)) = stepF f (runF f rs (js.take i)) j := by
  rw [take_snoc h, runF_snoc]
theorem runF_part (f : Nat → Nat → Nat) (js : List (Nat × Nat)) (rs : List Nat) (i k : Nat) (hi : i < rs.length + min k js.length) : (runF f rs js).getD i 0 = (runF f rs (js.take k)).getD i 0 := by
  conv => lhs; rw [← List.take_append_drop k js, runF_append]
  rw [runF_getD]
  rw [runF_len, List.length_take]; exact hi
/-- the thing of a joining -/
theorem runF_at (f : Nat → Nat → Nat) {js : List (Nat × Nat)} {i : Nat} {j : Nat × Nat} (h : js[i]? = some j) (rs : List Nat) (h1 : j.1 < rs.length + i) (h2 : j.2 < rs.length + i) :
    (runF f rs js).getD (rs.length + i) 0 = f ((runF f rs js).getD j.1 0) ((runF f rs js).getD j.2 0) := by
  have hi : i < js.length := by
    rcases Nat.lt_or_ge i js.length with z | z
    · exact z
    · rw [List.getElem?_eq_none z] at h; cases h
  have hl : (runF f rs (js.take i)).length = rs.length + i := by rw [runF_len, List.length_take]; omega
  rw [runF_part f js rs (rs.length + i) (i + 1) (by omega), runF_take f h, runF_part f js rs j.1 i (by omega), runF_part f js rs j.2 i (by omega)]
  unfold stepF
  rw [List.getD_eq_getElem?_getD, List.getElem?_append_right (by omega), hl, Nat.sub_self]
  rfl
structure JsOk (m : Nat) (js : List (Nat × Nat)) : Prop where
  lt : ∀ (i : Nat) (j : Nat × Nat), js[i]? = some j → j.1 < j.2 ∧ j.2 < m + i
structure NetOk (m : Nat) (js : List (Nat × Nat)) (os : List Nat) : Prop extends JsOk m js where
  m1 : 1 ≤ m
  m2 : m ≤ 12
  jl : js.length ≤ 132
  un : ∀ (i : Nat) (j : Nat × Nat), js[i]? = some j → (rowsL m js).getD j.1 0 ≠ (rowsL m js).getD j.2 0
  o1 : 1 ≤ os.length
  o2 : os.length ≤ 24
  ol : ∀ o ∈ os, o < m + js.length
theorem atI_g {rs : List Nat} {j : Nat} (h : j < rs.length) : atI (natsD rs) (j : Int) = some (.int ((rs.getD j 0 : Nat) : Int)) := by
  rw [atI_nats h, List.getD_eq_getElem?_getD, List.getElem?_eq_getElem h]; rfl
theorem mapD_some {α : Type} {f : α → Dat} {l : List α} {i : Nat} {d : Dat} (h : (l.map f)[i]? = some d) : ∃ x, l[i]? = some x ∧ d = f x := by
  rw [List.getElem?_map] at h
  cases e : l[i]? with
  | none => rw [e] at h; cases h
  | some x => rw [e] at h; cases h; exact ⟨x, rfl, rfl⟩
theorem natsD_snoc (l : List Nat) (x : Nat) : natsD l ++ [.int ((x : Nat) : Int)] = natsD (l ++ [x]) := by simp [natsD, iN]
theorem natsD_snocI (l : List Nat) (x : Nat) {z : Int} (h : z = (x : Int)) : natsD l ++ [.int z] = natsD (l ++ [x]) := by subst h; simp [natsD, iN]
theorem giv_succ (m : Nat) : giv (m + 1) = giv m ++ [2 ^ m] := by unfold giv; rw [List.range_succ, List.map_append]; rfl
theorem giv_get {m i : Nat} (h : i < m) : (giv m).getD i 0 = 2 ^ i := by
  unfold giv
  rw [List.getD_eq_getElem?_getD, List.getElem?_map, List.getElem?_range h]; rfl
theorem xor_step (rs : List Nat) (j : Nat × Nat) : natsD rs ++ [.int (Builtin.bitXor ((rs.getD j.1 0 : Nat) : Int) ((rs.getD j.2 0 : Nat) : Int))] = natsD (stepF xorF rs j) := by
  rw [bxor_nat]; exact natsD_snoc _ _
theorem getD_lt {l : List Nat} {B : Nat} (hB : 0 < B) (h : ∀ x ∈ l, x < B) (i : Nat) : l.getD i 0 < B := by
  rw [List.getD_eq_getElem?_getD]
  cases e : l[i]? with
  | none => exact hB
  | some x => exact h x (List.mem_of_getElem? e)
theorem rowsL_lt (m : Nat) (js : List (Nat × Nat)) : ∀ x ∈ rowsL m js, x < 2 ^ m := by
  unfold rowsL
  have key : ∀ (js : List (Nat × Nat)) (rs : List Nat), (∀ x ∈ rs, x < 2 ^ m) → ∀ x ∈ runF xorF rs js, x < 2 ^ m := by
    intro js
    induction js with
    | nil => intro rs h; exact h
    | cons j js ih =>
      intro rs h
      refine ih (stepF xorF rs j) fun x hx => ?_
      unfold stepF at hx
      rcases List.mem_append.1 hx with z | z
      · exact h x z
      · rw [List.mem_singleton.1 z]
        exact Nat.xor_lt_two_pow (getD_lt (Nat.two_pow_pos m) h _) (getD_lt (Nat.two_pow_pos m) h _)
  refine key js _ fun x hx => ?_
  unfold giv at hx
  obtain ⟨k, hk, rfl⟩ := List.mem_map.1 hx
  exact Nat.pow_lt_pow_right (by omega) (List.mem_range.1 hk)
end DP

set_option Elab.async false
set_option linter.all false
set_option maxRecDepth 100000
set_option maxHeartbeats 2000000
/-! Nets turned about. -/
namespace DP
/-- uses joined one by one: the rows, the joinings, the last thing -/
def sumG (rows : List Nat) (js : List (Nat × Nat)) (here : Nat) : List Nat → Option (List Nat × List (Nat × Nat) × Nat)
  | [] => some (rows, js, here)
  | u :: us => if rows.getD here 0 = rows.getD u 0 then none else sumG (rows ++ [rows.getD here 0 ^^^ rows.getD u 0]) (js ++ [(min here u, max here u)]) rows.length us
theorem sumG_snoc (u : Nat) : ∀ (us : List Nat) (rows : List Nat) (js : List (Nat × Nat)) (here : Nat), sumG rows js here (us ++ [u]) = (sumG rows js here us).bind fun r => sumG r.1 r.2.1 r.2.2 [u]
  | [], rows, js, here => rfl
  | x :: us, rows, js, here => by
    show (if _ then none else sumG _ _ _ (us ++ [u])) = (if _ then none else sumG _ _ _ us : Option _).bind _
    split
    · rfl
    · exact sumG_snoc u us _ _ _
theorem sumG_app (b : List Nat) : ∀ (a rows : List Nat) (js : List (Nat × Nat)) (here : Nat), sumG rows js here (a ++ b) = (sumG rows js here a).bind fun r => sumG r.1 r.2.1 r.2.2 b
  | [], rows, js, here => rfl
  | x :: us, rows, js, here => by
    show (if _ then none else sumG _ _ _ (us ++ b)) = (if _ then none else sumG _ _ _ us : Option _).bind _
    split
    · rfl
    · exact sumG_app b us _ _ _
theorem sumG_none {rows : List Nat} {js : List (Nat × Nat)} {u i y : Nat} {us : List Nat} {r : List Nat × List (Nat × Nat) × Nat} (h : sumG rows js u (us.take i) = some r) (hy : us[i]? = some y) (e : r.1.getD r.2.2 0 = r.1.getD y 0) : sumG rows js u us = none := by
  have hi : i < us.length := (List.getElem?_eq_some_iff.1 hy).1
  have : us = us.take i ++ (y :: us.drop (i + 1)) := by
    rw [← (List.getElem?_eq_some_iff.1 hy).2, List.getElem_cons_drop hi, List.take_append_drop]
  rw [this, sumG_app, h]
  show sumG r.1 r.2.1 r.2.2 (y :: _) = none
  unfold sumG
  rw [if_pos e]
theorem sumG_next {rows : List Nat} {js : List (Nat × Nat)} {u i y : Nat} {us : List Nat} {r : List Nat × List (Nat × Nat) × Nat} (h : sumG rows js u (us.take i) = some r) (hy : us[i]? = some y) (e : r.1.getD r.2.2 0 ≠ r.1.getD y 0) :
    sumG rows js u (us.take (i + 1)) = some (r.1 ++ [r.1.getD r.2.2 0 ^^^ r.1.getD y 0], r.2.1 ++ [(min r.2.2 y, max r.2.2 y)], r.1.length) := by
  have hi : i < us.length := (List.getElem?_eq_some_iff.1 hy).1
  rw [List.take_succ, hy]
  show sumG rows js u (us.take i ++ [y]) = _
  rw [sumG_app, h]
  show sumG r.1 r.2.1 r.2.2 [y] = _
  unfold sumG
  rw [if_neg e]
  rfl
theorem sumG_len : ∀ {us rows : List Nat} {js : List (Nat × Nat)} {here : Nat} {r : List Nat × List (Nat × Nat) × Nat}, sumG rows js here us = some r → here < rows.length → r.1.length = rows.length + us.length ∧ r.2.1.length = js.length + us.length ∧ r.2.2 < r.1.length
  | [], rows, js, here, r, h, hl => by cases h; exact ⟨rfl, rfl, hl⟩
  | u :: us, rows, js, here, r, h, hl => by
    unfold sumG at h
    split at h
    · cases h
    · have := sumG_len h (by simp)
      simp at this ⊢
      omega
/-- the places at which a thing is an out; the joinings that take it, the last one first -/
def plP (os : List Nat) (t : Nat) : List Nat := (List.range os.length).filter fun i => os.getD i 0 = t
def plN (os : List Nat) (n t : Nat) : List Nat := (List.range n).filter fun i => os.getD i 0 = t
theorem filter_one {p : Nat → Prop} [DecidablePred p] (a : Nat) : [a].filter (fun i => p i) = if p a then [a] else [] := by
  by_cases h : p a
  · rw [if_pos h]; simp [List.filter, h]
  · rw [if_neg h]; simp [List.filter, h]
theorem plN_succ (os : List Nat) (n t : Nat) : plN os (n + 1) t = plN os n t ++ if os.getD n 0 = t then [n] else [] := by
  unfold plN
  rw [List.range_succ, List.filter_append]
  congr 1
  exact filter_one (p := fun i => os.getD i 0 = t) n
theorem plN_len (os : List Nat) (n t : Nat) : (plN os n t).length ≤ n := by
  unfold plN
  exact Nat.le_trans (List.length_filter_le _ _) (by simp)
theorem plN_put (os : List Nat) (n s : Nat) : plN os (n + 1) s = if s = os.getD n 0 then plN os n (os.getD n 0) ++ [n] else plN os n s := by
  rw [plN_succ]
  by_cases h : s = os.getD n 0
  · subst h; rw [if_pos rfl, if_pos rfl]
  · rw [if_neg h, if_neg (fun z => h z.symm), List.append_nil]
theorem plN_all (os : List Nat) (t : Nat) : plN os os.length t = plP os t := rfl
def takes (js : List (Nat × Nat)) (at_ t : Nat) : Prop := (js.getD at_ (0, 0)).1 = t ∨ (js.getD at_ (0, 0)).2 = t
instance (js : List (Nat × Nat)) (at_ t : Nat) : Decidable (takes js at_ t) := by unfold takes; infer_instance
def tkN (js : List (Nat × Nat)) (n t : Nat) : List Nat := ((List.range n).map fun i => js.length - 1 - i).filter fun k => takes js k t
theorem tkN_succ (js : List (Nat × Nat)) (n t : Nat) : tkN js (n + 1) t = tkN js n t ++ if takes js (js.length - 1 - n) t then [js.length - 1 - n] else [] := by
  unfold tkN
  rw [List.range_succ, List.map_append, List.filter_append]
  congr 1
  exact filter_one (p := fun k => takes js k t) _
theorem tkN_len (js : List (Nat × Nat)) (n t : Nat) : (tkN js n t).length ≤ n := by
  unfold tkN
  exact Nat.le_trans (List.length_filter_le _ _) (by simp)
theorem tkN_cut {js : List (Nat × Nat)} {t n : Nat} (h : ∀ i, n ≤ i → i < js.length → ¬ takes js (js.length - 1 - i) t) : ∀ k, n + k ≤ js.length → tkN js (n + k) t = tkN js n t
  | 0, _ => rfl
  | k + 1, l => by
    rw [show n + (k + 1) = n + k + 1 by omega, tkN_succ, if_neg (h (n + k) (by omega) (by omega)), List.append_nil]
    exact tkN_cut h k (by omega)
/-- in the midst of a joining -/
def tkM (m : Nat) (js : List (Nat × Nat)) (n : Nat) (a : Option Nat) (s : Nat) : List Nat := (tkN js n s).map (m + ·) ++ if a = some s then [m + (js.length - 1 - n)] else []
theorem tkM_0 (m : Nat) (js : List (Nat × Nat)) (n s : Nat) : tkM m js n none s = (tkN js n s).map (m + ·) := by
  unfold tkM; rw [if_neg (fun z => by cases z), List.append_nil]
theorem tkM_1 (m : Nat) (js : List (Nat × Nat)) (n a s : Nat) : tkM m js n (some a) s = if s = a then (tkN js n a).map (m + ·) ++ [m + (js.length - 1 - n)] else (tkN js n s).map (m + ·) := by
  unfold tkM
  by_cases h : s = a
  · subst h; rw [if_pos rfl, if_pos rfl]
  · rw [if_neg h, if_neg (fun z => h (Option.some.inj z).symm), List.append_nil]
theorem tkM_2 (m : Nat) (js : List (Nat × Nat)) (n : Nat) {a b : Nat} (h : js.getD (js.length - 1 - n) (0, 0) = (a, b)) (ne : a ≠ b) (s : Nat) :
    (tkN js (n + 1) s).map (m + ·) = if s = b then tkM m js n (some a) b ++ [m + (js.length - 1 - n)] else tkM m js n (some a) s := by
  rw [tkN_succ, List.map_append]
  have tk : takes js (js.length - 1 - n) s ↔ (a = s ∨ b = s) := by unfold takes; rw [h]
  by_cases h1 : s = b
  · have t1 : takes js (js.length - 1 - n) s := tk.2 (.inr h1.symm)
    rw [if_pos t1, if_pos h1, tkM_1, if_neg (fun z : b = a => ne z.symm), h1]; rfl
  · by_cases h2 : s = a
    · have t1 : takes js (js.length - 1 - n) s := tk.2 (.inl h2.symm)
      rw [if_pos t1, if_neg h1, tkM_1, if_pos h2, h2]; rfl
    · have t1 : ¬ takes js (js.length - 1 - n) s := fun z => (tk.1 z).elim (fun y => h2 y.symm) fun y => h1 y.symm
      rw [if_neg t1, if_neg h1, tkM_1, if_neg h2, List.map_nil, List.append_nil]
def tkP (m : Nat) (js : List (Nat × Nat)) (t : Nat) : List Nat := (tkN js js.length t).map (m + ·)
def usesP (m : Nat) (js : List (Nat × Nat)) (os got : List Nat) (t : Nat) : List Nat := plP os t ++ (tkP m js t).map fun u => got.getD u 0
inductive TR where
  | ok (rows : List Nat) (js : List (Nat × Nat)) (got : List Nat) | loose (t : Nat) | nought (t : Nat)
def trStep (m : Nat) (js : List (Nat × Nat)) (os : List Nat) (t : Nat) (rows : List Nat) (tj : List (Nat × Nat)) (got : List Nat) : TR := match usesP m js os got t with
  | [] => .loose t
  | u :: us => match sumG rows tj u us with
    | none => .nought t
    | some r => .ok r.1 r.2.1 (got.set t r.2.2)
def trn (m : Nat) (js : List (Nat × Nat)) (os : List Nat) : Nat → TR
  | 0 => .ok ((List.range os.length).map (2 ^ ·)) [] (List.replicate (m + js.length) 0)
  | k + 1 => match trn m js os k with
    | .ok rows tj got => trStep m js os (m + js.length - 1 - k) rows tj got
    | e => e
/-- what is good in the midst -/
structure TrOk (m : Nat) (js : List (Nat × Nat)) (os : List Nat) (k : Nat) (rows : List Nat) (tj : List (Nat × Nat)) (got : List Nat) : Prop where
  is : trn m js os k = .ok rows tj got
  gl : got.length = m + js.length
  rl : rows.length = os.length + tj.length
  jl : tj.length ≤ k * (os.length + js.length)
  lt : ∀ u, got.getD u 0 < rows.length
theorem tk_len (m : Nat) (js : List (Nat × Nat)) (t : Nat) : (tkP m js t).length ≤ js.length := by
  unfold tkP tkN
  rw [List.length_map]
  exact Nat.le_trans (List.length_filter_le _ _) (by simp)
theorem tk_lt {m : Nat} {js : List (Nat × Nat)} {t u : Nat} (h : u ∈ tkP m js t) : u < m + js.length := by
  unfold tkP tkN at h
  obtain ⟨k, hk, rfl⟩ := List.mem_map.1 h
  obtain ⟨i, hi, rfl⟩ := List.mem_map.1 (List.mem_filter.1 hk).1
  have := List.mem_range.1 hi
  omega
theorem pl_len (os : List Nat) (t : Nat) : (plP os t).length ≤ os.length := by
  unfold plP
  exact Nat.le_trans (List.length_filter_le _ _) (by simp)
theorem uses_len (m : Nat) (js : List (Nat × Nat)) (os got : List Nat) (t : Nat) : (usesP m js os got t).length ≤ os.length + js.length := by
  have := tk_len m js t
  have := pl_len os t
  simp [usesP]
  omega
theorem pl_lt {os : List Nat} {t u : Nat} (h : u ∈ plP os t) : u < os.length := by
  unfold plP at h
  exact List.mem_range.1 (List.mem_filter.1 h).1
theorem TrOk.uses {m k : Nat} {js : List (Nat × Nat)} {os rows : List Nat} {tj : List (Nat × Nat)} {got : List Nat} (h : TrOk m js os k rows tj got) {t u : Nat} (hu : u ∈ usesP m js os got t) : u < rows.length := by
  have := h.rl
  rcases List.mem_append.1 hu with z | z
  · have := pl_lt z; omega
  · obtain ⟨w, _, rfl⟩ := List.mem_map.1 z
    exact h.lt w
theorem trOk0 (m : Nat) (js : List (Nat × Nat)) (os : List Nat) (h : 0 < os.length) : TrOk m js os 0 ((List.range os.length).map (2 ^ ·)) [] (List.replicate (m + js.length) 0) :=
  ⟨rfl, by simp, by simp, by simp, fun u => by
    rw [List.getD_eq_getElem?_getD, List.getElem?_replicate]
    split <;> simp <;> omega⟩
theorem getD_setN {l : List Nat} {i j v : Nat} : (l.set i v).getD j 0 = if i = j ∧ i < l.length then v else l.getD j 0 := by
  rw [List.getD_eq_getElem?_getD, List.getD_eq_getElem?_getD, List.getElem?_set]
  by_cases h : i = j
  · subst h
    rw [if_pos rfl]
    by_cases l1 : i < l.length
    · rw [if_pos l1, if_pos ⟨rfl, l1⟩]; rfl
    · rw [if_neg l1, if_neg (fun z => l1 z.2)]
      rw [List.getElem?_eq_none (Nat.ge_of_not_lt l1)]
  · rw [if_neg h, if_neg (fun z => h z.1)]
theorem TrOk.step {m k : Nat} {js : List (Nat × Nat)} {os rows : List Nat} {tj : List (Nat × Nat)} {got : List Nat} (h : TrOk m js os k rows tj got) {u : Nat} {us : List Nat} {r : List Nat × List (Nat × Nat) × Nat} (hu : usesP m js os got (m + js.length - 1 - k) = u :: us) (hs : sumG rows tj u us = some r) :
    TrOk m js os (k + 1) r.1 r.2.1 (got.set (m + js.length - 1 - k) r.2.2) := by
  have hl := sumG_len hs (h.uses (by rw [hu]; simp))
  have ul := uses_len m js os got (m + js.length - 1 - k)
  rw [hu, List.length_cons] at ul
  refine ⟨?_, by rw [List.length_set]; exact h.gl, ?_, ?_, fun v => ?_⟩
  · show (match trn m js os k with
      | .ok rows tj got => trStep m js os (m + js.length - 1 - k) rows tj got
      | e => e) = _
    rw [h.is]
    show trStep m js os _ rows tj got = _
    unfold trStep
    rw [hu]
    show (match sumG rows tj u us with
      | none => TR.nought _
      | some r => TR.ok r.1 r.2.1 (got.set _ r.2.2)) = _
    rw [hs]
  · have := h.rl; omega
  · have := h.jl
    rw [Nat.add_mul, Nat.one_mul]
    omega
  · rw [getD_setN]
    split
    · exact hl.2.2
    · have := h.lt v; omega
/-- an end stays -/
theorem trn_stay {m : Nat} {js : List (Nat × Nat)} {os : List Nat} {e : TR} {k : Nat} (h : trn m js os k = e) (ne : ∀ a b c, e ≠ .ok a b c) : ∀ n, trn m js os (k + n) = e
  | 0 => h
  | n + 1 => by
    show (match trn m js os (k + n) with
      | .ok rows tj got => trStep m js os (m + js.length - 1 - (k + n)) rows tj got
      | e => e) = _
    rw [trn_stay h ne n]
    cases e with
    | ok a b c => exact absurd rfl (ne a b c)
    | loose t => rfl
    | nought t => rfl
theorem TrOk.loose {m k n : Nat} {js : List (Nat × Nat)} {os rows : List Nat} {tj : List (Nat × Nat)} {got : List Nat} (h : TrOk m js os k rows tj got) (hu : usesP m js os got (m + js.length - 1 - k) = []) (hk : k < n) : trn m js os n = .loose (m + js.length - 1 - k) := by
  have : trn m js os (k + 1) = .loose (m + js.length - 1 - k) := by
    show (match trn m js os k with
      | .ok rows tj got => trStep m js os (m + js.length - 1 - k) rows tj got
      | e => e) = _
    rw [h.is]
    show trStep m js os _ rows tj got = _
    unfold trStep
    rw [hu]
  have := trn_stay this (fun _ _ _ z => by cases z) (n - (k + 1))
  rwa [show k + 1 + (n - (k + 1)) = n by omega] at this
theorem TrOk.nought {m k n : Nat} {js : List (Nat × Nat)} {os rows : List Nat} {tj : List (Nat × Nat)} {got : List Nat} (h : TrOk m js os k rows tj got) {u : Nat} {us : List Nat} (hu : usesP m js os got (m + js.length - 1 - k) = u :: us) (hs : sumG rows tj u us = none) (hk : k < n) : trn m js os n = .nought (m + js.length - 1 - k) := by
  have : trn m js os (k + 1) = .nought (m + js.length - 1 - k) := by
    show (match trn m js os k with
      | .ok rows tj got => trStep m js os (m + js.length - 1 - k) rows tj got
      | e => e) = _
    rw [h.is]
    show trStep m js os _ rows tj got = _
    unfold trStep
    rw [hu]
    show (match sumG rows tj u us with
      | none => TR.nought _
      | some r => TR.ok r.1 r.2.1 (got.set _ r.2.2)) = _
    rw [hs]
  have := trn_stay this (fun _ _ _ z => by cases z) (n - (k + 1))
  rwa [show k + 1 + (n - (k + 1)) = n by omega] at this
/-- a net that may be turned -/
structure NetT (m : Nat) (js : List (Nat × Nat)) (os : List Nat) : Prop extends JsOk m js where
  m1 : 1 ≤ m
  m2 : m ≤ 12
  jl : js.length ≤ 132
  o1 : 1 ≤ os.length
  o2 : os.length ≤ 24
  ol : ∀ o ∈ os, o < m + js.length
theorem NetOk.t {m : Nat} {js : List (Nat × Nat)} {os : List Nat} (h : NetOk m js os) : NetT m js os := ⟨h.toJsOk, h.m1, h.m2, h.jl, h.o1, h.o2, h.ol⟩
def GreatT (m j o : Nat) : Prop := 12 < o ∨ (132 : Int) < (j : Int) + o - m
end DP

set_option Elab.async false
set_option linter.all false
set_option maxRecDepth 100000
set_option maxHeartbeats 4000000
namespace DP
open PySem PySem.Spec PyProof.Rows L2 DL
variable [ClsV]
local macro_rules | `(tactic| walk_at "dw") => `(tactic| ((conv => whnf); (try dsimp only [putOuts, putO, fzR, List.set_cons_zero, List.set_cons_succ, List.getElem?_cons_zero, List.getElem?_cons_succ, startE, arS, List.map_cons, List.map_nil, wipeE, restF, List.length_cons, List.length_nil])))
local macro_rules | `(tactic| walk_at "om") => `(tactic| first | omega | (dsimp only; omega) | (simp only [List.length_cons, List.length_nil, List.length_map, List.length_append, rangeD_len, natsD_len]; omega))
local macro_rules | `(tactic| walk_at "pl") => `(tactic| first | rfl | exact pln_nats _ | exact pln_natsT _ | exact pln_ints _)
local macro_rules | `(tactic| walk_at "go1") => `(tactic| ((first
  | refine and_imm _ _ _ (by first | exact trivial | exact ⟨rfl, rfl⟩) ?_
  | refine and_eqB (by first | rfl | exact pln_nats _ | exact pln_natsT _ | exact pln_ints _) ?_
  | refine and_leN (by walk_at "om") ?_ | refine and_ltN (by walk_at "om") ?_ | refine and_leI (by walk_at "om") ?_ | refine and_ltI (by walk_at "om") ?_
  | refine Got.mk ⟨_, rfl, ?_⟩ | refine IntsL.mk ⟨_, rfl, ?_⟩ | refine BlsL.mk ⟨_, rfl, ?_⟩
  | refine if_t ?_ | refine if_f ?_
  | refine and_csh (by walk_at "om") ?_ | refine and_le4 (by walk_at "om") (by walk_at "om") (by walk_at "om") (by walk_at "om") ?_ | refine and_eqN (by walk_at "om") ?_); walk_at "dw"))
local macro_rules | `(tactic| walk_at "go") => `(tactic| (walk_at "dw"; repeat walk_at "go1"))
abbrev N_rows_of : List Str := ["net", "rows", "k", "a", "b"]
def r_rows_of : DS :=
  (dSeq (dAsg (dLc (dRng1 (dCons (dOp gIx (dVar 0) (dC (.int 0))) dNil)) (dgName 2) dYes (dOp (gI CSh fun i j => i * 2 ^ j.toNat) (dC (.int 1)) (dVar 2)) [2]) 1)
  (dSeq (dFor (dSeqI (dOp gIx (dVar 0) (dC (.int 1)))) (dgTup 2 (dgCons (dgName 3) (dgCons (dgName 4) dgNil))) (dDrop (dMut gAppend (dVar 1) (dCons (dOp (gI0 Builtin.bitXor) (dOp gIx (dVar 1) (dVar 3)) (dOp gIx (dVar 1) (dVar 4))) dNil))))
  (dRet (dVar 1))))
abbrev N_is_number : List Str := ["thing", "least", "beyond"]
def r_is_number : DS :=
  (dRet (dAndV (dCB gIsi (dCons (dVar 0) (dCons (dC (.raw (.ty "int"))) dNil))) (dAndV (dNotV (dCB gIsi (dCons (dVar 0) (dCons (dC (.raw (.ty "bool"))) dNil)))) (dChain (gB0 fun i j => decide (i ≤ j)) (gB0 fun i j => decide (i < j)) (dVar 1) (dVar 0) (dVar 2)))))
abbrev N_is_joining : List Str := ["thing", "ahead"]
def r_is_joining (sp_is_number : DSp) : DS :=
  (dSeq (dIfS (dOr (dNot (dB (dCB gIsi (dCons (dVar 0) (dCons (dC (.raw (.ty "tuple"))) dNil))))) (dB (dOp (gEq true) (dCB gLen (dCons (dVar 0) dNil)) (dC (.int 2))))) (dRet (dC (.bl false))) dNext)
  (dRet (dAndV (dCall0 [false, false, false] sp_is_number (dCons (dOp gIx (dVar 0) (dC (.int 0))) (dCons (dC (.int 0)) (dCons (dVar 1) dNil)))) (dAndV (dCall0 [false, false, false] sp_is_number (dCons (dOp gIx (dVar 0) (dC (.int 1))) (dCons (dC (.int 0)) (dCons (dVar 1) dNil)))) (dOp (gB0 fun i j => decide (i < j)) (dOp gIx (dVar 0) (dC (.int 0))) (dOp gIx (dVar 0) (dC (.int 1))))))))
def sp_rows_of : DSp := fun as Q _ => ∃ m js o, as = [.f (.tup [.int (m : Nat), .tup (js.map pairD), o])] ∧ JsOk m js ∧ m ≤ 1000 ∧ js.length ≤ 1000 ∧ Q (.n (.lst (natsD (rowsL m js)))) []
theorem p_rows_of : ∀ as Q X, sp_rows_of as Q X → as.length = 1 ∧ r_rows_of { nx := fun env => rtD as Q (.f .non) env, rt := rtD as Q } (startE N_rows_of as) := by
  rintro as Q X ⟨m, js, o, rfl, ok, m2, jl, h⟩
  refine ⟨rfl, ?_⟩
  walk_at "go"
  refine ⟨fun i acc env => env = [some (.f (.tup [.int (m : Nat), .tup (js.map pairD), o])), none, none, none, none] ∧ acc = natsD (giv i), ⟨rfl, rfl⟩, ?_, ?_⟩
  · rintro i d acc env hd ⟨rfl, rfl⟩
    obtain ⟨hi, rfl⟩ := rangeD_some hd
    rw [Int.zero_add]
    walk_at "go"
    refine ⟨rfl, ?_⟩
    rw [one_shl, giv_succ]; exact natsD_snoc _ _
  · rintro acc env ⟨rfl, rfl⟩
    rw [rangeD_len, Int.toNat_natCast]
    walk_at "go"
    refine ⟨fun i env => ∃ x y, env = [some (.f (.tup [.int (m : Nat), .tup (js.map pairD), o])), some (.o (.lst (natsD (runF xorF (giv m) (js.take i))))), none, x, y], ⟨_, _, rfl⟩, ?_, ?_⟩
    · rintro i d env hd ⟨x, y, rfl⟩
      obtain ⟨j, hj, rfl⟩ := mapD_some hd
      have lt := ok.lt i j hj
      have hi : i < js.length := (List.getElem?_eq_some_iff.1 hj).1
      have hl : (runF xorF (giv m) (js.take i)).length = m + i := by rw [runF_len, giv_len, List.length_take]; omega
      unfold pairD
      walk_at "go"
      refine ⟨_, atI_g (by omega), ?_⟩
      walk_at "go"
      refine ⟨_, atI_g (by omega), ?_⟩
      walk_at "go"
      rw [xor_step, ← runF_take xorF hj]
      exact ⟨_, _, rfl⟩
    · rintro env ⟨x, y, rfl⟩
      rw [List.length_map, List.take_length]
      walk_at "go"
      exact h

inductive Pd : Dat → Prop
  | non : Pd .non
  | bl (b : Bool) : Pd (.bl b)
  | int (i : Int) : Pd (.int i)
  | str (s : Str) : Pd (.str s)
  | tup {l : List Dat} (h : ∀ x ∈ l, Pd x) : Pd (.tup l)
  | lst {l : List Dat} (h : ∀ x ∈ l, Pd x) : Pd (.lst l)
def numB (d : Dat) (lo hi : Int) : Bool := match d with
  | .int n => decide (lo ≤ n) && decide (n < hi)
  | _ => false
def sp_is_number : DSp := fun as Q _ => ∃ d lo hi, as = [.f d, .f (.int lo), .f (.int hi)] ∧ Pd d ∧ Q (.f (.bl (numB d lo hi))) []
theorem p_is_number : ∀ as Q X, sp_is_number as Q X → as.length = 3 ∧ r_is_number { nx := fun env => rtD as Q (.f .non) env, rt := rtD as Q } (startE N_is_number as) := by
  rintro as Q X ⟨d, lo, hi, rfl, hd, h⟩
  refine ⟨rfl, ?_⟩
  cases hd with
  | int n =>
    walk_at "go"
    refine dec_cases (fun e => ?_) (fun e => ?_)
    · walk_at "go"
      have : numB (.int n) lo hi = decide (n < hi) := by show (decide (lo ≤ n) && decide (n < hi)) = _; rw [decide_eq_true e]; rfl
      rw [this] at h
      exact h
    · walk_at "go"
      have : numB (.int n) lo hi = false := by show (decide (lo ≤ n) && decide (n < hi)) = _; rw [decide_eq_false e]; rfl
      rw [this] at h
      exact h
  | non => walk_at "go"; exact h
  | bl b => walk_at "go"; exact h
  | str s => walk_at "go"; exact h
  | tup _ => walk_at "go"; exact h
  | lst _ => walk_at "go"; exact h
def pairB (d : Dat) (ahead : Int) : Option (Nat × Nat) := match d with
  | .tup [.int a, .int b] => if 0 ≤ a ∧ a < b ∧ b < ahead then some (a.toNat, b.toNat) else none
  | _ => none
theorem pairB_some {d : Dat} {n : Nat} {j : Nat × Nat} (h : pairB d n = some j) : d = pairD j ∧ j.1 < j.2 ∧ j.2 < n := by
  unfold pairB at h
  split at h
  · next a b =>
    split at h
    · next c =>
      cases h
      refine ⟨?_, ?_, ?_⟩
      · unfold pairD; simp only [Dat.tup.injEq, List.cons.injEq, Dat.int.injEq, and_true]; omega
      · show a.toNat < b.toNat; omega
      · show b.toNat < n; omega
    · cases h
  · cases h
theorem pairB_pair {n : Nat} {j : Nat × Nat} (h1 : j.1 < j.2) (h2 : j.2 < n) : pairB (pairD j) n = some j := by
  unfold pairB pairD
  simp only
  rw [if_pos ⟨by omega, by omega, by omega⟩]
  simp
theorem pairB_ne {l : List Dat} (h : l.length ≠ 2) (n : Int) : pairB (.tup l) n = none := by
  unfold pairB
  split
  · next e => cases e; exact absurd rfl h
  · rfl
def sp_is_joining : DSp := fun as Q _ => ∃ d ah, as = [.f d, .f (.int ah)] ∧ Pd d ∧ Q (.f (.bl (pairB d ah).isSome)) []
theorem numB_ne {d : Dat} (h : ∀ n, d ≠ .int n) (lo hi : Int) : numB d lo hi = false := by
  unfold numB; split
  · next n => exact absurd rfl (h n)
  · rfl
theorem p_is_joining : ∀ as Q X, sp_is_joining as Q X → as.length = 2 ∧ r_is_joining sp_is_number { nx := fun env => rtD as Q (.f .non) env, rt := rtD as Q } (startE N_is_joining as) := by
  rintro as Q X ⟨d, ah, rfl, hd, h⟩
  refine ⟨rfl, ?_⟩
  cases hd with
  | @tup l hl =>
    match l, hl, h with
    | [], _, h => walk_at "go"; refine ne_yes (by simp) ?_; walk_at "go"; exact h
    | [a], _, h =>
      rw [pairB_ne (by simp)] at h
      walk_at "go"; refine ne_yes (by simp) ?_; walk_at "go"; exact h
    | a :: b :: c :: l, _, h =>
      rw [pairB_ne (by simp)] at h
      walk_at "go"
      refine ne_yes (by simp; omega) ?_
      walk_at "go"
      exact h
    | [a, b], hl, h =>
      walk_at "go"
      refine ne_no (by simp) ?_
      walk_at "go"
      refine ⟨_, _, _, rfl, hl a (by simp), ?_⟩
      walk_at "go"
      cases hn : numB a 0 ah with
      | false =>
        walk_at "go"
        have : (pairB (.tup [a, b]) ah).isSome = false := by
          unfold pairB
          split
          · next x y e =>
            cases e
            rw [if_neg]; · rfl
            intro z
            unfold numB at hn
            simp only [Bool.and_eq_false_iff, decide_eq_false_iff_not] at hn
            omega
          · rfl
        rw [this] at h
        exact h
      | true =>
        walk_at "go"
        refine ⟨_, _, _, rfl, hl b (by simp), ?_⟩
        walk_at "go"
        cases hm : numB b 0 ah with
        | false =>
          walk_at "go"
          have : (pairB (.tup [a, b]) ah).isSome = false := by
            unfold pairB
            split
            · next x y e =>
              cases e
              rw [if_neg]; · rfl
              intro z
              unfold numB at hm
              simp only [Bool.and_eq_false_iff, decide_eq_false_iff_not] at hm
              omega
            · rfl
          rw [this] at h
          exact h
        | true =>
          have ia : ∃ x, a = .int x := by
            cases a <;> first | exact ⟨_, rfl⟩ | (cases hn)
          have ib : ∃ x, b = .int x := by
            cases b <;> first | exact ⟨_, rfl⟩ | (cases hm)
          obtain ⟨x, rfl⟩ := ia
          obtain ⟨y, rfl⟩ := ib
          walk_at "go"
          have : (pairB (.tup [.int x, .int y]) ah).isSome = decide (x < y) := by
            unfold numB at hn hm
            simp only [Bool.and_eq_true, decide_eq_true_eq] at hn hm
            unfold pairB
            simp only
            by_cases e : x < y
            · rw [if_pos ⟨by omega, e, by omega⟩, decide_eq_true e]; rfl
            · rw [if_neg (by omega), decide_eq_false e]; rfl
          rw [this] at h
          exact h
  | int n => walk_at "go"; exact h
  | non => walk_at "go"; exact h
  | bl b => walk_at "go"; exact h
  | str s => walk_at "go"; exact h
  | lst _ => walk_at "go"; exact h
end DP

set_option Elab.async false
set_option linter.all false
set_option maxRecDepth 100000
set_option maxHeartbeats 4000000
namespace DP
open PySem PySem.Spec PyProof.Rows L2 DL
variable [ClsV]
local macro_rules | `(tactic| walk_at "dw") => `(tactic| ((conv => whnf); (try dsimp only [putOuts, putO, fzR, List.set_cons_zero, List.set_cons_succ, List.getElem?_cons_zero, List.getElem?_cons_succ, startE, arS, List.map_cons, List.map_nil, wipeE, restF, List.length_cons, List.length_nil])))
local macro_rules | `(tactic| walk_at "om") => `(tactic| first | omega | (dsimp only; omega) | (simp only [List.length_cons, List.length_nil, List.length_map, List.length_append, rangeD_len, natsD_len]; omega))
local macro_rules | `(tactic| walk_at "pl") => `(tactic| first | rfl | exact pln_nats _ | exact pln_natsT _ | exact pln_ints _)
local macro_rules | `(tactic| walk_at "go1") => `(tactic| ((first
  | refine and_imm _ _ _ (by first | exact trivial | exact ⟨rfl, rfl⟩) ?_
  | refine and_eqB (by first | rfl | exact pln_nats _ | exact pln_natsT _ | exact pln_ints _) ?_
  | refine and_leN (by walk_at "om") ?_ | refine and_ltN (by walk_at "om") ?_ | refine and_leI (by walk_at "om") ?_ | refine and_ltI (by walk_at "om") ?_
  | refine Got.mk ⟨_, rfl, ?_⟩ | refine IntsL.mk ⟨_, rfl, ?_⟩ | refine BlsL.mk ⟨_, rfl, ?_⟩
  | refine if_t ?_ | refine if_f ?_
  | refine and_csh (by walk_at "om") ?_ | refine and_le4 (by walk_at "om") (by walk_at "om") (by walk_at "om") (by walk_at "om") ?_ | refine and_eqN (by walk_at "om") ?_); walk_at "dw"))
local macro_rules | `(tactic| walk_at "go") => `(tactic| (walk_at "dw"; repeat walk_at "go1"))
abbrev N_made_by : List Str := ["net", "rows", "out"]
def r_made_by (sp_rows_of : DSp) : DS :=
  (dSeq (dAsg (dCall0 [false] sp_rows_of (dCons (dVar 0) dNil)) 1)
  (dRet (dLc (dSeqI (dOp gIx (dVar 0) (dC (.int 2)))) (dgName 2) dYes (dOp gIx (dVar 1) (dVar 2)) [2])))
abbrev N_is_list_of_outs : List Str := ["thing", "many", "out"]
def r_is_list_of_outs (sp_is_number : DSp) : DS :=
  (dSeq (dIfS (dOr (dNot (dB (dCB gIsi (dCons (dVar 0) (dCons (dC (.raw (.ty "tuple"))) dNil))))) (dOr (dB (dOp (gB0 fun i j => decide (i < j)) (dCB gLen (dCons (dVar 0) dNil)) (dC (.int 1)))) (dB (dOp (gB0 fun i j => decide (j < i)) (dCB gLen (dCons (dVar 0) dNil)) (dC (.int 24)))))) (dRet (dC (.bl false))) dNext)
  (dRet (dCB gAll (dCons (dLc (dSeqI (dVar 0)) (dgName 2) dYes (dCall0 [false, false, false] sp_is_number (dCons (dVar 2) (dCons (dC (.int 0)) (dCons (dVar 1) dNil)))) [2]) dNil))))
abbrev N_is_net : List Str := ["thing", "many", "joins", "outs", "rows", "k", "joining"]
def r_is_net (sp_is_number sp_is_joining sp_is_list_of_outs : DSp) : DS :=
  (dSeq (dIfS (dOr (dNot (dB (dCB gIsi (dCons (dVar 0) (dCons (dC (.raw (.ty "tuple"))) dNil))))) (dOr (dB (dOp (gEq true) (dCB gLen (dCons (dVar 0) dNil)) (dC (.int 3)))) (dNot (dB (dCall0 [false, false, false] sp_is_number (dCons (dOp gIx (dVar 0) (dC (.int 0))) (dCons (dC (.int 1)) (dCons (dOp gAdd (dC (.int 12)) (dC (.int 1))) dNil)))))))) (dRet (dC (.bl false))) dNext)
  (dSeq (dAsgG (dVar 0) (dgTup 3 (dgCons (dgName 1) (dgCons (dgName 2) (dgCons (dgName 3) dgNil)))))
  (dSeq (dIfS (dOr (dNot (dB (dCB gIsi (dCons (dVar 2) (dCons (dC (.raw (.ty "tuple"))) dNil))))) (dB (dOp (gB0 fun i j => decide (j < i)) (dCB gLen (dCons (dVar 2) dNil)) (dC (.int 132))))) (dRet (dC (.bl false))) dNext)
  (dSeq (dAsg (dLc (dRng1 (dCons (dVar 1) dNil)) (dgName 5) dYes (dOp (gI CSh fun i j => i * 2 ^ j.toNat) (dC (.int 1)) (dVar 5)) [5]) 4)
  (dSeq (dFor (dSeqI (dVar 2)) (dgName 6) (dSeq (dIfS (dOr (dNot (dB (dCall0 [false, false] sp_is_joining (dCons (dVar 6) (dCons (dCB gLen (dCons (dVar 4) dNil)) dNil))))) (dB (dOp (gEq false) (dOp gIx (dVar 4) (dOp gIx (dVar 6) (dC (.int 0)))) (dOp gIx (dVar 4) (dOp gIx (dVar 6) (dC (.int 1))))))) (dRet (dC (.bl false))) dNext)
  (dDrop (dMut gAppend (dVar 4) (dCons (dOp (gI0 Builtin.bitXor) (dOp gIx (dVar 4) (dOp gIx (dVar 6) (dC (.int 0)))) (dOp gIx (dVar 4) (dOp gIx (dVar 6) (dC (.int 1))))) dNil)))))
  (dRet (dCall0 [false, false] sp_is_list_of_outs (dCons (dVar 3) (dCons (dCB gLen (dCons (dVar 4) dNil)) dNil)))))))))
def outsL (m : Nat) (js : List (Nat × Nat)) (os : List Nat) : List Nat := os.map fun o => (rowsL m js).getD o 0
def sp_made_by : DSp := fun as Q _ => ∃ m js os, as = [.f (netD m js os)] ∧ JsOk m js ∧ m ≤ 1000 ∧ js.length ≤ 1000 ∧ (∀ o ∈ os, o < m + js.length) ∧ os.length ≤ 1000 ∧ Q (.n (.lst (natsD (outsL m js os)))) []
theorem p_made_by : ∀ as Q X, sp_made_by as Q X → as.length = 1 ∧ r_made_by sp_rows_of { nx := fun env => rtD as Q (.f .non) env, rt := rtD as Q } (startE N_made_by as) := by
  rintro as Q X ⟨m, js, os, rfl, ok, m2, jl, ol, oz, h⟩
  refine ⟨rfl, ?_⟩
  unfold netD
  walk_at "go"
  refine ⟨_, _, _, rfl, ok, m2, jl, ?_⟩
  walk_at "go"
  refine ⟨fun i acc env => env = [some (.f (netD m js os)), some (.o (.lst (natsD (rowsL m js)))), none] ∧ acc = natsD ((os.take i).map fun o => (rowsL m js).getD o 0), ⟨rfl, rfl⟩, ?_, ?_⟩
  · rintro i d acc env hd ⟨rfl, rfl⟩
    obtain ⟨o, ho, rfl⟩ := natsD_get hd
    walk_at "go"
    refine ⟨_, atI_g (by rw [rowsL_len]; exact ol o (List.mem_of_getElem? ho)), ?_⟩
    walk_at "go"
    refine ⟨rfl, ?_⟩
    rw [take_snoc ho, List.map_append, natsD_snoc]; rfl
  · rintro acc env ⟨rfl, rfl⟩
    rw [natsD_len, List.take_length]
    walk_at "go"
    exact h
def outsB (d : Dat) (n : Int) : Bool := match d with
  | .tup l => decide (1 ≤ l.length) && decide (l.length ≤ 24) && l.all (numB · 0 n)
  | _ => false
def sp_is_list_of_outs : DSp := fun as Q _ => ∃ d n, as = [.f d, .f (.int n)] ∧ Pd d ∧ Q (.f (.bl (outsB d n))) []
theorem p_is_list_of_outs : ∀ as Q X, sp_is_list_of_outs as Q X → as.length = 2 ∧ r_is_list_of_outs sp_is_number { nx := fun env => rtD as Q (.f .non) env, rt := rtD as Q } (startE N_is_list_of_outs as) := by
  rintro as Q X ⟨d, n, rfl, hd, h⟩
  refine ⟨rfl, ?_⟩
  cases hd with
  | @tup l hl =>
    walk_at "go"
    refine dec_cases (fun e => ?_) (fun e => ?_)
    · have : outsB (.tup l) n = false := by unfold outsB; simp only; rw [decide_eq_false (by omega)]; rfl
      rw [this] at h
      walk_at "go"
      exact h
    walk_at "go"
    refine dec_cases (fun e2 => ?_) (fun e2 => ?_)
    · have : outsB (.tup l) n = false := by unfold outsB; simp only; rw [decide_eq_false (show ¬ (l.length ≤ 24) by omega)]; simp
      rw [this] at h
      walk_at "go"
      exact h
    walk_at "go"
    refine ⟨fun i acc env => env = [some (.f (.tup l)), some (.f (.int n)), none] ∧ acc = ((l.take i).map (numB · 0 n)).map Dat.bl, ⟨rfl, rfl⟩, ?_, ?_⟩
    · rintro i d acc env hd ⟨rfl, rfl⟩
      walk_at "go"
      refine ⟨_, _, _, rfl, hl d (List.mem_of_getElem? hd), ?_⟩
      walk_at "go"
      refine ⟨rfl, ?_⟩
      rw [take_snoc hd]; simp
    · rintro acc env ⟨rfl, rfl⟩
      rw [List.take_length]
      walk_at "go"
      have : outsB (.tup l) n = (l.map (numB · 0 n)).all id := by
        unfold outsB; simp only; rw [decide_eq_true (show 1 ≤ l.length by omega), decide_eq_true (show l.length ≤ 24 by omega)]; simp [List.all_map]
      rw [this] at h
      exact h
  | int n => walk_at "go"; exact h
  | non => walk_at "go"; exact h
  | bl b => walk_at "go"; exact h
  | str s => walk_at "go"; exact h
  | lst _ => walk_at "go"; exact h
def joinsB : List Nat → List Dat → Option (List Nat)
  | rs, [] => some rs
  | rs, d :: l => match pairB d (rs.length : Int) with
    | some j => if rs.getD j.1 0 = rs.getD j.2 0 then none else joinsB (stepF xorF rs j) l
    | none => none
def netB (d : Dat) : Bool := match d with
  | .tup [.int m, .tup jl, os] => decide (1 ≤ m) && decide (m < 13) && decide (jl.length ≤ 132) && (match joinsB (giv m.toNat) jl with
    | some rs => outsB os (rs.length : Int)
    | none => false)
  | _ => false

theorem netB_len {l : List Dat} (h : l.length ≠ 3) : netB (.tup l) = false := by
  unfold netB
  split
  · next e => cases e; exact absurd rfl h
  · rfl
theorem netB_num {a b c : Dat} (h : numB a 1 13 = false) : netB (.tup [a, b, c]) = false := by
  unfold netB
  split
  · next m jl os e =>
    cases e
    unfold numB at h
    simp only at h
    rw [h]; simp
  · rfl
theorem drop_get {α : Type} {l : List α} {i : Nat} {d : α} (h : l[i]? = some d) : l.drop i = d :: l.drop (i + 1) := by
  have hi := (List.getElem?_eq_some_iff.1 h)
  obtain ⟨hi, e⟩ := hi
  rw [List.drop_eq_getElem_cons hi, e]
theorem joinsB_cons (rs : List Nat) (d : Dat) (l : List Dat) : joinsB rs (d :: l) = match pairB d (rs.length : Int) with
    | some j => if rs.getD j.1 0 = rs.getD j.2 0 then none else joinsB (stepF xorF rs j) l
    | none => none := rfl
def sp_is_net : DSp := fun as Q _ => ∃ d, as = [.f d] ∧ Pd d ∧ Q (.f (.bl (netB d))) []
theorem p_is_net : ∀ as Q X, sp_is_net as Q X → as.length = 1 ∧ r_is_net sp_is_number sp_is_joining sp_is_list_of_outs { nx := fun env => rtD as Q (.f .non) env, rt := rtD as Q } (startE N_is_net as) := by
  rintro as Q X ⟨d, rfl, hd, h⟩
  refine ⟨rfl, ?_⟩
  cases hd with
  | @tup l hl =>
    match l, hl, h with
    | [], _, h => walk_at "go"; refine ne_yes (by simp) ?_; walk_at "go"; exact h
    | [a], _, h => rw [netB_len (by simp)] at h; walk_at "go"; refine ne_yes (by simp) ?_; walk_at "go"; exact h
    | [a, b], _, h => rw [netB_len (by simp)] at h; walk_at "go"; refine ne_yes (by simp) ?_; walk_at "go"; exact h
    | a :: b :: c :: e :: l, _, h =>
      rw [netB_len (by simp)] at h
      walk_at "go"
      refine ne_yes (by simp; omega) ?_
      walk_at "go"
      exact h
    | [a, b, c], hl, h =>
      walk_at "go"
      refine ne_no (by simp) ?_
      walk_at "go"
      refine ⟨_, _, _, rfl, hl a (by simp), ?_⟩
      walk_at "go"
      cases hn : numB a 1 13 with
      | false =>
        rw [netB_num hn] at h
        have hn : numB a 1 (12 + 1) = false := hn
        rw [hn]
        walk_at "go"
        exact h
      | true =>
        have hn : numB a 1 (12 + 1) = true := hn
        rw [hn]
        walk_at "go"
        have ia : ∃ x, a = .int x := by
          cases a <;> first | exact ⟨_, rfl⟩ | (cases hn)
        obtain ⟨x, rfl⟩ := ia
        have hn : 1 ≤ x ∧ x < 13 := by
          have hn : (decide (1 ≤ x) && decide (x < 12 + 1)) = true := hn
          simp only [Bool.and_eq_true, decide_eq_true_eq] at hn; omega
        obtain ⟨m, rfl⟩ : ∃ m : Nat, x = (m : Int) := ⟨x.toNat, by omega⟩
        cases hl b (by simp) with
        | @tup jl hj =>
          walk_at "go"
          refine dec_cases (fun e => ?_) (fun e => ?_)
          · have : netB (.tup [.int (m : Nat), .tup jl, c]) = false := by
              unfold netB; simp only; rw [decide_eq_false (show ¬ (jl.length ≤ 132) by omega)]; simp
            rw [this] at h
            walk_at "go"
            exact h
          walk_at "go"
          refine ⟨fun i acc env => env = [some (.f (.tup [.int (m : Nat), .tup jl, c])), some (.f (.int (m : Nat))), some (.f (.tup jl)), some (.f c), none, none, none] ∧ acc = natsD (giv i), ⟨rfl, rfl⟩, ?_, ?_⟩
          · rintro i d acc env hd ⟨rfl, rfl⟩
            obtain ⟨hi, rfl⟩ := rangeD_some hd
            rw [Int.zero_add]
            walk_at "go"
            refine ⟨rfl, ?_⟩
            rw [one_shl, giv_succ]; exact natsD_snoc _ _
          rintro acc env ⟨rfl, rfl⟩
          rw [rangeD_len, Int.toNat_natCast]
          walk_at "go"
          have hN : netB (.tup [.int (m : Nat), .tup jl, c]) = (match joinsB (giv m) jl with | some rs => outsB c (rs.length : Int) | none => false) := by
            unfold netB; simp only; rw [decide_eq_true hn.1, decide_eq_true hn.2, decide_eq_true (show jl.length ≤ 132 by omega), Int.toNat_natCast]; simp
          rw [hN] at h
          refine ⟨fun i env => ∃ rs x, env = [some (.f (.tup [.int (m : Nat), .tup jl, c])), some (.f (.int (m : Nat))), some (.f (.tup jl)), some (.f c), some (.o (.lst (natsD rs))), none, x] ∧ rs.length = m + i ∧ joinsB (giv m) jl = joinsB rs (jl.drop i), ⟨giv m, _, rfl, giv_len m, rfl⟩, ?_, ?_⟩
          · rintro i d env hd ⟨rs, x, rfl, hL, hJ⟩
            have hi := (List.getElem?_eq_some_iff.1 hd).1
            rw [drop_get hd, joinsB_cons] at hJ
            walk_at "go"
            refine ⟨_, _, rfl, hj d (List.mem_of_getElem? hd), ?_⟩
            walk_at "go"
            rw [natsD_len]
            cases hp : pairB d (rs.length : Int) with
            | none =>
              rw [hp] at hJ
              simp only at hJ
              rw [hJ] at h
              walk_at "go"
              exact h
            | some j =>
              rw [hp] at hJ
              simp only at hJ
              obtain ⟨rfl, j1, j2⟩ := pairB_some hp
              unfold pairD
              walk_at "go"
              refine ⟨_, atI_g (by omega), ?_⟩
              walk_at "go"
              refine ⟨_, atI_g (by omega), ?_⟩
              walk_at "go"
              refine eq_cases (fun e => ?_) (fun e => ?_)
              · rw [if_pos (by omega)] at hJ
                rw [hJ] at h
                walk_at "go"
                exact h
              · rw [if_neg (by omega)] at hJ
                walk_at "go"
                refine ⟨_, atI_g (by omega), ?_⟩
                walk_at "go"
                refine ⟨_, atI_g (by omega), ?_⟩
                walk_at "go"
                rw [xor_step]
                exact ⟨_, _, rfl, by simp [stepF]; omega, hJ⟩
          · rintro env ⟨rs, x, rfl, hL, hJ⟩
            rw [List.drop_length, show joinsB rs [] = some rs from rfl] at hJ
            rw [hJ] at h
            walk_at "go"
            refine ⟨_, _, rfl, hl c (by simp), ?_⟩
            walk_at "go"
            rw [natsD_len]
            exact h
        | int n => walk_at "go"; exact h
        | non => walk_at "go"; exact h
        | bl b => walk_at "go"; exact h
        | str s => walk_at "go"; exact h
        | lst _ => walk_at "go"; exact h
  | int n => walk_at "go"; exact h
  | non => walk_at "go"; exact h
  | bl b => walk_at "go"; exact h
  | str s => walk_at "go"; exact h
  | lst _ => walk_at "go"; exact h
theorem joinsB_ok {m : Nat} {js : List (Nat × Nat)} (ok : JsOk m js) (un : ∀ (i : Nat) (j : Nat × Nat), js[i]? = some j → (rowsL m js).getD j.1 0 ≠ (rowsL m js).getD j.2 0) : joinsB (giv m) (js.map pairD) = some (rowsL m js) := by
  have key : ∀ n i, js.length - i = n → joinsB (runF xorF (giv m) (js.take i)) ((js.drop i).map pairD) = some (rowsL m js) := by
    intro n
    induction n with
    | zero =>
      intro i hi
      rw [List.drop_eq_nil_of_le (by omega), List.take_of_length_le (by omega)]; rfl
    | succ n ih =>
      intro i hi
      have hj : js[i]? = some js[i] := List.getElem?_eq_getElem (by omega)
      have lt := ok.lt i _ hj
      have hu := un i _ hj
      have hl : (runF xorF (giv m) (js.take i)).length = m + i := by rw [runF_len, giv_len, List.length_take]; omega
      rw [drop_get hj, List.map_cons, joinsB_cons]
      rw [pairB_pair lt.1 (by omega)]
      simp only
      unfold rowsL at hu
      rw [runF_part xorF js (giv m) _ i (by rw [giv_len]; omega), runF_part xorF js (giv m) js[i].2 i (by rw [giv_len]; omega)] at hu
      rw [if_neg hu, ← runF_take xorF hj]
      exact ih (i + 1) (by omega)
  exact key _ 0 rfl
theorem outsB_ok {os : List Nat} {n : Nat} (h1 : 1 ≤ os.length) (h2 : os.length ≤ 24) (h : ∀ o ∈ os, o < n) : outsB (.tup (natsD os)) (n : Int) = true := by
  unfold outsB
  simp only [natsD_len]
  rw [decide_eq_true h1, decide_eq_true h2, Bool.true_and, Bool.true_and, List.all_eq_true]
  intro x hx
  obtain ⟨i, hi⟩ := List.getElem?_of_mem hx
  obtain ⟨g, hg, rfl⟩ := natsD_get hi
  have := h g (List.mem_of_getElem? hg)
  unfold numB
  simp only [Bool.and_eq_true, decide_eq_true_eq]
  omega
theorem netB_ok {m : Nat} {js : List (Nat × Nat)} {os : List Nat} (ok : NetOk m js os) : netB (netD m js os) = true := by
  have h := joinsB_ok ok.toJsOk ok.un
  have h1 := ok.m1
  have h2 := ok.m2
  have h3 := ok.jl
  unfold netB netD
  simp only [List.length_map, Int.toNat_natCast]
  rw [h]
  simp only
  rw [outsB_ok ok.o1 ok.o2 (by rw [rowsL_len]; exact ok.ol), decide_eq_true (show (1 : Int) ≤ m by omega), decide_eq_true (show (m : Int) < 13 by omega), decide_eq_true h3]
  rfl
theorem pd_nats (l : List Nat) : ∀ x ∈ natsD l, Pd x := by
  intro x hx
  obtain ⟨i, hi⟩ := List.getElem?_of_mem hx
  obtain ⟨g, hg, rfl⟩ := natsD_get hi
  exact .int _
theorem pd_net (m : Nat) (js : List (Nat × Nat)) (os : List Nat) : Pd (netD m js os) := by
  refine .tup fun x hx => ?_
  simp only [List.mem_cons, List.not_mem_nil, or_false] at hx
  rcases hx with rfl | rfl | rfl
  · exact .int _
  · refine .tup fun x hx => ?_
    obtain ⟨j, _, rfl⟩ := List.mem_map.1 hx
    refine .tup fun x hx => ?_
    simp only [List.mem_cons, List.not_mem_nil, or_false] at hx
    rcases hx with rfl | rfl <;> exact .int _
  · exact .tup (pd_nats os)
end DP

set_option Elab.async false
set_option linter.all false
set_option maxRecDepth 100000
set_option maxHeartbeats 4000000
namespace DP
open PySem PySem.Spec PyProof.Rows L2 DL
variable [ClsV]
local macro_rules | `(tactic| walk_at "dw") => `(tactic| ((conv => whnf); (try dsimp only [putOuts, putO, fzR, List.set_cons_zero, List.set_cons_succ, List.getElem?_cons_zero, List.getElem?_cons_succ, startE, arS, List.map_cons, List.map_nil, wipeE, restF, List.length_cons, List.length_nil])))
local macro_rules | `(tactic| walk_at "om") => `(tactic| first | omega | (dsimp only; omega) | (simp only [List.length_cons, List.length_nil, List.length_map, List.length_append, rangeD_len, natsD_len]; omega))
local macro_rules | `(tactic| walk_at "pl") => `(tactic| first | rfl | exact pln_nats _ | exact pln_natsT _ | exact pln_ints _)
local macro_rules | `(tactic| walk_at "go1") => `(tactic| ((first
  | refine and_imm _ _ _ (by first | exact trivial | exact ⟨rfl, rfl⟩) ?_
  | refine and_eqB (by first | rfl | exact pln_nats _ | exact pln_natsT _ | exact pln_ints _) ?_
  | refine and_leN (by walk_at "om") ?_ | refine and_ltN (by walk_at "om") ?_ | refine and_leI (by walk_at "om") ?_ | refine and_ltI (by walk_at "om") ?_
  | refine Got.mk ⟨_, rfl, ?_⟩ | refine IntsL.mk ⟨_, rfl, ?_⟩ | refine BlsL.mk ⟨_, rfl, ?_⟩
  | refine if_t ?_ | refine if_f ?_
  | refine and_csh (by walk_at "om") ?_ | refine and_le4 (by walk_at "om") (by walk_at "om") (by walk_at "om") (by walk_at "om") ?_ | refine and_eqN (by walk_at "om") ?_); walk_at "dw"))
local macro_rules | `(tactic| walk_at "go") => `(tactic| (walk_at "dw"; repeat walk_at "go1"))
abbrev N_law_net_k05 : List Str := ["_law_tape_here", "_law_most", "_law_joins_most", "_law_many", "_law_rows_here", "_law_k", "_law_joins", "_law_way", "_law_turn", "_law_a", "_law_b", "_law_outs"]
def r_law_net_k05 (sp_law_draw : DSp) : DS :=
  (dSeq (dAsg (dOp gAdd (dC (.int 1)) (dCall0 [true, false] sp_law_draw (dCons (dVar 0) (dCons (dVar 1) dNil)))) 3)
  (dSeq (dAsg (dLc (dRng1 (dCons (dVar 3) dNil)) (dgName 5) dYes (dOp (gI CSh fun i j => i * 2 ^ j.toNat) (dC (.int 1)) (dVar 5)) [5]) 4)
  (dSeq (dAsg (dLst dNil) 6)
  (dSeq (dAsg (dCall0 [true, false] sp_law_draw (dCons (dVar 0) (dCons (dC (.int 4)) dNil))) 7)
  (dSeq (dFor (dRng1 (dCons (dCall0 [true, false] sp_law_draw (dCons (dVar 0) (dCons (dOp gAdd (dVar 2) (dC (.int 1))) dNil))) dNil)) (dgName 8) (dSeq (dAsg (dCall0 [true, false] sp_law_draw (dCons (dVar 0) (dCons (dCB gLen (dCons (dVar 4) dNil)) dNil))) 9)
  (dSeq (dAsg (dCall0 [true, false] sp_law_draw (dCons (dVar 0) (dCons (dCB gLen (dCons (dVar 4) dNil)) dNil))) 10)
  (dSeq (dIfS (dB (dOp (gEq false) (dVar 7) (dC (.int 1)))) (dAsg (dOp (gI0 fun i j => i - j) (dCB gLen (dCons (dVar 4) dNil)) (dC (.int 1))) 10) dNext)
  (dSeq (dIfS (dB (dOp (gEq false) (dVar 7) (dC (.int 2)))) (dSeq (dAsg (dCB gMax (dCons (dC (.int 0)) (dCons (dOp (gI0 fun i j => i - j) (dOp (gI0 fun i j => i - j) (dCB gLen (dCons (dVar 4) dNil)) (dC (.int 1))) (dOp (gI (fun _ j => 0 < j) fun i j => i % j) (dVar 9) (dC (.int 4)))) dNil))) 9)
  (dAsg (dCB gMax (dCons (dC (.int 0)) (dCons (dOp (gI0 fun i j => i - j) (dOp (gI0 fun i j => i - j) (dCB gLen (dCons (dVar 4) dNil)) (dC (.int 1))) (dOp (gI (fun _ j => 0 < j) fun i j => i % j) (dVar 10) (dC (.int 4)))) dNil))) 10)) dNext)
  (dIfS (dB (dOp (gEq true) (dOp gIx (dVar 4) (dVar 9)) (dOp gIx (dVar 4) (dVar 10)))) (dSeq (dDrop (dMut gAppend (dVar 6) (dCons (dTup (dCons (dCB gMin (dCons (dVar 9) (dCons (dVar 10) dNil))) (dCons (dCB gMax (dCons (dVar 9) (dCons (dVar 10) dNil))) dNil))) dNil)))
  (dDrop (dMut gAppend (dVar 4) (dCons (dOp (gI0 Builtin.bitXor) (dOp gIx (dVar 4) (dVar 9)) (dOp gIx (dVar 4) (dVar 10))) dNil)))) dNext))))))
  (dSeq (dAsg (dCB gTuple (dCons (dLc (dRng1 (dCons (dOp gAdd (dC (.int 1)) (dCall0 [true, false] sp_law_draw (dCons (dVar 0) (dCons (dC (.int 24)) dNil)))) dNil)) (dgName 8) dYes (dCall0 [true, false] sp_law_draw (dCons (dVar 0) (dCons (dCB gLen (dCons (dVar 4) dNil)) dNil))) [8]) dNil)) 11)
  (dRet (dTup (dCons (dVar 3) (dCons (dCB gTuple (dCons (dVar 6) dNil)) (dCons (dVar 11) dNil)))))))))))
abbrev N_law_rows_k05 : List Str := ["_law_net_here", "_law_rows_here", "_law_k", "_law_a", "_law_b"]
def r_law_rows_k05 : DS :=
  (dSeq (dAsg (dLc (dRng1 (dCons (dOp gIx (dVar 0) (dC (.int 0))) dNil)) (dgName 2) dYes (dOp (gI CSh fun i j => i * 2 ^ j.toNat) (dC (.int 1)) (dVar 2)) [2]) 1)
  (dSeq (dFor (dSeqI (dOp gIx (dVar 0) (dC (.int 1)))) (dgTup 2 (dgCons (dgName 3) (dgCons (dgName 4) dgNil))) (dDrop (dMut gAppend (dVar 1) (dCons (dOp (gI0 Builtin.bitXor) (dOp gIx (dVar 1) (dVar 3)) (dOp gIx (dVar 1) (dVar 4))) dNil))))
  (dRet (dVar 1))))
theorem p_law_rows_k05 : ∀ as Q X, sp_rows_of as Q X → as.length = 1 ∧ r_law_rows_k05 { nx := fun env => rtD as Q (.f .non) env, rt := rtD as Q } (startE N_law_rows_k05 as) := p_rows_of
def sp_law_rows_k05 : DSp := sp_rows_of
/-- what a drawn net is -/
structure Built (m : Nat) (js : List (Nat × Nat)) : Prop extends JsOk m js where
  un : ∀ (i : Nat) (j : Nat × Nat), js[i]? = some j → (rowsL m js).getD j.1 0 ≠ (rowsL m js).getD j.2 0
theorem Built.snoc {m : Nat} {js : List (Nat × Nat)} (h : Built m js) {j : Nat × Nat} (h1 : j.1 < j.2) (h2 : j.2 < m + js.length) (h3 : (rowsL m js).getD j.1 0 ≠ (rowsL m js).getD j.2 0) : Built m (js ++ [j]) := by
  have old : ∀ k, k < m + js.length → (rowsL m (js ++ [j])).getD k 0 = (rowsL m js).getD k 0 := fun k hk => by
    show (runF xorF (giv m) (js ++ [j])).getD k 0 = _
    rw [runF_append, runF_getD]; · rfl
    rw [runF_len, giv_len]; exact hk
  refine { lt := fun i k hk => ?_, un := fun i k hk => ?_ }
  · rcases Nat.lt_trichotomy i js.length with z | z | z
    · rw [List.getElem?_append_left z] at hk; exact h.lt i k hk
    · subst z
      rw [List.getElem?_append_right (Nat.le_refl _), Nat.sub_self] at hk; cases hk; exact ⟨h1, h2⟩
    · rw [List.getElem?_eq_none (by simp; omega)] at hk; cases hk
  · rcases Nat.lt_trichotomy i js.length with z | z | z
    · rw [List.getElem?_append_left z] at hk
      have lt := h.lt i k hk
      rw [old _ (by omega), old _ (by omega)]; exact h.un i k hk
    · subst z
      rw [List.getElem?_append_right (Nat.le_refl _), Nat.sub_self] at hk; cases hk
      rw [old _ (by omega), old _ (by omega)]; exact h3
    · rw [List.getElem?_eq_none (by simp; omega)] at hk; cases hk
theorem Built.nil (m : Nat) : Built m [] := { lt := fun i j h => (by cases h), un := fun i j h => (by cases h) }
def sp_law_net_k05 : DSp := fun as Q _ => ∃ k T mo jm, as = [.m T, .f (.int (mo : Nat)), .f (.int (jm : Nat))] ∧ Tape k T ∧ k ≤ 10 ^ 8 ∧ 0 < mo ∧ mo ≤ 12 ∧ jm ≤ 132 ∧
  ∀ m js os T', Tape (k + 400) T' → NetOk m js os → m ≤ mo → js.length ≤ jm → Q (.f (netD m js os)) [T']
theorem maxI (a b : Nat) : max (a : Int) (b : Int) = ((max a b : Nat) : Int) := by omega
theorem minI (a b : Nat) : min (a : Int) (b : Int) = ((min a b : Nat) : Int) := by omega
theorem thr_args {P C : Nat → Nat → Dat → Prop} {G : Prop} (use : (∀ a b T, C a b T → P a b T) → G) (fin : ∀ a b T, C a b T → P a b T) : G := use fin
theorem pairsD_snoc (js : List (Nat × Nat)) (a b : Nat) : js.map pairD ++ [Dat.tup [.int (a : Nat), .int (b : Nat)]] = (js ++ [(a, b)]).map pairD := by simp [pairD]
theorem rowsL_snoc (m : Nat) (js : List (Nat × Nat)) (j : Nat × Nat) : rowsL m (js ++ [j]) = stepF xorF (rowsL m js) j := runF_snoc _ _ _ _
theorem p_law_net_k05 : ∀ as Q X, sp_law_net_k05 as Q X → as.length = 3 ∧ r_law_net_k05 sp_law_draw { nx := fun env => rtD as Q (.f .non) env, rt := rtD as Q } (startE N_law_net_k05 as) := by
  rintro as Q X ⟨k, T, mo, jm, rfl, hT, hk, mo0, mo1, jm1, h⟩
  refine ⟨rfl, ?_⟩
  walk_at "go"
  refine ⟨k, T, mo, rfl, hT, by omega, by omega, lt5000 (by omega), fun v T1 hT1 hv => ?_⟩
  walk_at "go"
  obtain ⟨m, hm, m1, m2, m3⟩ : ∃ m : Nat, (1 : Int) + (v : Int) = (m : Int) ∧ 1 ≤ m ∧ m ≤ 12 ∧ m ≤ mo := ⟨1 + v, by omega, by omega, by omega, by omega⟩
  rw [hm]
  refine ⟨fun i acc env => env = [some (.b T1), some (.f (.int (mo : Nat))), some (.f (.int (jm : Nat))), some (.f (.int (m : Nat))), none, none, none, none, none, none, none, none] ∧ acc = natsD (giv i), ⟨rfl, rfl⟩, ?_, ?_⟩
  · rintro i d acc env hd ⟨rfl, rfl⟩
    obtain ⟨hi, rfl⟩ := rangeD_some hd
    rw [Int.zero_add]
    walk_at "go"
    refine ⟨rfl, ?_⟩
    rw [one_shl, giv_succ]; exact natsD_snoc _ _
  rintro acc env ⟨rfl, rfl⟩
  rw [rangeD_len, Int.toNat_natCast]
  walk_at "go"
  refine ⟨_, _, 4, rfl, hT1, by omega, by omega, lt5000 (by omega), fun way T2 hT2 hw => ?_⟩
  walk_at "go"
  refine ⟨_, _, jm + 1, rfl, hT2, by omega, by omega, lt5000 (by omega), fun n T3 hT3 hn => ?_⟩
  walk_at "go"
  rw [Int.toNat_natCast]
  refine ⟨fun i env => ∃ T' js x y z, env = [some (.b T'), some (.f (.int (mo : Nat))), some (.f (.int (jm : Nat))), some (.f (.int (m : Nat))), some (.o (.lst (natsD (rowsL m js)))), none, some (.o (.lst (js.map pairD))), some (.f (.int (way : Nat))), x, y, z, none] ∧ Tape (k + 3 + 2 * i) T' ∧ Built m js ∧ js.length ≤ i ∧ (x = none ∨ ∃ d, x = some (.f d)),
    ⟨T3, [], _, _, _, rfl, hT3, Built.nil m, Nat.le_refl _, .inl rfl⟩, ?_, ?_⟩
  · rintro i d env hd ⟨T', js, x, y, z, rfl, hT', hb, hl, hx⟩
    obtain ⟨hi, rfl⟩ := rangeD_some hd
    have hL := rowsL_len m js
    have hL2 : (natsD (rowsL m js)).length = m + js.length := by rw [natsD_len, hL]
    walk_at "go"
    apply thr_args (C := fun a b T => a < m + js.length ∧ b < m + js.length ∧ Tape (k + 3 + 2 * i + 2) T)
    · intro fin
      refine ⟨_, _, m + js.length, by rw [hL2], hT', by omega, by omega, lt5000 (by omega), fun a T4 hT4 ha => ?_⟩
      walk_at "go"
      refine ⟨_, _, m + js.length, by rw [hL2], hT4, by omega, by omega, lt5000 (by omega), fun b T5 hT5 hb2 => ?_⟩
      walk_at "go"
      refine eq_cases (fun e => ?_) (fun e => ?_)
      · walk_at "go"
        refine eq_no (by simp; omega) ?_
        walk_at "dw"
        obtain ⟨b', eb, hb'⟩ : ∃ b' : Nat, (((natsD (rowsL m js)).length : Nat) : Int) - 1 = (b' : Int) ∧ b' < m + js.length := ⟨m + js.length - 1, by rw [hL2]; omega, by omega⟩
        rw [eb]
        exact fin a b' T5 ⟨ha, hb', hT5⟩
      · walk_at "go"
        refine eq_cases (fun e2 => ?_) (fun e2 => ?_)
        · walk_at "go"
          obtain ⟨a', ea, ha'⟩ : ∃ a' : Nat, max (0 : Int) ((((natsD (rowsL m js)).length : Nat) : Int) - 1 - (a : Int) % 4) = (a' : Int) ∧ a' < m + js.length := ⟨m + js.length - 1 - a % 4, by rw [hL2]; omega, by omega⟩
          obtain ⟨b', eb, hb'⟩ : ∃ b' : Nat, max (0 : Int) ((((natsD (rowsL m js)).length : Nat) : Int) - 1 - (b : Int) % 4) = (b' : Int) ∧ b' < m + js.length := ⟨m + js.length - 1 - b % 4, by rw [hL2]; omega, by omega⟩
          rw [ea, eb]
          exact fin a' b' T5 ⟨ha', hb', hT5⟩
        · walk_at "dw"
          exact fin a b T5 ⟨ha, hb2, hT5⟩
    · rintro a b T5 ⟨ha, hb2, hT5⟩
      walk_at "go"
      refine ⟨_, atI_g (by omega), ?_⟩
      walk_at "go"
      refine ⟨_, atI_g (by omega), ?_⟩
      walk_at "go"
      refine ne_cases (fun e => ?_) (fun e => ?_)
      · walk_at "go"
        refine ⟨_, atI_g (by omega), ?_⟩
        walk_at "go"
        refine ⟨_, atI_g (by omega), ?_⟩
        walk_at "go"
        rw [maxI, minI, pairsD_snoc, bxor_nat, natsD_snoc]
        have hne : a ≠ b := fun z => e (by rw [z])
        have e1 : rowsL m js ++ [(rowsL m js).getD a 0 ^^^ (rowsL m js).getD b 0] = rowsL m (js ++ [(min a b, max a b)]) := by
          rw [rowsL_snoc]
          unfold stepF xorF
          rcases Nat.lt_or_ge a b with z | z
          · rw [Nat.min_eq_left (by omega), Nat.max_eq_right (by omega)]
          · rw [Nat.min_eq_right (by omega), Nat.max_eq_left (by omega), Nat.xor_comm]
        rw [e1]
        refine ⟨_, _, _, _, _, rfl, hT5.mono (by omega), hb.snoc (show min a b < max a b by omega) (show max a b < _ by omega) ?_, by simp; omega, .inr ⟨_, rfl⟩⟩
        show (rowsL m js).getD (min a b) 0 ≠ (rowsL m js).getD (max a b) 0
        intro z
        rcases Nat.lt_or_ge a b with q | q
        · rw [Nat.min_eq_left (by omega), Nat.max_eq_right (by omega)] at z; exact e (by rw [z])
        · rw [Nat.min_eq_right (by omega), Nat.max_eq_left (by omega)] at z; exact e (by rw [z])
      · walk_at "go"
        exact ⟨_, _, _, _, _, rfl, hT5.mono (by omega), hb, by omega, .inr ⟨_, rfl⟩⟩
  · rintro env ⟨T', js, x, y, z, rfl, hT', hb, hl, hx⟩
    rw [rangeD_len] at hT' hl
    have hL2 : (natsD (rowsL m js)).length = m + js.length := by rw [natsD_len, rowsL_len]
    walk_at "go"
    refine ⟨_, _, 24, rfl, hT', by omega, by omega, lt5000 (by omega), fun c T4 hT4 hc => ?_⟩
    walk_at "go"
    obtain ⟨n2, hn2, n3, n4⟩ : ∃ n2 : Nat, ((1 : Int) + (c : Int)).toNat = n2 ∧ 1 ≤ n2 ∧ n2 ≤ 24 := ⟨1 + c, by omega, by omega, by omega⟩
    rw [hn2]
    refine ⟨fun i acc env => ∃ T5 os, env = [some (.b T5), some (.f (.int (mo : Nat))), some (.f (.int (jm : Nat))), some (.f (.int (m : Nat))), some (.o (.lst (natsD (rowsL m js)))), none, some (.o (.lst (js.map pairD))), some (.f (.int (way : Nat))), none, y, z, none] ∧ acc = natsD os ∧ os.length = i ∧ (∀ o ∈ os, o < m + js.length) ∧ Tape (k + 3 + 2 * n + 1 + i) T5,
      ⟨T4, [], rfl, rfl, rfl, by simp, hT4⟩, ?_, ?_⟩
    · rintro i d acc env hd ⟨T5, os, rfl, rfl, hos, hol, hT5⟩
      obtain ⟨hi, rfl⟩ := rangeD_some hd
      walk_at "go"
      refine ⟨_, _, m + js.length, by rw [hL2], hT5, by omega, by omega, lt5000 (by omega), fun o T6 hT6 ho => ?_⟩
      walk_at "go"
      refine ⟨T6, os ++ [o], rfl, natsD_snoc _ _, by simp [hos], fun q hq => ?_, hT6⟩
      rcases List.mem_append.1 hq with z | z
      · exact hol q z
      · rw [List.mem_singleton.1 z]; exact ho
    · rintro acc env ⟨T5, os, rfl, rfl, hos, hol, hT5⟩
      rw [rangeD_len] at hos hT5
      have fin := h m js os T5 (hT5.mono (by omega)) { toJsOk := hb.toJsOk, m1 := m1, m2 := m2, jl := by omega, un := hb.un, o1 := by omega, o2 := by omega, ol := hol } m3 (by omega)
      rcases hx with rfl | ⟨d, rfl⟩
      · walk_at "go"; exact fin
      · walk_at "go"; exact fin
end DP

set_option Elab.async false
set_option linter.all false
set_option maxRecDepth 100000
set_option maxHeartbeats 4000000
namespace DP
open PySem PySem.Spec PyProof.Rows L2 DL
variable [ClsV]
/-! ### a walker by classes: each operation on data of a known form is one step -/
noncomputable def dc (p : Prop) : Bool := @decide p (Classical.propDecidable p)
theorem dc_iff {p : Prop} : dc p = true ↔ p := by unfold dc; exact @decide_eq_true_iff _ (Classical.propDecidable _)
theorem dc_t {p : Prop} (h : p) : dc p = true := dc_iff.2 h
theorem dc_f {p : Prop} (h : ¬ p) : dc p = false := by
  cases e : dc p with
  | false => rfl
  | true => exact absurd (dc_iff.1 e) h
theorem dc_eq {p : Prop} [Decidable p] : dc p = decide p := by
  by_cases h : p
  · rw [dc_t h, decide_eq_true h]
  · rw [dc_f h, decide_eq_false h]
theorem dc_congr {p q : Prop} (h : p ↔ q) : dc p = dc q := by rw [propext h]
theorem dc_not (p : Prop) : dc (¬ p) = !dc p := by
  by_cases h : p
  · rw [dc_t h, dc_f (not_not_intro h)]; rfl
  · rw [dc_f h, dc_t h]; rfl
theorem dc_nat {p : Prop} [Decidable p] : (dc p).toNat = if p then 1 else 0 := by
  rw [dc_eq]
  by_cases h : p <;> simp [h]
theorem dc_cond {p : Prop} [Decidable p] {a b : Nat} : (bif dc p then a else b) = if p then a else b := by
  rw [dc_eq]
  by_cases h : p <;> simp [h]
theorem dc_b (b : Bool) : dc (b = true) = b := by cases b <;> simp [dc_eq]
theorem deq_dc (a b : Dat) : deq a b = dc (a = b) := rfl

class IsN (i : Int) (n : outParam Nat) : Prop where
  eq : i = (n : Int)
instance isN_cast (n : Nat) : IsN (n : Int) n := ⟨rfl⟩
instance isN_ofNat (n : Nat) : IsN (Int.ofNat n) n := ⟨rfl⟩
instance isN_0 : IsN 0 0 := ⟨rfl⟩
instance isN_1 : IsN 1 1 := ⟨rfl⟩
instance isN_2 : IsN 2 2 := ⟨rfl⟩
instance isN_3 : IsN 3 3 := ⟨rfl⟩
instance isN_4 : IsN 4 4 := ⟨rfl⟩
instance isN_5 : IsN 5 5 := ⟨rfl⟩
instance isN_6 : IsN 6 6 := ⟨rfl⟩
instance isN_7 : IsN 7 7 := ⟨rfl⟩
instance isN_8 : IsN 8 8 := ⟨rfl⟩
instance isN_9 : IsN 9 9 := ⟨rfl⟩
instance isN_10 : IsN 10 10 := ⟨rfl⟩
instance isN_11 : IsN 11 11 := ⟨rfl⟩
instance isN_12 : IsN 12 12 := ⟨rfl⟩
instance isN_13 : IsN 13 13 := ⟨rfl⟩
instance isN_14 : IsN 14 14 := ⟨rfl⟩
instance isN_15 : IsN 15 15 := ⟨rfl⟩
instance isN_16 : IsN 16 16 := ⟨rfl⟩
instance isN_17 : IsN 17 17 := ⟨rfl⟩
instance isN_18 : IsN 18 18 := ⟨rfl⟩
instance isN_19 : IsN 19 19 := ⟨rfl⟩
instance isN_20 : IsN 20 20 := ⟨rfl⟩
instance isN_21 : IsN 21 21 := ⟨rfl⟩
instance isN_22 : IsN 22 22 := ⟨rfl⟩
instance isN_23 : IsN 23 23 := ⟨rfl⟩
instance isN_24 : IsN 24 24 := ⟨rfl⟩
instance isN_25 : IsN 25 25 := ⟨rfl⟩
instance isN_26 : IsN 26 26 := ⟨rfl⟩
instance isN_27 : IsN 27 27 := ⟨rfl⟩
instance isN_28 : IsN 28 28 := ⟨rfl⟩
instance isN_29 : IsN 29 29 := ⟨rfl⟩
instance isN_30 : IsN 30 30 := ⟨rfl⟩
instance isN_31 : IsN 31 31 := ⟨rfl⟩
instance isN_32 : IsN 32 32 := ⟨rfl⟩
instance isN_33 : IsN 33 33 := ⟨rfl⟩
instance isN_40 : IsN 40 40 := ⟨rfl⟩
instance isN_41 : IsN 41 41 := ⟨rfl⟩
instance isN_59 : IsN 59 59 := ⟨rfl⟩
instance isN_60 : IsN 60 60 := ⟨rfl⟩
instance isN_63 : IsN 63 63 := ⟨rfl⟩
instance isN_64 : IsN 64 64 := ⟨rfl⟩
instance isN_66 : IsN 66 66 := ⟨rfl⟩
instance isN_70 : IsN 70 70 := ⟨rfl⟩
instance isN_90 : IsN 90 90 := ⟨rfl⟩
instance isN_96 : IsN 96 96 := ⟨rfl⟩
instance isN_99 : IsN 99 99 := ⟨rfl⟩
instance isN_131 : IsN 131 131 := ⟨rfl⟩
instance isN_132 : IsN 132 132 := ⟨rfl⟩
instance isN_133 : IsN 133 133 := ⟨rfl⟩
instance isN_157 : IsN 157 157 := ⟨rfl⟩
instance isN_160 : IsN 160 160 := ⟨rfl⟩
instance isN_2048 : IsN 2048 2048 := ⟨rfl⟩
instance isN_2049 : IsN 2049 2049 := ⟨rfl⟩
instance isN_3000 : IsN 3000 3000 := ⟨rfl⟩
instance isN_4066 : IsN 4066 4066 := ⟨rfl⟩
instance isN_4095 : IsN 4095 4095 := ⟨rfl⟩
instance isN_4096 : IsN 4096 4096 := ⟨rfl⟩
instance isN_7919 : IsN 7919 7919 := ⟨rfl⟩
instance isN_16807 : IsN 16807 16807 := ⟨rfl⟩
instance isN_48271 : IsN 48271 48271 := ⟨rfl⟩
instance isN_69621 : IsN 69621 69621 := ⟨rfl⟩
instance isN_2147483629 : IsN 2147483629 2147483629 := ⟨rfl⟩
instance isN_2147483647 : IsN 2147483647 2147483647 := ⟨rfl⟩
instance isN_zadd {i : Int} {n : Nat} [h : IsN i n] : IsN (0 + i) n := ⟨by rw [Int.zero_add]; exact h.eq⟩
instance (priority := low) isN_add {i j : Int} {n m : Nat} [h : IsN i n] [g : IsN j m] : IsN (i + j) (n + m) := ⟨by rw [h.eq, g.eq]; omega⟩
instance isN_max {i j : Int} {n m : Nat} [h : IsN i n] [g : IsN j m] : IsN (max i j) (max n m) := ⟨by rw [h.eq, g.eq]; omega⟩
instance isN_min {i j : Int} {n m : Nat} [h : IsN i n] [g : IsN j m] : IsN (min i j) (min n m) := ⟨by rw [h.eq, g.eq]; omega⟩

theorem natsD_nil : natsD [] = [] := rfl
theorem natsD_app (a b : List Nat) : natsD (a ++ b) = natsD a ++ natsD b := by simp [natsD, iN]
theorem natsD_cons (a : Nat) (b : List Nat) : natsD (a :: b) = .int (a : Int) :: natsD b := rfl
theorem natsD_map (l : List Nat) : natsD l = l.map fun (n : Nat) => Dat.int (n : Int) := by unfold natsD iN; rw [List.map_map]; rfl
theorem natsD_take (l : List Nat) (n : Nat) : natsD (l.take n) = (natsD l).take n := by simp [natsD, iN, List.map_take]
theorem natsD_drop (l : List Nat) (n : Nat) : natsD (l.drop n) = (natsD l).drop n := by simp [natsD, iN, List.map_drop]
theorem natsD_set (l : List Nat) (n v : Nat) : natsD (l.set n v) = (natsD l).set n (.int (v : Int)) := by simp only [natsD, iN, List.map_set]; rfl
theorem natsD_rep (n v : Nat) : natsD (List.replicate n v) = List.replicate n (.int (v : Int)) := by simp only [natsD, iN, List.map_replicate]; rfl
theorem natsD_range (n : Nat) : rangeD 0 n = natsD (List.range n) := by
  rw [natsD_map]; unfold rangeD
  exact congrArg (fun f => List.map f (List.range n)) (funext fun k => by rw [Int.zero_add])
theorem natsD_rev (l : List Nat) : natsD l.reverse = (natsD l).reverse := by simp only [natsD, iN, List.map_reverse]
class IsNs (l : List Dat) (ns : outParam (List Nat)) : Prop where
  eq : l = natsD ns
instance isNs_n (ns : List Nat) : IsNs (natsD ns) ns := ⟨rfl⟩
instance isNs_nil : IsNs [] [] := ⟨rfl⟩
instance isNs_cons {i : Int} {n : Nat} {l : List Dat} {ns : List Nat} [h : IsN i n] [g : IsNs l ns] : IsNs (.int i :: l) (n :: ns) := ⟨by rw [h.eq, g.eq]; rfl⟩
instance isNs_app {l m : List Dat} {ns ms : List Nat} [h : IsNs l ns] [g : IsNs m ms] : IsNs (l ++ m) (ns ++ ms) := ⟨by rw [h.eq, g.eq, natsD_app]⟩
instance isNs_rg {n : Nat} : IsNs (rangeD 0 n) (List.range n) := ⟨natsD_range n⟩
instance (priority := 500) isNs_rg2 {i : Int} {n k : Nat} [h : IsN i n] : IsNs (rangeD i k) ((List.range k).map (n + ·)) := ⟨by
  rw [natsD_map, List.map_map, h.eq]; unfold rangeD
  exact congrArg (fun f => List.map f (List.range k)) (funext fun j => by show Dat.int _ = Dat.int _; rw [Int.natCast_add])⟩
instance isNs_rep {n : Nat} {i : Int} {v : Nat} [h : IsN i v] : IsNs (List.replicate n (.int i)) (List.replicate n v) := ⟨by rw [h.eq, natsD_rep]⟩

class IsPs (l : List Dat) (ps : outParam (List (Nat × Nat))) : Prop where
  eq : l = ps.map pairD
instance isPs_m (ps : List (Nat × Nat)) : IsPs (ps.map pairD) ps := ⟨rfl⟩
instance isPs_nil : IsPs [] [] := ⟨rfl⟩
instance isPs_cons {i j : Int} {n m : Nat} {l : List Dat} {ps : List (Nat × Nat)} [h : IsN i n] [k : IsN j m] [g : IsPs l ps] : IsPs (.tup [.int i, .int j] :: l) ((n, m) :: ps) := ⟨by rw [h.eq, k.eq, g.eq]; rfl⟩
instance isPs_consP {p : Nat × Nat} {l : List Dat} {ps : List (Nat × Nat)} [g : IsPs l ps] : IsPs (pairD p :: l) (p :: ps) := ⟨by rw [g.eq]; rfl⟩
instance isPs_app {l m : List Dat} {ps qs : List (Nat × Nat)} [h : IsPs l ps] [g : IsPs m qs] : IsPs (l ++ m) (ps ++ qs) := ⟨by rw [h.eq, g.eq, List.map_append]⟩
class IsNet (d : Dat) (m : outParam Nat) (js : outParam (List (Nat × Nat))) (os : outParam (List Nat)) : Prop where
  eq : d = netD m js os
instance isNet_n (m : Nat) (js : List (Nat × Nat)) (os : List Nat) : IsNet (netD m js os) m js os := ⟨rfl⟩
instance isNet_t {i : Int} {m : Nat} {l l' : List Dat} {js : List (Nat × Nat)} {os : List Nat} [h : IsN i m] [g : IsPs l js] [k : IsNs l' os] : IsNet (.tup [.int i, .tup l, .tup l']) m js os := ⟨by rw [h.eq, g.eq, k.eq]; rfl⟩
class IsBs (l : List Dat) (bs : outParam (List Bool)) : Prop where
  eq : l = bs.map Dat.bl
instance isBs_m (bs : List Bool) : IsBs (bs.map Dat.bl) bs := ⟨rfl⟩
instance isBs_nil : IsBs [] [] := ⟨rfl⟩
instance isBs_cons {b : Bool} {l : List Dat} {bs : List Bool} [g : IsBs l bs] : IsBs (.bl b :: l) (b :: bs) := ⟨by rw [g.eq]; rfl⟩
class Go (P : Prop) (N : outParam Prop) : Prop where
  go : N → P
/-! ### the operations as they are stood at by the walker -/
structure hEq (n : Bool) (a b : Dat) (Q : Res → Prop) : Prop where
  mk ::
  run : gEq n a b Q
theorem gEq_h : gEq = hEq := by funext n a b Q; exact propext ⟨.mk, fun h => h.run⟩
structure hIs (n : Bool) (a b : Dat) (Q : Res → Prop) : Prop where
  mk ::
  run : gIs n a b Q
theorem gIs_h : gIs = hIs := by funext n a b Q; exact propext ⟨.mk, fun h => h.run⟩
structure hIn (n : Bool) (a b : Dat) (Q : Res → Prop) : Prop where
  mk ::
  run : gIn n a b Q
theorem gIn_h : gIn = hIn := by funext n a b Q; exact propext ⟨.mk, fun h => h.run⟩
structure hI0 (g : Int → Int → Int) (a b : Dat) (Q : Res → Prop) : Prop where
  mk ::
  run : gI0 g a b Q
theorem gI0_h : gI0 = hI0 := by funext g a b Q; exact propext ⟨.mk, fun h => h.run⟩
structure hB0 (g : Int → Int → Bool) (a b : Dat) (Q : Res → Prop) : Prop where
  mk ::
  run : gB0 g a b Q
theorem gB0_h : gB0 = hB0 := by funext g a b Q; exact propext ⟨.mk, fun h => h.run⟩
structure hAdd  (a b : Dat) (Q : Res → Prop) : Prop where
  mk ::
  run : gAdd  a b Q
theorem gAdd_h : gAdd = hAdd := by funext  a b Q; exact propext ⟨.mk, fun h => h.run⟩
structure hMul  (a b : Dat) (Q : Res → Prop) : Prop where
  mk ::
  run : gMul  a b Q
theorem gMul_h : gMul = hMul := by funext  a b Q; exact propext ⟨.mk, fun h => h.run⟩
structure hIx  (a b : Dat) (Q : Res → Prop) : Prop where
  mk ::
  run : gIx  a b Q
theorem gIx_h : gIx = hIx := by funext  a b Q; exact propext ⟨.mk, fun h => h.run⟩
structure hI (Cd : Int → Int → Prop) (g : Int → Int → Int) (a b : Dat) (Q : Res → Prop) : Prop where
  mk ::
  run : gI Cd g a b Q
theorem gI_h : gI = hI := by funext Cd g a b Q; exact propext ⟨.mk, fun h => h.run⟩
structure hU (g : Int → Int) (a : Dat) (Q : Res → Prop) : Prop where
  mk ::
  run : gU g a Q
theorem gU_h : gU = hU := by funext g a Q; exact propext ⟨.mk, fun h => h.run⟩
structure hBits  (a : Dat) (Q : Res → Prop) : Prop where
  mk ::
  run : gBits  a Q
theorem gBits_h : gBits = hBits := by funext  a Q; exact propext ⟨.mk, fun h => h.run⟩
structure hRevL (a : Dat) (Q : Res → Prop) : Prop where
  mk ::
  run : gRevL a Q
theorem gRevL_h : gRevL = hRevL := by funext a Q; exact propext ⟨.mk, fun h => h.run⟩
structure hEqV (n : Bool) (a b : Dat) (Q : Res → Prop) : Prop where
  mk ::
  run : gEqV n a b Q
theorem gEqV_h : gEqV = hEqV := by funext n a b Q; exact propext ⟨.mk, fun h => h.run⟩
structure hSetd (d y z : Dat) (Q : Dat → Dat → Prop) : Prop where
  mk ::
  run : gSetd d y z Q
def eSetd (dd dy dx : DE) : DE := fun env Q X => dd env (fun ro env1 => match ro with
  | .l j => withD (ownD env1 j) fun d0 => isDk d0 = true ∧ dy env1 (fun ry env2 => dx env2 (fun rx env3 => match rx with
    | .f z => withD (view env3 (fzR ry)) fun y => withD (ownD env3 j) fun d => hSetd d y z fun v d' => Q (.f v) (putO env3 j d')
    | _ => False) X) X
  | _ => False) X
theorem dSetd_h : dSetd = eSetd := by
  have : gSetd = hSetd := by funext d y z Q; exact propext ⟨.mk, fun h => h.run⟩
  unfold dSetd eSetd; rw [this] <;> rfl
structure hLen (ds : List Dat) (Q : Res → Prop) : Prop where
  mk ::
  run : gLen ds Q
theorem gLen_h : gLen = hLen := by funext ds Q; exact propext ⟨.mk, fun h => h.run⟩
structure hList (ds : List Dat) (Q : Res → Prop) : Prop where
  mk ::
  run : gList ds Q
theorem gList_h : gList = hList := by funext ds Q; exact propext ⟨.mk, fun h => h.run⟩
structure hTuple (ds : List Dat) (Q : Res → Prop) : Prop where
  mk ::
  run : gTuple ds Q
theorem gTuple_h : gTuple = hTuple := by funext ds Q; exact propext ⟨.mk, fun h => h.run⟩
structure hSum (ds : List Dat) (Q : Res → Prop) : Prop where
  mk ::
  run : gSum ds Q
theorem gSum_h : gSum = hSum := by funext ds Q; exact propext ⟨.mk, fun h => h.run⟩
structure hAll (ds : List Dat) (Q : Res → Prop) : Prop where
  mk ::
  run : gAll ds Q
theorem gAll_h : gAll = hAll := by funext ds Q; exact propext ⟨.mk, fun h => h.run⟩
structure hAny (ds : List Dat) (Q : Res → Prop) : Prop where
  mk ::
  run : gAny ds Q
theorem gAny_h : gAny = hAny := by funext ds Q; exact propext ⟨.mk, fun h => h.run⟩
structure hMax (ds : List Dat) (Q : Res → Prop) : Prop where
  mk ::
  run : gMax ds Q
theorem gMax_h : gMax = hMax := by funext ds Q; exact propext ⟨.mk, fun h => h.run⟩
structure hMin (ds : List Dat) (Q : Res → Prop) : Prop where
  mk ::
  run : gMin ds Q
theorem gMin_h : gMin = hMin := by funext ds Q; exact propext ⟨.mk, fun h => h.run⟩
structure hSorted (ds : List Dat) (Q : Res → Prop) : Prop where
  mk ::
  run : gSorted ds Q
theorem gSorted_h : gSorted = hSorted := by funext ds Q; exact propext ⟨.mk, fun h => h.run⟩
structure hInt (ds : List Dat) (Q : Res → Prop) : Prop where
  mk ::
  run : gInt ds Q
theorem gInt_h : gInt = hInt := by funext ds Q; exact propext ⟨.mk, fun h => h.run⟩
structure hIsi (ds : List Dat) (Q : Res → Prop) : Prop where
  mk ::
  run : gIsi ds Q
theorem gIsi_h : gIsi = hIsi := by funext ds Q; exact propext ⟨.mk, fun h => h.run⟩
structure hAppend (d : Dat) (ds : List Dat) (Q : Dat → Dat → Prop) : Prop where
  mk ::
  run : gAppend d ds Q
theorem gAppend_h : gAppend = hAppend := by funext d ds Q; exact propext ⟨.mk, fun h => h.run⟩
structure hClear (d : Dat) (ds : List Dat) (Q : Dat → Dat → Prop) : Prop where
  mk ::
  run : gClear d ds Q
theorem gClear_h : gClear = hClear := by funext d ds Q; exact propext ⟨.mk, fun h => h.run⟩
structure hPop (d : Dat) (ds : List Dat) (Q : Dat → Dat → Prop) : Prop where
  mk ::
  run : gPop d ds Q
theorem gPop_h : gPop = hPop := by funext d ds Q; exact propext ⟨.mk, fun h => h.run⟩
structure hPopAt (d : Dat) (ds : List Dat) (Q : Dat → Dat → Prop) : Prop where
  mk ::
  run : gPopAt d ds Q
theorem gPopAt_h : gPopAt = hPopAt := by funext d ds Q; exact propext ⟨.mk, fun h => h.run⟩
structure hInsert (d : Dat) (ds : List Dat) (Q : Dat → Dat → Prop) : Prop where
  mk ::
  run : gInsert d ds Q
theorem gInsert_h : gInsert = hInsert := by funext d ds Q; exact propext ⟨.mk, fun h => h.run⟩
structure hCount (d : Dat) (ds : List Dat) (Q : Res → Prop) : Prop where
  mk ::
  run : gCount d ds Q
theorem gCount_h : gCount = hCount := by funext d ds Q; exact propext ⟨.mk, fun h => h.run⟩
structure hIndex (d : Dat) (ds : List Dat) (Q : Res → Prop) : Prop where
  mk ::
  run : gIndex d ds Q
theorem gIndex_h : gIndex = hIndex := by funext d ds Q; exact propext ⟨.mk, fun h => h.run⟩
structure hSet (o i v : Dat) (Q : Dat → Prop) : Prop where
  mk ::
  run : gSet o i v Q
structure hSl (d : Dat) (lo hi : Option Int) (Q : Res → Prop) : Prop where
  mk ::
  run : gSl d lo hi Q
def eSet (dw da db : DE) : DS := fun D env => dw env (fun rv env1 => withD (elD rv) fun d => da env1 (fun ro env2 => match ro with
  | .l j => db env2 (fun ri env3 => withD (view env3 (fzR ri)) fun di => withD (ownD env3 j) fun d0 => hSet d0 di d fun d' => D.nx (putO env3 j d')) D.xr
  | _ => False) D.xr) D.xr
theorem dSet_h : dSet = eSet := by
  have : gSet = hSet := by funext o i v Q; exact propext ⟨.mk, fun h => h.run⟩
  unfold dSet eSet; rw [this] <;> rfl
def eSl (de : DE) (dl dh : DO) : DE := fun env Q X => de env (fun r env1 => dl env1 (fun lo env2 => dh env2 (fun hi env3 => withD (view env3 (fzR r)) fun d => hSl d lo hi fun r => Q r env3) X) X) X
theorem dSl_h : dSl = eSl := by
  have : gSl = hSl := by funext d lo hi Q; exact propext ⟨.mk, fun h => h.run⟩
  unfold dSl eSl; rw [this] <;> rfl
/-- the bits of a number -/
def blen (n : Nat) : Nat := Builtin.Int.intBits (n : Int)
theorem blen_zero : blen 0 = 0 := rfl
theorem blen_pos {n : Nat} (h : n ≠ 0) : blen n = n.log2 + 1 := by
  unfold blen Builtin.Int.intBits
  have : ((n : Int) == 0) = false := by simpa using h
  rw [this]; simp
theorem blen_le {n b : Nat} (h : n < 2 ^ b) : blen n ≤ b := intBits_le h
theorem blen_lt (n : Nat) : n < 2 ^ blen n := intBits_nat n

section
variable {i j : Int} {a b c n m : Nat} {Q : Res → Prop} {l l' : List Dat} {ns ms : List Nat} {α : Type} {f : α → Dat} {xs : List α} {A B : Prop} {d x y z : Dat}
/-! ### tests -/
theorem ifb_c {p : Prop} (h1 : p → A) (h2 : ¬ p → B) : (dc p = true → A) ∧ (dc p = false → B) := ⟨fun e => h1 (dc_iff.1 e), fun e => h2 fun q => by rw [dc_t q] at e; cases e⟩
theorem ifb_y {p : Prop} (h : p) (k : A) : (dc p = true → A) ∧ (dc p = false → B) := ⟨fun _ => k, fun e => by rw [dc_t h] at e; cases e⟩
theorem ifb_n {p : Prop} (h : ¬ p) (k : B) : (dc p = true → A) ∧ (dc p = false → B) := ⟨fun e => absurd (dc_iff.1 e) h, fun _ => k⟩
theorem ifb_b {b : Bool} (h1 : b = true → A) (h2 : b = false → B) : (b = true → A) ∧ (b = false → B) := ⟨h1, h2⟩
theorem ifb_t {b : Bool} (h : b = true) (k : A) : (b = true → A) ∧ (b = false → B) := ⟨fun _ => k, fun e => absurd (h.symm.trans e) (by decide)⟩
theorem ifb_f {b : Bool} (h : b = false) (k : B) : (b = true → A) ∧ (b = false → B) := ⟨fun e => absurd (h.symm.trans e) (by decide), fun _ => k⟩
theorem ifb_not {b : Bool} (h : (b = true → B) ∧ (b = false → A)) : ((!b) = true → A) ∧ ((!b) = false → B) := ⟨fun e => h.2 (by simpa using e), fun e => h.1 (by simpa using e)⟩
theorem ifb_xt {b : Bool} (h : (b = true → B) ∧ (b = false → A)) : ((true ^^ b) = true → A) ∧ ((true ^^ b) = false → B) := ⟨fun e => h.2 (by simpa using e), fun e => h.1 (by simpa using e)⟩
theorem ifb_xf {b : Bool} (h : (b = true → A) ∧ (b = false → B)) : ((false ^^ b) = true → A) ∧ ((false ^^ b) = false → B) := ⟨fun e => h.1 (by simpa using e), fun e => h.2 (by simpa using e)⟩
theorem ifb_dn {p : Prop} (h : (dc p = true → B) ∧ (dc p = false → A)) : (dc (¬ p) = true → A) ∧ (dc (¬ p) = false → B) := by rw [dc_not]; exact ifb_not h
theorem ifb_db {b : Bool} (h : (b = true → A) ∧ (b = false → B)) : (dc (b = true) = true → A) ∧ (dc (b = true) = false → B) := by rw [dc_b]; exact h
theorem ifb_same {u v : Bool} (h : u = v) (k : A) : ((u == v) = true → A) ∧ ((u == v) = false → B) := ifb_t (by rw [h]; exact beq_self_eq_true v) k
instance go_ifnot {b : Bool} : Go (((!b) = true → A) ∧ ((!b) = false → B)) ((b = true → B) ∧ (b = false → A)) := ⟨ifb_not⟩
instance go_ifxt {b : Bool} : Go (((true ^^ b) = true → A) ∧ ((true ^^ b) = false → B)) ((b = true → B) ∧ (b = false → A)) := ⟨ifb_xt⟩
instance go_ifxf {b : Bool} : Go (((false ^^ b) = true → A) ∧ ((false ^^ b) = false → B)) ((b = true → A) ∧ (b = false → B)) := ⟨ifb_xf⟩
instance go_ifdn {p : Prop} : Go ((dc (¬ p) = true → A) ∧ (dc (¬ p) = false → B)) ((dc p = true → B) ∧ (dc p = false → A)) := ⟨ifb_dn⟩
instance go_ifdb {b : Bool} : Go ((dc (b = true) = true → A) ∧ (dc (b = true) = false → B)) ((b = true → A) ∧ (b = false → B)) := ⟨ifb_db⟩
/-! ### whole numbers -/
instance go_xor [h : IsN i a] [g : IsN j b] : Go (hI0 Builtin.bitXor (.int i) (.int j) Q) (Q (.f (.int ((a ^^^ b : Nat) : Int)))) := ⟨fun k => .mk <| by
  show Q (.f (.int (Builtin.bitXor i j))); rw [h.eq, g.eq, bxor_nat]; exact k⟩
instance go_or [h : IsN i a] [g : IsN j b] : Go (hI0 Builtin.bitOr (.int i) (.int j) Q) (Q (.f (.int ((a ||| b : Nat) : Int)))) := ⟨fun k => .mk <| by
  show Q (.f (.int (Builtin.bitOr i j))); rw [h.eq, g.eq, bor_nat]; exact k⟩
instance go_and [h : IsN i a] [g : IsN j b] : Go (hI0 Builtin.bitAnd (.int i) (.int j) Q) (Q (.f (.int ((a &&& b : Nat) : Int)))) := ⟨fun k => .mk <| by
  show Q (.f (.int (Builtin.bitAnd i j))); rw [h.eq, g.eq, band_nat]; exact k⟩
instance go_bit : Go (hI0 Builtin.bitAnd (.int ((a / 2 ^ b : Nat) : Int)) (.int 1) Q) (Q (.f (.int ((a.testBit b).toNat : Nat)))) := ⟨fun k => .mk <| by
  show Q (.f (.int (Builtin.bitAnd _ _))); rw [← shr_nat, bit_nat]; exact k⟩
instance go_bit1 : Go (hI0 Builtin.bitAnd (.int ((popc a : Nat) : Int)) (.int 1) Q) (Q (.f (.int ((par a : Nat) : Int)))) := ⟨fun k => .mk <| by
  show Q (.f (.int (Builtin.bitAnd _ _))); rw [band_one]; exact k⟩
theorem g_sub [h : IsN i a] [g : IsN j b] (e : b ≤ a) (k : Q (.f (.int ((a - b : Nat) : Int)))) : hI0 (fun i j => i - j) (.int i) (.int j) Q := .mk <| by
  show Q (.f (.int (i - j))); rw [h.eq, g.eq, show (a : Int) - (b : Int) = ((a - b : Nat) : Int) by omega]; exact k
theorem g_subI (k : Q (.f (.int (i - j)))) : hI0 (fun i j => i - j) (.int i) (.int j) Q := .mk k
instance go_addI0 [h : IsN i a] [g : IsN j b] : Go (hI0 (fun i j => i + j) (.int i) (.int j) Q) (Q (.f (.int ((a + b : Nat) : Int)))) := ⟨fun k => .mk <| by
  show Q (.f (.int (i + j))); rw [h.eq, g.eq]; exact k⟩
instance (priority := low) go_addI : Go (hAdd (.int i) (.int j) Q) (Q (.f (.int (i + j)))) := ⟨fun k => .mk k⟩
instance go_add [h : IsN i a] [g : IsN j b] : Go (hAdd (.int i) (.int j) Q) (Q (.f (.int ((a + b : Nat) : Int)))) := ⟨fun k => .mk <| by
  show Q (.f (.int (i + j))); rw [h.eq, g.eq]; exact k⟩
instance (priority := low) go_addL : Go (hAdd (.lst l) (.lst l') Q) (l.length + l'.length ≤ 100000 ∧ Q (.n (.lst (l ++ l')))) := ⟨fun k => .mk k⟩
instance go_addN [h : IsNs l ns] [g : IsNs l' ms] : Go (hAdd (.lst l) (.lst l') Q) (ns.length + ms.length ≤ 100000 ∧ Q (.n (.lst (natsD (ns ++ ms))))) := ⟨fun k => .mk <| by
  rw [h.eq, g.eq]; show _ ∧ Q (.n (.lst (_ ++ _))); rw [natsD_len, natsD_len, ← natsD_app]; exact k⟩
instance (priority := low) go_addT : Go (hAdd (.tup l) (.tup l') Q) (l.length + l'.length ≤ 100000 ∧ Q (.f (.tup (l ++ l')))) := ⟨fun k => .mk k⟩
instance go_addNT [h : IsNs l ns] [g : IsNs l' ms] : Go (hAdd (.tup l) (.tup l') Q) (ns.length + ms.length ≤ 100000 ∧ Q (.f (.tup (natsD (ns ++ ms))))) := ⟨fun k => .mk <| by
  rw [h.eq, g.eq]; show _ ∧ Q (.f (.tup (_ ++ _))); rw [natsD_len, natsD_len, ← natsD_app]; exact k⟩
instance (priority := 500) go_addP {xs ys : List (Nat × Nat)} [h : IsPs l xs] [g : IsPs l' ys] : Go (hAdd (.lst l) (.lst l') Q) (xs.length + ys.length ≤ 100000 ∧ Q (.n (.lst ((xs ++ ys).map pairD)))) := ⟨fun k => .mk <| by
  rw [h.eq, g.eq]
  show _ ∧ Q (.n (.lst (_ ++ _))); rw [List.length_map, List.length_map, ← List.map_append]; exact k⟩
instance (priority := 500) go_addPT {xs ys : List (Nat × Nat)} [h : IsPs l xs] [g : IsPs l' ys] : Go (hAdd (.tup l) (.tup l') Q) (xs.length + ys.length ≤ 100000 ∧ Q (.f (.tup ((xs ++ ys).map pairD)))) := ⟨fun k => .mk <| by
  rw [h.eq, g.eq]
  show _ ∧ Q (.f (.tup (_ ++ _))); rw [List.length_map, List.length_map, ← List.map_append]; exact k⟩
instance go_mulN [h : IsN i a] [g : IsN j b] : Go (hMul (.int i) (.int j) Q) ((a < 2 ^ 64 ∨ b < 2 ^ 64) ∧ Q (.f (.int ((a * b : Nat) : Int)))) := ⟨fun k => .mk <| by
  rw [h.eq, g.eq]
  refine ⟨.inl ?_, ?_⟩
  · rcases k.1 with z | z
    · exact .inl ⟨by omega, by omega⟩
    · exact .inr ⟨by omega, by omega⟩
  · rw [← Int.natCast_mul]; exact k.2⟩
instance go_rep1 [h : IsN i a] : Go (hMul (.lst [d]) (.int i) Q) (a ≤ 100000 ∧ Q (.n (.lst (List.replicate a d)))) := ⟨fun k => .mk <| by
  rw [h.eq]
  refine ⟨by omega, by omega, by rw [List.length_singleton, Int.toNat_natCast]; omega, ?_⟩
  rw [Int.toNat_natCast, show (List.replicate a [d]).flatten = List.replicate a d by
    clear k h
    induction a with
    | zero => rfl
    | succ a ih => rw [List.replicate_succ, List.flatten_cons, ih]; rfl]
  exact k.2⟩
instance go_repN [h : IsN i a] [g : IsN j b] : Go (hMul (.lst [.int j]) (.int i) Q) (a ≤ 100000 ∧ Q (.n (.lst (natsD (List.replicate a b))))) := ⟨fun k => by
  refine go_rep1.go ⟨k.1, ?_⟩; rw [g.eq, ← natsD_rep]; exact k.2⟩
instance (priority := low) go_shl [h : IsN i a] [g : IsN j b] : Go (hI CSh (fun i j => i * 2 ^ j.toNat) (.int i) (.int j) Q) ((∃ c, a < 2 ^ c ∧ c + b ≤ 2 ^ 27) ∧ Q (.f (.int ((a * 2 ^ b : Nat) : Int)))) := ⟨fun k => .mk <| by
  rw [h.eq, g.eq]
  obtain ⟨⟨c, h1, h2⟩, k⟩ := k
  refine ⟨.inr ⟨by omega, by have : Builtin.Int.intBits (a : Int) ≤ c := blen_le h1; omega⟩, ?_⟩
  show Q (.f (.int ((a : Int) * 2 ^ (b : Int).toNat))); rw [shl_nat]; exact k⟩
instance go_shl1 [g : IsN j b] : Go (hI CSh (fun i j => i * 2 ^ j.toNat) (.int 1) (.int j) Q) (b ≤ 1000000 ∧ Q (.f (.int ((2 ^ b : Nat) : Int)))) := ⟨fun k => .mk <| by
  rw [g.eq]
  refine ⟨csh k.1, ?_⟩
  show Q (.f (.int ((1 : Int) * 2 ^ (b : Int).toNat))); rw [one_shl]; exact k.2⟩
instance go_shlB [g : IsN j b] {u : Bool} : Go (hI CSh (fun i j => i * 2 ^ j.toNat) (.int ((u.toNat : Nat) : Int)) (.int j) Q) (b ≤ 1000000 ∧ Q (.f (.int ((u.toNat * 2 ^ b : Nat) : Int)))) := ⟨fun k => go_shl.go ⟨⟨1, by cases u <;> decide, by omega⟩, k.2⟩⟩
instance go_shr [h : IsN i a] [g : IsN j b] : Go (hI (fun _ j => 0 ≤ j) (fun i j => i / 2 ^ j.toNat) (.int i) (.int j) Q) (Q (.f (.int ((a / 2 ^ b : Nat) : Int)))) := ⟨fun k => .mk <| by
  rw [h.eq, g.eq]
  refine ⟨by omega, ?_⟩
  show Q (.f (.int ((a : Int) / 2 ^ (b : Int).toNat))); rw [shr_nat]; exact k⟩
instance go_mod [h : IsN i a] [g : IsN j b] : Go (hI (fun _ j => 0 < j) (fun i j => i % j) (.int i) (.int j) Q) (0 < b ∧ Q (.f (.int ((a % b : Nat) : Int)))) := ⟨fun k => .mk <| by
  rw [h.eq, g.eq]
  refine ⟨by omega, ?_⟩
  show Q (.f (.int ((a : Int) % (b : Int)))); rw [← Int.natCast_emod]; exact k.2⟩
theorem natAbs_log {b : Nat} (h : b < 2 ^ 5000) : ((b : Int).natAbs).log2 < 9000 := by
  rw [Int.natAbs_natCast]
  by_cases z : b = 0
  · subst z; decide
  · have := (Nat.log2_lt z).2 h; omega
instance go_fdiv [h : IsN i a] [g : IsN j b] : Go (hI CDivW (fun i j => i / j) (.int i) (.int j) Q) ((0 < b ∧ b < 2 ^ 64) ∧ Q (.f (.int ((a / b : Nat) : Int)))) := ⟨fun k => .mk <| by
  rw [h.eq, g.eq]
  refine ⟨⟨by omega, natAbs_log (lt5000 k.1.2)⟩, ?_⟩
  show Q (.f (.int ((a : Int) / (b : Int)))); rw [← Int.natCast_ediv]; exact k.2⟩
instance go_bits [h : IsN i a] : Go (hBits (.int i) Q) (Q (.f (.int ((blen a : Nat) : Int)))) := ⟨fun k => .mk <| by rw [h.eq]; exact k⟩
instance go_neg : Go (hU (fun i => -i) (.int i) Q) (Q (.f (.int (-i)))) := ⟨fun k => .mk k⟩
instance (priority := low) go_ltI : Go (hB0 (fun i j => decide (i < j)) (.int i) (.int j) Q) (Q (.f (.bl (dc (i < j))))) := ⟨fun k => .mk <| by show Q (.f (.bl (decide _))); rw [← dc_eq]; exact k⟩
instance (priority := low) go_leI : Go (hB0 (fun i j => decide (i ≤ j)) (.int i) (.int j) Q) (Q (.f (.bl (dc (i ≤ j))))) := ⟨fun k => .mk <| by show Q (.f (.bl (decide _))); rw [← dc_eq]; exact k⟩
instance (priority := low) go_gtI : Go (hB0 (fun i j => decide (j < i)) (.int i) (.int j) Q) (Q (.f (.bl (dc (j < i))))) := ⟨fun k => .mk <| by show Q (.f (.bl (decide _))); rw [← dc_eq]; exact k⟩
instance (priority := low) go_geI : Go (hB0 (fun i j => decide (j ≤ i)) (.int i) (.int j) Q) (Q (.f (.bl (dc (j ≤ i))))) := ⟨fun k => .mk <| by show Q (.f (.bl (decide _))); rw [← dc_eq]; exact k⟩
instance go_lt [h : IsN i a] [g : IsN j b] : Go (hB0 (fun i j => decide (i < j)) (.int i) (.int j) Q) (Q (.f (.bl (dc (a < b))))) := ⟨fun k => by
  refine go_ltI.go ?_; rw [h.eq, g.eq, Int.ofNat_lt]; exact k⟩
instance go_le [h : IsN i a] [g : IsN j b] : Go (hB0 (fun i j => decide (i ≤ j)) (.int i) (.int j) Q) (Q (.f (.bl (dc (a ≤ b))))) := ⟨fun k => by
  refine go_leI.go ?_; rw [h.eq, g.eq, Int.ofNat_le]; exact k⟩
instance go_gt [h : IsN i a] [g : IsN j b] : Go (hB0 (fun i j => decide (j < i)) (.int i) (.int j) Q) (Q (.f (.bl (dc (b < a))))) := ⟨fun k => by
  refine go_gtI.go ?_; rw [h.eq, g.eq, Int.ofNat_lt]; exact k⟩
instance go_ge [h : IsN i a] [g : IsN j b] : Go (hB0 (fun i j => decide (j ≤ i)) (.int i) (.int j) Q) (Q (.f (.bl (dc (b ≤ a))))) := ⟨fun k => by
  refine go_geI.go ?_; rw [h.eq, g.eq, Int.ofNat_le]; exact k⟩
/-! ### equality -/
class EqD (n : Nat) (a b : Dat) (p : outParam Prop) : Prop where
  la : pln n a = true
  lb : pln n b = true
  iff : a = b ↔ p
theorem gEq_pln {s : Bool} (ha : pln 8 x = true) (hb : pln 8 y = true) (k : Q (.f (.bl (s ^^ deq x y)))) : gEq s x y Q := by
  unfold gEq
  split
  · cases ha
  · exact ⟨ha, hb, k⟩
instance go_eq {p : Prop} [h : EqD 8 x y p] : Go (hEq false x y Q) (Q (.f (.bl (dc p)))) := ⟨fun k => .mk <| gEq_pln h.la h.lb (by rw [Bool.false_xor, deq_dc, dc_congr h.iff]; exact k)⟩
instance go_ne {p : Prop} [h : EqD 8 x y p] : Go (hEq true x y Q) (Q (.f (.bl (dc (¬ p))))) := ⟨fun k => .mk <| gEq_pln h.la h.lb (by rw [Bool.true_xor, deq_dc, dc_congr h.iff, ← dc_not]; exact k)⟩
instance go_eqB {u v : Bool} : Go (hEq false (.bl u) (.bl v) Q) (Q (.f (.bl (u == v)))) := ⟨fun k => .mk <| by show Q (.f (.bl (false ^^ _))); rw [Bool.false_xor]; exact k⟩
instance go_neB {u v : Bool} : Go (hEq true (.bl u) (.bl v) Q) (Q (.f (.bl (!(u == v))))) := ⟨fun k => .mk <| by show Q (.f (.bl (true ^^ _))); rw [Bool.true_xor]; exact k⟩
theorem pln_i (n : Nat) (i : Int) : pln n (.int i) = true := by cases n <;> rfl
instance (priority := low) eqD_I : EqD n (.int i) (.int j) (i = j) := ⟨pln_i n i, pln_i n j, ⟨Dat.int.inj, fun e => by rw [e]⟩⟩
instance eqD_N [h : IsN i a] [g : IsN j b] : EqD n (.int i) (.int j) (a = b) := ⟨pln_i n i, pln_i n j, by
  rw [h.eq, g.eq]; exact ⟨fun e => by have := Dat.int.inj e; omega, fun e => by rw [e]⟩⟩
instance eqD_b1 {u : Bool} : EqD n (.int ((u.toNat : Nat) : Int)) (.int 1) (u = true) := ⟨pln_i n _, pln_i n _, by cases u <;> simp⟩
instance eqD_b0 {u : Bool} : EqD n (.int ((u.toNat : Nat) : Int)) (.int 0) (¬ u = true) := ⟨pln_i n _, pln_i n _, by cases u <;> simp⟩
theorem pln_ns (n : Nat) (l : List Nat) : (natsD l).all (pln n) = true := by
  rw [natsD_map, List.all_map, List.all_eq_true]; exact fun x _ => pln_i n _
instance eqD_L [h : IsNs l ns] [g : IsNs l' ms] : EqD (n + 1) (.lst l) (.lst l') (ns = ms) := ⟨by rw [h.eq]; exact pln_ns n _, by rw [g.eq]; exact pln_ns n _, by
  rw [h.eq, g.eq]; exact ⟨fun e => natsD_inj (Dat.lst.inj e), fun e => by rw [e]⟩⟩
instance eqD_T [h : IsNs l ns] [g : IsNs l' ms] : EqD (n + 1) (.tup l) (.tup l') (ns = ms) := ⟨by rw [h.eq]; exact pln_ns n _, by rw [g.eq]; exact pln_ns n _, by
  rw [h.eq, g.eq]; exact ⟨fun e => natsD_inj (Dat.tup.inj e), fun e => by rw [e]⟩⟩
theorem pairD_inj {p q : Nat × Nat} (h : pairD p = pairD q) : p = q := by
  have := Dat.tup.inj h
  simp only [List.cons.injEq, Dat.int.injEq, and_true] at this
  exact Prod.ext (by omega) (by omega)
theorem pairsD_inj : ∀ {p q : List (Nat × Nat)}, p.map pairD = q.map pairD → p = q
  | [], [], _ => rfl
  | [], _ :: _, h => by cases h
  | _ :: _, [], h => by cases h
  | a :: p, b :: q, h => by
    rw [List.map_cons, List.map_cons] at h
    obtain ⟨h1, h2⟩ := List.cons.inj h
    rw [pairD_inj h1, pairsD_inj h2]
theorem pln_ps (n : Nat) (l : List (Nat × Nat)) : (l.map pairD).all (pln (n + 1)) = true := by
  rw [List.all_map, List.all_eq_true]; exact fun x _ => by show pln (n + 1) (pairD x) = true; unfold pairD; show ([_, _] : List Dat).all (pln n) = true; simp [pln_i]
instance (priority := 500) eqD_PL {p q : List (Nat × Nat)} [h : IsPs l p] [g : IsPs l' q] : EqD (n + 2) (.lst l) (.lst l') (p = q) := ⟨by rw [h.eq]; exact pln_ps n p, by rw [g.eq]; exact pln_ps n q, by rw [h.eq, g.eq]; exact ⟨fun e => pairsD_inj (Dat.lst.inj e), fun e => by rw [e]⟩⟩
instance (priority := 500) eqD_PT {p q : List (Nat × Nat)} [h : IsPs l p] [g : IsPs l' q] : EqD (n + 2) (.tup l) (.tup l') (p = q) := ⟨by rw [h.eq]; exact pln_ps n p, by rw [g.eq]; exact pln_ps n q, by rw [h.eq, g.eq]; exact ⟨fun e => pairsD_inj (Dat.tup.inj e), fun e => by rw [e]⟩⟩
instance eqD_PP {p q : Nat × Nat} : EqD (n + 1) (pairD p) (pairD q) (p = q) := ⟨by show ([_, _] : List Dat).all (pln n) = true; simp [pln_i], by show ([_, _] : List Dat).all (pln n) = true; simp [pln_i], ⟨pairD_inj, fun e => by rw [e]⟩⟩
theorem pln_net (n m : Nat) (js : List (Nat × Nat)) (os : List Nat) : pln (n + 3) (netD m js os) = true := by
  show ([_, _, _] : List Dat).all (pln (n + 2)) = true
  have h1 : pln (n + 2) (.tup (js.map pairD)) = true := pln_ps n js
  have h2 : pln (n + 2) (.tup (natsD os)) = true := pln_ns (n + 1) os
  rw [List.all_cons, List.all_cons, List.all_cons, pln_i, h1, h2]; rfl
instance eqD_net {x y : Dat} {m m' : Nat} {js js' : List (Nat × Nat)} {os os' : List Nat} [h : IsNet x m js os] [g : IsNet y m' js' os'] : EqD (n + 3) x y (m = m' ∧ js = js' ∧ os = os') := ⟨by rw [h.eq]; exact pln_net n m js os, by rw [g.eq]; exact pln_net n m' js' os', by
  rw [h.eq, g.eq]
  unfold netD
  refine ⟨fun e => ?_, fun ⟨a, b, c⟩ => by rw [a, b, c]⟩
  have := Dat.tup.inj e
  simp only [List.cons.injEq, Dat.int.injEq, Dat.tup.injEq, and_true] at this
  exact ⟨by omega, pairsD_inj this.2.1, natsD_inj this.2.2⟩⟩
theorem pln_non (n : Nat) : pln n .non = true := by cases n <;> rfl
instance eqD_nn : EqD n .non .non True := ⟨pln_non n, pln_non n, by simp⟩
instance eqD_in : EqD n (.int i) .non False := ⟨pln_i n i, pln_non n, by simp⟩
instance eqD_ni : EqD n .non (.int i) False := ⟨pln_non n, pln_i n i, by simp⟩
instance eqD_Ln [h : IsNs l ns] : EqD (n + 1) (.lst l) .non False := ⟨by rw [h.eq]; exact pln_ns n _, pln_non _, by simp⟩
instance eqD_nL [h : IsNs l ns] : EqD (n + 1) .non (.lst l) False := ⟨pln_non _, by rw [h.eq]; exact pln_ns n _, by simp⟩
/-! .. with truths and texts within -/
class LayS (s : Str) : Prop where
  eq : PyData.canLay0 (.str s) = true
class Pv (n : Nat) (d : Dat) : Prop where
  eq : plv n d = true
class PvL (n : Nat) (l : List Dat) : Prop where
  eq : l.all (plv n) = true
instance pv_i : Pv n (.int i) := ⟨by cases n <;> rfl⟩
instance pv_b {u : Bool} : Pv n (.bl u) := ⟨by cases n <;> rfl⟩
instance pv_non : Pv n .non := ⟨by cases n <;> rfl⟩
instance pv_s {s : Str} [h : LayS s] : Pv n (.str s) := ⟨by cases n <;> exact h.eq⟩
instance pvL_nil : PvL n [] := ⟨rfl⟩
instance pvL_cons [h : Pv n x] [g : PvL n l] : PvL n (x :: l) := ⟨by rw [List.all_cons, h.eq, g.eq]; rfl⟩
instance pvL_nats {ms : List Nat} : PvL n (natsD ms) := ⟨by rw [natsD_map, List.all_map, List.all_eq_true]; exact fun x _ => pv_i.eq⟩
instance (priority := 500) pvL_map [h : ∀ x, Pv n (f x)] : PvL n (xs.map f) := ⟨by rw [List.all_map, List.all_eq_true]; exact fun x _ => (h x).eq⟩
instance pvL_app [h : PvL n l] [g : PvL n l'] : PvL n (l ++ l') := ⟨by rw [List.all_append, h.eq, g.eq]; rfl⟩
instance pv_t [h : PvL n l] : Pv (n + 1) (.tup l) := ⟨h.eq⟩
instance pv_l [h : PvL n l] : Pv (n + 1) (.lst l) := ⟨h.eq⟩
instance pv_p {p : Nat × Nat} : Pv (n + 1) (pairD p) := ⟨(pv_t (l := [.int (p.1 : Nat), .int (p.2 : Nat)])).eq⟩
instance pv_net {m : Nat} {js : List (Nat × Nat)} {os : List Nat} : Pv (n + 3) (netD m js os) := ⟨pln_plv _ _ (pln_net n m js os)⟩
class EqV (n : Nat) (a b : Dat) (p : outParam Prop) : Prop where
  la : plv n a = true
  lb : plv n b = true
  iff : eqvD a b = true ↔ p
class EqVL (n : Nat) (a b : List Dat) (p : outParam Prop) : Prop where
  la : a.all (plv n) = true
  lb : b.all (plv n) = true
  iff : PyData.eqvAll (toPys a) (toPys b) = true ↔ p
instance go_eqV {p : Prop} [h : EqV 40 x y p] : Go (hEqV false x y Q) (Q (.f (.bl (dc p)))) := ⟨fun k => .mk ⟨h.la, h.lb, by rw [Bool.false_xor, ← dc_b (eqvD x y), dc_congr h.iff]; exact k⟩⟩
instance go_neV {p : Prop} [h : EqV 40 x y p] : Go (hEqV true x y Q) (Q (.f (.bl (dc (¬ p))))) := ⟨fun k => .mk ⟨h.la, h.lb, by rw [Bool.true_xor, ← dc_b (eqvD x y), dc_congr h.iff, ← dc_not]; exact k⟩⟩
instance (priority := 800) eqV_D {p : Prop} [h : EqD n x y p] : EqV n x y p := ⟨pln_plv n x h.la, pln_plv n y h.lb, (eqv_pln n x y h.la h.lb).trans h.iff⟩
instance eqV_B {u v : Bool} : EqV n (.bl u) (.bl v) (u = v) := ⟨pv_b.eq, pv_b.eq, by unfold eqvD; simp [toPy, PyData.eqv]⟩
instance eqV_S {s t : Str} [h : LayS s] [g : LayS t] : EqV n (.str s) (.str t) (s = t) := ⟨pv_s.eq, pv_s.eq, by unfold eqvD; simp [toPy, PyData.eqv]⟩
instance eqV_Sn {s : Str} [h : LayS s] : EqV n (.str s) .non False := ⟨pv_s.eq, pv_non.eq, by unfold eqvD; simp [toPy, PyData.eqv]⟩
instance eqV_tn [h : Pv n (.tup l)] : EqV n (.tup l) .non False := ⟨h.eq, pv_non.eq, by unfold eqvD; simp [toPy, PyData.eqv]⟩
instance eqV_nt [h : Pv n (.tup l)] : EqV n .non (.tup l) False := ⟨pv_non.eq, h.eq, by unfold eqvD; simp [toPy, PyData.eqv]⟩
instance (priority := 400) eqV_T {p : Prop} [h : EqVL n l l' p] : EqV (n + 1) (.tup l) (.tup l') p := ⟨h.la, h.lb, by unfold eqvD; simp only [toPy, PyData.eqv]; exact h.iff⟩
instance (priority := 400) eqV_L {p : Prop} [h : EqVL n l l' p] : EqV (n + 1) (.lst l) (.lst l') p := ⟨h.la, h.lb, by unfold eqvD; simp only [toPy, PyData.eqv]; exact h.iff⟩
instance eqVL_nil : EqVL n [] [] True := ⟨rfl, rfl, by simp [toPys, PyData.eqvAll]⟩
instance eqVL_cons {p q : Prop} [h : EqV n x y p] [g : EqVL n l l' q] : EqVL n (x :: l) (y :: l') (p ∧ q) := ⟨by rw [List.all_cons, h.la, g.la]; rfl, by rw [List.all_cons, h.lb, g.lb]; rfl, by
  simp only [toPys, PyData.eqvAll, Bool.and_eq_true]
  exact and_congr h.iff g.iff⟩
instance eqVL_nc [h : PvL n (y :: l')] : EqVL n [] (y :: l') False := ⟨rfl, h.eq, by simp [toPys, PyData.eqvAll]⟩
instance eqVL_cn [h : PvL n (y :: l')] : EqVL n (y :: l') [] False := ⟨h.eq, rfl, by simp [toPys, PyData.eqvAll]⟩
instance go_isn {s : Bool} : Go (hIs s x .non Q) (Q (.f (.bl (s ^^ isNon x)))) := ⟨fun k => .mk k⟩
instance go_isb {s u v : Bool} : Go (hIs s (.bl u) (.bl v) Q) (Q (.f (.bl (s ^^ (u == v))))) := ⟨fun k => .mk k⟩
/-! ### lists -/
theorem atI_getD (h : n < ns.length) : atI (natsD ns) (n : Int) = some (.int ((ns.getD n 0 : Nat) : Int)) := atI_g h
instance go_ixL [h : IsNs l ns] [g : IsN j n] : Go (hIx (.lst l) (.int j) Q) (n < ns.length ∧ Q (.f (.int ((ns.getD n 0 : Nat) : Int)))) := ⟨fun k => .mk <| by
  rw [h.eq, g.eq]; exact Got.mk ⟨_, atI_getD k.1, k.2⟩⟩
instance go_ixT [h : IsNs l ns] [g : IsN j n] : Go (hIx (.tup l) (.int j) Q) (n < ns.length ∧ Q (.f (.int ((ns.getD n 0 : Nat) : Int)))) := ⟨fun k => .mk <| by
  rw [h.eq, g.eq]; exact Got.mk ⟨_, atI_getD k.1, k.2⟩⟩
theorem atI_mp {x : α} (h : xs[n]? = some x) : atI (xs.map f) (n : Int) = some (f x) := atI_nat (by rw [List.getElem?_map, h]; rfl)
instance (priority := 500) go_ixM [g : IsN j n] : Go (hIx (.lst (xs.map f)) (.int j) Q) (n < xs.length ∧ ∀ x, xs[n]? = some x → Q (.f (f x))) := ⟨fun k => .mk <| by
  rw [g.eq]; exact Got.mk ⟨_, atI_mp (List.getElem?_eq_getElem k.1), k.2 _ (List.getElem?_eq_getElem k.1)⟩⟩
instance (priority := 500) go_ixMT [g : IsN j n] : Go (hIx (.tup (xs.map f)) (.int j) Q) (n < xs.length ∧ ∀ x, xs[n]? = some x → Q (.f (f x))) := ⟨fun k => .mk <| by
  rw [g.eq]; exact Got.mk ⟨_, atI_mp (List.getElem?_eq_getElem k.1), k.2 _ (List.getElem?_eq_getElem k.1)⟩⟩
theorem atI_end (h : 0 < ns.length) : atI (natsD ns) (-1) = some (.int ((ns.getD (ns.length - 1) 0 : Nat) : Int)) := by
  have e : ns = ns.dropLast ++ [ns.getD (ns.length - 1) 0] := by
    have z : ns ≠ [] := fun z => by rw [z] at h; cases h
    rw [List.getD_eq_getElem?_getD, List.getElem?_eq_getElem (by omega), Option.getD_some, ← List.getLast_eq_getElem z, List.dropLast_concat_getLast]
  have := atI_last (natsD ns.dropLast) (.int ((ns.getD (ns.length - 1) 0 : Nat) : Int))
  rw [natsD_snoc, ← e] at this
  exact this
instance go_ixLast [h : IsNs l ns] : Go (hIx (.lst l) (.int (-1)) Q) (0 < ns.length ∧ Q (.f (.int ((ns.getD (ns.length - 1) 0 : Nat) : Int)))) := ⟨fun k => .mk <| by
  rw [h.eq]; exact Got.mk ⟨_, atI_end k.1, k.2⟩⟩
theorem atI_endM {x : α} (h : xs[xs.length - 1]? = some x) : atI (xs.map f) (-1) = some (f x) := by
  have hl := (List.getElem?_eq_some_iff.1 h).1
  have z : xs ≠ [] := fun z => by rw [z] at h; cases h
  have e : xs = xs.dropLast ++ [x] := by
    rw [List.getElem?_eq_getElem hl, ← List.getLast_eq_getElem z] at h
    cases h
    exact (List.dropLast_concat_getLast z).symm
  have := atI_last (xs.dropLast.map f) (f x)
  rw [show xs.dropLast.map f ++ [f x] = (xs.dropLast ++ [x]).map f by simp, ← e] at this
  exact this
instance (priority := 500) go_ixEndM : Go (hIx (.lst (xs.map f)) (.int (-1)) Q) (0 < xs.length ∧ ∀ x, xs[xs.length - 1]? = some x → Q (.f (f x))) := ⟨fun k => .mk <| by
  have e : xs[xs.length - 1]? = some (xs[xs.length - 1]'(by omega)) := List.getElem?_eq_getElem (by omega)
  exact Got.mk ⟨_, atI_endM e, k.2 _ e⟩⟩
instance go_ixB [h : IsN i a] [g : IsN j b] {u : Bool} : Go (hIx (.lst [.int i, .int j]) (.int ((u.toNat : Nat) : Int)) Q) (Q (.f (.int ((bif u then b else a : Nat) : Int)))) := ⟨fun k => .mk <| by
  rw [h.eq, g.eq]
  cases u
  · exact Got.mk ⟨_, atI_nat (j := 0) rfl, k⟩
  · exact Got.mk ⟨_, atI_nat (j := 1) rfl, k⟩⟩
instance (priority := 1100) go_l0N : Go (hIx (.lst (natsD (a :: ns))) (.int 0) Q) (Q (.f (.int ((a : Nat) : Int)))) := ⟨fun k => .mk <| Got.mk ⟨_, atI_nat (j := 0) rfl, k⟩⟩
instance (priority := 1100) go_l1N : Go (hIx (.lst (natsD (a :: b :: ns))) (.int 1) Q) (Q (.f (.int ((b : Nat) : Int)))) := ⟨fun k => .mk <| Got.mk ⟨_, atI_nat (j := 1) rfl, k⟩⟩
instance (priority := 400) go_ll0 : Go (hIx (.lst (x :: l)) (.int 0) Q) (Q (.f x)) := ⟨fun k => .mk <| Got.mk ⟨_, atI_nat (j := 0) rfl, k⟩⟩
instance (priority := 400) go_ll1 : Go (hIx (.lst (x :: y :: l)) (.int 1) Q) (Q (.f y)) := ⟨fun k => .mk <| Got.mk ⟨_, atI_nat (j := 1) rfl, k⟩⟩
instance (priority := 400) go_ll2 : Go (hIx (.lst (x :: y :: z :: l)) (.int 2) Q) (Q (.f z)) := ⟨fun k => .mk <| Got.mk ⟨_, atI_nat (j := 2) rfl, k⟩⟩
instance (priority := 400) go_ll3 {w : Dat} : Go (hIx (.lst (x :: y :: z :: w :: l)) (.int 3) Q) (Q (.f w)) := ⟨fun k => .mk <| Got.mk ⟨_, atI_nat (j := 3) rfl, k⟩⟩
instance go_t0 : Go (hIx (.tup (x :: l)) (.int 0) Q) (Q (.f x)) := ⟨fun k => .mk <| Got.mk ⟨_, atI_nat (j := 0) rfl, k⟩⟩
instance go_t1 : Go (hIx (.tup (x :: y :: l)) (.int 1) Q) (Q (.f y)) := ⟨fun k => .mk <| Got.mk ⟨_, atI_nat (j := 1) rfl, k⟩⟩
instance go_t2 : Go (hIx (.tup (x :: y :: z :: l)) (.int 2) Q) (Q (.f z)) := ⟨fun k => .mk <| Got.mk ⟨_, atI_nat (j := 2) rfl, k⟩⟩
instance go_p0 {p : Nat × Nat} : Go (hIx (pairD p) (.int 0) Q) (Q (.f (.int ((p.1 : Nat) : Int)))) := ⟨fun k => .mk <| Got.mk ⟨_, atI_nat (j := 0) rfl, k⟩⟩
instance go_p1 {p : Nat × Nat} : Go (hIx (pairD p) (.int 1) Q) (Q (.f (.int ((p.2 : Nat) : Int)))) := ⟨fun k => .mk <| Got.mk ⟨_, atI_nat (j := 1) rfl, k⟩⟩
instance go_n0 {m : Nat} {js : List (Nat × Nat)} {os : List Nat} : Go (hIx (netD m js os) (.int 0) Q) (Q (.f (.int (m : Int)))) := ⟨fun k => .mk <| Got.mk ⟨_, atI_nat (j := 0) rfl, k⟩⟩
instance go_n1 {m : Nat} {js : List (Nat × Nat)} {os : List Nat} : Go (hIx (netD m js os) (.int 1) Q) (Q (.f (.tup (js.map pairD)))) := ⟨fun k => .mk <| Got.mk ⟨_, atI_nat (j := 1) rfl, k⟩⟩
instance go_n2 {m : Nat} {js : List (Nat × Nat)} {os : List Nat} : Go (hIx (netD m js os) (.int 2) Q) (Q (.f (.tup (natsD os)))) := ⟨fun k => .mk <| Got.mk ⟨_, atI_nat (j := 2) rfl, k⟩⟩
instance (priority := low) go_lenL : Go (hLen [.lst l] Q) (Q (.f (.int ((l.length : Nat) : Int)))) := ⟨fun k => .mk k⟩
instance (priority := low) go_lenT : Go (hLen [.tup l] Q) (Q (.f (.int ((l.length : Nat) : Int)))) := ⟨fun k => .mk k⟩
instance (priority := 500) go_lenLM : Go (hLen [.lst (xs.map f)] Q) (Q (.f (.int ((xs.length : Nat) : Int)))) := ⟨fun k => go_lenL.go (by rw [List.length_map]; exact k)⟩
instance (priority := 500) go_lenTM : Go (hLen [.tup (xs.map f)] Q) (Q (.f (.int ((xs.length : Nat) : Int)))) := ⟨fun k => go_lenT.go (by rw [List.length_map]; exact k)⟩
instance go_lenLN [h : IsNs l ns] : Go (hLen [.lst l] Q) (Q (.f (.int ((ns.length : Nat) : Int)))) := ⟨fun k => go_lenL.go (by rw [h.eq, natsD_len]; exact k)⟩
instance go_lenTN [h : IsNs l ns] : Go (hLen [.tup l] Q) (Q (.f (.int ((ns.length : Nat) : Int)))) := ⟨fun k => go_lenT.go (by rw [h.eq, natsD_len]; exact k)⟩
instance go_lenNet {m : Nat} {js : List (Nat × Nat)} {os : List Nat} : Go (hLen [netD m js os] Q) (Q (.f (.int ((3 : Nat) : Int)))) := ⟨fun k => .mk k⟩
instance go_lenP {p : Nat × Nat} : Go (hLen [pairD p] Q) (Q (.f (.int ((2 : Nat) : Int)))) := ⟨fun k => .mk k⟩
instance (priority := low) go_revL : Go (hRevL (.lst l) Q) (Q (.n (.lst l.reverse))) := ⟨fun k => .mk k⟩
instance go_revN [h : IsNs l ns] : Go (hRevL (.lst l) Q) (Q (.n (.lst (natsD ns.reverse)))) := ⟨fun k => .mk (by rw [h.eq]; show Q _; rw [← natsD_rev]; exact k)⟩
instance (priority := 500) go_revM : Go (hRevL (.lst (xs.map f)) Q) (Q (.n (.lst (xs.reverse.map f)))) := ⟨fun k => .mk (by show Q _; rw [← List.map_reverse]; exact k)⟩
instance go_list : Go (hList [.lst l] Q) (Q (.n (.lst l))) := ⟨fun k => .mk k⟩
instance go_listT : Go (hList [.tup l] Q) (Q (.n (.lst l))) := ⟨fun k => .mk k⟩
instance go_tup : Go (hTuple [.lst l] Q) (Q (.f (.tup l))) := ⟨fun k => .mk k⟩
instance go_tupT : Go (hTuple [.tup l] Q) (Q (.f (.tup l))) := ⟨fun k => .mk k⟩
instance go_sum [h : IsNs l ns] : Go (hSum [.lst l] Q) (Q (.f (.int ((ns.sum : Nat) : Int)))) := ⟨fun k => .mk <| IntsL.mk ⟨iN ns, h.eq, by rw [sum_iN]; exact k⟩⟩
instance go_max [h : IsN i a] [g : IsN j b] : Go (hMax [.int i, .int j] Q) (Q (.f (.int ((max a b : Nat) : Int)))) := ⟨fun k => .mk <| by
  show Q (.f (.int (max i j))); rw [h.eq, g.eq, show max (a : Int) (b : Int) = ((max a b : Nat) : Int) by omega]; exact k⟩
instance go_min [h : IsN i a] [g : IsN j b] : Go (hMin [.int i, .int j] Q) (Q (.f (.int ((min a b : Nat) : Int)))) := ⟨fun k => .mk <| by
  show Q (.f (.int (min i j))); rw [h.eq, g.eq, show min (a : Int) (b : Int) = ((min a b : Nat) : Int) by omega]; exact k⟩
instance go_maxL [h : IsNs l ns] : Go (hMax [.lst l] Q) (0 < ns.length ∧ ∀ m, m ∈ ns → (∀ y ∈ ns, y ≤ m) → Q (.f (.int ((m : Nat) : Int)))) := ⟨fun k => .mk <| by
  refine IntsL.mk ⟨iN ns, h.eq, by rw [List.length_map]; exact k.1, fun m hm hy => ?_⟩
  obtain ⟨u, hu, rfl⟩ := List.mem_map.1 hm
  exact k.2 u hu fun y hy' => Int.ofNat_le.1 (hy _ (List.mem_map.2 ⟨y, hy', rfl⟩))⟩
instance go_minL [h : IsNs l ns] : Go (hMin [.lst l] Q) (0 < ns.length ∧ ∀ m, m ∈ ns → (∀ y ∈ ns, m ≤ y) → Q (.f (.int ((m : Nat) : Int)))) := ⟨fun k => .mk <| by
  refine IntsL.mk ⟨iN ns, h.eq, by rw [List.length_map]; exact k.1, fun m hm hy => ?_⟩
  obtain ⟨u, hu, rfl⟩ := List.mem_map.1 hm
  exact k.2 u hu fun y hy' => Int.ofNat_le.1 (hy _ (List.mem_map.2 ⟨y, hy', rfl⟩))⟩
instance go_sorted [h : IsNs l ns] : Go (hSorted [.lst l] Q) (∀ ms : List Nat, ms.Perm ns → ms.Pairwise (· ≤ ·) → Q (.n (.lst (natsD ms)))) := ⟨fun k => .mk <| IntsL.mk ⟨iN ns, h.eq, fun zs hp hs => by
  have e : ∃ ms : List Nat, zs = iN ms := by
    have key : ∀ zs : List Int, (∀ z ∈ zs, ∃ n : Nat, z = (n : Int)) → ∃ ms : List Nat, zs = iN ms := by
      intro zs
      induction zs with
      | nil => intro _; exact ⟨[], rfl⟩
      | cons z zs ih =>
        intro hz
        obtain ⟨n, hn⟩ := hz z List.mem_cons_self
        obtain ⟨ms, hm⟩ := ih fun y hy => hz y (List.mem_cons_of_mem _ hy)
        exact ⟨n :: ms, by rw [hn, hm]; rfl⟩
    refine key zs fun z hz => ?_
    obtain ⟨n, _, e⟩ := List.mem_map.1 (hp.mem_iff.1 hz)
    exact ⟨n, e.symm⟩
  obtain ⟨ms, rfl⟩ := e
  refine k ms ?_ ?_
  · have := hp.map Int.toNat
    simpa [iN, List.map_map, Function.comp_def] using this
  · rw [List.pairwise_map] at hs
    exact hs.imp fun h => Int.ofNat_le.1 h⟩⟩
theorem sort_two {x y : Nat} {ms : List Nat} (hp : ms.Perm [x, y]) (hs : ms.Pairwise (· ≤ ·)) : ms = [min x y, max x y] := by
  match ms, hp.length_eq, hp, hs with
  | [a, b], _, hp, hs =>
    have hab : a ≤ b := by simpa using hs
    have h1 : a ∈ [x, y] := hp.mem_iff.1 (by simp)
    have h2 : x ∈ [a, b] := hp.mem_iff.2 (by simp)
    have h3 : y ∈ [a, b] := hp.mem_iff.2 (by simp)
    have h4 : b ∈ [x, y] := hp.mem_iff.1 (by simp)
    simp only [List.mem_cons, List.not_mem_nil, or_false] at h1 h2 h3 h4
    have e1 : a = min x y := by omega
    have e2 : b = max x y := by omega
    rw [e1, e2]
instance go_intI : Go (hInt [.int i] Q) (Q (.f (.int i))) := ⟨fun k => .mk k⟩
instance go_intB {u : Bool} : Go (hInt [.bl u] Q) (Q (.f (.int ((u.toNat : Nat) : Int)))) := ⟨fun k => .mk <| by cases u <;> exact k⟩
theorem mem_iN : (n : Int) ∈ iN ns ↔ n ∈ ns := by
  refine ⟨fun h => ?_, fun h => List.mem_map.2 ⟨n, h, rfl⟩⟩
  obtain ⟨u, hu, e⟩ := List.mem_map.1 h
  have : u = n := Int.ofNat.inj e
  exact this ▸ hu
instance go_inL [h : IsN i n] [g : IsNs l ns] : Go (hIn false (.int i) (.lst l) Q) (Q (.f (.bl (dc (n ∈ ns))))) := ⟨fun k => .mk <| IntsL.mk ⟨iN ns, g.eq, by rw [h.eq, Bool.false_xor, ← dc_eq, dc_congr mem_iN]; exact k⟩⟩
instance go_ninL [h : IsN i n] [g : IsNs l ns] : Go (hIn true (.int i) (.lst l) Q) (Q (.f (.bl (dc (¬ n ∈ ns))))) := ⟨fun k => .mk <| IntsL.mk ⟨iN ns, g.eq, by rw [h.eq, Bool.true_xor, ← dc_eq, dc_congr mem_iN, ← dc_not]; exact k⟩⟩
instance go_inT [h : IsN i n] [g : IsNs l ns] : Go (hIn false (.int i) (.tup l) Q) (Q (.f (.bl (dc (n ∈ ns))))) := ⟨fun k => .mk <| IntsL.mk ⟨iN ns, g.eq, by rw [h.eq, Bool.false_xor, ← dc_eq, dc_congr mem_iN]; exact k⟩⟩
instance go_ninT [h : IsN i n] [g : IsNs l ns] : Go (hIn true (.int i) (.tup l) Q) (Q (.f (.bl (dc (¬ n ∈ ns))))) := ⟨fun k => .mk <| IntsL.mk ⟨iN ns, g.eq, by rw [h.eq, Bool.true_xor, ← dc_eq, dc_congr mem_iN, ← dc_not]; exact k⟩⟩
instance go_all {bs : List Bool} [h : IsBs l bs] : Go (hAll [.lst l] Q) (Q (.f (.bl (bs.all id)))) := ⟨fun k => .mk <| BlsL.mk ⟨bs, h.eq, k⟩⟩
instance go_any {bs : List Bool} [h : IsBs l bs] : Go (hAny [.lst l] Q) (Q (.f (.bl (bs.any id)))) := ⟨fun k => .mk <| BlsL.mk ⟨bs, h.eq, k⟩⟩
variable {G : Dat → Dat → Prop} {G1 : Dat → Prop}
instance (priority := low) go_app : Go (hAppend (.lst l) [x] G) (l.length < 100000 ∧ G .non (.lst (l ++ [x]))) := ⟨fun k => .mk k⟩
instance go_appN [h : IsNs l ns] [g : IsN i n] : Go (hAppend (.lst l) [.int i] G) (ns.length < 100000 ∧ G .non (.lst (natsD (ns ++ [n])))) := ⟨fun k => .mk <| by
  rw [h.eq, g.eq]; refine ⟨by rw [natsD_len]; exact k.1, ?_⟩; rw [natsD_snoc]; exact k.2⟩
instance go_appP {js : List (Nat × Nat)} [h : IsN i n] [g : IsN j m] : Go (hAppend (.lst (js.map pairD)) [.tup [.int i, .int j]] G) (js.length < 100000 ∧ G .non (.lst ((js ++ [(n, m)]).map pairD))) := ⟨fun k => .mk <| by
  rw [h.eq, g.eq]; refine ⟨by rw [List.length_map]; exact k.1, ?_⟩; rw [List.map_append] at k; exact k.2⟩
instance go_appP' {js : List (Nat × Nat)} {p : Nat × Nat} : Go (hAppend (.lst (js.map pairD)) [pairD p] G) (js.length < 100000 ∧ G .non (.lst ((js ++ [p]).map pairD))) := ⟨fun k => .mk <| by
  refine ⟨by rw [List.length_map]; exact k.1, ?_⟩; rw [List.map_append] at k; exact k.2⟩
instance go_clear : Go (hClear (.lst l) [] G) (G .non (.lst [])) := ⟨fun k => .mk k⟩
theorem ixN_nat (h : n < m) : ixN m (n : Int) = some n := by
  unfold ixN; rw [if_pos (by omega), if_pos (by omega)]; simp
instance (priority := low) go_set [g : IsN j n] : Go (hSet (.lst l) (.int j) x G1) (n < l.length ∧ G1 (.lst (l.set n x))) := ⟨fun k => .mk <| by rw [g.eq]; exact Got.mk ⟨_, ixN_nat k.1, k.2⟩⟩
instance go_setN [h : IsNs l ns] [g : IsN j n] [f : IsN i m] : Go (hSet (.lst l) (.int j) (.int i) G1) (n < ns.length ∧ G1 (.lst (natsD (ns.set n m)))) := ⟨fun k => by
  rw [h.eq, f.eq]; refine go_set.go ⟨by rw [natsD_len]; exact k.1, ?_⟩; rw [← natsD_set]; exact k.2⟩
/-! ### dicts with whole numbers as keys -/
def dkD {β : Type} (enc : β → Dat) (l : List (Nat × β)) : Dat := .dk (l.map fun p => (Sum.inl (p.1 : Int), enc p.2))
abbrev nI (n : Nat) : Dat := .int (n : Int)
abbrev uT (_ : Unit) : Dat := .bl true
def lkA {β : Type} (l : List (Nat × β)) (k : Nat) : Option β := (l.find? fun p => decide (p.1 = k)).map (·.2)
def putA {β : Type} (l : List (Nat × β)) (k : Nat) (v : β) : List (Nat × β) := if l.any (fun p => decide (p.1 = k)) then l.map (fun p => if p.1 = k then (p.1, v) else p) else l ++ [(k, v)]
theorem inl_nat {a b : Nat} : ((Sum.inl (a : Int) : Key) = Sum.inl (b : Int)) ↔ a = b := ⟨fun e => Int.ofNat.inj (Sum.inl.inj e), fun e => by rw [e]⟩
theorem luK_dk {β : Type} (enc : β → Dat) (k : Nat) : ∀ l : List (Nat × β), luK (l.map fun p => ((Sum.inl (p.1 : Int) : Key), enc p.2)) (Sum.inl (k : Int)) = (lkA l k).map enc
  | [] => rfl
  | p :: l => by
    have ih := luK_dk enc k l
    unfold luK lkA at ih ⊢
    by_cases e : p.1 = k
    · rw [List.map_cons, List.find?_cons_of_pos (by simp [e]), List.find?_cons_of_pos (by simp [e])]; rfl
    · rw [List.map_cons, List.find?_cons_of_neg (by rw [decide_eq_true_iff, inl_nat]; exact e), List.find?_cons_of_neg (by simpa using e)]; exact ih
theorem putD_dk {β : Type} (enc : β → Dat) (k : Nat) (v : β) (l : List (Nat × β)) : putD (l.map fun p => ((Sum.inl (p.1 : Int) : Key), enc p.2)) (Sum.inl (k : Int)) (enc v) = (putA l k v).map fun p => ((Sum.inl (p.1 : Int) : Key), enc p.2) := by
  unfold putD putA
  have e : (l.map fun p => ((Sum.inl (p.1 : Int) : Key), enc p.2)).any (fun p => decide (p.1 = Sum.inl (k : Int))) = l.any fun p => decide (p.1 = k) := by
    rw [List.any_map]
    congr 1
    funext p
    show decide ((Sum.inl (p.1 : Int) : Key) = Sum.inl (k : Int)) = _
    rw [decide_eq_decide]; exact inl_nat
  rw [e]
  cases l.any fun p => decide (p.1 = k)
  · rw [cond_false, if_neg (by decide), List.map_append]; rfl
  · rw [cond_true, if_pos rfl, List.map_map, List.map_map]
    refine List.map_congr_left fun p _ => ?_
    show (if (Sum.inl (p.1 : Int) : Key) = Sum.inl (k : Int) then (Sum.inl (p.1 : Int), enc v) else (Sum.inl (p.1 : Int), enc p.2)) = (fun p : Nat × β => ((Sum.inl (p.1 : Int) : Key), enc p.2)) (if p.1 = k then (p.1, v) else p)
    by_cases z : p.1 = k
    · rw [if_pos (inl_nat.2 z), if_pos z]
    · rw [if_neg (fun y => z (inl_nat.1 y)), if_neg z]
theorem putA_len {β : Type} (l : List (Nat × β)) (k : Nat) (v : β) : (putA l k v).length ≤ l.length + 1 := by
  unfold putA; split <;> simp
theorem lkA_nil {β : Type} (k : Nat) : lkA ([] : List (Nat × β)) k = none := rfl
theorem lkA_cons {β : Type} (p : Nat × β) (l : List (Nat × β)) (k : Nat) : lkA (p :: l) k = if p.1 = k then some p.2 else lkA l k := by
  unfold lkA
  by_cases e : p.1 = k
  · rw [List.find?_cons_of_pos (by simp [e]), if_pos e]; rfl
  · rw [List.find?_cons_of_neg (by simpa using e), if_neg e]
theorem lkA_put {β : Type} (l : List (Nat × β)) (k : Nat) (v : β) (j : Nat) : lkA (putA l k v) j = if j = k then some v else lkA l j := by
  unfold putA
  split
  · next h =>
    induction l with
    | nil => cases h
    | cons p l ih =>
      rw [List.map_cons, lkA_cons, lkA_cons]
      by_cases e : p.1 = k
      · rw [if_pos e]
        by_cases z : j = k
        · subst z; simp [e]
        · have : ¬ p.1 = j := fun y => z (by rw [← y, e])
          rw [if_neg this, if_neg z, if_neg this]
          clear ih h
          induction l with
          | nil => rfl
          | cons q l ih =>
            rw [List.map_cons, lkA_cons, lkA_cons]
            by_cases y : q.1 = k
            · rw [if_pos y]
              have : ¬ q.1 = j := fun w => z (by rw [← w, y])
              rw [if_neg this, if_neg this]; exact ih
            · rw [if_neg y]
              by_cases w : q.1 = j
              · rw [if_pos w, if_pos w]
              · rw [if_neg w, if_neg w]; exact ih
      · rw [if_neg e]
        by_cases z : p.1 = j
        · rw [if_pos z, if_pos z, if_neg (fun y => e (by rw [z, y]))]
        · rw [if_neg z, if_neg z]
          refine ih ?_
          simpa [e] using h
  · next h =>
    have key : ∀ l : List (Nat × β), lkA (l ++ [(k, v)]) j = (lkA l j).or (if j = k then some v else none) := by
      intro l
      induction l with
      | nil =>
        show lkA [(k, v)] j = _
        rw [lkA_cons]
        by_cases z : j = k
        · subst z; simp [lkA_nil]
        · rw [if_neg (fun y => z y.symm), if_neg z]; rfl
      | cons p l ih =>
        rw [List.cons_append, lkA_cons, lkA_cons, ih]
        split <;> rfl
    rw [key]
    by_cases z : j = k
    · subst z
      have : lkA l j = none := by
        unfold lkA
        rw [List.find?_eq_none.2 (fun p hp => by
          simp only [List.any_eq_true, not_exists] at h
          intro y
          exact h p ⟨hp, y⟩)]; rfl
      rw [this, if_pos rfl]; rfl
    · rw [if_neg z, if_neg z]; cases lkA l j <;> rfl
section
variable {β : Type} {enc : β → Dat} {dl : List (Nat × β)} {nl : List (Nat × Nat)} {ul : List (Nat × Unit)} {K : Option Dat → Prop}
theorem dGetD_dk (enc : β → Dat) (dl : List (Nat × β)) (k : Nat) : dGetD (dkD enc dl) (.int (k : Int)) = some ((lkA dl k).map enc) := by
  show some (luK _ (Sum.inl (k : Int))) = _
  rw [luK_dk]
instance go_getK [g : IsN j n] : Go (Got (dGetD (dkD enc dl) (.int j)) K) (K ((lkA dl n).map enc)) := ⟨fun k => by rw [g.eq]; exact Got.mk ⟨_, dGetD_dk enc dl n, k⟩⟩
instance go_ixK [g : IsN j n] : Go (hIx (dkD enc dl) (.int j) Q) (lkA dl n ≠ none ∧ ∀ v, lkA dl n = some v → Q (.f (enc v))) := ⟨fun k => .mk <| by
  rw [g.eq]
  cases e : lkA dl n with
  | none => exact absurd e k.1
  | some v => exact Got.mk ⟨_, dGetD_dk enc dl n, by rw [e]; exact Got.mk ⟨_, rfl, k.2 v e⟩⟩⟩
instance go_inK [g : IsN j n] : Go (hIn false (.int j) (dkD enc dl) Q) (Q (.f (.bl (dc (¬ lkA dl n = none))))) := ⟨fun k => .mk <| by
  rw [g.eq]
  refine Got.mk ⟨_, dGetD_dk enc dl n, ?_⟩
  have : dc (¬ lkA dl n = none) = ((lkA dl n).map enc).isSome := by
    cases lkA dl n with
    | none => rw [dc_f (by simp)]; rfl
    | some v => rw [dc_t (by simp)]; rfl
  rw [Bool.false_xor, ← this]; exact k⟩
instance go_ninK [g : IsN j n] : Go (hIn true (.int j) (dkD enc dl) Q) (Q (.f (.bl (dc (lkA dl n = none))))) := ⟨fun k => .mk <| by
  rw [g.eq]
  refine Got.mk ⟨_, dGetD_dk enc dl n, ?_⟩
  have : dc (lkA dl n = none) = !((lkA dl n).map enc).isSome := by
    cases lkA dl n with
    | none => rw [dc_t rfl]; rfl
    | some v => rw [dc_f (by simp)]; rfl
  rw [Bool.true_xor, ← this]; exact k⟩
theorem set_dk {v : β} (k : dl.length < 100000 ∧ G1 (dkD enc (putA dl n v))) : hSet (dkD enc dl) (.int (n : Int)) (enc v) G1 := .mk <| Got.mk ⟨Sum.inl (n : Int), rfl, by rw [List.length_map]; exact k.1, by
  rw [putD_dk]; exact k.2⟩
instance go_setKN [g : IsN j n] [f : IsN i m] : Go (hSet (dkD nI nl) (.int j) (.int i) G1) (nl.length < 100000 ∧ G1 (dkD nI (putA nl n m))) := ⟨fun k => by rw [g.eq, f.eq]; exact set_dk (enc := nI) k⟩
instance go_setKT [g : IsN j n] : Go (hSet (dkD uT ul) (.int j) (.bl true) G1) (ul.length < 100000 ∧ G1 (dkD uT (putA ul n ()))) := ⟨fun k => by rw [g.eq]; exact set_dk (enc := uT) (v := ()) k⟩
instance go_setdN [g : IsN j n] [f : IsN i m] : Go (hSetd (dkD nI nl) (.int j) (.int i) G) (nl.length < 100000 ∧ (lkA nl n = none → G (.int (m : Int)) (dkD nI (putA nl n m))) ∧ ∀ v, lkA nl n = some v → G (.int (v : Int)) (dkD nI nl)) := ⟨fun k => .mk <| by
  rw [g.eq, f.eq]
  refine Got.mk ⟨Sum.inl (n : Int), rfl, by rw [List.length_map]; exact k.1, ?_⟩
  rw [luK_dk]
  cases e : lkA nl n with
  | none => show G _ _; rw [show Dat.int (m : Int) = nI m from rfl, putD_dk]; exact k.2.1 e
  | some v => exact k.2.2 v e⟩
end
/-! ### parts -/
theorem sIx_hi {k : Nat} : HT.sIx n k (some (m : Int)) = min m n := HT.sIx_nat _ _ m
theorem cut_hi {β : Type} (l : List β) (n : Nat) : DL.cutD l none (some (n : Int)) = l.take n := by
  unfold DL.cutD; rw [HT.sIx_none, sIx_hi, List.drop_zero, Nat.sub_zero]
  rcases Nat.le_total n l.length with z | z
  · rw [Nat.min_eq_left z]
  · rw [Nat.min_eq_right z, List.take_of_length_le z, List.take_length]
theorem cut_lo {β : Type} (l : List β) (n : Nat) : DL.cutD l (some (n : Int)) none = l.drop n := by
  unfold DL.cutD; rw [HT.sIx_none, sIx_hi]
  rcases Nat.le_total n l.length with z | z
  · rw [Nat.min_eq_left z, List.take_of_length_le (by rw [List.length_drop]; omega)]
  · rw [Nat.min_eq_right z, List.drop_length, List.drop_eq_nil_of_le z]; simp
theorem cut_all {β : Type} (l : List β) : DL.cutD l none none = l := by
  unfold DL.cutD; rw [HT.sIx_none, HT.sIx_none]; simp
instance (priority := low) go_slL {lo hi : Option Int} : Go (hSl (.lst l) lo hi Q) (Q (.n (.lst (DL.cutD l lo hi)))) := ⟨fun k => .mk k⟩
instance (priority := low) go_slT {lo hi : Option Int} : Go (hSl (.tup l) lo hi Q) (Q (.f (.tup (DL.cutD l lo hi)))) := ⟨fun k => .mk k⟩
instance go_toN [h : IsNs l ns] [g : IsN j n] : Go (hSl (.lst l) none (some j) Q) (Q (.n (.lst (natsD (ns.take n))))) := ⟨fun k => go_slL.go (by rw [h.eq, g.eq, cut_hi, ← natsD_take]; exact k)⟩
instance go_fromN [h : IsNs l ns] [g : IsN j n] : Go (hSl (.lst l) (some j) none Q) (Q (.n (.lst (natsD (ns.drop n))))) := ⟨fun k => go_slL.go (by rw [h.eq, g.eq, cut_lo, ← natsD_drop]; exact k)⟩
instance go_toNT [h : IsNs l ns] [g : IsN j n] : Go (hSl (.tup l) none (some j) Q) (Q (.f (.tup (natsD (ns.take n))))) := ⟨fun k => go_slT.go (by rw [h.eq, g.eq, cut_hi, ← natsD_take]; exact k)⟩
instance go_fromNT [h : IsNs l ns] [g : IsN j n] : Go (hSl (.tup l) (some j) none Q) (Q (.f (.tup (natsD (ns.drop n))))) := ⟨fun k => go_slT.go (by rw [h.eq, g.eq, cut_lo, ← natsD_drop]; exact k)⟩
instance (priority := 500) go_toM [g : IsN j n] : Go (hSl (.lst (xs.map f)) none (some j) Q) (Q (.n (.lst ((xs.take n).map f)))) := ⟨fun k => go_slL.go (by rw [g.eq, cut_hi, ← List.map_take]; exact k)⟩
instance (priority := 500) go_fromM [g : IsN j n] : Go (hSl (.lst (xs.map f)) (some j) none Q) (Q (.n (.lst ((xs.drop n).map f)))) := ⟨fun k => go_slL.go (by rw [g.eq, cut_lo, ← List.map_drop]; exact k)⟩
instance (priority := 500) go_toMT [g : IsN j n] : Go (hSl (.tup (xs.map f)) none (some j) Q) (Q (.f (.tup ((xs.take n).map f)))) := ⟨fun k => go_slT.go (by rw [g.eq, cut_hi, ← List.map_take]; exact k)⟩
instance (priority := 500) go_fromMT [g : IsN j n] : Go (hSl (.tup (xs.map f)) (some j) none Q) (Q (.f (.tup ((xs.drop n).map f)))) := ⟨fun k => go_slT.go (by rw [g.eq, cut_lo, ← List.map_drop]; exact k)⟩
/-! ### isinstance -/
theorem go_isi {t T : String} {b : Bool} (h1 : tyN d = some t) (h2 : kitB t T = some b) (k : Q (.f (.bl b))) : gIsi [d, .raw (.ty T)] Q := by
  show withD (tyN d) _; rw [h1]; show withD (kitB t T) _; rw [h2]; exact k
instance isi_ii : Go (hIsi [.int i, .raw (.ty "int")] Q) (Q (.f (.bl true))) := ⟨fun k => .mk (go_isi rfl kit_ii k)⟩
instance isi_ib : Go (hIsi [.int i, .raw (.ty "bool")] Q) (Q (.f (.bl false))) := ⟨fun k => .mk (go_isi rfl kit_ib k)⟩
instance isi_it : Go (hIsi [.int i, .raw (.ty "tuple")] Q) (Q (.f (.bl false))) := ⟨fun k => .mk (go_isi rfl kit_it k)⟩
instance isi_il : Go (hIsi [.int i, .raw (.ty "list")] Q) (Q (.f (.bl false))) := ⟨fun k => .mk (go_isi rfl kit_il k)⟩
instance isi_is : Go (hIsi [.int i, .raw (.ty "str")] Q) (Q (.f (.bl false))) := ⟨fun k => .mk (go_isi rfl kit_is k)⟩
instance isi_bb {u : Bool} : Go (hIsi [.bl u, .raw (.ty "bool")] Q) (Q (.f (.bl true))) := ⟨fun k => .mk (go_isi rfl kit_bb k)⟩
instance isi_bi {u : Bool} : Go (hIsi [.bl u, .raw (.ty "int")] Q) (Q (.f (.bl true))) := ⟨fun k => .mk (go_isi rfl kit_bi k)⟩
instance isi_bt {u : Bool} : Go (hIsi [.bl u, .raw (.ty "tuple")] Q) (Q (.f (.bl false))) := ⟨fun k => .mk (go_isi rfl kit_bt k)⟩
instance isi_bli {u : Bool} : Go (hIsi [.bl u, .raw (.ty "list")] Q) (Q (.f (.bl false))) := ⟨fun k => .mk (go_isi rfl kit_bl k)⟩
instance isi_ll : Go (hIsi [.lst l, .raw (.ty "list")] Q) (Q (.f (.bl true))) := ⟨fun k => .mk (go_isi rfl kit_ll k)⟩
instance isi_lt : Go (hIsi [.lst l, .raw (.ty "tuple")] Q) (Q (.f (.bl false))) := ⟨fun k => .mk (go_isi rfl kit_lt k)⟩
instance isi_li : Go (hIsi [.lst l, .raw (.ty "int")] Q) (Q (.f (.bl false))) := ⟨fun k => .mk (go_isi rfl kit_li k)⟩
instance isi_lb : Go (hIsi [.lst l, .raw (.ty "bool")] Q) (Q (.f (.bl false))) := ⟨fun k => .mk (go_isi rfl kit_lb k)⟩
instance isi_tt : Go (hIsi [.tup l, .raw (.ty "tuple")] Q) (Q (.f (.bl true))) := ⟨fun k => .mk (go_isi rfl kit_tt k)⟩
instance isi_tl : Go (hIsi [.tup l, .raw (.ty "list")] Q) (Q (.f (.bl false))) := ⟨fun k => .mk (go_isi rfl kit_tl k)⟩
instance isi_ti : Go (hIsi [.tup l, .raw (.ty "int")] Q) (Q (.f (.bl false))) := ⟨fun k => .mk (go_isi rfl kit_ti k)⟩
instance isi_tb : Go (hIsi [.tup l, .raw (.ty "bool")] Q) (Q (.f (.bl false))) := ⟨fun k => .mk (go_isi rfl kit_tb k)⟩
instance isi_nt : Go (hIsi [.non, .raw (.ty "tuple")] Q) (Q (.f (.bl false))) := ⟨fun k => .mk (go_isi rfl kit_nt k)⟩
instance isi_nl : Go (hIsi [.non, .raw (.ty "list")] Q) (Q (.f (.bl false))) := ⟨fun k => .mk (go_isi rfl kit_nl k)⟩
instance isi_ni : Go (hIsi [.non, .raw (.ty "int")] Q) (Q (.f (.bl false))) := ⟨fun k => .mk (go_isi rfl kit_ni k)⟩
instance isi_nb : Go (hIsi [.non, .raw (.ty "bool")] Q) (Q (.f (.bl false))) := ⟨fun k => .mk (go_isi rfl kit_nb k)⟩
instance isi_st {s : Str} : Go (hIsi [.str s, .raw (.ty "tuple")] Q) (Q (.f (.bl false))) := ⟨fun k => .mk (go_isi rfl kit_st k)⟩
instance isi_sl {s : Str} : Go (hIsi [.str s, .raw (.ty "list")] Q) (Q (.f (.bl false))) := ⟨fun k => .mk (go_isi rfl kit_sl k)⟩
instance isi_si {s : Str} : Go (hIsi [.str s, .raw (.ty "int")] Q) (Q (.f (.bl false))) := ⟨fun k => .mk (go_isi rfl kit_si k)⟩
instance isi_sb {s : Str} : Go (hIsi [.str s, .raw (.ty "bool")] Q) (Q (.f (.bl false))) := ⟨fun k => .mk (go_isi rfl kit_sb k)⟩
instance isi_ss {s : Str} : Go (hIsi [.str s, .raw (.ty "str")] Q) (Q (.f (.bl true))) := ⟨fun k => .mk (go_isi rfl kit_ss k)⟩
instance isi_ts : Go (hIsi [.tup l, .raw (.ty "str")] Q) (Q (.f (.bl false))) := ⟨fun k => .mk (go_isi rfl kit_ts k)⟩
instance isi_ls : Go (hIsi [.lst l, .raw (.ty "str")] Q) (Q (.f (.bl false))) := ⟨fun k => .mk (go_isi rfl kit_ls k)⟩
instance isi_ns : Go (hIsi [.non, .raw (.ty "str")] Q) (Q (.f (.bl false))) := ⟨fun k => .mk (go_isi rfl kit_ns k)⟩
instance isi_bs {u : Bool} : Go (hIsi [.bl u, .raw (.ty "str")] Q) (Q (.f (.bl false))) := ⟨fun k => .mk (go_isi rfl kit_bs k)⟩
instance isi_nett {m : Nat} {js : List (Nat × Nat)} {os : List Nat} : Go (hIsi [netD m js os, .raw (.ty "tuple")] Q) (Q (.f (.bl true))) := ⟨fun k => .mk (go_isi (d := netD m js os) rfl kit_tt k)⟩
instance isi_pt {p : Nat × Nat} : Go (hIsi [pairD p, .raw (.ty "tuple")] Q) (Q (.f (.bl true))) := ⟨fun k => .mk (go_isi (d := pairD p) rfl kit_tt k)⟩
end

/-! ### data that hold no list -/
class Im (d : Dat) : Prop where
  eq : imm d = true
class Iml (l : List Dat) : Prop where
  eq : immL l = true
class ImR (r : Res) : Prop where
  eq : immR r = true
instance im_int {i : Int} : Im (.int i) := ⟨rfl⟩
instance im_bl {b : Bool} : Im (.bl b) := ⟨rfl⟩
instance im_non : Im .non := ⟨rfl⟩
instance im_str {s : Str} : Im (.str s) := ⟨rfl⟩
instance iml_nil : Iml [] := ⟨rfl⟩
instance iml_cons {d : Dat} {l : List Dat} [h : Im d] [g : Iml l] : Iml (d :: l) := ⟨by show (imm d && immL l) = true; rw [h.eq, g.eq]; rfl⟩
instance im_tup {l : List Dat} [g : Iml l] : Im (.tup l) := ⟨g.eq⟩
instance (priority := 500) iml_map {α : Type} {f : α → Dat} [h : ∀ x, Im (f x)] {l : List α} : Iml (l.map f) := ⟨by
  induction l with
  | nil => rfl
  | cons x l ih => show (imm (f x) && immL (l.map f)) = true; rw [(h x).eq, ih]; rfl⟩
instance iml_nats {l : List Nat} : Iml (natsD l) := ⟨immL_ints _⟩
theorem immL_app : ∀ {a b : List Dat}, immL a = true → immL b = true → immL (a ++ b) = true
  | [], b, _, h => h
  | x :: a, b, h, g => by
    have h : (imm x && immL a) = true := h
    rw [Bool.and_eq_true] at h
    show (imm x && immL (a ++ b)) = true
    rw [h.1, immL_app h.2 g]; rfl
instance iml_app {a b : List Dat} [h : Iml a] [g : Iml b] : Iml (a ++ b) := ⟨immL_app h.eq g.eq⟩
instance iml_rg {i : Int} {n : Nat} : Iml (rangeD i n) := ⟨iml_map.eq⟩
instance im_pair {p : Nat × Nat} : Im (pairD p) := ⟨rfl⟩
instance im_net {m : Nat} {js : List (Nat × Nat)} {os : List Nat} : Im (netD m js os) := ⟨(im_tup (l := [.int (m : Nat), .tup (js.map pairD), .tup (natsD os)])).eq⟩
instance imR_f {d : Dat} [h : Im d] : ImR (.f d) := ⟨h.eq⟩
instance imR_n {l : List Dat} [h : Iml l] : ImR (.n (.lst l)) := ⟨h.eq⟩
theorem imm_any {fl : List Nat} {r : Res} {ds : List Dat} [h : ImR r] (g : ds.all immC = true) : immOk fl r ds := by
  cases fl with
  | nil => exact trivial
  | cons a l => exact ⟨h.eq, g⟩
theorem imm_noneX {fl : List Nat} {ds : List Dat} (g : ds.all immC = true) : immOkX fl none ds := by
  cases fl with
  | nil => exact trivial
  | cons a l => exact ⟨rfl, g⟩
theorem imm_anyX {fl : List Nat} {f : Str} {d : Dat} {ds : List Dat} [h : Im d] (g : ds.all immC = true) : immOkX fl (some [(f, d)]) ds := by
  cases fl with
  | nil => exact trivial
  | cons a l => exact ⟨by show (imm d && true) = true; rw [h.eq]; rfl, g⟩
theorem and_immX {B : Prop} (fl : List Nat) (r : Option (List (Str × Dat))) (ds : List Dat) (h : immOkX fl r ds) (k : B) : immOkX fl r ds ∧ B := ⟨h, k⟩
theorem ret_dc {p : Prop} (h : p) : Res.f (Dat.bl (dc p)) = Res.f (Dat.bl true) := by rw [dc_t h]
/-! ### loops -/
section
variable {R : DL.Env → Prop} {St : (Nat → DL.Env → Prop) → Nat → Dat → DL.Env → Prop} {env1 : DL.Env} {α : Type} {f : α → Dat} {xs : List α} {ns : List Nat} {n : Nat}
theorem for_items {items : List Dat} (I : Nat → DL.Env → Prop) (h0 : I 0 env1) (hs : ∀ i d env', items[i]? = some d → I i env' → St I i d env') (hd : ∀ env', I items.length env' → R env') :
    ∃ W : Nat → DL.Env → Prop, W 0 env1 ∧ (∀ i d env', items[i]? = some d → W i env' → St W i d env') ∧ ∀ env', W items.length env' → R env' := ⟨I, h0, hs, hd⟩
theorem for_rg (I : Nat → DL.Env → Prop) (h0 : I 0 env1) (hs : ∀ i env', i < n → I i env' → St I i (.int ((i : Nat) : Int)) env') (hd : ∀ env', I n env' → R env') :
    ∃ W : Nat → DL.Env → Prop, W 0 env1 ∧ (∀ i d env', (rangeD 0 n)[i]? = some d → W i env' → St W i d env') ∧ ∀ env', W (rangeD 0 n).length env' → R env' :=
  ⟨I, h0, fun i d env' h w => by
    obtain ⟨hi, rfl⟩ := rangeD_some h
    rw [Int.zero_add]; exact hs i env' hi w, fun env' w => hd env' (by rw [rangeD_len] at w; exact w)⟩
theorem for_rg2 {lo hi : Nat} (I : Nat → DL.Env → Prop) (h0 : I 0 env1) (hs : ∀ i env', i < hi - lo → I i env' → St I i (.int ((lo + i : Nat) : Int)) env') (hd : ∀ env', I (hi - lo) env' → R env') :
    ∃ W : Nat → DL.Env → Prop, W 0 env1 ∧ (∀ i d env', (rangeD (lo : Int) ((hi : Int) - (lo : Int)).toNat)[i]? = some d → W i env' → St W i d env') ∧ ∀ env', W (rangeD (lo : Int) ((hi : Int) - (lo : Int)).toNat).length env' → R env' := by
  rw [show ((hi : Int) - (lo : Int)).toNat = hi - lo by omega]
  exact ⟨I, h0, fun i d env' h w => by
    obtain ⟨hi, rfl⟩ := rangeD_some h
    exact hs i env' hi w, fun env' w => hd env' (by rw [rangeD_len] at w; exact w)⟩
theorem for_rg1 {hi : Nat} (I : Nat → DL.Env → Prop) (h0 : I 0 env1) (hs : ∀ i env', i < hi - 1 → I i env' → St I i (.int ((1 + i : Nat) : Int)) env') (hd : ∀ env', I (hi - 1) env' → R env') :
    ∃ W : Nat → DL.Env → Prop, W 0 env1 ∧ (∀ i d env', (rangeD 1 ((hi : Int) - 1).toNat)[i]? = some d → W i env' → St W i d env') ∧ ∀ env', W (rangeD 1 ((hi : Int) - 1).toNat).length env' → R env' := by
  rw [show ((hi : Int) - 1).toNat = hi - 1 by omega]
  exact ⟨I, h0, fun i d env' h w => by
    obtain ⟨hi, rfl⟩ := rangeD_some h
    exact hs i env' hi w, fun env' w => hd env' (by rw [rangeD_len] at w; exact w)⟩
theorem for_ns (I : Nat → DL.Env → Prop) (h0 : I 0 env1) (hs : ∀ i x env', ns[i]? = some x → I i env' → St I i (.int ((x : Nat) : Int)) env') (hd : ∀ env', I ns.length env' → R env') :
    ∃ W : Nat → DL.Env → Prop, W 0 env1 ∧ (∀ i d env', (natsD ns)[i]? = some d → W i env' → St W i d env') ∧ ∀ env', W (natsD ns).length env' → R env' :=
  ⟨I, h0, fun i d env' h w => by
    obtain ⟨x, hx, rfl⟩ := natsD_get h
    exact hs i x env' hx w, fun env' w => hd env' (by rw [natsD_len] at w; exact w)⟩
theorem for_mp (I : Nat → DL.Env → Prop) (h0 : I 0 env1) (hs : ∀ i x env', xs[i]? = some x → I i env' → St I i (f x) env') (hd : ∀ env', I xs.length env' → R env') :
    ∃ W : Nat → DL.Env → Prop, W 0 env1 ∧ (∀ i d env', (xs.map f)[i]? = some d → W i env' → St W i d env') ∧ ∀ env', W (xs.map f).length env' → R env' :=
  ⟨I, h0, fun i d env' h w => by
    obtain ⟨x, hx, rfl⟩ := mapD_some h
    exact hs i x env' hx w, fun env' w => hd env' (by rw [List.length_map] at w; exact w)⟩
theorem down_some {hi : Int} {n i : Nat} {d : Dat} (h : (downD hi n)[i]? = some d) : i < n ∧ d = .int (hi - 1 - (i : Int)) := by
  unfold downD at h
  rw [List.getElem?_map] at h
  cases e : (List.range n)[i]? with
  | none => rw [e] at h; cases h
  | some k =>
    rw [e] at h; cases h
    obtain ⟨hi, e⟩ := List.getElem?_eq_some_iff.1 e
    rw [List.getElem_range] at e
    subst e
    exact ⟨by simpa using hi, rfl⟩
theorem down_len {hi : Int} {n : Nat} : (downD hi n).length = n := by simp [downD]
theorem for_dn (I : Nat → DL.Env → Prop) (h0 : I 0 env1) (hs : ∀ i env', i < n → I i env' → St I i (.int ((n - 1 - i : Nat) : Int)) env') (hd : ∀ env', I n env' → R env') :
    ∃ W : Nat → DL.Env → Prop, W 0 env1 ∧ (∀ i d env', (downD (n : Int) n)[i]? = some d → W i env' → St W i d env') ∧ ∀ env', W (downD (n : Int) n).length env' → R env' :=
  ⟨I, h0, fun i d env' h w => by
    obtain ⟨hi, rfl⟩ := down_some h
    rw [show (n : Int) - 1 - (i : Int) = ((n - 1 - i : Nat) : Int) by omega]; exact hs i env' hi w, fun env' w => hd env' (by rw [down_len] at w; exact w)⟩
end
/-! ### comprehensions that change nothing -/
section
variable {R : List Dat → DL.Env → Prop} {St : (Nat → List Dat → DL.Env → Prop) → Nat → Dat → List Dat → DL.Env → Prop} {e0 : DL.Env} {α : Type} {f : α → Dat} {xs : List α} {ns : List Nat} {n : Nat}
theorem lc_items {items : List Dat} (F : Dat → Option Dat)
    (hs : ∀ (W : Nat → List Dat → DL.Env → Prop) i d acc, items[i]? = some d → (∀ y, F d = some y → W (i + 1) (acc ++ [y]) e0) → (F d = none → W (i + 1) acc e0) → St W i d acc e0) (hd : R (items.filterMap F) e0) :
    ∃ W : Nat → List Dat → DL.Env → Prop, W 0 [] e0 ∧ (∀ i d acc env', items[i]? = some d → W i acc env' → St W i d acc env') ∧ ∀ acc env', W items.length acc env' → R acc env' := by
  refine ⟨fun i acc env => env = e0 ∧ acc = (items.take i).filterMap F, ⟨rfl, rfl⟩, ?_, ?_⟩
  · rintro i d acc env h ⟨rfl, rfl⟩
    refine hs _ i d _ h (fun y hy => ⟨rfl, ?_⟩) (fun hy => ⟨rfl, ?_⟩)
    · rw [take_snoc h, List.filterMap_append]; simp [hy]
    · rw [take_snoc h, List.filterMap_append]; simp [hy]
  · rintro acc env ⟨rfl, rfl⟩
    rw [List.take_length]; exact hd
theorem filterMap_fst {β γ : Type} (l : List β) (e : β → Dat) (F : β → Option γ) (inv : ∀ b c, e b = e c → b = c) : ∃ G : Dat → Option γ, (∀ b, G (e b) = F b) ∧ (l.map e).filterMap G = l.filterMap F := by
  refine ⟨fun d => @dite _ (∃ b, d = e b) (Classical.propDecidable _) (fun h => F h.choose) fun _ => none, fun b => ?_, ?_⟩
  · have h : ∃ c, e b = e c := ⟨b, rfl⟩
    simp only [dif_pos h]
    rw [inv _ _ h.choose_spec.symm]
  · rw [List.filterMap_map]
    congr 1
    funext b
    have h : ∃ c, e b = e c := ⟨b, rfl⟩
    simp only [Function.comp, dif_pos h]
    rw [inv _ _ h.choose_spec.symm]
/-- items by their places: F i x is the item that comes, or none -/
theorem lc_at {items : List Dat} (F : Nat → Option Dat)
    (hs : ∀ (W : Nat → List Dat → DL.Env → Prop) i d acc, items[i]? = some d → (∀ y, F i = some y → W (i + 1) (acc ++ [y]) e0) → (F i = none → W (i + 1) acc e0) → St W i d acc e0) (hd : R ((List.range items.length).filterMap F) e0) :
    ∃ W : Nat → List Dat → DL.Env → Prop, W 0 [] e0 ∧ (∀ i d acc env', items[i]? = some d → W i acc env' → St W i d acc env') ∧ ∀ acc env', W items.length acc env' → R acc env' := by
  refine ⟨fun i acc env => env = e0 ∧ acc = (List.range i).filterMap F, ⟨rfl, rfl⟩, ?_, ?_⟩
  · rintro i d acc env h ⟨rfl, rfl⟩
    refine hs _ i d _ h (fun y hy => ⟨rfl, ?_⟩) (fun hy => ⟨rfl, ?_⟩)
    · rw [List.range_succ, List.filterMap_append]; simp [hy]
    · rw [List.range_succ, List.filterMap_append]; simp [hy]
  · rintro acc env ⟨rfl, rfl⟩
    exact hd
/-- over a range: whole numbers -/
theorem lc_rN (g : Nat → Nat) (hs : ∀ (W : Nat → List Dat → DL.Env → Prop) i acc, i < n → (∀ y, y = Dat.int ((g i : Nat) : Int) → W (i + 1) (acc ++ [y]) e0) → St W i (.int ((i : Nat) : Int)) acc e0) (hd : R (natsD ((List.range n).map g)) e0) :
    ∃ W : Nat → List Dat → DL.Env → Prop, W 0 [] e0 ∧ (∀ i d acc env', (rangeD 0 n)[i]? = some d → W i acc env' → St W i d acc env') ∧ ∀ acc env', W (rangeD 0 n).length acc env' → R acc env' := by
  refine lc_at (fun i => some (.int ((g i : Nat) : Int))) (fun W i d acc h k1 _ => ?_) ?_
  · obtain ⟨hi, rfl⟩ := rangeD_some h
    rw [Int.zero_add]; exact hs W i acc hi fun y hy => k1 y (by rw [hy])
  · rw [rangeD_len]
    rw [natsD_map, List.map_map] at hd
    rw [List.filterMap_eq_map' (f := fun i => Dat.int ((g i : Nat) : Int))]
    exact hd
theorem lc_r (g : Nat → Dat) (hs : ∀ (W : Nat → List Dat → DL.Env → Prop) i acc, i < n → (∀ y, y = g i → W (i + 1) (acc ++ [y]) e0) → St W i (.int ((i : Nat) : Int)) acc e0) (hd : R ((List.range n).map g) e0) :
    ∃ W : Nat → List Dat → DL.Env → Prop, W 0 [] e0 ∧ (∀ i d acc env', (rangeD 0 n)[i]? = some d → W i acc env' → St W i d acc env') ∧ ∀ acc env', W (rangeD 0 n).length acc env' → R acc env' := by
  refine lc_at (fun i => some (g i)) (fun W i d acc h k1 _ => ?_) ?_
  · obtain ⟨hi, rfl⟩ := rangeD_some h
    rw [Int.zero_add]; exact hs W i acc hi fun y hy => k1 y (by rw [hy])
  · rw [rangeD_len]
    rw [List.filterMap_eq_map' (f := g)]
    exact hd
/-- over a range, with a test -/
theorem lcf_rN (p : Nat → Prop) (g : Nat → Nat) [DecidablePred p] (hs : ∀ (W : Nat → List Dat → DL.Env → Prop) i acc, i < n → (p i → ∀ y, y = Dat.int ((g i : Nat) : Int) → W (i + 1) (acc ++ [y]) e0) → (¬ p i → W (i + 1) acc e0) → St W i (.int ((i : Nat) : Int)) acc e0) (hd : R (natsD (((List.range n).filter p).map g)) e0) :
    ∃ W : Nat → List Dat → DL.Env → Prop, W 0 [] e0 ∧ (∀ i d acc env', (rangeD 0 n)[i]? = some d → W i acc env' → St W i d acc env') ∧ ∀ acc env', W (rangeD 0 n).length acc env' → R acc env' := by
  refine lc_at (fun i => if p i then some (.int ((g i : Nat) : Int)) else none) (fun W i d acc h k1 k2 => ?_) ?_
  · obtain ⟨hi, rfl⟩ := rangeD_some h
    rw [Int.zero_add]; exact hs W i acc hi (fun hp y hy => k1 y (by rw [if_pos hp, hy])) fun hp => k2 (by rw [if_neg hp])
  · rw [rangeD_len]
    rw [natsD_map, List.map_map] at hd
    have : ∀ l : List Nat, l.filterMap (fun i => if p i then some (Dat.int ((g i : Nat) : Int)) else none) = (l.filter p).map ((fun (n : Nat) => Dat.int (n : Int)) ∘ g) := by
      intro l
      induction l with
      | nil => rfl
      | cons x l ih => by_cases h : p x <;> simp [h, ih]
    rw [this]; exact hd
theorem lcf_r (p : Nat → Prop) (g : Nat → Dat) [DecidablePred p] (hs : ∀ (W : Nat → List Dat → DL.Env → Prop) i acc, i < n → (p i → ∀ y, y = g i → W (i + 1) (acc ++ [y]) e0) → (¬ p i → W (i + 1) acc e0) → St W i (.int ((i : Nat) : Int)) acc e0) (hd : R (((List.range n).filter p).map g) e0) :
    ∃ W : Nat → List Dat → DL.Env → Prop, W 0 [] e0 ∧ (∀ i d acc env', (rangeD 0 n)[i]? = some d → W i acc env' → St W i d acc env') ∧ ∀ acc env', W (rangeD 0 n).length acc env' → R acc env' := by
  refine lc_at (fun i => if p i then some (g i) else none) (fun W i d acc h k1 k2 => ?_) ?_
  · obtain ⟨hi, rfl⟩ := rangeD_some h
    rw [Int.zero_add]; exact hs W i acc hi (fun hp y hy => k1 y (by rw [if_pos hp, hy])) fun hp => k2 (by rw [if_neg hp])
  · rw [rangeD_len]
    have : ∀ l : List Nat, l.filterMap (fun i => if p i then some (g i) else none) = (l.filter p).map g := by
      intro l
      induction l with
      | nil => rfl
      | cons x l ih => by_cases h : p x <;> simp [h, ih]
    rw [this]; exact hd
theorem lc_m (g : α → Dat) (hs : ∀ (W : Nat → List Dat → DL.Env → Prop) i x acc, xs[i]? = some x → (∀ y, y = g x → W (i + 1) (acc ++ [y]) e0) → St W i (f x) acc e0) (hd : R (xs.map g) e0) :
    ∃ W : Nat → List Dat → DL.Env → Prop, W 0 [] e0 ∧ (∀ i d acc env', (xs.map f)[i]? = some d → W i acc env' → St W i d acc env') ∧ ∀ acc env', W (xs.map f).length acc env' → R acc env' := by
  refine ⟨fun i acc env => env = e0 ∧ acc = (xs.take i).map g, ⟨rfl, rfl⟩, ?_, ?_⟩
  · rintro i d acc env h ⟨rfl, rfl⟩
    obtain ⟨x, hx, rfl⟩ := mapD_some h
    exact hs _ i x _ hx fun y hy => ⟨rfl, by rw [take_snoc hx, List.map_append, hy]; rfl⟩
  · rintro acc env ⟨rfl, rfl⟩
    rw [List.length_map, List.take_length]; exact hd
theorem lc_mN (g : α → Nat) (hs : ∀ (W : Nat → List Dat → DL.Env → Prop) i x acc, xs[i]? = some x → (∀ y, y = Dat.int ((g x : Nat) : Int) → W (i + 1) (acc ++ [y]) e0) → St W i (f x) acc e0) (hd : R (natsD (xs.map g)) e0) :
    ∃ W : Nat → List Dat → DL.Env → Prop, W 0 [] e0 ∧ (∀ i d acc env', (xs.map f)[i]? = some d → W i acc env' → St W i d acc env') ∧ ∀ acc env', W (xs.map f).length acc env' → R acc env' :=
  lc_m (fun x => Dat.int ((g x : Nat) : Int)) hs (by rw [natsD_map, List.map_map] at hd; exact hd)
theorem lcf_m (p : α → Prop) (g : α → Dat) [DecidablePred p] (hs : ∀ (W : Nat → List Dat → DL.Env → Prop) i x acc, xs[i]? = some x → (p x → ∀ y, y = g x → W (i + 1) (acc ++ [y]) e0) → (¬ p x → W (i + 1) acc e0) → St W i (f x) acc e0) (hd : R ((xs.filter p).map g) e0) :
    ∃ W : Nat → List Dat → DL.Env → Prop, W 0 [] e0 ∧ (∀ i d acc env', (xs.map f)[i]? = some d → W i acc env' → St W i d acc env') ∧ ∀ acc env', W (xs.map f).length acc env' → R acc env' := by
  refine ⟨fun i acc env => env = e0 ∧ acc = ((xs.take i).filter p).map g, ⟨rfl, rfl⟩, ?_, ?_⟩
  · rintro i d acc env h ⟨rfl, rfl⟩
    obtain ⟨x, hx, rfl⟩ := mapD_some h
    refine hs _ i x _ hx (fun hp y hy => ⟨rfl, ?_⟩) (fun hp => ⟨rfl, ?_⟩)
    · rw [take_snoc hx, List.filter_append, List.map_append, hy]; simp [hp]
    · rw [take_snoc hx, List.filter_append, List.map_append]; simp [hp]
  · rintro acc env ⟨rfl, rfl⟩
    rw [List.length_map, List.take_length]; exact hd
theorem lc_n (g : Nat → Dat) (hs : ∀ (W : Nat → List Dat → DL.Env → Prop) i x acc, ns[i]? = some x → (∀ y, y = g x → W (i + 1) (acc ++ [y]) e0) → St W i (.int ((x : Nat) : Int)) acc e0) (hd : R (ns.map g) e0) :
    ∃ W : Nat → List Dat → DL.Env → Prop, W 0 [] e0 ∧ (∀ i d acc env', (natsD ns)[i]? = some d → W i acc env' → St W i d acc env') ∧ ∀ acc env', W (natsD ns).length acc env' → R acc env' := by
  rw [natsD_map]; exact lc_m g hs hd
theorem lc_nN (g : Nat → Nat) (hs : ∀ (W : Nat → List Dat → DL.Env → Prop) i x acc, ns[i]? = some x → (∀ y, y = Dat.int ((g x : Nat) : Int) → W (i + 1) (acc ++ [y]) e0) → St W i (.int ((x : Nat) : Int)) acc e0) (hd : R (natsD (ns.map g)) e0) :
    ∃ W : Nat → List Dat → DL.Env → Prop, W 0 [] e0 ∧ (∀ i d acc env', (natsD ns)[i]? = some d → W i acc env' → St W i d acc env') ∧ ∀ acc env', W (natsD ns).length acc env' → R acc env' := by
  rw [natsD_map]; exact lc_mN g hs hd
theorem lc_nB (g : Nat → Bool) (hs : ∀ (W : Nat → List Dat → DL.Env → Prop) i x acc, ns[i]? = some x → (∀ y, y = Dat.bl (g x) → W (i + 1) (acc ++ [y]) e0) → St W i (.int ((x : Nat) : Int)) acc e0) (hd : R ((ns.map g).map Dat.bl) e0) :
    ∃ W : Nat → List Dat → DL.Env → Prop, W 0 [] e0 ∧ (∀ i d acc env', (natsD ns)[i]? = some d → W i acc env' → St W i d acc env') ∧ ∀ acc env', W (natsD ns).length acc env' → R acc env' :=
  lc_n (fun x => Dat.bl (g x)) hs (by rw [List.map_map] at hd; exact hd)
theorem lc_mB (g : α → Bool) (hs : ∀ (W : Nat → List Dat → DL.Env → Prop) i x acc, xs[i]? = some x → (∀ y, y = Dat.bl (g x) → W (i + 1) (acc ++ [y]) e0) → St W i (f x) acc e0) (hd : R ((xs.map g).map Dat.bl) e0) :
    ∃ W : Nat → List Dat → DL.Env → Prop, W 0 [] e0 ∧ (∀ i d acc env', (xs.map f)[i]? = some d → W i acc env' → St W i d acc env') ∧ ∀ acc env', W (xs.map f).length acc env' → R acc env' :=
  lc_m (fun x => Dat.bl (g x)) hs (by rw [List.map_map] at hd; exact hd)
theorem lc_rB (g : Nat → Bool) (hs : ∀ (W : Nat → List Dat → DL.Env → Prop) i acc, i < n → (∀ y, y = Dat.bl (g i) → W (i + 1) (acc ++ [y]) e0) → St W i (.int ((i : Nat) : Int)) acc e0) (hd : R (((List.range n).map g).map Dat.bl) e0) :
    ∃ W : Nat → List Dat → DL.Env → Prop, W 0 [] e0 ∧ (∀ i d acc env', (rangeD 0 n)[i]? = some d → W i acc env' → St W i d acc env') ∧ ∀ acc env', W (rangeD 0 n).length acc env' → R acc env' :=
  lc_r (fun x => Dat.bl (g x)) hs (by rw [List.map_map] at hd; exact hd)
theorem lc_r1 {hi : Nat} (g : Nat → Dat) (hs : ∀ (W : Nat → List Dat → DL.Env → Prop) i acc, i < hi - 1 → (∀ y, y = g i → W (i + 1) (acc ++ [y]) e0) → St W i (.int ((1 + i : Nat) : Int)) acc e0) (hd : R ((List.range (hi - 1)).map g) e0) :
    ∃ W : Nat → List Dat → DL.Env → Prop, W 0 [] e0 ∧ (∀ i d acc env', (rangeD 1 ((hi : Int) - 1).toNat)[i]? = some d → W i acc env' → St W i d acc env') ∧ ∀ acc env', W (rangeD 1 ((hi : Int) - 1).toNat).length acc env' → R acc env' := by
  rw [show ((hi : Int) - 1).toNat = hi - 1 by omega]
  refine lc_at (fun i => some (g i)) (fun W i d acc h k1 _ => ?_) ?_
  · obtain ⟨hi, rfl⟩ := rangeD_some h
    exact hs W i acc hi fun y hy => k1 y (by rw [hy])
  · rw [rangeD_len, List.filterMap_eq_map' (f := g)]; exact hd
theorem lc_r1P {hi : Nat} (g : Nat → Nat × Nat) (hs : ∀ (W : Nat → List Dat → DL.Env → Prop) i acc, i < hi - 1 → (∀ y, y = pairD (g i) → W (i + 1) (acc ++ [y]) e0) → St W i (.int ((1 + i : Nat) : Int)) acc e0) (hd : R (((List.range (hi - 1)).map g).map pairD) e0) :
    ∃ W : Nat → List Dat → DL.Env → Prop, W 0 [] e0 ∧ (∀ i d acc env', (rangeD 1 ((hi : Int) - 1).toNat)[i]? = some d → W i acc env' → St W i d acc env') ∧ ∀ acc env', W (rangeD 1 ((hi : Int) - 1).toNat).length acc env' → R acc env' :=
  lc_r1 (fun x => pairD (g x)) hs (by rw [List.map_map] at hd; exact hd)
theorem lc_mP (g : α → Nat × Nat) (hs : ∀ (W : Nat → List Dat → DL.Env → Prop) i x acc, xs[i]? = some x → (∀ y, y = pairD (g x) → W (i + 1) (acc ++ [y]) e0) → St W i (f x) acc e0) (hd : R ((xs.map g).map pairD) e0) :
    ∃ W : Nat → List Dat → DL.Env → Prop, W 0 [] e0 ∧ (∀ i d acc env', (xs.map f)[i]? = some d → W i acc env' → St W i d acc env') ∧ ∀ acc env', W (xs.map f).length acc env' → R acc env' :=
  lc_m (fun x => pairD (g x)) hs (by rw [List.map_map] at hd; exact hd)
theorem lc_rP (g : Nat → Nat × Nat) (hs : ∀ (W : Nat → List Dat → DL.Env → Prop) i acc, i < n → (∀ y, y = pairD (g i) → W (i + 1) (acc ++ [y]) e0) → St W i (.int ((i : Nat) : Int)) acc e0) (hd : R (((List.range n).map g).map pairD) e0) :
    ∃ W : Nat → List Dat → DL.Env → Prop, W 0 [] e0 ∧ (∀ i d acc env', (rangeD 0 n)[i]? = some d → W i acc env' → St W i d acc env') ∧ ∀ acc env', W (rangeD 0 n).length acc env' → R acc env' :=
  lc_r (fun x => pairD (g x)) hs (by rw [List.map_map] at hd; exact hd)
/-! .. over a list of the def's own, which stays -/
theorem lcO_m {jj : Nat} (g : α → Dat) (ho : ownD e0 jj = some (.lst (xs.map f))) (hs : ∀ (W : Nat → List Dat → DL.Env → Prop) i x acc, xs[i]? = some x → (∀ y, y = g x → W (i + 1) (acc ++ [y]) e0) → St W i (f x) acc e0) (hd : R (xs.map g) e0) :
    ∃ W : Nat → List Dat → DL.Env → Prop, W 0 [] e0 ∧ (∀ i d acc env', (xs.map f)[i]? = some d → W i acc env' → St W i d acc env') ∧ (∀ i acc env', W i acc env' → ownD env' jj = some (.lst (xs.map f))) ∧ ∀ acc env', W (xs.map f).length acc env' → R acc env' := by
  refine ⟨fun i acc env => env = e0 ∧ acc = (xs.take i).map g, ⟨rfl, rfl⟩, ?_, ?_, ?_⟩
  · rintro i d acc env h ⟨rfl, rfl⟩
    obtain ⟨x, hx, rfl⟩ := mapD_some h
    exact hs _ i x _ hx fun y hy => ⟨rfl, by rw [take_snoc hx, List.map_append, hy]; rfl⟩
  · rintro i acc env ⟨rfl, _⟩; exact ho
  · rintro acc env ⟨rfl, rfl⟩
    rw [List.length_map, List.take_length]; exact hd
theorem lcO_n {jj : Nat} (g : Nat → Dat) (ho : ownD e0 jj = some (.lst (natsD ns))) (hs : ∀ (W : Nat → List Dat → DL.Env → Prop) i x acc, ns[i]? = some x → (∀ y, y = g x → W (i + 1) (acc ++ [y]) e0) → St W i (.int ((x : Nat) : Int)) acc e0) (hd : R (ns.map g) e0) :
    ∃ W : Nat → List Dat → DL.Env → Prop, W 0 [] e0 ∧ (∀ i d acc env', (natsD ns)[i]? = some d → W i acc env' → St W i d acc env') ∧ (∀ i acc env', W i acc env' → ownD env' jj = some (.lst (natsD ns))) ∧ ∀ acc env', W (natsD ns).length acc env' → R acc env' := by
  rw [natsD_map] at ho ⊢; exact lcO_m g ho hs hd
theorem lcO_nN {jj : Nat} (g : Nat → Nat) (ho : ownD e0 jj = some (.lst (natsD ns))) (hs : ∀ (W : Nat → List Dat → DL.Env → Prop) i x acc, ns[i]? = some x → (∀ y, y = Dat.int ((g x : Nat) : Int) → W (i + 1) (acc ++ [y]) e0) → St W i (.int ((x : Nat) : Int)) acc e0) (hd : R (natsD (ns.map g)) e0) :
    ∃ W : Nat → List Dat → DL.Env → Prop, W 0 [] e0 ∧ (∀ i d acc env', (natsD ns)[i]? = some d → W i acc env' → St W i d acc env') ∧ (∀ i acc env', W i acc env' → ownD env' jj = some (.lst (natsD ns))) ∧ ∀ acc env', W (natsD ns).length acc env' → R acc env' :=
  lcO_n (fun x => Dat.int ((g x : Nat) : Int)) ho hs (by rw [natsD_map, List.map_map] at hd; exact hd)
theorem lcO_nB {jj : Nat} (g : Nat → Bool) (ho : ownD e0 jj = some (.lst (natsD ns))) (hs : ∀ (W : Nat → List Dat → DL.Env → Prop) i x acc, ns[i]? = some x → (∀ y, y = Dat.bl (g x) → W (i + 1) (acc ++ [y]) e0) → St W i (.int ((x : Nat) : Int)) acc e0) (hd : R ((ns.map g).map Dat.bl) e0) :
    ∃ W : Nat → List Dat → DL.Env → Prop, W 0 [] e0 ∧ (∀ i d acc env', (natsD ns)[i]? = some d → W i acc env' → St W i d acc env') ∧ (∀ i acc env', W i acc env' → ownD env' jj = some (.lst (natsD ns))) ∧ ∀ acc env', W (natsD ns).length acc env' → R acc env' :=
  lcO_n (fun x => Dat.bl (g x)) ho hs (by rw [List.map_map] at hd; exact hd)
theorem lcfO_m {jj : Nat} (p : α → Prop) (g : α → Dat) [DecidablePred p] (ho : ownD e0 jj = some (.lst (xs.map f))) (hs : ∀ (W : Nat → List Dat → DL.Env → Prop) i x acc, xs[i]? = some x → (p x → ∀ y, y = g x → W (i + 1) (acc ++ [y]) e0) → (¬ p x → W (i + 1) acc e0) → St W i (f x) acc e0) (hd : R ((xs.filter p).map g) e0) :
    ∃ W : Nat → List Dat → DL.Env → Prop, W 0 [] e0 ∧ (∀ i d acc env', (xs.map f)[i]? = some d → W i acc env' → St W i d acc env') ∧ (∀ i acc env', W i acc env' → ownD env' jj = some (.lst (xs.map f))) ∧ ∀ acc env', W (xs.map f).length acc env' → R acc env' := by
  refine ⟨fun i acc env => env = e0 ∧ acc = ((xs.take i).filter p).map g, ⟨rfl, rfl⟩, ?_, ?_, ?_⟩
  · rintro i d acc env h ⟨rfl, rfl⟩
    obtain ⟨x, hx, rfl⟩ := mapD_some h
    refine hs _ i x _ hx (fun hp y hy => ⟨rfl, ?_⟩) (fun hp => ⟨rfl, ?_⟩)
    · rw [take_snoc hx, List.filter_append, List.map_append, hy]; simp [hp]
    · rw [take_snoc hx, List.filter_append, List.map_append]; simp [hp]
  · rintro i acc env ⟨rfl, _⟩; exact ho
  · rintro acc env ⟨rfl, rfl⟩
    rw [List.length_map, List.take_length]; exact hd
theorem lcfO_nN {jj : Nat} (p : Nat → Prop) (g : Nat → Nat) [DecidablePred p] (ho : ownD e0 jj = some (.lst (natsD ns))) (hs : ∀ (W : Nat → List Dat → DL.Env → Prop) i x acc, ns[i]? = some x → (p x → ∀ y, y = Dat.int ((g x : Nat) : Int) → W (i + 1) (acc ++ [y]) e0) → (¬ p x → W (i + 1) acc e0) → St W i (.int ((x : Nat) : Int)) acc e0) (hd : R (natsD ((ns.filter p).map g)) e0) :
    ∃ W : Nat → List Dat → DL.Env → Prop, W 0 [] e0 ∧ (∀ i d acc env', (natsD ns)[i]? = some d → W i acc env' → St W i d acc env') ∧ (∀ i acc env', W i acc env' → ownD env' jj = some (.lst (natsD ns))) ∧ ∀ acc env', W (natsD ns).length acc env' → R acc env' := by
  rw [natsD_map, List.map_map] at hd
  have q := @lcfO_m _ R St e0 Nat (fun (n : Nat) => Dat.int (n : Int)) ns jj p (fun x => Dat.int ((g x : Nat) : Int)) _ (by rw [← natsD_map]; exact ho) hs hd
  rw [← natsD_map] at q
  exact q
theorem all_yes {β : Type} (l : List β) : (l.map fun _ => true).all id = true := by induction l <;> simp_all
theorem lcf_n (p : Nat → Prop) (g : Nat → Dat) [DecidablePred p] (hs : ∀ (W : Nat → List Dat → DL.Env → Prop) i x acc, ns[i]? = some x → (p x → ∀ y, y = g x → W (i + 1) (acc ++ [y]) e0) → (¬ p x → W (i + 1) acc e0) → St W i (.int ((x : Nat) : Int)) acc e0) (hd : R ((ns.filter p).map g) e0) :
    ∃ W : Nat → List Dat → DL.Env → Prop, W 0 [] e0 ∧ (∀ i d acc env', (natsD ns)[i]? = some d → W i acc env' → St W i d acc env') ∧ ∀ acc env', W (natsD ns).length acc env' → R acc env' := by
  rw [natsD_map]; exact lcf_m p g hs hd
theorem lcf_nN (p : Nat → Prop) (g : Nat → Nat) [DecidablePred p] (hs : ∀ (W : Nat → List Dat → DL.Env → Prop) i x acc, ns[i]? = some x → (p x → ∀ y, y = Dat.int ((g x : Nat) : Int) → W (i + 1) (acc ++ [y]) e0) → (¬ p x → W (i + 1) acc e0) → St W i (.int ((x : Nat) : Int)) acc e0) (hd : R (natsD ((ns.filter p).map g)) e0) :
    ∃ W : Nat → List Dat → DL.Env → Prop, W 0 [] e0 ∧ (∀ i d acc env', (natsD ns)[i]? = some d → W i acc env' → St W i d acc env') ∧ ∀ acc env', W (natsD ns).length acc env' → R acc env' :=
  lcf_n p (fun x => Dat.int ((g x : Nat) : Int)) hs (by rw [natsD_map, List.map_map] at hd; exact hd)
end
/-! ### promises that are there already -/
structure hs_weight (as : List Ar) (Q : Res → List Dat → Prop) (X : Str → Option (List (Str × Dat)) → List Dat → Prop) : Prop where
  mk ::
  run : sp_weight as Q X
theorem sp_weight_h : sp_weight = hs_weight := by funext as Q X; exact propext ⟨.mk, fun h => h.run⟩
structure hs_givens_of (as : List Ar) (Q : Res → List Dat → Prop) (X : Str → Option (List (Str × Dat)) → List Dat → Prop) : Prop where
  mk ::
  run : sp_givens_of as Q X
theorem sp_givens_of_h : sp_givens_of = hs_givens_of := by funext as Q X; exact propext ⟨.mk, fun h => h.run⟩
structure hs_row_of (as : List Ar) (Q : Res → List Dat → Prop) (X : Str → Option (List (Str × Dat)) → List Dat → Prop) : Prop where
  mk ::
  run : sp_row_of as Q X
theorem sp_row_of_h : sp_row_of = hs_row_of := by funext as Q X; exact propext ⟨.mk, fun h => h.run⟩
structure hs_joined (as : List Ar) (Q : Res → List Dat → Prop) (X : Str → Option (List (Str × Dat)) → List Dat → Prop) : Prop where
  mk ::
  run : sp_joined as Q X
theorem sp_joined_h : sp_joined = hs_joined := by funext as Q X; exact propext ⟨.mk, fun h => h.run⟩
structure hs_law_whole (as : List Ar) (Q : Res → List Dat → Prop) (X : Str → Option (List (Str × Dat)) → List Dat → Prop) : Prop where
  mk ::
  run : sp_law_whole as Q X
theorem sp_law_whole_h : sp_law_whole = hs_law_whole := by funext as Q X; exact propext ⟨.mk, fun h => h.run⟩
structure hs_tells (as : List Ar) (Q : Res → List Dat → Prop) (X : Str → Option (List (Str × Dat)) → List Dat → Prop) : Prop where
  mk ::
  run : sp_tells as Q X
theorem sp_tells_h : sp_tells = hs_tells := by funext as Q X; exact propext ⟨.mk, fun h => h.run⟩
structure hs_law_draw (as : List Ar) (Q : Res → List Dat → Prop) (X : Str → Option (List (Str × Dat)) → List Dat → Prop) : Prop where
  mk ::
  run : sp_law_draw as Q X
theorem sp_law_draw_h : sp_law_draw = hs_law_draw := by funext as Q X; exact propext ⟨.mk, fun h => h.run⟩
section
variable {i j : Int} {n m k : Nat} {Q : Res → List Dat → Prop} {X : Str → Option (List (Str × Dat)) → List Dat → Prop} {l : List Dat} {ns : List Nat} {T : Dat}
instance go_weight [h : IsN i n] : Go (hs_weight [.f (.int i)] Q X) (Q (.f (.int ((popc n : Nat) : Int))) []) := ⟨fun k => .mk ⟨n, by rw [h.eq], k⟩⟩
instance go_givens [h : IsN i n] : Go (hs_givens_of [.f (.int i)] Q X) (∃ B, (n < 2 ^ B ∧ B ≤ 1000) ∧ Q (.n (.lst (natsD (gls B n)))) []) := ⟨fun ⟨B, h1, k⟩ => .mk ⟨n, B, by rw [h.eq], h1.1, h1.2, k⟩⟩
instance go_row_of [h : IsNs l ns] : Go (hs_row_of [.f (.lst l)] Q X) ((∀ g ∈ ns, g ≤ 1000) ∧ Q (.f (.int ((rowOf ns : Nat) : Int))) []) := ⟨fun k => .mk ⟨ns, by rw [h.eq], k.1, k.2⟩⟩
instance go_joined [h : IsN i n] [g : IsN j m] : Go (hs_joined [.f (.int i), .f (.int j)] Q X) (Q (.f (.int ((n ^^^ m : Nat) : Int))) []) := ⟨fun k => .mk ⟨n, m, by rw [h.eq, g.eq], k⟩⟩
instance go_whole : Go (hs_law_whole [.f (.int i)] Q X) (Q (.f (.bl true)) []) := ⟨fun k => .mk ⟨i, rfl, k⟩⟩
instance go_tells [h : IsN i n] [g : IsN j m] : Go (hs_tells [.f (.int i), .f (.int j)] Q X) (Q (.f (.int ((par (n &&& m) : Nat) : Int))) []) := ⟨fun k => .mk ⟨n, m, by rw [h.eq, g.eq], k⟩⟩
theorem draw_go [h : IsN i n] (hT : Tape k T) (hk : k ≤ 1000000000) (h0 : 0 < n) (h1 : n < 2 ^ 64) (q : ∀ (v : Nat) (T' : Dat), Tape (k + 1) T' → v < n → Q (.f (.int v)) [T']) : hs_law_draw [.m T, .f (.int i)] Q X := .mk
  ⟨k, T, n, by rw [h.eq], hT, hk, h0, lt5000 h1, q⟩
end
end DP

set_option Elab.async false
set_option linter.all false
set_option maxRecDepth 100000
set_option maxHeartbeats 800000
namespace DP
open PySem PySem.Spec PyProof.Rows L2 DL
variable [ClsV]
structure hs_rows_of (as : List Ar) (Q : Res → List Dat → Prop) (X : Str → Option (List (Str × Dat)) → List Dat → Prop) : Prop where
  mk ::
  run : sp_rows_of as Q X
theorem sp_rows_of_h : sp_rows_of = hs_rows_of := by funext as Q X; exact propext ⟨.mk, fun h => h.run⟩
structure hs_made_by (as : List Ar) (Q : Res → List Dat → Prop) (X : Str → Option (List (Str × Dat)) → List Dat → Prop) : Prop where
  mk ::
  run : sp_made_by as Q X
theorem sp_made_by_h : sp_made_by = hs_made_by := by funext as Q X; exact propext ⟨.mk, fun h => h.run⟩
structure hs_law_net_k05 (as : List Ar) (Q : Res → List Dat → Prop) (X : Str → Option (List (Str × Dat)) → List Dat → Prop) : Prop where
  mk ::
  run : sp_law_net_k05 as Q X
theorem sp_law_net_k05_h : sp_law_net_k05 = hs_law_net_k05 := by funext as Q X; exact propext ⟨.mk, fun h => h.run⟩
structure hs_is_net (as : List Ar) (Q : Res → List Dat → Prop) (X : Str → Option (List (Str × Dat)) → List Dat → Prop) : Prop where
  mk ::
  run : sp_is_net as Q X
theorem sp_is_net_h : sp_is_net = hs_is_net := by funext as Q X; exact propext ⟨.mk, fun h => h.run⟩
local macro_rules | `(tactic| walk_at "dw") => `(tactic| ((conv => whnf); (try dsimp only [putOuts, putO, fzR, List.set_cons_zero, List.set_cons_succ, List.getElem?_cons_zero, List.getElem?_cons_succ, startE, arS, List.map_cons, List.map_nil, wipeE, restF, List.length_cons, List.length_nil, Int.toNat_natCast, List.getD_cons_zero, List.getD_cons_succ])))
local macro_rules | `(tactic| walk_at "om") => `(tactic| first | omega | (simp only [List.length_cons, List.length_nil, List.length_map, List.length_append, List.length_replicate, List.length_range, List.length_take, List.length_drop, List.length_set, List.length_reverse, rangeD_len, natsD_len]; omega) | assumption | exact rfl | trivial | (refine And.intro ?_ ?_ <;> walk_at "om"))
local macro_rules | `(tactic| walk_at "im") => `(tactic| first | exact trivial | exact ⟨rfl, rfl⟩ | exact imm_any rfl)
local macro_rules | `(tactic| walk_at "tr") => `(tactic| first | exact rfl | exact trivial | assumption | (refine And.intro ?_ ?_ <;> walk_at "tr"))
local macro_rules | `(tactic| walk_at "go1") => `(tactic| ((first
  | refine Go.go ?_
  | refine g_sub (by walk_at "om") ?_ | refine g_subI ?_
  | refine ifb_t rfl ?_ | refine ifb_f rfl ?_
  | refine ifb_y (by first | omega | walk_at "tr") ?_ | refine ifb_n (by first | omega | assumption | decide +kernel) ?_
  | refine and_imm _ _ _ (by walk_at "im") ?_
  | refine and_immX _ _ _ (by first | exact imm_noneX rfl | exact imm_anyX rfl | exact trivial) ?_
  | refine And.intro (by walk_at "om") ?_
  | refine Got.mk ⟨_, rfl, ?_⟩
  | refine draw_go (by assumption) (by walk_at "om") (by walk_at "om") (by walk_at "om") ?_); walk_at "dw"))
local macro_rules | `(tactic| walk_at "go") => `(tactic| (walk_at "dw"; repeat walk_at "go1"))
local macro_rules | `(tactic| walk_at "h") => `(tactic| try simp only [gEq_h, gIs_h, gIn_h, gI0_h, gB0_h, gAdd_h, gMul_h, gIx_h, gI_h, gU_h, gBits_h, gLen_h, gList_h, gTuple_h, gSum_h, gAll_h, gAny_h, gMax_h, gMin_h, gSorted_h, gInt_h, gIsi_h, gAppend_h, gClear_h, gPop_h, gPopAt_h, gInsert_h, gCount_h, gIndex_h, gRevL_h, gEqV_h, dSet_h, dSetd_h, dSl_h, sp_weight_h, sp_givens_of_h, sp_row_of_h, sp_joined_h, sp_law_whole_h, sp_tells_h, sp_law_draw_h])
local macro_rules | `(tactic| walk_at "giv") => `(tactic| ((refine lc_rN (2 ^ ·) (fun W i acc hi k => ?_) ?_; · (walk_at "go"; exact k _ rfl)); rw [show ∀ m, (List.range m).map (2 ^ ·) = giv m from fun _ => rfl]; walk_at "go"))
section
variable {i j : Int} {n m k : Nat} {Q : Res → List Dat → Prop} {X : Str → Option (List (Str × Dat)) → List Dat → Prop} {l : List Dat} {ns os : List Nat} {T o d : Dat} {js : List (Nat × Nat)}
instance go_rows_ofT [h : IsN i m] : Go (hs_rows_of [.f (.tup [.int i, .tup (js.map pairD), o])] Q X) ((JsOk m js ∧ m ≤ 1000 ∧ js.length ≤ 1000) ∧ Q (.n (.lst (natsD (rowsL m js)))) []) := ⟨fun k => .mk ⟨m, js, o, by rw [h.eq], k.1.1, k.1.2.1, k.1.2.2, k.2⟩⟩
instance go_rows_of : Go (hs_rows_of [.f (netD m js os)] Q X) ((JsOk m js ∧ m ≤ 1000 ∧ js.length ≤ 1000) ∧ Q (.n (.lst (natsD (rowsL m js)))) []) := ⟨fun k => .mk ⟨m, js, _, rfl, k.1.1, k.1.2.1, k.1.2.2, k.2⟩⟩
theorem sp_law_rows_k05_h : sp_law_rows_k05 = hs_rows_of := sp_rows_of_h
instance go_made_by : Go (hs_made_by [.f (netD m js os)] Q X) ((JsOk m js ∧ m ≤ 1000 ∧ js.length ≤ 1000 ∧ (∀ o ∈ os, o < m + js.length) ∧ os.length ≤ 1000) ∧ Q (.n (.lst (natsD (outsL m js os)))) []) := ⟨fun k => .mk ⟨m, js, os, rfl, k.1.1, k.1.2.1, k.1.2.2.1, k.1.2.2.2.1, k.1.2.2.2.2, k.2⟩⟩
instance go_is_net : Go (hs_is_net [.f d] Q X) (Pd d ∧ Q (.f (.bl (netB d))) []) := ⟨fun k => .mk ⟨d, rfl, k.1, k.2⟩⟩
theorem net_go [h : IsN i n] [g : IsN j m] (hT : Tape k T) (hk : k ≤ 10 ^ 8) (h1 : 0 < n) (h2 : n ≤ 12) (h3 : m ≤ 132) (q : ∀ m' js os T', Tape (k + 400) T' → NetOk m' js os → m' ≤ n → js.length ≤ m → Q (.f (netD m' js os)) [T']) : hs_law_net_k05 [.m T, .f (.int i), .f (.int j)] Q X := .mk
  ⟨k, T, n, m, by rw [h.eq, g.eq], hT, hk, h1, h2, h3, q⟩
end
end DP

set_option Elab.async false
set_option linter.all false
set_option maxRecDepth 100000
set_option maxHeartbeats 4000000
namespace DP
open PySem PySem.Spec PyProof.Rows L2 DL
variable [ClsV]
structure hInV (n : Bool) (a b : Dat) (Q : Res → Prop) : Prop where
  mk ::
  run : gInV n a b Q
theorem gInV_h : gInV = hInV := by funext n a b Q; exact propext ⟨.mk, fun h => h.run⟩
structure hCountV (d : Dat) (ds : List Dat) (Q : Res → Prop) : Prop where
  mk ::
  run : gCountV d ds Q
theorem gCountV_h : gCountV = hCountV := by funext d ds Q; exact propext ⟨.mk, fun h => h.run⟩
section
variable {i j : Int} {a b c n m : Nat} {Q : Res → Prop} {l l' : List Dat} {ns ms : List Nat} {α : Type} {f : α → Dat} {xs : List α} {A B : Prop} {d x y z : Dat}
/-- whether a datum stands among some -/
class AnyE (n : Nat) (l : List Dat) (a : Dat) (p : outParam Prop) : Prop where
  la : l.all (plv n) = true
  iff : (l.any fun z => eqvD z a) = true ↔ p
instance anyE_nil : AnyE n [] x False := ⟨rfl, by simp⟩
instance anyE_one {p : Prop} [h : EqV n y x p] : AnyE n [y] x p := ⟨by rw [List.all_cons, h.la]; rfl, by rw [List.any_cons, List.any_nil, Bool.or_false]; exact h.iff⟩
instance (priority := 500) anyE_cons {p q : Prop} [h : EqV n y x p] [g : AnyE n l x q] : AnyE n (y :: l) x (p ∨ q) := ⟨by rw [List.all_cons, h.la, g.la]; rfl, by rw [List.any_cons, Bool.or_eq_true]; exact or_congr h.iff g.iff⟩
instance go_inVL {p : Prop} [h : AnyE 39 l x p] [g : Pv 40 x] : Go (hInV false x (.lst l) Q) (Q (.f (.bl (dc p)))) := ⟨fun k => .mk ⟨g.eq, h.la, Got.mk ⟨l, rfl, by rw [Bool.false_xor, ← dc_b (l.any _), dc_congr h.iff]; exact k⟩⟩⟩
instance go_inVT {p : Prop} [h : AnyE 39 l x p] [g : Pv 40 x] : Go (hInV false x (.tup l) Q) (Q (.f (.bl (dc p)))) := ⟨fun k => .mk ⟨g.eq, h.la, Got.mk ⟨l, rfl, by rw [Bool.false_xor, ← dc_b (l.any _), dc_congr h.iff]; exact k⟩⟩⟩
theorem eqv_true {u : Bool} : eqvD (.bl u) (.bl true) = u := by cases u <;> rfl
theorem count_true : ∀ bs : List Bool, (bs.map Dat.bl).countP (fun z => eqvD z (.bl true)) = bs.count true
  | [] => rfl
  | b :: bs => by
    rw [List.map_cons, List.countP_cons, count_true bs, List.count_cons, eqv_true]
    cases b <;> rfl
instance go_countT {bs : List Bool} [h : IsBs l bs] : Go (hCountV (.lst l) [.bl true] Q) (Q (.f (.int ((bs.count true : Nat) : Int)))) := ⟨fun k => .mk ⟨by
  rw [h.eq]
  show (bs.map Dat.bl).all (plv 39) = true
  rw [List.all_map, List.all_eq_true]; exact fun x _ => pv_b.eq, pv_b.eq, by rw [h.eq, count_true]; exact k⟩⟩
instance (priority := 600) go_addB {as bs : List Bool} [h : IsBs l as] [g : IsBs l' bs] : Go (hAdd (.lst l) (.lst l') Q) (as.length + bs.length ≤ 100000 ∧ Q (.n (.lst ((as ++ bs).map Dat.bl)))) := ⟨fun k => .mk <| by
  rw [h.eq, g.eq]
  show _ ∧ Q (.n (.lst (_ ++ _))); rw [List.length_map, List.length_map, ← List.map_append]; exact k⟩
end
end DP

set_option Elab.async false
set_option linter.all false
set_option maxRecDepth 100000
set_option maxHeartbeats 2000000
/-! sorted of a dict whose keys are pairs of whole numbers. -/
namespace DL
open PySem PySem.Spec PyProof.Rows L2
variable [ClsV]
/-- the pair of numbers that a value bears -/
def pairOf (H : Hp) : Value → Int × Int
  | .ref q => match H q with
    | some (.tup [.int i, .int j]) => (i, j)
    | _ => (0, 0)
  | _ => (0, 0)
theorem pairOf_eq {H : Hp} {q : Addr} {x : Int × Int} (h : H q = some (.tup [.int x.1, .int x.2])) : pairOf H (.ref q) = x := by
  show (match H q with
    | some (.tup [.int i, .int j]) => (i, j)
    | _ => ((0 : Int), (0 : Int))) = x
  rw [h]
def adrOf : Value → Addr
  | .ref q => q
  | _ => 0
abbrev pk (x : Int × Int) : List Key := [.inl x.1, .inl x.2]
/-- a value that refers to a pair -/
structure IsP (H : Hp) (v : Value) : Prop where
  ex : ∃ q x, v = .ref q ∧ H q = some (.tup [.int x.1, .int x.2]) ∧ pairOf H v = x
theorem isP_of {H : Hp} {q : Addr} {x : Int × Int} (h : H q = some (.tup [.int x.1, .int x.2])) : IsP H (.ref q) := ⟨q, x, rfl, h, pairOf_eq h⟩
section
variable {X : Cx} {E : L2.St → XK} {e : Expr} {dr : DA} {pp pos : Pos}
theorem IsP.pair {P : Program} {w : World} {H : Hp} {h : Heap} (ok : HOk P w H h) {v : Value} (hv : IsP H v) : Srt.IsPair h v (pairOf H v).1 (pairOf H v).2 := by
  obtain ⟨q, x, rfl, hq, ex⟩ := hv.ex
  rw [ex]
  obtain ⟨_, its, r, o, h1, h2, n, h3⟩ := (show ObjOk P w H h q (.tup [.int x.1, .int x.2]) from ok q _ hq)
  cases r with
  | cons r1 t =>
    cases t with
    | cons r2 t =>
      cases t
      obtain ⟨t1, rfl⟩ := r1
      obtain ⟨t2, rfl⟩ := r2
      exact ⟨q, o, t1, t2, n, rfl, h1, h2, h3⟩
theorem vals_refs {H : Hp} : ∀ {l : List Value}, (∀ v ∈ l, IsP H v) → Vals ((l.map adrOf).map V.ref) l
  | [], _ => .nil
  | v :: l, h => by
    refine .cons ?_ (vals_refs fun u hu => h u (List.mem_cons_of_mem _ hu))
    obtain ⟨q, _, rfl, _⟩ := (h v List.mem_cons_self).ex
    exact rfl
/-- the keys as they stand in the dict -/
theorem kt_keys {H : Hp} {P : Program} {w : World} : ∀ {kvs : List (List Key × V)} {xs : List (List Key × Addr × Value)} {ps : List (Int × Int)}, KT H kvs xs → kvs.map (·.1) = ps.map pk →
    (∀ z ∈ xs, IsP H (.ref z.2.1)) ∧ xs.map (fun z => pairOf H (.ref z.2.1)) = ps
  | _, _, [], .nil, _ => ⟨fun z hz => (by cases hz), rfl⟩
  | _, _, [], .cons _ _, h => by cases h
  | _, _, _ :: _, .nil, h => by cases h
  | _, _, x :: ps, .cons ⟨k1, k2, _⟩ t, h => by
    rw [List.map_cons, List.map_cons] at h
    obtain ⟨e1, e2⟩ := List.cons.inj h
    obtain ⟨i1, i2⟩ := kt_keys (P := P) (w := w) t e2
    rw [e1] at k2
    have ip := isP_of (x := x) k2
    refine ⟨fun z hz => ?_, ?_⟩
    · rcases List.mem_cons.1 hz with rfl | hz
      · exact ip
      · exact i1 z hz
    · rw [List.map_cons, i2]
      exact congrArg (· :: ps) (pairOf_eq k2)
def rSortedP : List V → Hp → VK → Prop := fun vs H Q => ∃ (a : Addr) (kvs : List (List Key × V)) (ps : List (Int × Int)), vs = [.ref a] ∧ Rd H a (.dT kvs) ∧ kvs.map (·.1) = ps.map pk ∧
  ∀ (qs : List Addr) (os : List (Int × Int)) (p : Addr), os.Perm ps → os.Pairwise (fun x y => SrtO.lexB y x = false) → qs.length = os.length → (∀ (i : Nat) (q : Addr) (x : Int × Int), qs[i]? = some q → os[i]? = some x → H q = some (.tup [.int x.1, .int x.2])) → H p = none → Q (.ref p) (upd H p (.lst (qs.map V.ref)))
theorem cr_sortedP (hc : X.calm = true) : CallR X (.builtin "sorted") rSortedP := by
  intro pins s σ H vs us Q I r h
  obtain ⟨a, kvs, ps, rfl, hd, hk, q⟩ := h
  rw [Vals.ref1 r]
  obtain ⟨hz, lo, xs, kt, o, es, ep, g1, g2, g3, g4, _⟩ := (show ObjOk X.prog X.w H s.heap a (.dT kvs) from hd.ok I.hok)
  obtain ⟨isp, eps⟩ := kt_keys (P := X.prog) (w := X.w) kt hk
  have len : es.size = kvs.length := by rw [← Array.length_toList, g4, List.length_map]; exact (Paired.length kt).symm
  refine Calls.call_function_entry kind_sorted plain_sorted entry_sorted (args_sorted1 _) ?_
  unfold Builtin.«sorted»
  refine wpAny_bind (m := checkCount "sorted" 1 1 _) (wpAny_pure (wpAny_bind (PySem.W.kdu_collect (A := X.A.in1) (KdlSrc.rawDict (es := es) (ep := ep) lo) (I.ok.hd hc) ⟨o, g1, g2, g3⟩ (by omega) fun h1 tk acc old ⟨al, av⟩ => ?_)))
  have eacc : acc.toList = xs.map fun z => Value.ref z.2.1 := by
    refine List.ext_getElem? fun j => ?_
    rw [List.getElem?_map]
    rcases Nat.lt_or_ge j acc.size with hj | hj
    · have ej : acc[j]? = some acc[j] := Array.getElem?_eq_getElem hj
      obtain ⟨hi, ek⟩ := av j _ ej
      rw [Array.getElem?_toList, ej, ek]
      have : es.toList[j]? = some es[j] := by rw [Array.getElem?_toList]; exact Array.getElem?_eq_getElem hi
      rw [g4, List.getElem?_map] at this
      cases ex : xs[j]? with
      | none => rw [ex] at this; cases this
      | some z =>
        rw [ex] at this
        have := Option.some.inj this
        rw [← this]; rfl
    · rw [Array.getElem?_toList, Array.getElem?_eq_none hj, List.getElem?_eq_none (by have := Paired.length kt; omega)]; rfl
  have allP : ∀ v ∈ acc.toList, IsP H v := fun v hv => by
    rw [eacc] at hv
    obtain ⟨z, hz, rfl⟩ := List.mem_map.1 hv
    exact isp z hz
  have hlen : acc.toList.length ≤ sizeLine := by rw [Array.length_toList, al, len]; exact hz
  have I1 : Inv X pins σ H { s with heap := h1, toks := tk } := I.kept old
  refine wpAny_bind (wpAny_newList ?_ hlen)
  have at1 : (h1.push (seqObj "list" acc.toList.toArray 0)).get? h1.objs.size = some (seqObj "list" acc.toList.toArray 0) := Heap.get?_push_size _ rfl
  have old1 : ∀ b u, h1.get? b = some u → (h1.push (seqObj "list" acc.toList.toArray 0)).get? b = some u := fun b u z => Heap.get?_push_of_some _ z
  show wpAny _ _ _ _ _ { s with heap := h1.push (seqObj "list" acc.toList.toArray 0), toks := tk }
  have sb : 2 ≤ acc.toList.length → SrtO.SortableO X.prog X.w X.A.in1.in1 { s with heap := h1.push (seqObj "list" acc.toList.toArray 0), toks := tk } h1.objs.size acc.toList fun v u => SrtO.lexB (pairOf H v) (pairOf H u) := fun h2 =>
    SrtO.pairs_sortableO (k := pairOf H) (by omega) (fun v hv => ((allP v hv).pair I1.hok).keeps fun b u z _ => old1 b u z) fun u z c => by
      cases at1.symm.trans z
      exact absurd (Value.type.inj c) (by decide)
  refine wpAny_bind (wpAny_holding (wpAny_call_entry slot_list_sort ⟨_, at1, rfl⟩ entry_list_sort (SrtO.list_sort_ord (SrtO.swo_lex (pairOf H)) at1 hlen sb fun out so st => ⟨_, rfl, ?_⟩) (args_list_sort _)))
  have outP : ∀ v ∈ out, IsP H v := fun v hv => allP v (st.perm.mem_iff.1 hv)
  obtain ⟨n, atL⟩ := sortedHeap_at (vs := acc.toList) (out := out.toArray) at1
  have hl2 : ((out.map adrOf).map V.ref).length ≤ sizeLine := by rw [List.length_map, List.length_map, st.perm.length_eq]; exact hlen
  refine wpAny_pure ⟨_, rfl, .ref h1.objs.size, upd H h1.objs.size (.lst ((out.map adrOf).map V.ref)), I1.laid (t' := tk) (fun b u z => ?_) (Nat.le_refl _) (show ObjOk X.prog X.w _ _ _ (.lst _) from ⟨hl2, out, n, vals_refs outP, atL⟩), rfl, ?_⟩
  · have lt : b < h1.objs.size := Heap.lt_size z
    rw [sortedHeap_old (Nat.ne_of_lt lt) (by rw [size_push']; exact Nat.lt_succ_of_lt lt)]
    exact old1 b u z
  · refine q (out.map adrOf) (out.map (pairOf H)) _ ?_ ?_ (by rw [List.length_map, List.length_map]) (fun i q x e1 e2 => ?_) (I1.hok.fresh (Nat.le_refl _))
    · rw [← eps]
      have := st.perm.map (pairOf H)
      rw [eacc, List.map_map] at this
      exact this
    · exact List.pairwise_map.2 so
    · rw [List.getElem?_map] at e1 e2
      cases ev : out[i]? with
      | none => rw [ev] at e1; cases e1
      | some v =>
        rw [ev] at e1 e2
        cases e1; cases e2
        obtain ⟨q, x, rfl, hq, ex⟩ := (outP v (List.mem_of_getElem? ev)).ex
        rw [ex]; exact hq
/-- growing twice -/
theorem Gr.then {F H F1 H1 F2 H2 : Hp} (a : Gr F H F1 H1) (b : Gr F1 H1 F2 H2) : Gr F H F2 H2 where
  hx := a.hx.trans b.hx
  fx := a.fx.trans b.fx
  fn := fun q n => by
    have n1 : H1 q ≠ none := by
      cases e : H q with
      | none => exact absurd e n
      | some o => rw [a.hx _ _ e]; exact fun z => by cases z
    rcases b.fn q n1 with z | ⟨z, t⟩
    · rcases a.fn q n with y | ⟨y, vs, t⟩
      · exact .inl (z.trans y)
      · exact .inr ⟨y, vs, b.hx _ _ t⟩
    · rcases a.fn q n with y | ⟨y, _⟩
      · exact .inr ⟨y ▸ z, t⟩
      · exact .inr ⟨y, t⟩
  fz := b.fz
  fl := fun q ob o e => a.fl q ob o (b.fl q ob o e)
def prD (x : Int × Int) : Dat := .tup [.int x.1, .int x.2]
theorem Fr.tupsF {L : Addr → Prop} {C : Cc} {H : Hp} : ∀ {qs : List Addr} {os : List (Int × Int)} {F : Hp}, Fr L C F H → qs.length = os.length → (∀ (i : Nat) (q : Addr) (x : Int × Int), qs[i]? = some q → os[i]? = some x → H q = some (.tup [.int x.1, .int x.2])) →
    ∃ F2, Gr F H F2 H ∧ Reps F2 (qs.map V.ref) (os.map prD)
  | [], [], F, R, _, _ => ⟨F, Gr.refl R, .nil⟩
  | [], _ :: _, F, R, h, _ => by simp at h
  | _ :: _, [], F, R, h, _ => by simp at h
  | q :: qs, x :: os, F, R, h, k => by
    obtain ⟨F1, g1, r1⟩ := R.tupF (q := q) (ks := pk x) (k 0 q x rfl rfl)
    obtain ⟨F2, g2, r2⟩ := Fr.tupsF (R.grow g1) (by simpa using h) fun i p y e1 e2 => k (i + 1) p y (by simpa using e1) (by simpa using e2)
    exact ⟨F2, g1.then g2, .cons (r1.mono g2.fx) r2⟩
def gSortedP : GA := fun ds Q => match ds with
  | [.dt l] => ∃ ps : List (Int × Int), l.map (·.1) = ps.map pk ∧ ∀ os : List (Int × Int), os.Perm ps → os.Pairwise (fun x y => SrtO.lexB y x = false) → Q (.n (.lst (os.map prD)))
  | _ => False
theorem o_sortedP : OpA rSortedP gSortedP := fun L C F H xs ds Q Qd fr rx h k => by
  unfold gSortedP at h
  split at h
  · next l =>
    obtain ⟨ps, hk, h⟩ := h
    obtain ⟨v, rfl, a, vs, rfl, ha, rs⟩ := rx.one
    refine ⟨a, vs, ps, rfl, ha, (repT_key rs).trans hk, fun qs os p h1 h2 h3 h4 hp => ?_⟩
    obtain ⟨F2, g2, r2⟩ := fr.tupsF h3 h4
    have fr2 := fr.grow g2
    exact k F2 _ _ (.n _) (g2.then (fr2.grO hp _)) (new_lst fr2 hp r2) (h os h1 h2)
  · exact h.elim
theorem de_sortedP (hc : X.calm = true) (hg : Gl X "sorted") (hm : X.mg "sorted" = none) (ha : DAx X E [e] dr) (he : starEach [e] X.env = (false, eval e X.env) :: starEach [] X.env := by rfl) (hpl : (backTo pos (starEach [] X.env)).any (·.1) = false := by rfl) : DEx X E (.Call (.Name "sorted" pp) [e] [] pos) (dCB gSortedP dr) :=
  de_callB (cr_sortedP hc) o_sortedP hg hm (by decide +kernel) ha (he := he) (hpl := hpl)
end
end DL

set_option Elab.async false
set_option linter.all false
set_option maxRecDepth 100000
set_option maxHeartbeats 4000000
/-! set(a list of whole numbers); sorted(set(..)). -/
namespace DL
open PySem PySem.Spec PyProof.Rows L2
/-- a set of nothing, as it is made -/
def setO0 (w : World) : Obj := { cls := .type "set", dict := none, data := .set #[] 0 (.fresh 0 0 (!w.params.followText "set-order")) }
section
variable {P : Program} {w : World} {A : Around} {E : Value → Shared → Prop} {s : Shared} {l : Addr} {xs : Array Value} {ns : List Int}
/-- what the set's own filling leaves -/
def Filled (w : World) (s : Shared) (n0 : Addr) (ns : List Int) (v : Value) (s2 : Shared) : Prop := v = .none ∧ ∃ g k c, s2 = { s with heap := g, toks := k } ∧ SetR w g n0 (fun j => decide (j ∈ ns)) c ∧ c ≤ ns.length ∧ ∀ b o, s.heap.get? b = some o → g.get? b = some o
theorem call_set_lst {Q : Value → Shared → Prop} (hh : A.handled = none) (hl : s.heap.IsList l xs) (hi : IntsAre xs.toList ns) (hb : ns.length + 1 < scanBound)
    (h : ∀ v s2, Filled w s s.heap.objs.size ns v s2 → Q (.ref s.heap.objs.size) s2) : wpAny (model P w) A (call (.type "set") [.ref l]) Q E s := by
  obtain ⟨mc, mt, mro⟩ := F.called_set.mro
  have cs := F.called_set
  refine wpAny_call (codeAny_of_tree (show wpAny _ _ (callAny (.type "set") _) _ _ _ from wpAny_pure ⟨Code.quiet_builtin _ (by decide +kernel), codeAny_builtin F.entry_type_call ?_⟩))
  rw [Around.under_plain (weight_type_call_type "set" [.ref l] []) rfl]
  have a1 := cs.made; have a2 := cs.sub; have a3 := cs.notType; have a4 := cs.canCreate; have a5 := F.typeCall_set_1 (.ref l)
  repeat (any_goals (first | assumption | wp_step))
  refine codeAny_mono (code_set_led1 (.ref l) (E := E) (Q₁ := fun v t => v = .ref s.heap.objs.size ∧ t = { s with heap := s.heap.push (setO0 w) }) ⟨rfl, rfl⟩) fun r t hr => ?_
  rcases r with e | fl
  · exact hr
  cases fl with
  | ret v0 =>
    cases hr.1
    cases hr.2
    have b1 : (s.heap.push (setO0 w)).get? s.heap.objs.size = some (setO0 w) := Heap.get?_push_size _ rfl
    have b2 : Shared.TypeIs { s with heap := s.heap.push (setO0 w) } (.ref s.heap.objs.size) "set" := ⟨_, b1, rfl⟩
    have b3 := cs.init.lookup
    have b4 := cs.init.bind (.ref s.heap.objs.size)
    repeat (any_goals (first | assumption | wp_step))
    refine codeAny_mono (codeAny_call_builtin (R := wants (Filled w s s.heap.objs.size ns) E) cs.init.plain F.entry_set_init (check_set_init_1 b2 ?_)) fun r2 t2 q2 => ?_
    · have sz : (s.heap.push (setO0 w)).objs.size = s.heap.objs.size + 1 := Heap.size_push ..
      have lx : xs.size = ns.length := by rw [← IntsAre.length hi, Array.length_toList]
      obtain ⟨⟨cc, dd, da, sl⟩, g0, c0, nn, d0⟩ := hl
      have c0 : cc = .type "list" := c0
      have d0 : da = .seq xs nn := d0
      rw [c0, d0] at g0
      have l0 := Heap.lt_size g0
      have g1 := Heap.get?_push_of_some (setO0 w) g0
      have u1 := F.sub_list_set; have u2 := F.sub_list_frozenset
      have u3 : (Value.type "list" == Value.type "dict") = false := by decide
      have l1 : (s.heap.push (setO0 w)).IsList l xs := ⟨_, g1, rfl, nn, rfl⟩
      unfold Builtin.«set.__init__» noKeywords Builtin.Frozenset.updateFrom
      generalize ei : pyIter = it
      wp_walk
      rw [← ei]
      refine wpAny_pyIter_list l1 (wpAny_bind (wpAny_runValue ?_))
      have ne1 : l ≠ (s.heap.push (setO0 w)).objs.size := fun z => absurd (z.trans sz) (Nat.ne_of_lt (Nat.lt_succ_of_lt l0))
      have ne2 : s.heap.objs.size ∉ [(s.heap.push (setO0 w)).objs.size, l] := fun z => by
        rcases List.mem_cons.1 z with y | y
        · exact absurd (y.trans sz) (Nat.ne_of_lt (Nat.lt_succ_self _))
        · exact absurd (List.mem_singleton.1 y) (Nat.ne_of_gt l0)
      have it0 : ∀ (i : Nat) (v : Value), xs[i]? = some v → ∃ k t, ns[i]? = some k ∧ v = .int k t := fun i v hv => by
        have il : i < ns.length := lx ▸ (Array.getElem?_eq_some_iff.mp hv).1
        obtain ⟨t, e⟩ := PyProof.Rows.IntsAre.int_at hi i v (Array.getElem?_toList.trans hv)
        exact ⟨ns[i], t, List.getElem?_eq_getElem il, e.trans (by rw [List.getD_eq_getElem?_getD, List.getElem?_eq_getElem il]; rfl)⟩
      have h3 : A.in1.in1.in1.handled = none := by simp [hh]
      refine set_update_ints ((Walks.list h3 _ l ne1 xs).toS) s.heap.objs.size ne2 ns lx hb it0 xs.size 0 _ (Nat.sub_zero _) (Nat.zero_le _) ⟨⟨_, Heap.get?_push_size _ rfl, rfl, rfl⟩, l1.push _⟩ ⟨0, Nat.le_refl 0, setR_new_at (Heap.get?_push_of_some _ b1)⟩ fun t c mv hc R => ?_
      obtain ⟨g, gg, dr, tk, os⟩ := t
      cases mv.gens
      cases mv.drawn
      cases mv.os
      refine wpAny_pure (wpAny_pure ⟨rfl, g, tk, c, rfl, R, lx ▸ hc, fun b o e => ?_⟩)
      have bl := Heap.lt_size e
      exact mv.heap b o (fun z => by
        rcases List.mem_cons.1 z with y | y
        · exact absurd y (Nat.ne_of_lt bl)
        · exact absurd ((List.mem_singleton.1 y).trans sz) (Nat.ne_of_lt (Nat.lt_succ_of_lt bl))) (Heap.get?_push_of_some _ (Heap.get?_push_of_some _ e))
    · rcases r2 with e | fl2
      · exact q2
      cases fl2 with
      | ret v =>
        obtain ⟨rfl, g, k, c, rfl, q3⟩ := q2
        repeat (any_goals (first | assumption | wp_step))
        exact h _ _ ⟨rfl, g, k, c, rfl, q3⟩
      | _ => exact q2.elim
  | _ => exact hr.elim
end
end DL

set_option Elab.async false
set_option linter.all false
set_option maxRecDepth 100000
set_option maxHeartbeats 4000000
/-! len(set(xs)) of whole numbers, alike ones among them. -/
namespace DL
open PySem PySem.Spec PyProof.Rows L2
variable [ClsV]
theorem nodup_le : ∀ (K ns : List Int), K.Nodup → (∀ x ∈ K, x ∈ ns) → K.length ≤ ns.length
  | [], _, _, _ => Nat.zero_le _
  | a :: K, ns, nd, sub => by
    have nd := List.nodup_cons.1 nd
    have ha := sub a List.mem_cons_self
    have := nodup_le K (ns.erase a) nd.2 fun x hx => (List.mem_erase_of_ne (fun e : x = a => nd.1 (by rw [← e]; exact hx))).2 (sub x (List.mem_cons_of_mem _ hx))
    rw [List.length_erase_of_mem ha] at this
    have := List.length_pos_of_mem ha
    rw [List.length_cons]; omega
theorem nodup_lt : ∀ (ns K : List Int), K.Nodup → (∀ x ∈ K, x ∈ ns) → ¬ ns.Nodup → K.length < ns.length
  | [], _, _, _, h => absurd List.nodup_nil h
  | a :: ns, K, nd, sub, h => by
    rcases Classical.em (a ∈ ns) with z | z
    · have := nodup_le K ns nd fun x hx => (List.mem_cons.1 (sub x hx)).elim (fun e => e ▸ z) id
      rw [List.length_cons]; omega
    · have hn : ¬ ns.Nodup := fun y => h (List.nodup_cons.2 ⟨z, y⟩)
      have := nodup_lt ns (K.erase a) (nd.erase a) (fun x hx => by
        have h2 := (nd.mem_erase_iff).1 hx
        exact (List.mem_cons.1 (sub x h2.2)).elim (fun e => absurd e h2.1) id) hn
      have h3 : K.length ≤ (K.erase a).length + 1 := by
        rw [List.length_erase]; split <;> omega
      rw [List.length_cons]; omega
theorem nodup_eq {K ns : List Int} (nd : K.Nodup) (h : ∀ x, x ∈ K ↔ x ∈ ns) : K.length ≤ ns.length ∧ (K.length = ns.length ↔ ns.Nodup) := by
  refine ⟨nodup_le K ns nd fun x => (h x).1, fun e => Classical.byContradiction fun z => ?_, fun nn => ?_⟩
  · exact absurd e (Nat.ne_of_lt (nodup_lt ns K nd (fun x => (h x).1) z))
  · exact Nat.le_antisymm (nodup_le K ns nd fun x => (h x).1) (nodup_le ns K nn fun x => (h x).2)
section
variable {X : Cx} {E : L2.St → XK} {e : Expr} {da : DE} {p1 p2 q1 pos : Pos}
/-- of a list or a tuple of whole numbers: how many unlike ones -/
def rLenSetA (K : PySem.W.Frag) (x : V) (H : Hp) (Q : VK) : Prop := ∃ (l : Addr) (ns : List Int), x = .ref l ∧ (SqL K H l (ns.map V.int) ∨ SqT K H l (ns.map V.int)) ∧ ns.length ≤ 4000 ∧
  ∀ c : Nat, c ≤ ns.length → (c = ns.length ↔ ns.Nodup) → Q (.int (c : Nat)) H
theorem pe_lenSetA {ta : TE} (hg : Gl X "len") (hm : X.mg "len" = none) (hg2 : Gl X "set") (hm2 : X.mg "set" = none) (hc : X.calm = true) (ha : PE X e ta) (na : starEach [e] X.env = (false, eval e X.env) :: starEach [] X.env := by rfl) :
    PE X (.Call (.Name "len" p1) [.Call (.Name "set" p2) [e] [] q1] [] pos) (tUn (rLenSetA X.K) ta) := by
  refine ⟨fun pins s σ H Q I h => Call_ (ld_blt I hg hm PySem.boot_len (PyProof.Rows.callWith_builtin1 (PyProof.Rows.args_cons (Call_ (ld_blt I hg2 hm2 boot_set (PyProof.Rows.callWith_type1 (PyProof.Rows.args_cons (thn (ha.run pins s σ H _ I h) fun v s1 ⟨x, H1, I1, r1, q1⟩ => PyProof.Rows.args_nil ?_) na) na rfl))) rfl) rfl rfl))⟩
  obtain ⟨l, ns, ex, hs, hl, q⟩ := q1
  rw [ex] at r1
  cases r1
  have nh := I1.ok.hd hc
  have few : ns.length + 1 < scanBound := by unfold scanBound; omega
  have next : ∀ (g : Heap) (k c : Nat), SetR X.w g s1.heap.objs.size (fun j => decide (j ∈ ns)) c → (∀ b o, s1.heap.get? b = some o → g.get? b = some o) →
      wpAny (model X.prog X.w) X.A (call (.builtin "len") [.ref s1.heap.objs.size]) (EP X pins σ Q) X.xe { s1 with heap := g, toks := k } := fun g k c R kp => by
    obtain ⟨o, es, ep, t, ho, hex, hd, _, nd, hm, _, hf, hn, _⟩ := R
    have z := nodup_eq nd (ns := ns) fun x => by rw [← hm x]; simp
    rw [List.length_map, Array.length_toList] at z
    exact call_len_set ho hex hd hf (by have := z.1; omega) ⟨.int es.size, H1, (I1.kept kp).tok _, ⟨_, rfl⟩, q es.size z.1 z.2⟩
  rcases hs with hs | hs
  · obtain ⟨its, rv, pl, _⟩ := I1.list hs
    exact call_set_lst nh pl.isList (by simpa using RZ.intsAre_vals rv) few fun v s2 ⟨_, g, k, c, es, R, hc, kp⟩ => by rw [es]; exact PyProof.Rows.args_nil (next g k c R kp)
  · obtain ⟨its, rv, pt, _⟩ := I1.tuple hs
    exact call_set_tupI ns nh (show s1.heap.IsTuple l its.toArray from pt) (by simpa using RZ.intsAre_vals rv) few fun g k c R hc kp => PyProof.Rows.args_nil (next g k c R kp)
def gLenSetA : G1 := fun d Q => ∃ l, (d = .lst l ∨ d = .tup l) ∧ IntsL l fun ns => ns.length ≤ 4000 ∧ ∀ c : Nat, c ≤ ns.length → (c = ns.length ↔ ns.Nodup) → Q (.f (.int (c : Nat)))
theorem o_lenSetA {K : PySem.W.Frag} : Op1 (rLenSetA K) gLenSetA := fun L C F H x d Q Qd fr rx h k => by
  obtain ⟨l, hd, h⟩ := h
  obtain ⟨ns, rfl, hl, h⟩ := h.ex
  have fin : ∀ c : Nat, c ≤ ns.length → (c = ns.length ↔ ns.Nodup) → Q (.int (c : Nat)) H := fun c h1 h2 => k F H _ (.f _) (Gr.refl fr) (Rep.int _) (h c h1 h2)
  rcases hd with rfl | rfl
  · obtain ⟨a, ws, rfl, ha, rl⟩ := rx
    rw [rl.ints] at ha
    exact ⟨a, ns, rfl, .inl (.inl (.inl ha)), hl, fin⟩
  · obtain ⟨a, ws, rfl, _, ha, rl⟩ := rx
    rw [rl.ints] at ha
    exact ⟨a, ns, rfl, .inr (.inl (.inl ha)), hl, fin⟩
theorem de_lenSetA (hg : Gl X "len") (hm : X.mg "len" = none) (hg2 : Gl X "set") (hm2 : X.mg "set" = none) (hc : X.calm = true) (ha : DEx X E e da) (na : starEach [e] X.env = (false, eval e X.env) :: starEach [] X.env := by rfl) :
    DEx X E (.Call (.Name "len" p1) [.Call (.Name "set" p2) [e] [] q1] [] pos) (dUn gLenSetA da) := by
  obtain ⟨t, p, s⟩ := ha.ex
  exact ⟨_, pe_lenSetA hg hm hg2 hm2 hc p na, se_un (r := rLenSetA X.K) o_lenSetA s⟩
end
end DL

set_option Elab.async false
set_option linter.all false
set_option maxRecDepth 100000
set_option maxHeartbeats 2000000
/-! x not in l: data of any depth. -/
namespace DL
open PySem PySem.Spec PyProof.Rows L2
variable [ClsV]
section
variable {X : Cx} {E : L2.St → XK} {a b : Expr} {da db : DE} {pos : Pos}
def rNinT (K : PySem.W.Frag) : R2 := fun x y H Q => ∃ d ds, Dp K H x d ∧ Dp K H y (.tuple ds) ∧ SeqAt.shaped d = true ∧ SeqAt.shaped (.tuple ds) = true ∧ Q (.bl (!(ds.any fun z => PyData.eqv z d))) H
theorem op_ninT (hu : X.A.units + 65 < cLine) : OpR X (compareOp .NotIn) (rNinT X.K) := fun pins s σ H x y v u Q I rx ry ⟨d, ds, hd, hs, sd, ss, q⟩ => by
  obtain ⟨_, r1⟩ := Dp.reads I d x v hd rx
  obtain ⟨_, r2⟩ := Dp.reads I (.tuple ds) y u hs ry
  exact SeqAt.notIn_tuple_reads r2 r1 (SeqAt.canLay_of_shaped ss) (SeqAt.canLay_of_shaped sd) (room_in_shaped sd hu) ⟨.bl _, H, I, rfl, q⟩
theorem o_ninV {K : PySem.W.Frag} : Op2 (fun x y H Q => rNotInD K x y H Q ∨ rNinT K x y H Q) (gInV true) := fun L C F H x y dx dy Q Qd fr rx ry ⟨h1, h2, h3⟩ k => by
  have u := pv1_of (K := K) fr.fz h1 rx
  have v := pv1_of (K := K) fr.fz h2 ry
  have nt : ∀ l : List Dat, (true ^^ l.any fun z => eqvD z dx) = !((toPys l).any fun z => PyData.eqv z (toPy dx)) := fun l => by rw [toPys_any, Bool.true_xor]
  obtain ⟨l', hl, h4⟩ := h3.ex
  have h5 : Qd (.f (.bl (true ^^ l'.any fun z => eqvD z dx))) := h4
  rw [nt] at h5
  cases dy with
  | lst l2 => cases hl; exact .inl ⟨_, _, u.dp, v.dp, pv_shape u.lay u.dep, pv_shape v.lay v.dep, k F H _ (.f _) (Gr.refl fr) (Rep.bl _) h5⟩
  | tup l2 => cases hl; exact .inr ⟨_, _, u.dp, v.dp, pv_shape u.lay u.dep, pv_shape v.lay v.dep, k F H _ (.f _) (Gr.refl fr) (Rep.bl _) h5⟩
  | _ => cases hl
theorem de_ninV {k : Nat} (hr : Room k X.A) (ha : DEx X E a da) (hb : DEx X E b db) (hm : behindInMarks .NotIn b = false := by rfl) : DEx X E (.Compare a [.NotIn] [b] pos) (dOp (gInV true) da db) := de_cmp ((op_notInD (room65 hr)).or (op_ninT (room65 hr))) o_ninV ha hb hm
theorem dt_ninV {k : Nat} (hr : Room k X.A) (ha : DEx X E a da) (hb : DEx X E b db) (hm : behindInMarks .NotIn b = false := by rfl) : DTx X E (.Compare a [.NotIn] [b] pos) (dB (dOp (gInV true) da db)) := dt_cmp ((op_notInD (room65 hr)).or (op_ninT (room65 hr))) o_ninV ha hb hm
end
end DL

set_option Elab.async false
set_option linter.all false
set_option maxRecDepth 100000
set_option maxHeartbeats 2000000
/-! Instances of own classes: their fields, methods, how they are made. -/
namespace DL
open PySem PySem.Spec PyProof.Rows L2
/-- own classes beside the exceptions -/
def clsOf2 (tab own : List (Str × Addr)) : ClsV := ⟨fun n => match own.lookup n with
  | some C => .ref C
  | none => (clsOf tab).v n, (clsOf tab).ok⟩
theorem xtab2 {K : PySem.W.Frag} {mg : Str → Option Value} {tab own : List (Str × Addr)} (T : @XTab (clsOf tab) K mg) (h : tab.all (fun p => (own.lookup p.1).isNone) = true) : @XTab (clsOf2 tab own) K mg := by
  have same : ∀ n, (clsOf tab).ok n → (clsOf2 tab own).v n = (clsOf tab).v n := fun n ⟨C, hC⟩ => by
    have := List.all_eq_true.1 h _ (lookup_mem hC)
    show (match own.lookup n with | some C => Value.ref C | none => (clsOf tab).v n) = _
    rw [Option.isNone_iff_eq_none.1 this]
  refine @XTab.mk (clsOf2 tab own) K mg ?_ ?_ ?_
  · obtain ⟨J, a, b, c, d, k⟩ := @XTab.J (clsOf tab) K mg T
    exact ⟨J, a, b, c, d, fun n hn => by
      obtain ⟨C, e, x⟩ := k n hn
      exact ⟨C, (same n hn).trans e, x⟩⟩
  · exact fun n m hn hm e => @XTab.inj (clsOf tab) K mg T n m hn hm ((same n hn).symm.trans (e.trans (same m hm)))
  · exact @XTab.nj (clsOf tab) K mg T
variable [ClsV]
/-- the class of a name -/
def clsA (c : Str) : Addr := match ClsV.v c with
  | .ref a => a
  | _ => 0
section
variable {L : Addr → Prop} {C : Cc} {F F' H H' : Hp} {σ : L2.St} {env env1 : Env} {i : Nat} {d : Dat} {v : V} {p : Addr} {o : HO} {f : Str}
theorem repF_lookup : ∀ {vs : List (Str × V)} {ds : List (Str × Dat)}, RepF F vs ds → ds.lookup f = some d → ∃ v, vs.lookup f = some v ∧ Rep F v d
  | _, _, .nil, h => by cases h
  | _, _, .cons (k := k) (v := v) (d := d') (vs := vs) (ds := ds) r t, h => by
    rw [List.lookup_cons] at h ⊢
    by_cases z : (f == k) = true
    · rw [z] at h ⊢; cases h; exact ⟨v, rfl, r⟩
    · rw [Bool.not_eq_true] at z
      rw [z] at h ⊢
      exact repF_lookup t h
theorem repF_none : ∀ {vs : List (Str × V)} {ds : List (Str × Dat)}, RepF F vs ds → ds.lookup f = none → vs.lookup f = none
  | _, _, .nil, h => rfl
  | _, _, .cons (k := k) r t, h => by
    rw [List.lookup_cons] at h ⊢
    by_cases z : (f == k) = true
    · rw [z] at h; cases h
    · rw [Bool.not_eq_true] at z
      rw [z] at h ⊢
      exact repF_none t h
theorem repF_len : ∀ {vs : List (Str × V)} {ds : List (Str × Dat)}, RepF F vs ds → vs.length = ds.length
  | _, _, .nil => rfl
  | _, _, .cons _ t => by rw [List.length_cons, List.length_cons, repF_len t]
/-- a field put -/
def putFd (f : Str) (d : Dat) : List (Str × Dat) → List (Str × Dat)
  | [] => [(f, d)]
  | (g, x) :: r => if g = f then (g, d) :: r else (g, x) :: putFd f d r
theorem repF_put (rv : Rep F v d) : ∀ {vs : List (Str × V)} {ds : List (Str × Dat)}, RepF F vs ds → RepF F (L2.putF f v vs) (putFd f d ds)
  | _, _, .nil => .cons rv .nil
  | _, _, .cons (k := k) (v := w) (d := d') (vs := vs) (ds := ds) r t => by
    show RepF F (if k = f then (k, v) :: vs else (k, w) :: L2.putF f v vs) (if k = f then (k, d) :: ds else (k, d') :: putFd f d ds)
    split
    · exact .cons rv t
    · exact .cons r (repF_put rv t)

/-! ### fields -/
def fldD (c f : Str) : Dat → Option Dat
  | .ins C ds => if C = clsA c then ds.lookup f else none
  | _ => none
def gFld (c f : Str) : G1 := fun d Q => Got (fldD c f d) fun v => Q (.f v)
def rFld (K : PySem.W.Frag) (f : Str) : V → Hp → VK → Prop := fun x H Q => ∃ a C dx fs v, x = .ref a ∧ H a = some (.ins C dx fs) ∧ Cls K C ∧ NoAttr K C f ∧ fs.lookup f = some v ∧ Q v H
theorem o_fld {K : PySem.W.Frag} {c : Str} (I : Cls K (clsA c)) (n : NoAttr K (clsA c) f) : Op1 (rFld K f) (gFld c f) := fun L C F H x d Q Qd fr rx h k => by
  obtain ⟨v, hv, h2⟩ := h.ex
  have h2 : Qd (.f v) := h2
  clear h
  cases d with
  | ins C' ds =>
    unfold fldD at hv
    dsimp only at hv
    split at hv
    · next e =>
      subst e
      obtain ⟨a, dx, vs, e, ha, rf⟩ := rx
      obtain ⟨w, hw, rw'⟩ := repF_lookup rf hv
      exact ⟨a, _, dx, vs, w, e, ha, I, n, hw, k F H w (.f v) (Gr.refl fr) rw' h2⟩
    · cases hv
  | _ => cases hv
variable {X : Cx} {E : L2.St → XK} {e o' : Expr} {c : Str} {pos pos' : Pos} {da dw : DE}
theorem de_fld {f : Str} (I : Cls X.K (clsA c)) (n : NoAttr X.K (clsA c) f) (ha : DEx X E e da) (hb : attributeBase e f X.env (eval e X.env) = eval e X.env := by rfl) : DEx X E (.Attribute e f pos) (dUn (gFld c f) da) := by
  obtain ⟨t, p, s⟩ := ha.ex
  exact ⟨_, pe_fld p hb, se_un (r := rFld X.K f) (o_fld I n) s⟩
def gSetF (c f : Str) (o d : Dat) (Q : Dat → Prop) : Prop := match o with
  | .ins C ds => (C = clsA c ∧ ds.length < 1000) ∧ Q (.ins C (putFd f d ds))
  | _ => False
def dSetF (c f : Str) (dw da : DE) : DS := fun D env => dw env (fun rv env1 => withD (elD rv) fun d => da env1 (fun ro env2 => match ro with
  | .l j => withD (ownD env2 j) fun d0 => gSetF c f d0 d fun d' => D.nx (putO env2 j d')
  | _ => False) D.xr) D.xr
theorem ds_setF {f : Str} (I : Cls X.K (clsA c)) (n : NoAttr X.K (clsA c) f) (hv : DEx X E e dw) (ho : DEx X E o' da) (hs : swapsWith e (some (.Attribute o' f pos')) pos.line X.env = pure false := by rfl) : DSx X E (.Assign [.Attribute o' f pos'] e pos) (dSetF c f dw da) := by
  obtain ⟨t1, p1, s1⟩ := hv.ex
  obtain ⟨t2, p2, s2⟩ := ho.ex
  refine ⟨_, ps_fld p2 p1 hs, fun L C F H σ env D Dd R h k x => s1 L C F H σ env _ _ _ R h (fun F1 H1 v r env1 e1 R1 rv q => ?_) x⟩
  obtain ⟨d, hd, q⟩ := withD_of q
  obtain ⟨F2, e2, R2, r2⟩ : ∃ F2, Ex F1 F2 ∧ Rl L C F2 H1 σ env1 ∧ Rep F2 v d := by
    cases r with
    | f d => cases hd; exact ⟨F1, Ex.refl _, R1, rv⟩
    | n d => cases hd; exact R1.frz rv
    | l j => cases hd
  refine s2 L C F2 H1 σ env1 _ _ _ R2 q (fun F3 H3 o ro env3 e3 R3 rvo q3 => ?_) (x.mono (e1.trans e2))
  split at q3
  · next j =>
    have rvo : σ[j]? = some (some o) := rvo
    obtain ⟨d0, hd0, q3⟩ := withD_of q3
    obtain ⟨p, hp, hf, cc, _⟩ := R3.own hd0
    rw [rvo] at hp; cases hp
    unfold gSetF at q3
    split at q3
    · next C' ds =>
      obtain ⟨⟨eC, hl⟩, q3⟩ := q3
      subst eC
      obtain ⟨dx, vs, ha, rf⟩ := cc
      refine ⟨p, _, dx, vs, rfl, ha, I, n, by rw [repF_len rf]; exact hl, ?_⟩
      exact k.nx F3 _ σ _ (e1.trans (e2.trans e3)) (R3.mut (d' := .ins (clsA c) (putFd f d ds)) hd0 rvo (o := .ins (clsA c) dx (L2.putF f v vs)) ⟨dx, _, upd_same, repF_put (r2.mono e3) rf⟩) q3
    · exact q3.elim
  · exact q3.elim

/-! ### methods -/
structure CalM (P : Program) (w : World) (K : PySem.W.Frag) (mg : Str → Option Value) (base : Heap) (k : Nat) (c m : Str) (ps : List Str) (dsp : DSp) : Prop where
  ex : ∃ f fd, FnOk P w K mg base CX0 k f fd ps (lift dsp) ∧ Meth K (clsA c) m f ∧ Binds K fd ps []
def insM (c m : Str) : Dat → Prop
  | .ins C ds => C = clsA c ∧ ds.lookup m = none
  | _ => False
def dMet (ms : List Bool) (c m : Str) (dsp : DSp) (db : DE) (dr : DA) : DE := fun env Q X => db env (fun r env1 => withD (view env1 (fzR r)) fun d => insM c m d ∧ dr env1 (fun rs env2 => okLoans ms (fzR r :: rs) = true ∧ withD (argsOf env2 ms (fzR r :: rs)) fun as =>
  dsp as (fun r' ds => immOk (frzI ms (fzR r :: rs)) r' ds ∧ Q r' (putOuts env2 ms (fzR r :: rs) ds)) (fun _ _ _ => False)) X) X
theorem se_met {ms : List Bool} {c m : Str} {dsp : DSp} {db : DE} {dr : DA} {ta : TE} {t : TA} {E' : XK} (s0 : SE E ta db) (s : SA E t dr) : SE E (tMeth (clsA c) m (lift dsp) [] E' ta t) (dMet ms c m dsp db dr) := fun L C F H σ env Q Qd Xd R h kk xx =>
  s0 L C F H σ env _ _ Xd R h (fun F0 H0 v0 r0 env0 e0 R0 rv0 q0 => by
    obtain ⟨F1, e1, R1, a1⟩ := R0.fzv rv0
    obtain ⟨d, hd, hi, q0⟩ := withD_of q0
    have r1 := a1.rep1 R1 hd
    cases d with
    | ins C' ds =>
      obtain ⟨eC, hn⟩ := hi
      subst eC
      obtain ⟨a, dx, vs, ev, ha, rf⟩ := r1
      refine ⟨a, dx, vs, ev, ha, repF_none rf hn, ?_⟩
      refine s L C F1 H0 σ env0 _ _ Xd R1 q0 (fun F2 H2 us rs env2 e2 R2 av q => ?_) (xx.mono (e0.trans e1))
      obtain ⟨hok, q⟩ := q
      obtain ⟨as, has, q⟩ := withD_of q
      obtain ⟨C', hC, fr', inj, ao, out⟩ := call_ok (ms := ms) R2 (RAs.cons (a1.mono e2) av) has hok
      show lift dsp (v0 :: (us ++ [])) H2 Q E'
      rw [List.append_nil]
      refine ⟨L, C', as, _, _, hC, fr', inj, ao, q, fun r ds F' H' v hq fr2 rr oo => ?_, fun _ _ _ _ _ _ z => z.elim⟩
      obtain ⟨hi, hq⟩ := hq
      have hi' := immOk_nil hi
      obtain ⟨F3, e3, R3, k3, kn, h0⟩ := out F' H' ds fr2 oo (hi'.imp id fun z => z.2)
      exact kk F3 H' v r _ (e0.trans (e1.trans (e2.trans e3))) R3 (rr_back hC h0 rr k3 kn (hi'.imp id fun z => z.1)) hq
    | _ => exact hi.elim) xx
variable {k : Nat} {m : Str} {ps : List Str} {dsp : DSp} {apos : Pos} {es : List Expr} {dr : DA}
theorem de_met {pl : Sem Bool} (ms : List Bool) (I : Cls X.K (clsA c)) (M : CalM X.prog X.w X.K X.mg X.base k c m ps dsp) (hr : Room k X.A) (ho : DEx X E o' da) (ha : DAx X E (e :: es) dr)
    (hP : (backTo pos (starEach es X.env)).any (·.1) = false := by rfl) (hS : starEach (e :: es) X.env = (false, eval e X.env) :: starEach es X.env := by rfl)
    (ht : eval (.Call (.Attribute o' m apos) (e :: es) [] pos) X.env = (eval o' X.env >>= fun ov => standAt apos.atName >>= fun _ => holding [ov] (getMethod ov m pl) >>= fun x => callWith pos x.1 x.2 (backTo pos (starEach (e :: es) X.env)) (backToKw pos (keywordEach [] X.env))) := by rfl) :
    DEx X E (.Call (.Attribute o' m apos) (e :: es) [] pos) (dMet ms c m dsp da dr) := by
  obtain ⟨f, fd, G, hm, hb⟩ := M.ex
  obtain ⟨t0, p0, s0⟩ := ho.ex
  obtain ⟨t, p, s⟩ := ha.ex
  exact ⟨_, pe_meth p0 I hm G hr hb .nil pass0 p hS hP ht, se_met s0 s⟩
theorem de_met0 {pl : Sem Bool} (I : Cls X.K (clsA c)) (M : CalM X.prog X.w X.K X.mg X.base k c m ps dsp) (hr : Room k X.A) (ho : DEx X E o' da)
    (ht : eval (.Call (.Attribute o' m apos) [] [] pos) X.env = (eval o' X.env >>= fun ov => standAt apos.atName >>= fun _ => holding [ov] (getMethod ov m pl) >>= fun x => callWith pos x.1 x.2 (backTo pos (starEach [] X.env)) (backToKw pos (keywordEach [] X.env))) := by rfl) :
    DEx X E (.Call (.Attribute o' m apos) [] [] pos) (dMet [false] c m dsp da dNil) := by
  obtain ⟨f, fd, G, hm, hb⟩ := M.ex
  obtain ⟨t0, p0, s0⟩ := ho.ex
  exact ⟨_, pe_meth0 p0 I hm G hr hb .nil pass0 ht, se_met s0 sa_nil⟩
end

/-! ### an instance is made -/
section
variable {L : Addr → Prop} {C : Cc} {F H : Hp} {σ : L2.St} {env : Env} {d d' : Dat} {v : V} {p : Addr} {ms : List Bool} {rs : List Res} {as : List Ar}
theorem ownD_app {i : Nat} {x : Option S} (h : i < env.length) : ownD (env ++ [x]) i = ownD env i := by
  unfold ownD; rw [List.getElem?_append_left h]
theorem ownD_lt {i : Nat} (h : ownD env i = some d) : i < env.length := by
  rcases Nat.lt_or_ge i env.length with z | z
  · exact z
  · unfold ownD at h; rw [List.getElem?_eq_none z] at h; cases h
theorem ownD_end : ownD (env ++ [some (.o d)]) env.length = some d := by
  unfold ownD; rw [List.getElem?_append_right (Nat.le_refl _), Nat.sub_self]; rfl
theorem isO_app {i : Nat} {x : Option S} (h : IsO (env ++ [x]) i) (l : i < env.length) : IsO env i := by
  obtain ⟨d, hd⟩ := h
  exact ⟨d, by rw [← ownD_app l]; exact hd⟩
theorem Rl.push (R : Rl L C F H σ env) (ow : Own C F H p d) (n : ∀ i, IsO env i → σ[i]? ≠ some (some (.ref p))) : Rl L C F H (σ ++ [some (.ref p)]) (env ++ [some (.o d)]) where
  fr := R.fr
  len := by rw [List.length_append, List.length_append, R.len]; rfl
  sl := fun i s e => by
    rcases Nat.lt_or_ge i env.length with z | z
    · rw [List.getElem?_append_left z] at e
      rw [List.getElem?_append_left (by rw [R.len]; exact z)]
      exact R.sl i s e
    · rw [List.getElem?_append_right z] at e
      rw [List.getElem?_append_right (by rw [R.len]; exact z), R.len]
      have z0 : i - env.length = 0 := by
        rcases Nat.eq_zero_or_pos (i - env.length) with y | y
        · exact y
        · rw [List.getElem?_eq_none (by rw [List.length_singleton]; omega)] at e; cases e
      rw [z0] at e ⊢
      cases e
      exact ⟨_, rfl, p, rfl, ow⟩
  nd := fun i j q ne hi hj ei ej => by
    have low : ∀ i, IsO (env ++ [some (.o d)]) i → (σ ++ [some (.ref p)])[i]? = some (some (.ref q)) → (IsO env i ∧ σ[i]? = some (some (.ref q))) ∨ (i = env.length ∧ q = p) := fun i hi ei => by
      rcases Nat.lt_or_ge i env.length with z | z
      · rw [List.getElem?_append_left (by rw [R.len]; exact z)] at ei
        exact .inl ⟨isO_app hi z, ei⟩
      · rw [List.getElem?_append_right (by rw [R.len]; exact z), R.len] at ei
        have z0 : i - env.length = 0 := by
          rcases Nat.eq_zero_or_pos (i - env.length) with y | y
          · exact y
          · rw [List.getElem?_eq_none (by rw [List.length_singleton]; omega)] at ei; cases ei
        rw [z0] at ei
        cases ei
        exact .inr ⟨by omega, rfl⟩
    rcases low i hi ei with ⟨a, b⟩ | ⟨a, b⟩ <;> rcases low j hj ej with ⟨a', b'⟩ | ⟨a', b'⟩
    · exact R.nd i j q ne a a' b b'
    · exact n i a (b' ▸ b)
    · exact n j a' (b ▸ b')
    · exact ne (a.trans a'.symm)
theorem Rl.pop {x : Option S} {ov : Option V} (R : Rl L C F H (σ ++ [ov]) (env ++ [x])) : Rl L C F H σ env := by
  have hl : σ.length = env.length := by
    have := R.len
    rw [List.length_append, List.length_append] at this
    simpa using this
  have lt : ∀ i s, env[i]? = some (some s) → i < env.length := fun i s e => by
    rcases Nat.lt_or_ge i env.length with z | z
    · exact z
    · rw [List.getElem?_eq_none z] at e; cases e
  have up : ∀ i, IsO env i → IsO (env ++ [x]) i ∧ i < env.length := fun i ⟨d, hd⟩ => ⟨⟨d, by rw [ownD_app (ownD_lt hd)]; exact hd⟩, ownD_lt hd⟩
  refine ⟨R.fr, hl, fun i s e => ?_, fun i j p n hi hj ei ej => ?_⟩
  · have l := lt i s e
    have := R.sl i s (by rw [List.getElem?_append_left l]; exact e)
    rw [List.getElem?_append_left (by rw [hl]; exact l)] at this
    exact this
  · obtain ⟨a, la⟩ := up i hi
    obtain ⟨b, lb⟩ := up j hj
    exact R.nd i j p n a b (by rw [List.getElem?_append_left (by rw [hl]; exact la)]; exact ei) (by rw [List.getElem?_append_left (by rw [hl]; exact lb)]; exact ej)
theorem view_app {x : Option S} : ∀ {r : Res} {d : Dat}, view env r = some d → view (env ++ [x]) r = some d
  | .f _, _, h => h
  | .n _, _, h => h
  | .l i, d, h => by
    have h : ownD env i = some d := h
    show ownD (env ++ [x]) i = some d
    rw [ownD_app (ownD_lt h)]; exact h
theorem args_app {x : Option S} : ∀ {ms : List Bool} {rs : List Res} {as : List Ar}, argsOf env ms rs = some as → argsOf (env ++ [x]) ms rs = some as
  | [], [], _, h => h
  | [], _ :: _, _, h => by cases h
  | true :: ms, [], _, h => by cases h
  | false :: ms, [], _, h => by cases h
  | true :: ms, .f _ :: rs, _, h => by cases h
  | true :: ms, .n _ :: rs, _, h => by cases h
  | true :: ms, .l i :: rs, as, h => by
    unfold argsOf at h ⊢
    split at h
    · next d as' e1 e2 =>
      rw [ownD_app (ownD_lt e1), e1, args_app e2]; exact h
    · cases h
  | false :: ms, r :: rs, as, h => by
    unfold argsOf at h ⊢
    split at h
    · next d as' e1 e2 =>
      rw [view_app e1, args_app e2]; exact h
    · cases h
theorem args_own : ∀ {ms : List Bool} {rs : List Res} {as : List Ar}, argsOf env ms rs = some as → ∀ i, (i ∈ mutI ms rs ∨ i ∈ frzI ms rs) → i < env.length
  | [], [], _, _, i, hi => by simp [mutI, frzI] at hi
  | [], _ :: _, _, h, _, _ => by cases h
  | true :: ms, [], _, h, _, _ => by cases h
  | false :: ms, [], _, h, _, _ => by cases h
  | true :: ms, .f _ :: rs, _, h, _, _ => by cases h
  | true :: ms, .n _ :: rs, _, h, _, _ => by cases h
  | true :: ms, .l j :: rs, as, h, i, hi => by
    unfold argsOf at h
    split at h
    · next d as' e1 e2 =>
      by_cases z : i = j
      · rw [z]; exact ownD_lt e1
      · exact args_own e2 i (by simpa [mutI, frzI, z] using hi)
    · cases h
  | false :: ms, .f _ :: rs, as, h, i, hi => by
    unfold argsOf at h
    split at h
    · next d as' e1 e2 => exact args_own e2 i (by simpa [mutI, frzI] using hi)
    · cases h
  | false :: ms, .n _ :: rs, as, h, i, hi => by
    unfold argsOf at h
    split at h
    · next d as' e1 e2 => exact args_own e2 i (by simpa [mutI, frzI] using hi)
    · cases h
  | false :: ms, .l j :: rs, as, h, i, hi => by
    unfold argsOf at h
    split at h
    · next d as' e1 e2 =>
      by_cases z : i = j
      · rw [z]; exact ownD_lt (d := d) e1
      · exact args_own e2 i (by simpa [mutI, frzI, z] using hi)
    · cases h
theorem putO_app {x : Option S} {i : Nat} (h : i < env.length) : putO (env ++ [x]) i d = putO env i d ++ [x] := by
  unfold putO
  rw [List.getElem?_append_left h]
  cases env[i]? with
  | none => rfl
  | some u =>
    cases u with
    | none => rfl
    | some s =>
      cases s with
      | f _ => rfl
      | o _ => exact List.set_append_left _ _ h
      | b _ => exact List.set_append_left _ _ h
theorem outs_app {x : Option S} : ∀ {ms : List Bool} {rs : List Res} {ds : List Dat} {env : Env}, (∀ i ∈ mutI ms rs, i < env.length) → putOuts (env ++ [x]) ms rs ds = putOuts env ms rs ds ++ [x]
  | [], _, _, env, _ => by simp [putOuts]
  | true :: ms, [], _, env, _ => by simp [putOuts]
  | false :: ms, [], _, env, _ => by simp [putOuts]
  | true :: ms, .l i :: rs, [], env, h => by simp only [putOuts]; exact outs_app fun j hj => h j (by simp [mutI, hj])
  | true :: ms, .l i :: rs, d :: ds, env, h => by
    simp only [putOuts]
    rw [putO_app (h i (by simp [mutI]))]
    exact outs_app fun j hj => by rw [putO_len]; exact h j (by simp [mutI, hj])
  | true :: ms, .f _ :: rs, ds, env, h => by simp only [putOuts]; exact outs_app fun j hj => h j (by simpa [mutI] using hj)
  | true :: ms, .n _ :: rs, ds, env, h => by simp only [putOuts]; exact outs_app fun j hj => h j (by simpa [mutI] using hj)
  | false :: ms, r :: rs, ds, env, h => by simp only [putOuts]; exact outs_app fun j hj => h j (by cases r <;> simpa [mutI] using hj)
theorem ras_app {ov : Option V} {vs : List V} {rs : List Res} (a : RAs F σ vs rs) : (∀ i, Res.l i ∈ rs → i < σ.length) → RAs F (σ ++ [ov]) vs rs := by
  induction a with
  | nil => exact fun _ => .nil
  | @cons v r vs rs a t ih =>
    intro h
    refine .cons ?_ (ih fun i hi => h i (List.mem_cons_of_mem _ hi))
    cases r with
    | f d => exact a
    | n d => exact a
    | l i =>
      show (σ ++ [ov])[i]? = _
      rw [List.getElem?_append_left (h i List.mem_cons_self)]; exact a
theorem args_l : ∀ {ms : List Bool} {rs : List Res} {as : List Ar}, argsOf env ms rs = some as → ∀ i, Res.l i ∈ rs → i ∈ mutI ms rs ∨ i ∈ frzI ms rs
  | [], [], _, _, i, hi => by cases hi
  | [], _ :: _, _, h, _, _ => by cases h
  | true :: ms, [], _, h, _, _ => by cases h
  | false :: ms, [], _, h, _, _ => by cases h
  | true :: ms, .f _ :: rs, _, h, _, _ => by cases h
  | true :: ms, .n _ :: rs, _, h, _, _ => by cases h
  | true :: ms, .l j :: rs, as, h, i, hi => by
    unfold argsOf at h
    split at h
    · next d as' e1 e2 =>
      rcases List.mem_cons.1 hi with e | e
      · cases e; exact .inl (by simp [mutI])
      · exact (args_l e2 i e).imp (fun z => by simp [mutI, z]) fun z => by simp [frzI, z]
    · cases h
  | false :: ms, .f _ :: rs, as, h, i, hi => by
    unfold argsOf at h
    split at h
    · next d as' e1 e2 =>
      rcases List.mem_cons.1 hi with e | e
      · cases e
      · exact (args_l e2 i e).imp (fun z => by simp [mutI, z]) fun z => by simp [frzI, z]
    · cases h
  | false :: ms, .n _ :: rs, as, h, i, hi => by
    unfold argsOf at h
    split at h
    · next d as' e1 e2 =>
      rcases List.mem_cons.1 hi with e | e
      · cases e
      · exact (args_l e2 i e).imp (fun z => by simp [mutI, z]) fun z => by simp [frzI, z]
    · cases h
  | false :: ms, .l j :: rs, as, h, i, hi => by
    unfold argsOf at h
    split at h
    · next d as' e1 e2 =>
      rcases List.mem_cons.1 hi with e | e
      · cases e; exact .inr (by simp [frzI])
      · exact (args_l e2 i e).imp (fun z => by simp [mutI, z]) fun z => by simp [frzI, z]
    · cases h
end
structure CalI (P : Program) (w : World) (K : PySem.W.Frag) (mg : Str → Option Value) (base : Heap) (k : Nat) (c : Str) (ps : List Str) (dsp : DSp) : Prop where
  ex : ∃ f fd, FnOk P w K mg base CX0 k f fd ps (lift dsp) ∧ L2.Mk K (clsA c) f ∧ mg c = some (.ref (clsA c)) ∧ Binds K fd ps []
def dMake (ms : List Bool) (c : Str) (dsp : DSp) (dr : DA) : DE := fun env Q X => dr env (fun rs env1 => okLoans ms rs = true ∧ withD (argsOf env1 ms rs) fun as =>
  dsp (.m (.ins (clsA c) []) :: as) (fun r ds => r = .f .non ∧ Got ds.head? fun d' => immOk (frzI ms rs) (.n d') ds.tail ∧ Q (.n d') (putOuts env1 ms rs ds.tail)) (fun _ _ _ => False)) X
section
variable {L : Addr → Prop} {C : Cc} {F H : Hp} {ms : List Bool} {c : Str} {dsp : DSp} {dr : DA} {ta : TA} {E' : XK} {E : L2.St → XK}
theorem se_make (s : SA E ta dr) : SE E (tMake (clsA c) (lift dsp) [] E' ta) (dMake ms c dsp dr) := fun L C F H σ env Q Qd Xd R h kk xx =>
  s L C F H σ env _ _ Xd R h (fun F1 H1 vs rs env1 e1 R1 av q => by
    obtain ⟨hok, q⟩ := q
    obtain ⟨as, has, q⟩ := withD_of q
    intro x dx hx hdx nx
    -- the new object stands in a slot of its own behind the others
    have g1 := R1.fr.grO hdx (.own x)
    have R2 := R1.grow g1
    have hx1 : (upd H1 dx (.own x)) x = none := by rw [upd_ne (Ne.symm nx)]; exact hx
    have g2 := R2.fr.grO hx1 (.ins (clsA c) dx [])
    have R3 := R2.grow g2
    generalize hH3 : upd (upd H1 dx (.own x)) x (.ins (clsA c) dx []) = H3 at *
    have own : Own C F1 H3 x (.ins (clsA c) []) := ⟨R2.fr.new0 hx1, R2.fr.fz_eq hx1, dx, [], by rw [← hH3]; exact upd_same, .nil⟩
    have nsl : ∀ i, IsO env1 i → σ[i]? ≠ some (some (.ref x)) := fun i hi => R2.not_none hx1 hi
    have R4 := R3.push own nsl
    have len := R1.len
    have lo : ∀ i, Res.l i ∈ rs → i < σ.length := fun i hi => by rw [len]; exact args_own has i (args_l has i hi)
    have hm : (env1 ++ [some (.o (.ins (clsA c) []))] : Env).length = env1.length + 1 := by rw [List.length_append]; rfl
    have has2 : argsOf (env1 ++ [some (.o (.ins (clsA c) []))]) (true :: ms) (.l env1.length :: rs) = some (.m (.ins (clsA c) []) :: as) := by
      unfold argsOf
      rw [ownD_end, args_app has]
    have notin : env1.length ∉ mutI ms rs ∧ env1.length ∉ frzI ms rs := ⟨fun z => Nat.lt_irrefl _ (args_own has _ (.inl z)), fun z => Nat.lt_irrefl _ (args_own has _ (.inr z))⟩
    have hok2 : okLoans (true :: ms) (.l env1.length :: rs) = true := by
      unfold okLoans at hok ⊢
      rw [Bool.and_eq_true, decide_eq_true_eq] at hok ⊢
      refine ⟨List.nodup_cons.2 ⟨notin.1, hok.1⟩, ?_⟩
      show ((env1.length :: mutI ms rs).all fun i => !(frzI ms rs).contains i) = true
      rw [List.all_cons, hok.2, Bool.and_true]
      simpa using notin.2
    have av2 : RAs F1 (σ ++ [some (.ref x)]) (.ref x :: vs) (.l env1.length :: rs) := .cons (by
      show (σ ++ [some (V.ref x)])[env1.length]? = _
      rw [← len, List.getElem?_append_right (Nat.le_refl _), Nat.sub_self]; rfl) (ras_app av lo)
    obtain ⟨C', hC, fr', inj, ao, out⟩ := call_ok (ms := true :: ms) R4 av2 has2 hok2
    show lift dsp (.ref x :: (vs ++ [])) H3 _ E'
    rw [List.append_nil]
    refine ⟨L, C', _, _, _, hC, fr', inj, ao, q, fun r ds F' H' v hq fr2 rr oo => ?_, fun _ _ _ _ _ _ z => z.elim⟩
    obtain ⟨hr, hq⟩ := hq
    obtain ⟨d', hd', hi, hq⟩ := hq.ex
    subst hr
    cases rr
    refine ⟨rfl, ?_⟩
    cases ds with
    | nil => cases hd'
    | cons d0 ds =>
      have ed : d0 = d' := Option.some.inj hd'
      subst ed
      have hi : immOk (frzI ms rs) (.n d0) ds := hi
      have hi' := immOk_nil hi
      have im : frzI (true :: ms) (.l env1.length :: rs) = [] ∨ (d0 :: ds).all immC = true := by
        rcases hi' with z | z
        · exact .inl z
        · refine .inr ?_
          rw [List.all_cons, z.2, Bool.and_true]
          exact z.1
      obtain ⟨F2, e2, R5, k2, kn, h0⟩ := out F' H' (d0 :: ds) fr2 oo im
      have po : putOuts (env1 ++ [some (.o (.ins (clsA c) []))]) (true :: ms) (.l env1.length :: rs) (d0 :: ds) = putOuts env1 ms rs ds ++ [some (.o d0)] := by
        have p1 : putO (env1 ++ [some (.o (.ins (clsA c) []))]) env1.length d0 = env1 ++ [some (.o d0)] := by
          unfold putO
          rw [List.getElem?_append_right (Nat.le_refl _), Nat.sub_self]
          show (env1 ++ [some (S.o (.ins (clsA c) []))]).set env1.length (some (.o d0)) = _
          rw [List.set_append_right _ _ (Nat.le_refl _), Nat.sub_self]; rfl
        show putOuts (putO _ _ _) ms rs ds = _
        rw [p1]
        exact outs_app fun i hi => args_own has i (.inl hi)
      rw [po] at R5
      have pl : (putOuts env1 ms rs ds).length = env1.length := putOuts_len ms rs ds env1
      obtain ⟨ov, h1, p, h2, h3⟩ := R5.sl env1.length (.o d0) (by rw [← pl, List.getElem?_append_right (Nat.le_refl _), Nat.sub_self]; rfl)
      rw [← len, List.getElem?_append_right (Nat.le_refl _), Nat.sub_self] at h1
      cases h1
      cases h2
      refine kk F2 H' (.ref x) (.n d0) _ (e1.trans e2) R5.pop ⟨x, rfl, h3, fun i hi => ?_⟩ hq
      intro ei
      obtain ⟨d, hd⟩ := hi
      have il := ownD_lt hd
      refine R5.nd i env1.length x (by omega) ⟨d, by rw [ownD_app il]; exact hd⟩ ⟨d0, by rw [← pl]; exact ownD_end⟩ ?_ ?_
      · rw [List.getElem?_append_left (by rw [len, ← pl]; exact il)]; exact ei
      · rw [← len, List.getElem?_append_right (Nat.le_refl _), Nat.sub_self]; rfl) xx
variable {X : Cx} {k : Nat} {ps : List Str} {pos pp : Pos} {e : Expr} {es : List Expr}
theorem de_make (ms : List Bool) (M : CalI X.prog X.w X.K X.mg X.base k c ps dsp) (hr : Room (k + 1) X.A) (hg : Gl X c) (ha : DAx X E (e :: es) dr) (hdb : (c == ("__debug__" : Str)) = false := by decide) (he : starEach (e :: es) X.env = (false, eval e X.env) :: starEach es X.env := by rfl) (hpl : (backTo pos (starEach es X.env)).any (·.1) = false := by rfl) :
    DEx X E (.Call (.Name c pp) (e :: es) [] pos) (dMake ms c dsp dr) := by
  obtain ⟨f, fd, G, mk, hm, hb⟩ := M.ex
  obtain ⟨t, p, s⟩ := ha.ex
  exact ⟨_, pe_make mk G hr hg hm hb .nil pass0 p hdb he hpl, se_make s⟩
theorem de_make0 (M : CalI X.prog X.w X.K X.mg X.base k c ps dsp) (hr : Room (k + 1) X.A) (hg : Gl X c) (hdb : (c == ("__debug__" : Str)) = false := by decide) :
    DEx X E (.Call (.Name c pp) [] [] pos) (dMake [] c dsp dNil) := by
  obtain ⟨f, fd, G, mk, hm, hb⟩ := M.ex
  exact ⟨_, pe_make0 mk G hr hg hm hb .nil pass0 hdb, se_make sa_nil⟩
end
/-! ### a way to a dict in a field; defs of a class -/
section
variable {X : Cx} {e : Expr} {pos : Pos} {c f : Str} {pd : Env → Option Dat}
def pdFld (c f : Str) (pd : Env → Option Dat) : Env → Option Dat := fun env => (pd env).bind (fldD c f)
theorem dp_fld (I : Cls X.K (clsA c)) (n : NoAttr X.K (clsA c) f) (h : DPx X e pd) (hb : attributeBase e f X.env (eval e X.env) = eval e X.env := by rfl) : DPx X (.Attribute e f pos) (pdFld c f pd) := by
  obtain ⟨td, p, s⟩ := h.ex
  refine ⟨_, pe_fld p hb, fun L C F H σ env d R h => ?_⟩
  obtain ⟨d0, h0, h1⟩ := Option.bind_eq_some_iff.1 h
  obtain ⟨v, rv, k⟩ := s L C F H σ env d0 R h0
  cases rv with
  | @ins a C' dx vs ds ha rf =>
    unfold fldD at h1
    dsimp only at h1
    split at h1
    · next eC =>
      subst eC
      obtain ⟨w, hw, rw'⟩ := repF_lookup rf h1
      have hH := R.fr.fz.ex ha rfl
      exact ⟨w, rw', fun H2 Q keep q => k H2 _ keep ⟨a, _, dx, vs, w, rfl, keep a _ hH rfl rfl, I, n, hw, q⟩⟩
    · cases h1
  | _ => cases h1
end
section
variable {mg : Str → Option Value} {base : Heap} {K : PySem.W.Frag} {w : World} {P : Program}
theorem def_calM {c m qual : Str} {st : Stmt} {f : Addr} {fd : FuncData} {N ps : List Str} {k : Nat} {dsp : DSp} {rd : DS} (Fn : Fun K m qual st f fd) (S : FnScope N ps (defScope st)) (hm : Meth K (clsA c) m f) (hb : Binds K fd ps [])
    (hd : ∀ (cdv : Value) (A : Around) (outer : List PySem.Env) (s : Shared) (H : Hp) (E : XK), Room k (A.deeper (envOfC qual (defScope st) s.heap.objs.size f cdv)) → DSs (cxOf CX0 P w K mg base N qual (defScope st) f cdv A outer s H E).nox noE (defBody st) rd)
    (hp : ∀ as Q X, dsp as Q X → as.length = ps.length ∧ rd { nx := fun env => rtD as Q (.f .non) env, rt := rtD as Q } (startE N as)) : CalM P w K mg base (k + 1) c m ps dsp :=
  ⟨f, fd, def_ok Fn S (fun as Q X h => (hp as Q X h).1) (fun cdv A outer s H E hr => ⟨rd, hd cdv A outer s H E hr, fun as Q X h => (hp as Q X h).2⟩), hm, hb⟩
theorem def_calI {c qual : Str} {st : Stmt} {f : Addr} {fd : FuncData} {N ps : List Str} {k : Nat} {dsp : DSp} {rd : DS} (Fn : Fun K "__init__" qual st f fd) (S : FnScope N ps (defScope st)) (mk : L2.Mk K (clsA c) f) (hm : mg c = some (.ref (clsA c))) (hb : Binds K fd ps [])
    (hd : ∀ (cdv : Value) (A : Around) (outer : List PySem.Env) (s : Shared) (H : Hp) (E : XK), Room k (A.deeper (envOfC qual (defScope st) s.heap.objs.size f cdv)) → DSs (cxOf CX0 P w K mg base N qual (defScope st) f cdv A outer s H E).nox noE (defBody st) rd)
    (hp : ∀ as Q X, dsp as Q X → as.length = ps.length ∧ rd { nx := fun env => rtD as Q (.f .non) env, rt := rtD as Q } (startE N as)) : CalI P w K mg base (k + 1) c ps dsp :=
  ⟨f, fd, def_ok Fn S (fun as Q X h => (hp as Q X h).1) (fun cdv A outer s H E hr => ⟨rd, hd cdv A outer s H E hr, fun as Q X h => (hp as Q X h).2⟩), mk, hm, hb⟩
end
end DL

set_option Elab.async false
set_option linter.all false
set_option maxRecDepth 100000
set_option maxHeartbeats 4000000
namespace DP
open PySem PySem.Spec PyProof.Rows L2 DL
variable [ClsV]
structure hFld (c f : Str) (d : Dat) (Q : Res → Prop) : Prop where
  mk ::
  run : gFld c f d Q
theorem gFld_h : gFld = hFld := by funext c f d Q; exact propext ⟨.mk, fun h => h.run⟩
structure hSetF (c f : Str) (o d : Dat) (Q : Dat → Prop) : Prop where
  mk ::
  run : gSetF c f o d Q
def eSetF (c f : Str) (dw da : DE) : DS := fun D env => dw env (fun rv env1 => withD (elD rv) fun d => da env1 (fun ro env2 => match ro with
  | .l j => withD (ownD env2 j) fun d0 => hSetF c f d0 d fun d' => D.nx (putO env2 j d')
  | _ => False) D.xr) D.xr
theorem dSetF_h : dSetF = eSetF := by
  have : gSetF = hSetF := by funext c f o d Q; exact propext ⟨.mk, fun h => h.run⟩
  unfold dSetF eSetF; rw [this] <;> rfl
section
variable {Q : Res → Prop} {cl f : Str} {ds : List (Str × Dat)} {v : Dat}
theorem fld_at (h : ds.lookup f = some v) (k : Q (.f v)) : hFld cl f (.ins (clsA cl) ds) Q := .mk (Got.mk ⟨v, by
  unfold fldD
  dsimp only
  rw [if_pos rfl]; exact h, k⟩)
end
end DP

set_option Elab.async false
set_option linter.all false
set_option maxRecDepth 100000
set_option maxHeartbeats 2000000
/-! Regions: changeable objects that no slot owns; slots name them by their addresses. -/
namespace DL
open PySem PySem.Spec PyProof.Rows L2
variable [ClsV]

/-- the cells of a region -/
abbrev Reg := Addr → Option Dat
def gset (g : Reg) (q : Addr) (d : Dat) : Reg := fun p => if p = q then some d else g p
section
variable {g : Reg} {p q : Addr} {d : Dat}
theorem gset_same : gset g q d q = some d := if_pos rfl
theorem gset_ne (h : p ≠ q) : gset g q d p = g p := if_neg h
theorem gset_some {d' : Dat} (h : gset g q d p = some d') : (p = q ∧ d' = d) ∨ (p ≠ q ∧ g p = some d') := by
  unfold gset at h
  by_cases z : p = q
  · rw [if_pos z] at h; cases h; exact .inl ⟨z, rfl⟩
  · rw [if_neg z] at h; exact .inr ⟨z, h⟩
end
/-- the context in which the cells of a region are out of reach -/
def Cc.reg (C : Cc) (g : Reg) (H : Hp) : Cc := { C with H0 := fun q => if (g q).isSome then H q else C.H0 q }
structure RlR (L : Addr → Prop) (C : Cc) (g : Reg) (F H : Hp) (σ : L2.St) (env : Env) : Prop where
  rl : Rl L C F H σ env
  ow : ∀ q d, g q = some d → Own C F H q d
  ns : ∀ q d i, g q = some d → IsO env i → σ[i]? ≠ some (some (.ref q))
theorem Cont.noZ {F H : Hp} {p : Addr} {d : Dat} {ob : Obj} {o : HO} (c : Cont F H p d) (h : H p = some (.frz ob o)) : False := by
  cases d with
  | lst ds => obtain ⟨vs, e, _⟩ := c; rw [h] at e; cases e
  | dk ds => obtain ⟨vs, e, _⟩ := c; rw [h] at e; cases e
  | dt ds => obtain ⟨vs, e, _⟩ := c; rw [h] at e; cases e
  | ins C ds => obtain ⟨dx, vs, e, _⟩ := c; rw [h] at e; cases e
  | _ => exact c.elim
theorem Cont.noIsT {F H : Hp} {p : Addr} {d : Dat} {o : HO} (c : Cont F H p d) (h : H p = some o) : isT o = false := by
  cases d with
  | lst ds => obtain ⟨vs, e, _⟩ := c; rw [h] at e; cases e; rfl
  | dk ds => obtain ⟨vs, e, _⟩ := c; rw [h] at e; cases e; rfl
  | dt ds => obtain ⟨vs, e, _⟩ := c; rw [h] at e; cases e; rfl
  | ins C ds => obtain ⟨dx, vs, e, _⟩ := c; rw [h] at e; cases e; rfl
  | _ => exact c.elim
section
variable {L : Addr → Prop} {C : Cc} {F H F' H' F1 H1 : Hp} {σ σ' : L2.St} {env env' : Env} {i : Nat} {d : Dat} {v : V} {p q : Addr} {o : HO} {g g' : Reg}
theorem reg_in (h : g q = some d) : (C.reg g H).H0 q = H q := by
  show (if (g q).isSome = true then H q else C.H0 q) = _
  rw [h]; rfl
theorem reg_out (h : g q = none) : (C.reg g H).H0 q = C.H0 q := by
  show (if (g q).isSome = true then H q else C.H0 q) = _
  rw [h]; rfl
theorem RlR.there (S : RlR L C g F H σ env) (h : g q = some d) : ∃ o, H q = some o := (S.ow q d h).2.2.there
theorem RlR.f0 (S : RlR L C g F H σ env) (h : g q = some d) : C.F0 q = none := by
  cases e : C.F0 q with
  | none => rfl
  | some o => exact absurd (S.ow q d h).1 (S.rl.fr.wf q o e)
theorem RlR.nb (S : RlR L C g F H σ env) (h : g q = some d) (i : Nat) : C.ad i ≠ some q := fun z => S.rl.fr.wa i q z (S.ow q d h).1
theorem RlR.nl (S : RlR L C g F H σ env) (h : g q = some d) : ¬ L q := notL S.rl.fr (S.ow q d h).2.2
/-- the cells put out of reach -/
theorem RlR.prot (S : RlR L C g F H σ env) : Rl L (C.reg g H) F H σ env where
  fr := {
    fz := S.rl.fr.fz
    fn := fun q n => by
      cases e : g q with
      | none => exact S.rl.fr.fn q (by rw [← reg_out (H := H) e]; exact n)
      | some d => exact .inl ((S.ow q d e).2.1.trans (S.f0 e).symm)
    kp := fun q o h n => by
      cases e : g q with
      | none => exact S.rl.fr.kp q o (by rw [← reg_out (H := H) e]; exact h) n
      | some d => rw [reg_in e] at h; exact .inl h
    th := fun q n => by
      cases e : g q with
      | none => exact S.rl.fr.th q (by rw [← reg_out (H := H) e]; exact n)
      | some d => rw [reg_in e] at n; exact n
    lk := S.rl.fr.lk
    wf := fun q o h => by
      cases e : g q with
      | none => rw [reg_out e]; exact S.rl.fr.wf q o h
      | some d => exact absurd h (by rw [show (C.reg g H).F0 q = C.F0 q from rfl, S.f0 e]; exact fun z => by cases z)
    wa := fun i q h => by
      cases e : g q with
      | none => rw [reg_out e]; exact S.rl.fr.wa i q h
      | some d => exact absurd h (S.nb e i)
    wb := S.rl.fr.wb
    fl := fun q ob u h => by
      cases e : g q with
      | none => rw [reg_out e]; exact S.rl.fr.fl q ob u h
      | some d => exact ((S.ow q d e).2.2.noZ h).elim }
  len := S.rl.len
  nd := S.rl.nd
  sl := fun i s h => by
    obtain ⟨ov, h1, h2⟩ := S.rl.sl i s h
    refine ⟨ov, h1, ?_⟩
    cases s with
    | f d => exact h2
    | o d =>
      obtain ⟨p, e, a, b⟩ := h2
      subst e
      refine ⟨p, rfl, ?_, b⟩
      cases z : g p with
      | none => rw [reg_out z]; exact a
      | some d' => exact absurd h1 (S.ns p d' i z (isO_o h))
    | b d => exact h2
theorem reg_eq (h : ∀ q d, g q = some d → H' q = H q) : C.reg g H' = C.reg g H := by
  unfold Cc.reg
  congr 1
  funext q
  cases e : g q with
  | none => rfl
  | some d => exact h q d e
/-- what is out of reach stays -/
theorem RlR.cell (S : RlR L C g F H σ env) (R : Rl L (C.reg g H) F' H' σ' env') (h : g q = some d) : H' q = H q := by
  obtain ⟨o, ho⟩ := S.there h
  rcases R.fr.kp q o ((reg_in h).trans ho) (fun ⟨i, z⟩ => S.nb h i z) with z | ⟨z, _⟩
  · exact z.trans ho.symm
  · exact absurd z (S.nl h)
/-- back in reach -/
theorem RlR.back (S : RlR L C g F H σ env) (R : Rl L (C.reg g H) F' H' σ' env') (e : Ex F F') : RlR L C g F' H' σ' env' ∧ C.reg g H' = C.reg g H := by
  have hc : ∀ q d, g q = some d → H' q = H q := fun q d h => S.cell R h
  have out : ∀ q, C.H0 q ≠ none → g q = none := fun q n => by
    cases z : g q with
    | none => rfl
    | some d => exact absurd (S.ow q d z).1 n
  refine ⟨⟨⟨⟨R.fr.fz, fun q n => ?_, fun q u h n => ?_, fun q n => ?_, R.fr.lk, S.rl.fr.wf, S.rl.fr.wa, R.fr.wb, fun q ob u h => ?_⟩, R.len, fun i s h => ?_, R.nd⟩, fun q d h => ?_, fun q d i h hi hs => ?_⟩, reg_eq hc⟩
  · exact R.fr.fn q (by rw [reg_out (out q n)]; exact n)
  · exact R.fr.kp q u (by rw [reg_out (out q (by rw [h]; exact fun z => by cases z))]; exact h) n
  · exact R.fr.th q (by rw [reg_out (out q n)]; exact n)
  · have := R.fr.fl q ob u h
    cases z : g q with
    | none => rwa [reg_out z] at this
    | some d => rw [reg_in z] at this; exact ((S.ow q d z).2.2.noZ this).elim
  · obtain ⟨ov, h1, h2⟩ := R.sl i s h
    refine ⟨ov, h1, ?_⟩
    cases s with
    | f d => exact h2
    | o d =>
      obtain ⟨p, e, a, b⟩ := h2
      refine ⟨p, e, ?_, b⟩
      cases z : g p with
      | none => rwa [reg_out z] at a
      | some d' =>
        obtain ⟨o, ho⟩ := S.there z
        rw [reg_in z, ho] at a; cases a
    | b d => exact h2
  · obtain ⟨a, b, c⟩ := S.ow q d h
    obtain ⟨o, ho⟩ := c.there
    refine ⟨a, ?_, c.mono e (hc q d h)⟩
    rcases R.fr.fn q (by rw [reg_in h, ho]; exact fun z => by cases z) with z | ⟨_, t⟩
    · exact z.trans (S.f0 h)
    · exact absurd t (c.mono (F' := F') e (hc q d h)).noT
  · obtain ⟨s, h1, h2⟩ := isO_get hi
    obtain ⟨ov, h3, h4⟩ := R.sl i s h1
    rw [hs] at h3; cases h3
    cases s with
    | f d => exact h2 d rfl
    | o d' =>
      obtain ⟨p, e, a, b⟩ := h4
      cases e
      obtain ⟨o, ho⟩ := S.there h
      rw [reg_in h, ho] at a; cases a
    | b d' =>
      obtain ⟨p, e, a, b⟩ := h4
      cases e
      exact S.nb h i a
theorem RlR.grow (S : RlR L C g F H σ env) (k : Gr F H F' H') : RlR L C g F' H' σ env := ⟨S.rl.grow k, fun q d h => (S.ow q d h).grow k, S.ns⟩
theorem RlR.bare (R : Rl L C F H σ env) : RlR L C (fun _ => none) F H σ env := ⟨R, fun _ _ h => (by cases h), fun _ _ _ h => (by cases h)⟩
/-- a cell changed -/
theorem RlR.put {d' : Dat} (S : RlR L C g F H σ env) (h : g q = some d) (hc : Cont F (upd H q o) q d') : RlR L C (gset g q d') F (upd H q o) σ env := by
  obtain ⟨h0, hf, c⟩ := S.ow q d h
  have fr := S.rl.fr.write hf (.inl h0) (S.nl h) o hc.noF
  have nq : ∀ i p, IsO env i → σ[i]? = some (some (.ref p)) → p ≠ q := fun i p hi e z => by subst z; exact S.ns p d i h hi e
  refine ⟨⟨fr, S.rl.len, fun i s hs => ?_, S.rl.nd⟩, fun p x hp => ?_, fun p x i hp hi => ?_⟩
  · obtain ⟨ov, h1, h2⟩ := S.rl.sl i s hs
    refine ⟨ov, h1, ?_⟩
    cases s with
    | f d => exact h2
    | o d =>
      obtain ⟨p, e, a, b, c⟩ := h2
      subst e
      exact ⟨p, rfl, a, b, c.mono (Ex.refl F) (upd_ne (nq i p (isO_o hs) h1))⟩
    | b d =>
      obtain ⟨p, e, a, b, c⟩ := h2
      subst e
      exact ⟨p, rfl, a, b, c.mono (Ex.refl F) (upd_ne (nq i p (isO_b hs) h1))⟩
  · rcases gset_some hp with ⟨rfl, rfl⟩ | ⟨z, hp⟩
    · exact ⟨h0, hf, hc⟩
    · obtain ⟨a, b, c⟩ := S.ow p x hp
      exact ⟨a, b, c.mono (Ex.refl F) (upd_ne z)⟩
  · rcases gset_some hp with ⟨rfl, _⟩ | ⟨z, hp⟩
    · exact S.ns p d i h hi
    · exact S.ns p x i hp hi
/-- an object that nobody has becomes a cell -/
theorem RlR.take (S : RlR L C g F H σ env) (h : Own C F H q d) (n : ∀ i, IsO env i → σ[i]? ≠ some (some (.ref q))) : RlR L C (gset g q d) F H σ env := by
  refine ⟨S.rl, fun p x hp => ?_, fun p x i hp hi => ?_⟩
  · rcases gset_some hp with ⟨rfl, rfl⟩ | ⟨z, hp⟩
    · exact h
    · exact S.ow p x hp
  · rcases gset_some hp with ⟨rfl, _⟩ | ⟨z, hp⟩
    · exact n i hi
    · exact S.ns p x i hp hi
/-- a slot takes a frozen datum -/
theorem RlR.setF (S : RlR L C g F H σ env) (r : Rep F v d) (i : Nat) : RlR L C g F H (σ.set i (some v)) (env.set i (some (.f d))) := by
  refine ⟨S.rl.setF r i, S.ow, fun p x j hp hj => ?_⟩
  rcases isO_set hj with ⟨_, z⟩ | ⟨z, hj⟩
  · exact absurd rfl (z d)
  · rw [List.getElem?_set_ne (Ne.symm z)]
    exact S.ns p x j hp hj
theorem RlR.dropS (S : RlR L C g F H σ env) (i : Nat) (ov : Option V) : RlR L C g F H (σ.set i ov) (env.set i .none) := by
  refine ⟨S.rl.drop i ov, S.ow, fun p x j hp hj => ?_⟩
  obtain ⟨s, h1, h2⟩ := isO_get hj
  rcases get_set_cases h1 with ⟨_, z, _⟩ | ⟨z, e⟩
  · cases z
  · rw [List.getElem?_set_ne (Ne.symm z)]
    exact S.ns p x j hp (isO_of e h2)
/-- what an expression gives, the cells out of reach, frozen -/
theorem RlR.fzv {r : Res} (S : RlR L C g F H σ env) (h : RV2 (C.reg g H) F H σ env v r) : ∃ F', Ex F F' ∧ RlR L C g F' H σ env ∧ RA F' σ v (fzR r) := by
  obtain ⟨F', e, R, a⟩ := S.prot.fzv h
  exact ⟨F', e, (S.back R e).1, a⟩
end

/-! ### readings over a region and the slots -/
structure RE where
  g : Reg
  e : Env
abbrev XDR := Str → Option (List (Str × Dat)) → RE → Prop
abbrev RDE := RE → (Res → RE → Prop) → XDR → Prop
abbrev RDT := RE → (Bool → RE → Prop) → XDR → Prop
abbrev RDA := RE → (List Res → RE → Prop) → XDR → Prop
def XOkR (L : Addr → Prop) (C : Cc) (F : Hp) (E : L2.St → XK) (X : XDR) : Prop :=
  ∀ F' H' σ' s' cls od fds, Ex F F' → RlR L C s'.g F' H' σ' s'.e → XF F' od fds → ClsV.ok cls → X cls fds s' → E σ' (ClsV.v cls) od H'
theorem XOkR.mono {L : Addr → Prop} {C : Cc} {F F' : Hp} {E : L2.St → XK} {X : XDR} (h : XOkR L C F E X) (e : Ex F F') : XOkR L C F' E X := fun F2 H' σ' s' cls od fds e2 => h F2 H' σ' s' cls od fds (e.trans e2)
def RSE (E : L2.St → XK) (te : TE) (de : RDE) : Prop := ∀ (L : Addr → Prop) (C : Cc) (F H : Hp) (σ : L2.St) (s : RE) (Q : VK) (Qd : Res → RE → Prop) (X : XDR), RlR L C s.g F H σ s.e → de s Qd X →
  (∀ F' H' v r s', Ex F F' → RlR L C s'.g F' H' σ s'.e → RV2 (C.reg s'.g H') F' H' σ s'.e v r → Qd r s' → Q v H') → XOkR L C F E X → te σ H Q
def RST (E : L2.St → XK) (tt : TT) (dt : RDT) : Prop := ∀ (L : Addr → Prop) (C : Cc) (F H : Hp) (σ : L2.St) (s : RE) (Q : Bool → Hp → Prop) (Qd : Bool → RE → Prop) (X : XDR), RlR L C s.g F H σ s.e → dt s Qd X →
  (∀ F' H' b s', Ex F F' → RlR L C s'.g F' H' σ s'.e → Qd b s' → Q b H') → XOkR L C F E X → tt σ H Q
def RSA (E : L2.St → XK) (ta : TA) (da : RDA) : Prop := ∀ (L : Addr → Prop) (C : Cc) (F H : Hp) (σ : L2.St) (s : RE) (Q : List V → Hp → Prop) (Qd : List Res → RE → Prop) (X : XDR), RlR L C s.g F H σ s.e → da s Qd X →
  (∀ F' H' vs rs s', Ex F F' → RlR L C s'.g F' H' σ s'.e → RAs F' σ vs rs → Qd rs s' → Q vs H') → XOkR L C F E X → ta σ H Q
structure REx (X : Cx) (E : L2.St → XK) (e : Expr) (de : RDE) : Prop where
  ex : ∃ te, PE X e te ∧ RSE E te de
structure RTx (X : Cx) (E : L2.St → XK) (e : Expr) (dt : RDT) : Prop where
  ex : ∃ tt, PT X e tt ∧ RST E tt dt
structure RAx (X : Cx) (E : L2.St → XK) (es : List Expr) (da : RDA) : Prop where
  ex : ∃ ta, PA X es ta ∧ RSA E ta da

/-! ### rows that look at the slots alone -/
def xLift (g : Reg) (X : XDR) : XD := fun c f e => X c f ⟨g, e⟩
def rL (de : DE) : RDE := fun s Q X => de s.e (fun r e => Q r ⟨s.g, e⟩) (xLift s.g X)
def rLT (dt : DT) : RDT := fun s Q X => dt s.e (fun r e => Q r ⟨s.g, e⟩) (xLift s.g X)
def rLA (da : DA) : RDA := fun s Q X => da s.e (fun r e => Q r ⟨s.g, e⟩) (xLift s.g X)
section
variable {L : Addr → Prop} {C : Cc} {F H F' H' F1 H1 : Hp} {σ σ' : L2.St} {env env' : Env} {E : L2.St → XK} {g : Reg} {te : TE} {tt : TT} {ta : TA} {de : DE} {dt : DT} {da : DA} {X : Cx} {e : Expr} {es : List Expr}
theorem xok_reg {Xd : XDR} (S : RlR L C g F H σ env) (x : XOkR L C F E Xd) : XOk L (C.reg g H) F E (xLift g Xd) := fun F' H' σ' env' cls od fds e R xf ok h => x F' H' σ' ⟨g, env'⟩ cls od fds e (S.back R e).1 xf ok h
theorem rse_lift (h : SE E te de) : RSE E te (rL de) := fun L C F H σ s Q Qd X S hd k x =>
  h L _ F H σ s.e Q _ _ S.prot hd (fun F' H' v r env' e R rv q => by
    obtain ⟨S', eq⟩ := S.back R e
    exact k F' H' v r ⟨s.g, env'⟩ e S' (by rw [eq]; exact rv) q) (xok_reg S x)
theorem rst_lift (h : ST E tt dt) : RST E tt (rLT dt) := fun L C F H σ s Q Qd X S hd k x =>
  h L _ F H σ s.e Q _ _ S.prot hd (fun F' H' b env' e R q => k F' H' b ⟨s.g, env'⟩ e (S.back R e).1 q) (xok_reg S x)
theorem rsa_lift (h : SA E ta da) : RSA E ta (rLA da) := fun L C F H σ s Q Qd X S hd k x =>
  h L _ F H σ s.e Q _ _ S.prot hd (fun F' H' vs rs env' e R a q => k F' H' vs rs ⟨s.g, env'⟩ e (S.back R e).1 a q) (xok_reg S x)
theorem re_l (h : DEx X E e de) : REx X E e (rL de) := by
  obtain ⟨t, p, s⟩ := h.ex
  exact ⟨t, p, rse_lift s⟩
theorem rt_l (h : DTx X E e dt) : RTx X E e (rLT dt) := by
  obtain ⟨t, p, s⟩ := h.ex
  exact ⟨t, p, rst_lift s⟩
theorem ra_l (h : DAx X E es da) : RAx X E es (rLA da) := by
  obtain ⟨t, p, s⟩ := h.ex
  exact ⟨t, p, rsa_lift s⟩
end
end DL

set_option Elab.async false
set_option linter.all false
set_option maxRecDepth 100000
set_option maxHeartbeats 2000000
/-! An expression that reads cells of a region: for its time the cells and the slots' own objects are frozen. -/
namespace DL
open PySem PySem.Spec PyProof.Rows L2
variable [ClsV]

mutual
/-- d with cells in place of their addresses -/
inductive Thw (g : Reg) : Dat → Dat → Prop
  | same (d : Dat) : Thw g d d
  | lst {a : Addr} {l l' : List Dat} : g a = some (.lst l) → Thws g l l' → Thw g (.raw (.ref a)) (.lst l')
  | dk {a : Addr} {l l' : List (Key × Dat)} : g a = some (.dk l) → ThwK g l l' → Thw g (.raw (.ref a)) (.dk l')
  | ins {a C : Addr} {l l' : List (Str × Dat)} : g a = some (.ins C l) → ThwF g l l' → Thw g (.raw (.ref a)) (.ins C l')
  | tup {l l' : List Dat} : Thws g l l' → Thw g (.tup l) (.tup l')
  | lstF {l l' : List Dat} : Thws g l l' → Thw g (.lst l) (.lst l')
inductive Thws (g : Reg) : List Dat → List Dat → Prop
  | nil : Thws g [] []
  | cons {d d' : Dat} {l l' : List Dat} : Thw g d d' → Thws g l l' → Thws g (d :: l) (d' :: l')
inductive ThwK (g : Reg) : List (Key × Dat) → List (Key × Dat) → Prop
  | nil : ThwK g [] []
  | cons {k : Key} {d d' : Dat} {l l' : List (Key × Dat)} : Thw g d d' → ThwK g l l' → ThwK g ((k, d) :: l) ((k, d') :: l')
inductive ThwF (g : Reg) : List (Str × Dat) → List (Str × Dat) → Prop
  | nil : ThwF g [] []
  | cons {k : Str} {d d' : Dat} {l l' : List (Str × Dat)} : Thw g d d' → ThwF g l l' → ThwF g ((k, d) :: l) ((k, d') :: l')
end
theorem Thws.refl (g : Reg) : ∀ l, Thws g l l
  | [] => .nil
  | d :: l => .cons (.same d) (Thws.refl g l)
theorem ThwK.refl (g : Reg) : ∀ l, ThwK g l l
  | [] => .nil
  | (k, d) :: l => .cons (.same d) (ThwK.refl g l)
section
variable {F G H : Hp} {g : Reg}
mutual
theorem thaw (e : Ex F G) (hc : ∀ q d, g q = some d → Cont F H q d ∧ G q = H q) : ∀ {d d' : Dat} {v : V}, Thw g d d' → Rep F v d → Rep G v d'
  | _, _, _, .same d, r => r.mono e
  | _, _, _, .lst ha t, r => by
    cases r
    obtain ⟨⟨vs, h, rs⟩, eq⟩ := hc _ _ ha
    exact .lst (eq.trans h) (thaws e hc t rs)
  | _, _, _, .dk ha t, r => by
    cases r
    obtain ⟨⟨vs, h, rs⟩, eq⟩ := hc _ _ ha
    exact .dk (eq.trans h) (thawK e hc t rs)
  | _, _, _, .ins ha t, r => by
    cases r
    obtain ⟨⟨dx, vs, h, rs⟩, eq⟩ := hc _ _ ha
    exact .ins (eq.trans h) (thawF e hc t rs)
  | _, _, _, .tup t, .tup h rs => .tup (e _ _ h) (thaws e hc t rs)
  | _, _, _, .lstF t, .lst h rs => .lst (e _ _ h) (thaws e hc t rs)
theorem thaws (e : Ex F G) (hc : ∀ q d, g q = some d → Cont F H q d ∧ G q = H q) : ∀ {l l' : List Dat} {vs : List V}, Thws g l l' → Reps F vs l → Reps G vs l'
  | _, _, _, .nil, .nil => .nil
  | _, _, _, .cons a t, .cons r rs => .cons (thaw e hc a r) (thaws e hc t rs)
theorem thawK (e : Ex F G) (hc : ∀ q d, g q = some d → Cont F H q d ∧ G q = H q) : ∀ {l l' : List (Key × Dat)} {vs : List (Key × V)}, ThwK g l l' → RepK F vs l → RepK G vs l'
  | _, _, _, .nil, .nil => .nil
  | _, _, _, .cons a t, .cons r rs => .cons (thaw e hc a r) (thawK e hc t rs)
theorem thawF (e : Ex F G) (hc : ∀ q d, g q = some d → Cont F H q d ∧ G q = H q) : ∀ {l l' : List (Str × Dat)} {vs : List (Str × V)}, ThwF g l l' → RepF F vs l → RepF G vs l'
  | _, _, _, .nil, .nil => .nil
  | _, _, _, .cons a t, .cons r rs => .cons (thaw e hc a r) (thawF e hc t rs)
end
end
/-- the slots as an expression sees them that only reads -/
inductive PkR (g : Reg) : Env → Env → Prop
  | nil : PkR g [] []
  | f {d d' : Dat} {e e' : Env} : Thw g d d' → PkR g e e' → PkR g (some (.f d) :: e) (some (.f d') :: e')
  | o {d : Dat} {e e' : Env} : PkR g e e' → PkR g (some (.o d) :: e) (some (.f d) :: e')
  | b {d : Dat} {e e' : Env} : PkR g e e' → PkR g (some (.b d) :: e) (some (.f d) :: e')
  | drop {x : Option S} {e e' : Env} : PkR g e e' → PkR g (x :: e) (none :: e')
theorem PkR.len {g : Reg} {e e' : Env} (h : PkR g e e') : e'.length = e.length := by
  induction h with
  | nil => rfl
  | f _ _ ih => rw [List.length_cons, List.length_cons, ih]
  | o _ ih => rw [List.length_cons, List.length_cons, ih]
  | b _ ih => rw [List.length_cons, List.length_cons, ih]
  | drop _ ih => rw [List.length_cons, List.length_cons, ih]
theorem PkR.get {g : Reg} {e e' : Env} (h : PkR g e e') : ∀ {i : Nat} {s : S}, e'[i]? = some (some s) → ∃ d', s = .f d' ∧ ((∃ d, e[i]? = some (some (.f d)) ∧ Thw g d d') ∨ e[i]? = some (some (.o d')) ∨ e[i]? = some (some (.b d'))) := by
  induction h with
  | nil => intro i s h; cases h
  | f t _ ih =>
    intro i s h
    cases i with
    | zero => cases h; exact ⟨_, rfl, .inl ⟨_, rfl, t⟩⟩
    | succ i => exact ih (i := i) h
  | o _ ih =>
    intro i s h
    cases i with
    | zero => cases h; exact ⟨_, rfl, .inr (.inl rfl)⟩
    | succ i => exact ih (i := i) h
  | b _ ih =>
    intro i s h
    cases i with
    | zero => cases h; exact ⟨_, rfl, .inr (.inr rfl)⟩
    | succ i => exact ih (i := i) h
  | drop _ ih =>
    intro i s h
    cases i with
    | zero => cases h
    | succ i => exact ih (i := i) h
section
variable {L : Addr → Prop} {C : Cc} {F H F' H' F1 H1 : Hp} {σ σ' : L2.St} {env env' env2 : Env} {i : Nat} {d : Dat} {v : V} {p q : Addr} {o : HO} {g : Reg} {E : L2.St → XK} {X : Cx} {e : Expr} {de : DE} {dt : DT} {te : TE} {tt : TT}
/-- what is frozen for the time: a cell, an object of a slot -/
def PkP (g : Reg) (σ : L2.St) (env : Env) (q : Addr) : Prop := g q ≠ none ∨ ∃ i, IsO env i ∧ σ[i]? = some (some (.ref q))
open Classical in
noncomputable def pkF (g : Reg) (F H : Hp) (σ : L2.St) (env : Env) : Hp := fun q => if PkP g σ env q then H q else F q
open Classical in
noncomputable def unF (g : Reg) (F' : Hp) (σ : L2.St) (env : Env) : Hp := fun q => if PkP g σ env q then none else F' q
noncomputable def pkC (g : Reg) (F H : Hp) (σ : L2.St) (env : Env) : Cc := ⟨H, pkF g F H σ env, fun _ => none⟩
theorem pkF_in (h : PkP g σ env q) : pkF g F H σ env q = H q := if_pos h
theorem pkF_out (h : ¬ PkP g σ env q) : pkF g F H σ env q = F q := if_neg h
theorem unF_in (h : PkP g σ env q) : unF g F' σ env q = none := if_pos h
theorem unF_out (h : ¬ PkP g σ env q) : unF g F' σ env q = F' q := if_neg h
theorem RlR.pk (S : RlR L C g F H σ env) (h : PkP g σ env q) : ∃ d, F q = none ∧ Cont F H q d := by
  rcases h with h | ⟨i, ⟨d, hd⟩, hs⟩
  · cases e : g q with
    | none => exact absurd e h
    | some d => exact ⟨d, (S.ow q d e).2.1, (S.ow q d e).2.2⟩
  · obtain ⟨p, a, b, c, _⟩ := S.rl.own hd
    rw [hs] at a; cases a
    exact ⟨d, b, c⟩
theorem RlR.pkEx (S : RlR L C g F H σ env) : Ex F (pkF g F H σ env) := fun q o e => by
  have n : ¬ PkP g σ env q := fun z => by
    obtain ⟨_, f, _⟩ := S.pk z
    rw [f] at e; cases e
  rw [pkF_out n]; exact e
theorem RlR.peek (S : RlR L C g F H σ env) (k : PkR g env env') : Rl L (pkC g F H σ env) (pkF g F H σ env) H σ env' where
  fr := {
    fz := fun q o e => by
      rcases Classical.em (PkP g σ env q) with z | z
      · rw [pkF_in z] at e; exact .inl e
      · rw [pkF_out z] at e; exact S.rl.fr.fz q o e
    fn := fun q _ => .inl rfl
    kp := fun q o e _ => .inl e
    th := fun q n => n
    lk := S.rl.fr.lk
    wf := fun q o e => by
      show H q ≠ none
      have e : pkF g F H σ env q = some o := e
      rcases Classical.em (PkP g σ env q) with z | z
      · rw [pkF_in z] at e; rw [e]; exact fun z => by cases z
      · rw [pkF_out z] at e
        rcases S.rl.fr.fz q o e with y | ⟨_, ob, y⟩
        · rw [y]; exact fun z => by cases z
        · rw [y]; exact fun z => by cases z
    wa := fun i q e => by cases e
    wb := fun i q e => by cases e
    fl := fun q ob u e => e }
  len := by rw [k.len]; exact S.rl.len
  nd := fun i j p _ hi _ _ _ => by
    obtain ⟨s, h1, h2⟩ := isO_get hi
    obtain ⟨d, e, _⟩ := k.get h1
    exact absurd e (h2 d)
  sl := fun i s h => by
    obtain ⟨d', rfl, z⟩ := k.get h
    have own : ownD env i = some d' → ∃ ov, σ[i]? = some ov ∧ SlotOk (pkC g F H σ env) (pkF g F H σ env) H i ov (.f d') := fun hd => by
      obtain ⟨p, a, b, c, _⟩ := S.rl.own hd
      exact ⟨_, a, _, rfl, c.repF S.pkEx (pkF_in (.inr ⟨i, ⟨_, hd⟩, a⟩))⟩
    rcases z with ⟨d, h1, t⟩ | h1 | h1
    · obtain ⟨ov, a, v, e, r⟩ := S.rl.sl _ _ h1
      subst e
      exact ⟨_, a, v, rfl, thaw (H := H) S.pkEx (fun q x hq => ⟨(S.ow q x hq).2.2, pkF_in (.inl (by rw [hq]; exact fun z => by cases z))⟩) t r⟩
    · exact own (by unfold ownD; rw [h1])
    · exact own (by unfold ownD; rw [h1])
/-- behind it -/
theorem RlR.unpeek (S : RlR L C g F H σ env) (R : Rl L (pkC g F H σ env) F' H' σ' env2) (ex : Ex (pkF g F H σ env) F') :
    Gr F H (unF g F' σ env) H' ∧ (∀ q o, F' q = some o → isT o = true → unF g F' σ env q = some o) ∧ ∀ q, F' q = none → unF g F' σ env q = none := by
  have keep : ∀ q o, H q = some o → H' q = some o := fun q o h => by
    rcases R.fr.kp q o h (fun ⟨i, z⟩ => by cases z) with z | ⟨z, w, _⟩
    · exact z
    · obtain ⟨ob, u, y⟩ := S.rl.fr.lk q z
      rw [h] at y; cases y
      exact absurd rfl (w ob u)
  have inP : ∀ q, PkP g σ env q → ∃ o, H q = some o ∧ F' q = some o ∧ isT o = false := fun q z => by
    obtain ⟨d, _, c⟩ := S.pk z
    obtain ⟨o, ho⟩ := c.there
    exact ⟨o, ho, ex q o ((pkF_in z).trans ho), c.noIsT ho⟩
  refine ⟨⟨keep, fun q o e => ?_, fun q n => ?_, fun q o e => ?_, fun q ob u e => R.fr.fl q ob u e⟩, fun q o e t => ?_, fun q e => ?_⟩
  · have n : ¬ PkP g σ env q := fun z => by
      obtain ⟨_, f, _⟩ := S.pk z
      rw [f] at e; cases e
    rw [unF_out n]; exact ex q o ((pkF_out n).trans e)
  · rcases Classical.em (PkP g σ env q) with z | z
    · obtain ⟨_, f, _⟩ := S.pk z
      rw [unF_in z]; exact .inl f.symm
    · rw [unF_out z]
      rcases R.fr.fn q n with y | ⟨y, t⟩
      · exact .inl (y.trans (pkF_out z))
      · exact .inr ⟨(pkF_out z).symm.trans y, t⟩
  · have n : ¬ PkP g σ env q := fun z => by rw [unF_in z] at e; cases e
    rw [unF_out n] at e
    exact R.fr.fz q o e
  · have n : ¬ PkP g σ env q := fun z => by
      obtain ⟨o', _, y, w⟩ := inP q z
      rw [e] at y; cases y
      rw [t] at w; cases w
    rw [unF_out n]; exact e
  · rcases Classical.em (PkP g σ env q) with z | z
    · exact unF_in z
    · rw [unF_out z]; exact e
theorem RlR.unpeekV {r : Res} (S : RlR L C g F H σ env) (R : Rl L (pkC g F H σ env) F' H' σ env2) (ex : Ex (pkF g F H σ env) F') (rv : RV2 (pkC g F H σ env) F' H' σ env2 v r) (hi : immR r = true) : RV2 (C.reg g H') (unF g F' σ env) H' σ env v r := by
  obtain ⟨gr, k, kn⟩ := S.unpeek R ex
  cases r with
  | f d => exact imm_rep k hi rv
  | n d =>
    obtain ⟨p, e, ⟨a, b, c⟩, _⟩ := rv
    have a : H p = none := a
    refine ⟨p, e, ⟨?_, kn p b, imm_cont k hi c⟩, fun i hi => S.rl.not_none a hi⟩
    cases z : g p with
    | none => rw [reg_out z]; exact S.rl.fr.new0 a
    | some x =>
      obtain ⟨o, ho⟩ := S.there z
      rw [a] at ho; cases ho
  | l i => cases hi
def rP (de : DE) : RDE := fun s Q _ => ∃ e', PkR s.g s.e e' ∧ de e' (fun r _ => immR r = true ∧ Q r s) noX
def rPT (dt : DT) : RDT := fun s Q _ => ∃ e', PkR s.g s.e e' ∧ dt e' (fun b _ => Q b s) noX
def rPX (de : DE) : RDE := fun s Q X => ∃ e', PkR s.g s.e e' ∧ de e' (fun r _ => immR r = true ∧ Q r s) (fun c f _ => immFs f = true ∧ X c f s)
theorem xok_no : XOk L C F E noX := fun _ _ _ _ _ _ _ _ _ _ _ z => z.elim
theorem xf_imm {od : Option Addr} {f : Option (List (Str × Dat))} (k : ∀ q o, F q = some o → isT o = true → F' q = some o) (hi : immFs f = true) (h : XF F od f) : XF F' od f := by
  cases od with
  | none => cases f with
    | none => trivial
    | some _ => exact h.elim
  | some a => cases f with
    | none => exact h.elim
    | some fs =>
      obtain ⟨vs, h1, h2⟩ := h
      exact ⟨vs, k _ _ h1 rfl, imm_repF k hi h2⟩
theorem rse_peek (h : SE E te de) : RSE E te (rP de) := fun L C F H σ s Q Qd X S hd k x => by
  obtain ⟨e', pk, hd⟩ := hd
  refine h L _ _ H σ e' Q _ _ (S.peek pk) hd (fun F' H' v r env2 ex R rv q => ?_) xok_no
  obtain ⟨gr, _, _⟩ := S.unpeek R ex
  exact k _ H' v r s gr.fx (S.grow gr) (S.unpeekV R ex rv q.1) q.2
theorem rst_peek (h : ST E tt dt) : RST E tt (rPT dt) := fun L C F H σ s Q Qd X S hd k x => by
  obtain ⟨e', pk, hd⟩ := hd
  refine h L _ _ H σ e' Q _ _ (S.peek pk) hd (fun F' H' b env2 ex R q => ?_) xok_no
  obtain ⟨gr, _, _⟩ := S.unpeek R ex
  exact k _ H' b s gr.fx (S.grow gr) q
/-- with an exception, where what is wanted of it does not look at the slots -/
theorem rse_peekX (hE : ∀ σ σ', E σ = E σ') (h : SE E te de) : RSE E te (rPX de) := fun L C F H σ s Q Qd X S hd k x => by
  obtain ⟨e', pk, hd⟩ := hd
  refine h L _ _ H σ e' Q _ _ (S.peek pk) hd (fun F' H' v r env2 ex R rv q => ?_) (fun F' H' σ' env2 cls od f ex R xf ok q => ?_)
  · obtain ⟨gr, _, _⟩ := S.unpeek R ex
    exact k _ H' v r s gr.fx (S.grow gr) (S.unpeekV R ex rv q.1) q.2
  · obtain ⟨gr, k2, _⟩ := S.unpeek R ex
    rw [hE σ' σ]
    exact x _ H' σ s cls od f gr.fx (S.grow gr) (xf_imm k2 q.1 xf) ok q.2
theorem re_p (h : DEx X E e de) : REx X E e (rP de) := by
  obtain ⟨t, p, s⟩ := h.ex
  exact ⟨t, p, rse_peek s⟩
theorem rt_p (h : DTx X E e dt) : RTx X E e (rPT dt) := by
  obtain ⟨t, p, s⟩ := h.ex
  exact ⟨t, p, rst_peek s⟩
theorem re_pX (hE : ∀ σ σ', E σ = E σ') (h : DEx X E e de) : REx X E e (rPX de) := by
  obtain ⟨t, p, s⟩ := h.ex
  exact ⟨t, p, rse_peekX hE s⟩
end
end DL

set_option Elab.async false
set_option linter.all false
set_option maxRecDepth 100000
set_option maxHeartbeats 2000000
/-! Rows over a region: operators, cells read and changed, statements. -/
namespace DL
open PySem PySem.Spec PyProof.Rows L2
variable [ClsV]
section
variable {L : Addr → Prop} {C : Cc} {F H F' H' F1 H1 : Hp} {σ σ' : L2.St} {env env' env2 : Env} {i : Nat} {d : Dat} {v : V} {p q : Addr} {o : HO} {g : Reg} {E : L2.St → XK}
theorem RlR.same (S : RlR L C g F H σ env) (k : Gr F H F' H') : C.reg g H' = C.reg g H := reg_eq fun q d h => by
  obtain ⟨o, ho⟩ := S.there h
  exact (k.hx q o ho).trans ho.symm
theorem RlR.mutS {d' : Dat} {j : Nat} (S : RlR L C g F H σ env) (h : ownD env j = some d) (hp : σ[j]? = some (some (.ref p))) (hc : Cont F (upd H p o) p d') : RlR L C g F (upd H p o) σ (putO env j d') := by
  have R := S.rl.mut h hp hc
  have np : ∀ q x, g q = some x → q ≠ p := fun q x hq z => by subst z; exact S.ns q x j hq ⟨d, h⟩ hp
  refine ⟨R, fun q x hq => ?_, fun q x i hq hi => ?_⟩
  · obtain ⟨a, b, c⟩ := S.ow q x hq
    exact ⟨a, b, c.mono (Ex.refl F) (upd_ne (np q x hq))⟩
  · refine S.ns q x i hq ?_
    unfold putO at hi
    split at hi
    · rcases isO_set hi with ⟨z, _⟩ | ⟨_, z⟩
      · subst z; exact ⟨d, h⟩
      · exact z
    · rcases isO_set hi with ⟨z, _⟩ | ⟨_, z⟩
      · subst z; exact ⟨d, h⟩
      · exact z
    · exact hi
variable {X : Cx} {e a b c : Expr} {es : List Expr} {pos pos' : Pos} {da db de : RDE} {dt du : RDT} {dr : RDA}
/-! ### operators -/
def rUn (g : G1) (da : RDE) : RDE := fun s Q X => da s (fun r s1 => withD (view s1.e (fzR r)) fun d => g d fun r => Q r s1) X
def rOp (g : G2) (da db : RDE) : RDE := fun s Q X => da s (fun r s1 => db s1 (fun r' s2 => withD (view s2.e (fzR r)) fun d => withD (view s2.e (fzR r')) fun d' => g d d' fun r => Q r s2) X) X
theorem rse_un {r : V → Hp → VK → Prop} {gg : G1} {ta : TE} (ho : Op1 r gg) (ha : RSE E ta da) : RSE E (tUn r ta) (rUn gg da) := fun L C F H σ s Q Qd Xd S h k x =>
  ha L C F H σ s _ _ Xd S h (fun F1 H1 v1 r1 s1 e1 S1 v1r h1 => by
    obtain ⟨d, hd, h1⟩ := withD_of h1
    obtain ⟨F2, e2, S2, a2⟩ := S1.fzv v1r
    exact ho L (C.reg s1.g H1) F2 H1 v1 d Q _ S2.prot.fr (a2.rep1 S2.rl hd) h1 fun F3 H3 v3 r3 g3 n3 q3 =>
      k F3 H3 v3 r3 s1 (e1.trans (e2.trans g3.fx)) (S2.grow g3) (by rw [S2.same g3]; exact n3.rv S2.prot) q3) x
theorem rse_op {r : R2} {gg : G2} {ta tb : TE} (ho : Op2 r gg) (ha : RSE E ta da) (hb : RSE E tb db) : RSE E (tOp r ta tb) (rOp gg da db) := fun L C F H σ s Q Qd Xd S h k x =>
  ha L C F H σ s _ _ Xd S h (fun F1 H1 v1 r1 s1 e1 S1 v1r h1 => by
    obtain ⟨F2, e2, S2, a2⟩ := S1.fzv v1r
    refine hb L C F2 H1 σ s1 _ _ Xd S2 h1 (fun F3 H3 v3 r3 s3 e3 S3 v3r h3 => ?_) (x.mono (e1.trans e2))
    obtain ⟨F4, e4, S4, a4⟩ := S3.fzv v3r
    obtain ⟨d1, hd1, h3⟩ := withD_of h3
    obtain ⟨d2, hd2, h3⟩ := withD_of h3
    exact ho L (C.reg s3.g H3) F4 H3 v1 v3 d1 d2 Q _ S4.prot.fr ((a2.mono (e3.trans e4)).rep1 S4.rl hd1) (a4.rep1 S4.rl hd2) h3 fun F5 H5 v5 r5 g5 n5 q5 =>
      k F5 H5 v5 r5 s3 (e1.trans (e2.trans (e3.trans (e4.trans g5.fx)))) (S4.grow g5) (by rw [S4.same g5]; exact n5.rv S4.prot) q5) x
theorem re_op {op : Operator} {r : R2} {gg : G2} (ho : OpR X (binaryOp op) r) (hg : Op2 r gg) (ha : REx X E a da) (hb : REx X E b db) : REx X E (.BinOp a op b pos) (rOp gg da db) := by
  obtain ⟨ta, pa, sa⟩ := ha.ex
  obtain ⟨tb, pb, sb⟩ := hb.ex
  exact ⟨_, pe_op ho pa pb, rse_op hg sa sb⟩
theorem re_cmp {op : CmpOp} {r : R2} {gg : G2} (ho : OpR X (compareOp op) r) (hg : Op2 r gg) (ha : REx X E a da) (hb : REx X E b db) (hm : behindInMarks op b = false := by first | exact nomark _ | rfl) : REx X E (.Compare a [op] [b] pos) (rOp gg da db) := by
  obtain ⟨ta, pa, sa⟩ := ha.ex
  obtain ⟨tb, pb, sb⟩ := hb.ex
  exact ⟨_, pe_cmpR ho pa pb hm, rse_op hg sa sb⟩
def rB (da : RDE) : RDT := fun s Q X => da s (fun r s1 => match r with
  | .f (.bl b) => Q b s1
  | _ => False) X
theorem rst_B {ta : TE} (ha : RSE E ta da) : RST E (tB ta) (rB da) := fun L C F H σ s Q Qd Xd S h k x =>
  ha L C F H σ s _ _ Xd S h (fun F1 H1 v1 r1 s1 e1 S1 v1r h1 => by
    split at h1
    · next b =>
      cases v1r
      exact ⟨b, rfl, k F1 H1 b s1 e1 S1 h1⟩
    · exact h1.elim) x
theorem rt_cmp {op : CmpOp} {r : R2} {gg : G2} (ho : OpR X (compareOp op) r) (hg : Op2 r gg) (ha : REx X E a da) (hb : REx X E b db) (hm : behindInMarks op b = false := by first | exact nomark _ | rfl) : RTx X E (.Compare a [op] [b] pos) (rB (rOp gg da db)) := by
  obtain ⟨ta, pa, sa⟩ := ha.ex
  obtain ⟨tb, pb, sb⟩ := hb.ex
  exact ⟨_, pt_cmpR ho pa pb hm, rst_B (rse_op hg sa sb)⟩
theorem rt_val (ha : REx X E a da) (he : ∀ whole, isTrue a X.env whole = (do let v ← whole; standAt a.pos; holding [v] (truthy v)) := by intro _; rfl) : RTx X E a (rB da) := by
  obtain ⟨ta, pa, sa⟩ := ha.ex
  exact ⟨_, pt_val pa he, rst_B sa⟩
/-! ### and, or, not -/
def rAnd (dt du : RDT) : RDT := fun s Q X => dt s (fun c s1 => IfB c (du s1 Q X) (Q false s1)) X
def rOr (dt du : RDT) : RDT := fun s Q X => dt s (fun c s1 => IfB c (Q true s1) (du s1 Q X)) X
def rNot (dt : RDT) : RDT := fun s Q X => dt s (fun c s1 => Q (!c) s1) X
theorem rst_and {t u : TT} (h1 : RST E t dt) (h2 : RST E u du) : RST E (tAnd t u) (rAnd dt du) := fun L C F H σ s Q Qd Xd S h k x =>
  h1 L C F H σ s _ _ Xd S h (fun F1 H1 b s1 e1 S1 q1 => by
    cases b with
    | true => exact h2 L C F1 H1 σ s1 Q Qd Xd S1 q1.t (fun F2 H2 b2 s2 e2 => k F2 H2 b2 s2 (e1.trans e2)) (x.mono e1)
    | false => exact k F1 H1 false s1 e1 S1 q1.f) x
theorem rst_or {t u : TT} (h1 : RST E t dt) (h2 : RST E u du) : RST E (tOr t u) (rOr dt du) := fun L C F H σ s Q Qd Xd S h k x =>
  h1 L C F H σ s _ _ Xd S h (fun F1 H1 b s1 e1 S1 q1 => by
    cases b with
    | false => exact h2 L C F1 H1 σ s1 Q Qd Xd S1 q1.f (fun F2 H2 b2 s2 e2 => k F2 H2 b2 s2 (e1.trans e2)) (x.mono e1)
    | true => exact k F1 H1 true s1 e1 S1 q1.t) x
theorem rst_not {t : TT} (h1 : RST E t dt) : RST E (tNot t) (rNot dt) := fun L C F H σ s Q Qd Xd S h k x =>
  h1 L C F H σ s _ _ Xd S h (fun F1 H1 b s1 e1 S1 q1 => k F1 H1 (!b) s1 e1 S1 q1) x
structure RWx (X : Cx) (E : L2.St → XK) (e : Expr) (dt : RDT) : Prop where
  ex : ∃ tt, PW X e tt ∧ RST E tt dt
variable {rest : List Expr}
theorem RWx.t (h : RWx X E e dt) : RTx X E e dt := by
  obtain ⟨t, p, s⟩ := h.ex
  exact ⟨t, p.pt, s⟩
theorem rw_and1 (ha : RTx X E a dt) : RWx X E (.BoolOp .And [a] pos) dt := by
  obtain ⟨t, p, s⟩ := ha.ex
  exact ⟨t, pw_and1 p, s⟩
theorem rw_or1 (ha : RTx X E a dt) : RWx X E (.BoolOp .Or [a] pos) dt := by
  obtain ⟨t, p, s⟩ := ha.ex
  exact ⟨t, pw_or1 p, s⟩
theorem rw_and (ha : RTx X E a dt) (hb : RWx X E (.BoolOp .And (b :: rest) pos) du) : RWx X E (.BoolOp .And (a :: b :: rest) pos) (rAnd dt du) := by
  obtain ⟨t, p, s⟩ := ha.ex
  obtain ⟨t', p', s'⟩ := hb.ex
  exact ⟨_, pw_and p p', rst_and s s'⟩
theorem rw_or (ha : RTx X E a dt) (hb : RWx X E (.BoolOp .Or (b :: rest) pos) du) : RWx X E (.BoolOp .Or (a :: b :: rest) pos) (rOr dt du) := by
  obtain ⟨t, p, s⟩ := ha.ex
  obtain ⟨t', p', s'⟩ := hb.ex
  exact ⟨_, pw_or p p', rst_or s s'⟩
theorem rt_not (ha : RTx X E a dt) : RTx X E (.UnaryOp .Not a pos) (rNot dt) := by
  obtain ⟨t, p, s⟩ := ha.ex
  exact ⟨_, pt_not p, rst_not s⟩
/-! ### arguments, built-ins -/
def rCons (da : RDE) (dr : RDA) : RDA := fun s Q X => da s (fun r s1 => dr s1 (fun rs s2 => Q (fzR r :: rs) s2) X) X
theorem rsa_cons {ta : TE} {tr : TA} (ha : RSE E ta da) (hr : RSA E tr dr) : RSA E (tCons ta tr) (rCons da dr) := fun L C F H σ s Q Qd Xd S h k x =>
  ha L C F H σ s _ _ Xd S h (fun F1 H1 v1 r1 s1 e1 S1 v1r h1 => by
    obtain ⟨F2, e2, S2, a2⟩ := S1.fzv v1r
    exact hr L C F2 H1 σ s1 _ _ Xd S2 h1 (fun F3 H3 vs rs s3 e3 S3 a3 h3 => k F3 H3 _ _ s3 (e1.trans (e2.trans e3)) S3 (.cons (a2.mono e3) a3) h3) (x.mono (e1.trans e2))) x
theorem ra_nil : RAx X E [] (rLA dNil) := ra_l da_nil
theorem ra_cons (ha : REx X E e da) (hr : RAx X E es dr) (hs : starEach (e :: es) X.env = (false, eval e X.env) :: starEach es X.env := by rfl) : RAx X E (e :: es) (rCons da dr) := by
  obtain ⟨t, p, s⟩ := ha.ex
  obtain ⟨t', p', s'⟩ := hr.ex
  exact ⟨_, pa_cons p p' hs, rsa_cons s s'⟩
def rCB (g : GA) (dr : RDA) : RDE := fun s Q X => dr s (fun rs s1 => withD (views s1.e rs) fun ds => g ds fun r => Q r s1) X
theorem rse_cb {r : List V → Hp → VK → Prop} {gg : GA} {ta : TA} (ho : OpA r gg) (ha : RSA E ta dr) : RSE E (tCB r ta) (rCB gg dr) := fun L C F H σ s Q Qd Xd S h k x =>
  ha L C F H σ s _ _ Xd S h (fun F1 H1 vs rs s1 e1 S1 v1r h1 => by
    obtain ⟨ds, hd, h1⟩ := withD_of h1
    exact ho L (C.reg s1.g H1) F1 H1 vs ds Q _ S1.prot.fr (v1r.rep1 S1.rl hd) h1 fun F3 H3 v3 r3 g3 n3 q3 => k F3 H3 v3 r3 s1 (e1.trans g3.fx) (S1.grow g3) (by rw [S1.same g3]; exact n3.rv S1.prot) q3) x
theorem re_callB {x : Str} {id : String} {r : List V → Hp → VK → Prop} {gg : GA} {p : Pos} (hc : CallR X (.builtin id) r) (hg : OpA r gg) (hgl : Gl X x) (hm : X.mg x = none) (hv : bootBuiltins x = some (.builtin id)) (ha : RAx X E (e :: es) dr) (hn : x ≠ "__name__" := by decide) (hdb : (x == ("__debug__" : Str)) = false := by decide)
    (he : starEach (e :: es) X.env = (false, eval e X.env) :: starEach es X.env := by rfl) (hpl : (backTo pos (starEach es X.env)).any (·.1) = false := by rfl) : REx X E (.Call (.Name x p) (e :: es) [] pos) (rCB gg dr) := by
  obtain ⟨t, pa, s⟩ := ha.ex
  exact ⟨_, pe_callB hc hgl hm hv pa hn hdb he hpl, rse_cb hg s⟩
theorem re_callTy {x : Str} {T : String} {r : List V → Hp → VK → Prop} {gg : GA} {p : Pos} (hc : CallR X (.type T) r) (hg : OpA r gg) (hgl : Gl X x) (hm : X.mg x = none) (hv : bootBuiltins x = some (.type T)) (ha : RAx X E (e :: es) dr) (hn : x ≠ "__name__" := by decide) (hdb : (x == ("__debug__" : Str)) = false := by decide)
    (he : starEach (e :: es) X.env = (false, eval e X.env) :: starEach es X.env := by rfl) (hpl : (backTo pos (starEach es X.env)).any (·.1) = false := by rfl) : REx X E (.Call (.Name x p) (e :: es) [] pos) (rCB gg dr) := by
  obtain ⟨t, pa, s⟩ := ha.ex
  exact ⟨_, pe_callTy hc hgl hm hv pa hn hdb he hpl, rse_cb hg s⟩

/-! ### cells read -/
/-- o.f of an instance that is a cell -/
def rFldR (c f : Str) (da : RDE) : RDE := fun s Q X => da s (fun r s1 => match r with
  | .f (.raw (.ref t)) => withD (s1.g t) fun d0 => Got (fldD c f d0) fun d => Q (.f d) s1
  | _ => False) X
theorem re_fldR {c f : Str} (I : Cls X.K (clsA c)) (n : NoAttr X.K (clsA c) f) (ha : REx X E e da) (hb : attributeBase e f X.env (eval e X.env) = eval e X.env := by rfl) : REx X E (.Attribute e f pos) (rFldR c f da) := by
  obtain ⟨t, p, s⟩ := ha.ex
  refine ⟨_, pe_fld p hb, fun L C F H σ st Q Qd Xd S h k x => s L C F H σ st _ _ Xd S h (fun F1 H1 v1 r1 s1 e1 S1 v1r h1 => ?_) x⟩
  split at h1
  · next t =>
    cases v1r
    obtain ⟨d0, h0, h1⟩ := withD_of h1
    obtain ⟨d, hd, h2⟩ := h1.ex
    have h2 : Qd (.f d) s1 := h2
    clear h1
    obtain ⟨_, _, cc⟩ := S1.ow t d0 h0
    cases d0 with
    | ins C' ds =>
      unfold fldD at hd
      dsimp only at hd
      split at hd
      · next eC =>
        subst eC
        obtain ⟨dx, vs, hh, rf⟩ := cc
        obtain ⟨w, hw, rw'⟩ := repF_lookup rf hd
        exact ⟨t, _, dx, vs, w, rfl, hh, I, n, hw, k F1 H1 w (.f d) s1 e1 S1 rw' h2⟩
      · cases hd
    | _ => cases hd
  · exact h1.elim
/-- o[i] of a list that is a cell -/
def rIxR (da db : RDE) : RDE := fun s Q X => da s (fun r s1 => match r with
  | .f (.raw (.ref a)) => db s1 (fun r' s2 => match r' with
    | .f di => withD (s2.g a) fun d0 => gIx d0 di fun r => Q r s2
    | _ => False) X
  | _ => False) X
theorem re_ixR {k : Nat} (hr : Room k X.A) (ha : REx X E a da) (hb : REx X E b db) (hs : PlainIx b := by exact fun _ _ => rfl) : REx X E (.Subscript a b pos) (rIxR da db) := by
  obtain ⟨ta, pa, sa⟩ := ha.ex
  obtain ⟨tb, pb, sb⟩ := hb.ex
  refine ⟨_, pe_ix (ix_seq.or (ix_dict (hu_of hr))) pa pb hs, fun L C F H σ st Q Qd Xd S h k x => sa L C F H σ st _ _ Xd S h (fun F1 H1 v1 r1 s1 e1 S1 v1r h1 => ?_) x⟩
  split at h1
  · next t =>
    cases v1r
    refine sb L C F1 H1 σ s1 _ _ Xd S1 h1 (fun F3 H3 v3 r3 s3 e3 S3 v3r h3 => ?_) (x.mono e1)
    split at h3
    · next di =>
      obtain ⟨d0, h0, h3⟩ := withD_of h3
      have ri : Rep F3 v3 di := v3r
      exact o_ix L (C.reg s3.g H3) F3 H3 (.ref t) v3 d0 di Q _ S3.prot.fr (S3.ow t d0 h0).2.2.rep1 (ri.rep1 S3.rl.fr.fz) h3 fun F5 H5 v5 r5 g5 n5 q5 =>
        k F5 H5 v5 r5 s3 (e1.trans (e3.trans g5.fx)) (S3.grow g5) (by rw [S3.same g5]; exact n5.rv S3.prot) q5
    · exact h3.elim
  · exact h1.elim

/-! ### cells changed -/
/-- a method that changes a list that is a cell -/
def rMut (gm : GM) (da : RDE) (dr : RDA) : RDE := fun s Q X => da s (fun ro s1 => match ro with
  | .f (.raw (.ref a)) => withD (s1.g a) fun d0 => isL d0 = true ∧ dr s1 (fun rs s2 => withD (dTup.fzs s2.e rs) fun z => withD (s2.g a) fun d => gm d z.1 fun res d' => Q (.f res) ⟨gset s2.g a d', z.2⟩) X
  | _ => False) X
theorem rse_mut {K : PySem.W.Frag} {r : V → List V → Hp → VK → Prop} {gm : GM} {ta : TE} {tr : TA} (ho : OpM r gm) (ha : RSE E ta da) (hr : RSA E tr dr) : RSE E (tBM K "list" r ta tr) (rMut gm da dr) := fun L C F H σ s Q Qd Xd S h k x =>
  ha L C F H σ s _ _ Xd S h (fun F1 H1 v1 r1 s1 e1 S1 rv1 q1 => by
    split at q1
    · next a =>
      cases rv1
      obtain ⟨d0, h0, hl, q1⟩ := withD_of q1
      refine ⟨?_, hr L C F1 H1 σ s1 _ _ Xd S1 q1 (fun F2 H2 vs rs s2 e2 S2 av q2 => ?_) (x.mono e1)⟩
      · obtain ⟨_, _, c0⟩ := S1.ow a d0 h0
        cases d0 with
        | lst l => obtain ⟨ws, hw, _⟩ := c0; exact .inl ⟨rfl, ws, .inl (.inl hw)⟩
        | _ => cases hl
      · obtain ⟨⟨ds, env3⟩, hz, q2⟩ := withD_of q2
        obtain ⟨d, hd, q2⟩ := withD_of q2
        obtain ⟨F3, e3, R3, r3⟩ := fzs_ok S2.prot av hz
        obtain ⟨S3, _⟩ := S2.back R3 e3
        obtain ⟨_, hf3, c3⟩ := S3.ow a d hd
        refine ho F3 H2 a vs d ds Q _ c3 r3 q2 fun o v res d' c rr q => k F3 _ v (.f res) ⟨gset s2.g a d', env3⟩ (e1.trans (e2.trans e3)) (S3.put hd c) rr q
    · exact q1.elim) x
theorem re_append {apos cpos : Pos} (ho : REx X E a da) (ha : RAx X E [e] dr) (hbase : attributeBase a "append" X.env (eval a X.env) = eval a X.env := by rfl)
    (hfew : ((backTo cpos (starEach [e] X.env)).all (fun x => !x.1) && (backToKw cpos (keywordEach [] X.env)).all (fun x => x.1.isSome) && decide (([e] : List Expr).length + ([] : List Keyword).length + (if ([] : List Keyword).isEmpty then 0 else 1) < 30)) = true := by rfl)
    (hs : starEach [e] X.env = (false, eval e X.env) :: starEach [] X.env := by rfl) (hplain : (backTo cpos (starEach [] X.env)).any (·.1) = false := by rfl) (hline : (apos.endLine == cpos.line) = true := by rfl) :
    REx X E (.Call (.Attribute a "append" apos) [e] [] cpos) (rMut gAppend da dr) := by
  obtain ⟨t, p, s⟩ := ho.ex
  obtain ⟨t', p', s'⟩ := ha.ex
  exact ⟨_, pe_bm PySem.F.plainAttrs_list PySem.F.slot_list_append PySem.F.type_list_append mt_append p p' hbase hfew hline hs hplain, rse_mut o_append s s'⟩

/-! ### statements -/
structure REnds where
  nx : RE → Prop
  rt : Res → RE → Prop
  xr : XDR := fun _ _ _ => False
  bk : RE → Prop := fun _ => False
  ct : RE → Prop := fun _ => False
abbrev RDS := REnds → RE → Prop
structure REndsOk (L : Addr → Prop) (C : Cc) (F : Hp) (D : Ends) (Dd : REnds) : Prop where
  nx : ∀ F' H' σ' s', Ex F F' → RlR L C s'.g F' H' σ' s'.e → Dd.nx s' → D.nx σ' H'
  rt : ∀ F' H' σ' s' v r, Ex F F' → RlR L C s'.g F' H' σ' s'.e → RV2 (C.reg s'.g H') F' H' σ' s'.e v r → Dd.rt r s' → D.rt v H'
  bk : ∀ F' H' σ' s', Ex F F' → RlR L C s'.g F' H' σ' s'.e → Dd.bk s' → D.bk σ' H'
  ct : ∀ F' H' σ' s', Ex F F' → RlR L C s'.g F' H' σ' s'.e → Dd.ct s' → D.ct σ' H'
theorem REndsOk.mono {D : Ends} {Dd : REnds} (h : REndsOk L C F D Dd) (e : Ex F F') : REndsOk L C F' D Dd :=
  ⟨fun F2 H' σ' s' e2 => h.nx F2 H' σ' s' (e.trans e2), fun F2 H' σ' s' v r e2 => h.rt F2 H' σ' s' v r (e.trans e2), fun F2 H' σ' s' e2 => h.bk F2 H' σ' s' (e.trans e2), fun F2 H' σ' s' e2 => h.ct F2 H' σ' s' (e.trans e2)⟩
def RSS (E : L2.St → XK) (ts : TS) (ds : RDS) : Prop := ∀ (L : Addr → Prop) (C : Cc) (F H : Hp) (σ : L2.St) (s : RE) (D : Ends) (Dd : REnds), RlR L C s.g F H σ s.e → ds Dd s → REndsOk L C F D Dd → XOkR L C F E Dd.xr → ts D σ H
structure RSx (X : Cx) (E : L2.St → XK) (st : Stmt) (ds : RDS) : Prop where
  ex : ∃ ts, PS X st ts ∧ RSS E ts ds
structure RSs (X : Cx) (E : L2.St → XK) (st : List Stmt) (ds : RDS) : Prop where
  ex : ∃ ts, PSs X st ts ∧ RSS E ts ds
def dEnds (g : Reg) (D : REnds) : DEnds := { nx := fun e => D.nx ⟨g, e⟩, rt := fun r e => D.rt r ⟨g, e⟩, xr := xLift g D.xr, bk := fun e => D.bk ⟨g, e⟩, ct := fun e => D.ct ⟨g, e⟩ }
def rLs (ds : DS) : RDS := fun D s => ds (dEnds s.g D) s.e
variable {ts : TS} {ds dw : DS} {rs rw' : RDS} {st : Stmt} {sts : List Stmt} {dg : DG} {vs ws : List Nat}
theorem ends_reg {D : Ends} {Dd : REnds} (S : RlR L C g F H σ env) (k : REndsOk L C F D Dd) : EndsOk L (C.reg g H) F D (dEnds g Dd) :=
  ⟨fun F' H' σ' env' e R q => k.nx F' H' σ' ⟨g, env'⟩ e (S.back R e).1 q, fun F' H' σ' env' v r e R rv q => by
    obtain ⟨S', eq⟩ := S.back R e
    exact k.rt F' H' σ' ⟨g, env'⟩ v r e S' (by rw [eq]; exact rv) q, fun F' H' σ' env' e R q => k.bk F' H' σ' ⟨g, env'⟩ e (S.back R e).1 q, fun F' H' σ' env' e R q => k.ct F' H' σ' ⟨g, env'⟩ e (S.back R e).1 q⟩
theorem rss_lift (h : SS E ts ds) : RSS E ts (rLs ds) := fun L C F H σ s D Dd S hd k x => h L _ F H σ s.e D _ S.prot hd (ends_reg S k) (xok_reg S x)
theorem rs_l (h : DSx X E st ds) : RSx X E st (rLs ds) := by
  obtain ⟨t, p, s⟩ := h.ex
  exact ⟨t, p, rss_lift s⟩
theorem rss_l (h : DSs X E sts ds) : RSs X E sts (rLs ds) := by
  obtain ⟨t, p, s⟩ := h.ex
  exact ⟨t, p, rss_lift s⟩
def rSeq (t u : RDS) : RDS := fun D s => t { D with nx := u D } s
theorem rss_seq {t u : TS} (h1 : RSS E t rs) (h2 : RSS E u rw') : RSS E (tSeq t u) (rSeq rs rw') := fun L C F H σ s D Dd S h k x =>
  h1 L C F H σ s _ { Dd with nx := rw' Dd } S h ⟨fun F' H' σ' s' e S' q => h2 L C F' H' σ' s' D Dd S' q (k.mono e) (x.mono e), k.rt, k.bk, k.ct⟩ x
theorem rss_cons {rest : List Stmt} (h1 : RSx X E st rs) (h2 : RSs X E rest rw') : RSs X E (st :: rest) (rSeq rs rw') := by
  obtain ⟨t, p, s⟩ := h1.ex
  obtain ⟨t', p', s'⟩ := h2.ex
  exact ⟨_, pss_cons p p', rss_seq s s'⟩
theorem rss_one (h1 : RSx X E st rs) : RSs X E [st] rs := by
  obtain ⟨t, p, s⟩ := h1.ex
  exact ⟨_, pss_one p, s⟩
def rDrop (de : RDE) : RDS := fun D s => de s (fun _ s1 => D.nx s1) D.xr
theorem rs_expr (he : REx X E e de) (hs : swapsWith e none pos.line X.env = pure false := by rfl) : RSx X E (.Expr e pos) (rDrop de) := by
  obtain ⟨t, p, s⟩ := he.ex
  exact ⟨_, ps_expr p hs, fun L C F H σ st D Dd S h k x => s L C F H σ st _ _ _ S h (fun F' H' v r s' e S' _ q => k.nx F' H' σ s' e S' q) x⟩
def rRet (de : RDE) : RDS := fun D s => de s D.rt D.xr
theorem rs_ret (he : REx X E e de) : RSx X E (.Return (some e) pos) (rRet de) := by
  obtain ⟨t, p, s⟩ := he.ex
  exact ⟨_, ps_ret p, fun L C F H σ st D Dd S h k x => s L C F H σ st _ _ _ S h (fun F' H' v r s' e S' rv q => k.rt F' H' σ s' v r e S' rv q) x⟩
def rIfS (dt : RDT) (ds dw : RDS) : RDS := fun D s => dt s (fun b s1 => IfB b (ds D s1) (dw D s1)) D.xr
theorem rs_if {c : Expr} {sa sb : List Stmt} (hc : RTx X E c dt) (ha : RSs X E sa rs) (hb : RSs X E sb rw') : RSx X E (.If c sa sb pos) (rIfS dt rs rw') := by
  obtain ⟨t, p, s⟩ := hc.ex
  obtain ⟨t1, p1, s1⟩ := ha.ex
  obtain ⟨t2, p2, s2⟩ := hb.ex
  refine ⟨_, ps_if p p1 p2, fun L C F H σ st D Dd S h k x => s L C F H σ st _ _ _ S h (fun F' H' b s' e S' q => ?_) x⟩
  cases b with
  | true => exact s1 L C F' H' σ s' D Dd S' q.t (k.mono e) (x.mono e)
  | false => exact s2 L C F' H' σ s' D Dd S' q.f (k.mono e) (x.mono e)
def rNext : RDS := fun D s => D.nx s
theorem rss_nil : RSs X E [] rNext := ⟨_, pss_nil, fun L C F H σ s D Dd S h k x => k.nx F H σ s (Ex.refl F) S h⟩
def rAsg (de : RDE) (dg : DG) : RDS := fun D s => de s (fun r s1 => dg r s1.e fun e => D.nx ⟨s1.g, e⟩) D.xr
theorem rss_asg {te : TE} {tg : TG} (s : RSE E te de) (s' : SG vs tg dg) : RSS E (tAsg te tg) (rAsg de dg) := fun L C F H σ st D Dd S h k x => s L C F H σ st _ _ _ S h (fun F1 H1 v r s1 e1 S1 rv q =>
  s' L _ F1 H1 σ s1.e v r _ _ S1.prot rv q fun F2 H2 σ2 env2 e2 R2 _ q2 => k.nx F2 H2 σ2 ⟨s1.g, env2⟩ (e1.trans e2) (S1.back R2 e2).1 q2) x
theorem rs_asg {tg : Expr} (he : REx X E e de) (hg : DGx X tg vs dg) (hs : swapsWithSole [tg] e pos.line X.env = pure false := by rfl) (hw : swappedStores [tg] e X.env = pure none := by rfl)
    (h1 : (assignEach [tg] X.env).map (·.2) = [assign tg X.env] := by rfl) : RSx X E (.Assign [tg] e pos) (rAsg de dg) := by
  obtain ⟨t, p, s⟩ := he.ex
  obtain ⟨t', p', s'⟩ := hg.ex
  exact ⟨_, ps_asg p p' hs hw h1, rss_asg s s'⟩
theorem rs_set {i : Nat} {x : Str} (hN : X.N.Nodup) (hi : X.N[i]? = some x) (hx : Loc X.env.scope x) (he : REx X E e de) (hs : swapsWith e (some (.Name x pos')) pos.line X.env = pure false := by rfl) (hf : X.fn x = true ∨ X.env.scope.names.lookup x = some .local := by first | exact .inl rfl | exact .inr rfl | assumption) :
    RSx X E (.Assign [.Name x pos'] e pos) (rAsg de (dgName i)) := by
  obtain ⟨t, p, s⟩ := he.ex
  exact ⟨_, ps_set hN hi hx p hs hf, rss_asg s sg_name⟩
/-! ### o.f = e, o[i] = e -/
/-- what is stored: a frozen datum; a new object becomes a cell -/
def rNew (r : Res) (s : RE) (k : Dat → RE → Prop) : Prop := match r with
  | .f d => k d s
  | .n d => ∀ p, s.g p = none → k (.raw (.ref p)) ⟨gset s.g p d, s.e⟩
  | .l _ => False
theorem rNew_ok {s : RE} {r : Res} {k : Dat → RE → Prop} (S : RlR L C s.g F H σ s.e) (rv : RV2 (C.reg s.g H) F H σ s.e v r) (h : rNew r s k) : ∃ d s', s'.e = s.e ∧ RlR L C s'.g F H σ s'.e ∧ Rep F v d ∧ k d s' := by
  cases r with
  | f d => exact ⟨d, s, rfl, S, rv, h⟩
  | n d =>
    obtain ⟨p, rfl, ⟨h0, hf, c⟩, n⟩ := rv
    have gp : s.g p = none := by
      cases z : s.g p with
      | none => rfl
      | some x =>
        obtain ⟨o, ho⟩ := S.there z
        rw [reg_in z, ho] at h0; cases h0
    rw [reg_out gp] at h0
    exact ⟨_, ⟨gset s.g p d, s.e⟩, rfl, S.take ⟨h0, hf, c⟩ n, .raw _, h p gp⟩
  | l i => exact h.elim
/-- o.f = e, o a cell -/
def rSetF (c f : Str) (dw da : RDE) : RDS := fun D s => dw s (fun r s1 => rNew r s1 fun d s2 => da s2 (fun ro s3 => match ro with
  | .f (.raw (.ref t)) => withD (s3.g t) fun d0 => gSetF c f d0 d fun d' => D.nx ⟨gset s3.g t d', s3.e⟩
  | _ => False) D.xr) D.xr
theorem rs_setF {o' : Expr} {c f : Str} (I : Cls X.K (clsA c)) (n : NoAttr X.K (clsA c) f) (hv : REx X E e db) (ho : REx X E o' da) (hs : swapsWith e (some (.Attribute o' f pos')) pos.line X.env = pure false := by rfl) : RSx X E (.Assign [.Attribute o' f pos'] e pos) (rSetF c f db da) := by
  obtain ⟨t1, p1, s1⟩ := hv.ex
  obtain ⟨t2, p2, s2⟩ := ho.ex
  refine ⟨_, ps_fld p2 p1 hs, fun L C F H σ st D Dd S h k x => s1 L C F H σ st _ _ _ S h (fun F1 H1 v r u1 e1 S1 rv q => ?_) x⟩
  obtain ⟨d, u2, _, S2, rd, q⟩ := rNew_ok S1 rv q
  refine s2 L C F1 H1 σ u2 _ _ _ S2 q (fun F3 H3 o ro u3 e3 S3 rvo q3 => ?_) (x.mono e1)
  split at q3
  · next t =>
    cases rvo
    obtain ⟨d0, h0, q3⟩ := withD_of q3
    obtain ⟨_, hf, cc⟩ := S3.ow t d0 h0
    unfold gSetF at q3
    split at q3
    · next C' ds =>
      obtain ⟨⟨eC, hl⟩, q3⟩ := q3
      subst eC
      obtain ⟨dx, vs, ha, rf⟩ := cc
      refine ⟨t, _, dx, vs, rfl, ha, I, n, by rw [repF_len rf]; exact hl, ?_⟩
      exact k.nx F3 _ σ ⟨gset u3.g t _, u3.e⟩ (e1.trans e3) (S3.put (d' := .ins (clsA c) (putFd f d ds)) h0 (o := .ins (clsA c) dx (L2.putF f v vs)) ⟨dx, _, upd_same, repF_put (rd.mono e3) rf⟩) q3
    · exact q3.elim
  · exact q3.elim
/-- o[i] = e, o an object of a slot or a cell -/
def rSetI (dw da db : RDE) : RDS := fun D s => dw s (fun rv s1 => withD (elD rv) fun d => da s1 (fun ro s2 => db s2 (fun ri s3 => withD (view s3.e (fzR ri)) fun di => match ro with
  | .l j => withD (ownD s3.e j) fun d0 => gSet d0 di d fun d' => D.nx ⟨s3.g, putO s3.e j d'⟩
  | .f (.raw (.ref t)) => withD (s3.g t) fun d0 => gSet d0 di d fun d' => D.nx ⟨gset s3.g t d', s3.e⟩
  | _ => False) D.xr) D.xr) D.xr
theorem rss_setI {tw ta tb : TE} {dw : RDE} (hw : RSE E tw dw) (ha : RSE E ta da) (hb : RSE E tb db) : RSS E (tAsg tw (gSub ta tb rSetA)) (rSetI dw da db) := fun L C F H σ st D Dd S h k x =>
  hw L C F H σ st _ _ _ S h (fun F1 H1 v r s1 e1 S1 rv q => by
    obtain ⟨d, hd, q⟩ := withD_of q
    obtain ⟨F2, e2, S2, r2⟩ : ∃ F2, Ex F1 F2 ∧ RlR L C s1.g F2 H1 σ s1.e ∧ Rep F2 v d := by
      cases r with
      | f d => cases hd; exact ⟨F1, Ex.refl _, S1, rv⟩
      | n d => cases hd; exact S1.fzv (r := .n d) rv
      | l j => cases hd
    refine ha L C F2 H1 σ s1 _ _ _ S2 q (fun F3 H3 o ro s3 e3 S3 rvo q3 => ?_) (x.mono (e1.trans e2))
    refine hb L C F3 H3 σ s3 _ _ _ S3 q3 (fun F4 H4 iv ri s4 e4 S4 rvi q4 => ?_) (x.mono (e1.trans (e2.trans e3)))
    obtain ⟨F5, e5, S5, a5⟩ := S4.fzv rvi
    obtain ⟨di, hdi, q4⟩ := withD_of q4
    have ri1 := a5.rep1 S5.rl hdi
    have rd := r2.mono (e3.trans (e4.trans e5))
    have ee := e1.trans (e2.trans (e3.trans (e4.trans e5)))
    cases ro with
    | l j =>
      have rvo : σ[j]? = some (some o) := rvo
      obtain ⟨d0, hd0, q4⟩ := withD_of q4
      obtain ⟨p, hp, hf, c, _⟩ := S5.rl.own hd0
      rw [rvo] at hp; cases hp
      exact gSet_ok c ri1 rd q4 fun o d' c' q' => k.nx F5 _ σ ⟨s4.g, _⟩ ee (S5.mutS hd0 rvo c') q'
    | n _ => exact q4.elim
    | f dd =>
      cases dd with
      | raw w =>
        cases w with
        | ref t =>
          cases rvo
          obtain ⟨d0, h0, q4⟩ := withD_of q4
          exact gSet_ok (S5.ow t d0 h0).2.2 ri1 rd q4 fun o d' c' q' => k.nx F5 _ σ ⟨gset s4.g t d', s4.e⟩ ee (S5.put h0 c') q'
        | _ => exact q4.elim
      | _ => exact q4.elim) x
theorem rs_setI {k : Nat} {ppos : Pos} {dw : RDE} (hr : Room k X.A) (hv : REx X E e dw) (ho : REx X E a da) (hi : REx X E b db)
    (hsub : ∀ v, assign (.Subscript a b ppos) X.env v = (holding [v] (eval a X.env) >>= fun o => holding [v, o] (eval b X.env) >>= fun i => standAt ppos >>= fun _ => holding [v, o, i] (setItem o i v) >>= fun _ => release [v, o, i] []) := by intro _; rfl)
    (hs : swapsWithSole [.Subscript a b ppos] e pos.line X.env = pure false := by rfl) (hw : swappedStores [.Subscript a b ppos] e X.env = pure none := by rfl)
    (h1 : (assignEach [.Subscript a b ppos] X.env).map (·.2) = [assign (.Subscript a b ppos) X.env] := by rfl) : RSx X E (.Assign [.Subscript a b ppos] e pos) (rSetI dw da db) := by
  obtain ⟨t0, p0, s0⟩ := hv.ex
  obtain ⟨t1, p1, s1⟩ := ho.ex
  obtain ⟨t2, p2, s2⟩ := hi.ex
  exact ⟨_, ps_asg p0 (pg_sub p1 p2 (set_any (hu_of hr)) hsub) hs hw h1, rss_setI s0 s1 s2⟩
end
end DL

set_option Elab.async false
set_option linter.all false
set_option maxRecDepth 100000
set_option maxHeartbeats 2000000
/-! Loops over a region; a region begun in a def. -/
namespace DL
open PySem PySem.Spec PyProof.Rows L2
variable [ClsV]
abbrev RDI := RE → (List Dat → RE → Prop) → XDR → Prop
def RSI (E : L2.St → XK) (wi : TI) (di : RDI) : Prop := ∀ (L : Addr → Prop) (C : Cc) (F H : Hp) (σ : L2.St) (s : RE) (R : It → Hp → Prop) (Rd : List Dat → RE → Prop) (X : XDR), RlR L C s.g F H σ s.e → di s Rd X →
  (∀ F' H' J items s', Ex F F' → RlR L C s'.g F' H' σ s'.e → Walks L C F' J items → Rd items s' → R J H') → XOkR L C F E X → wi σ H R
structure RIx (X : Cx) (E : L2.St → XK) (tg e : Expr) (di : RDI) : Prop where
  ex : ∃ wi, PI X tg e wi ∧ RSI E wi di
section
variable {L : Addr → Prop} {C : Cc} {F H F' H' F1 H1 : Hp} {σ σ' : L2.St} {env env' env2 : Env} {i : Nat} {d : Dat} {v : V} {p q : Addr} {o : HO} {g : Reg} {E : L2.St → XK}
variable {X : Cx} {e a b c tg : Expr} {es : List Expr} {pos pos' pp : Pos} {da db de : RDE} {dr : RDA} {di : RDI} {dg : DG} {rs : RDS} {vs ws : List Nat}
def rFor (di : RDI) (g : DG) (ds : RDS) : RDS := fun D s => di s (fun items s1 => ∃ W : Nat → RE → Prop, W 0 s1 ∧
  (∀ i d s', items[i]? = some d → W i s' → g (.f d) s'.e fun e2 => ds { D with nx := W (i + 1), ct := W (i + 1), bk := D.nx } ⟨s'.g, e2⟩) ∧ ∀ s', W items.length s' → D.nx s') D.xr
theorem rs_for {iter : Expr} {body : List Stmt} (hp : PassesOwn (model X.prog X.w) X.A X.env X.xe) (hc : X.calm = true) (hi : RIx X E tg iter di) (hg : DGx X tg vs dg) (hb : RSs X E body rs)
    (hs : ∀ x, foldedSetIterable iter X.env x = pure x := by intro _; rfl) : RSx X E (.For tg iter body [] pos) (rFor di dg rs) := by
  obtain ⟨t, p, s⟩ := hi.ex
  obtain ⟨t1, p1, s1⟩ := hg.ex
  obtain ⟨t2, p2, s2⟩ := hb.ex
  refine ⟨_, ps_for hp hc p p1 p2 hs, fun L C F H σ st D Dd S h k x => s L C F H σ st _ _ _ S h (fun F1 H1 J items u1 e1 S1 w1 q1 => ?_) x⟩
  obtain ⟨W, w0, turn, done⟩ := q1
  refine ⟨fun i m σ' H' => m = items.length - i ∧ i ≤ items.length ∧ ∃ F' u', Ex F1 F' ∧ RlR L C u'.g F' H' σ' u'.e ∧ W i u', ⟨_, rfl, Nat.zero_le _, F1, u1, Ex.refl F1, S1, w0⟩, ?_⟩
  rintro i m σ2 H2 ⟨rfl, hi, F2, u2, e2, S2, w2⟩
  by_cases hlt : i < items.length
  · have hd : items[i]? = some items[i] := List.getElem?_eq_getElem hlt
    obtain ⟨go, yld⟩ := (w1 F2 H2 σ2 u2.e e2 S2.rl i).1 _ hd
    refine .inr ⟨go, fun σ' H' => ∃ F' u', Ex F1 F' ∧ RlR L C u'.g F' H' σ' u'.e ∧ W (i + 1) u', ?_, fun v H3 y => ?_⟩
    · rintro σ' H' ⟨F', u', e', S', w'⟩
      exact ⟨items.length - (i + 1), by omega, rfl, hlt, F', u', e', S', w'⟩
    · obtain ⟨F3, g3, r3⟩ := yld v H3 y
      have S3 := S2.grow g3
      refine s1 L (C.reg u2.g H3) F3 H3 σ2 u2.e v (.f items[i]) _ _ S3.prot r3 (turn i _ u2 hd w2) fun F4 H4 σ4 env4 e4 R4 _ q4 => ?_
      have e14 := e2.trans (g3.fx.trans e4)
      exact s2 L C F4 H4 σ4 ⟨u2.g, env4⟩ _ _ (S3.back R4 e4).1 q4 ⟨fun F5 H5 σ5 u5 e5 S5 q5 => ⟨F5, u5, e14.trans e5, S5, q5⟩, (k.mono (e1.trans e14)).rt, fun F5 H5 σ5 u5 e5 S5 q5 => k.nx F5 H5 σ5 u5 ((e1.trans e14).trans e5) S5 q5, fun F5 H5 σ5 u5 e5 S5 q5 => ⟨F5, u5, e14.trans e5, S5, q5⟩⟩ (x.mono (e1.trans e14))
  · have e : i = items.length := by omega
    subst e
    exact .inl ⟨(w1 F2 H2 σ2 u2.e e2 S2.rl _).2 (Nat.le_refl _), k.nx F2 H2 σ2 u2 (e1.trans e2) S2 (done u2 w2)⟩
/-! ### what is walked -/
def rSeqI (de : RDE) : RDI := fun s Q X => de s (fun r s1 => itK r s1.e fun _ ds e2 => Q ds ⟨s1.g, e2⟩) X
theorem ri_seq (h : REx X E e de) : RIx X E tg e (rSeqI de) := by
  obtain ⟨t, p, s⟩ := h.ex
  refine ⟨_, pi_seq p, fun L C F H σ st R Rd Xd S h k x => s L C F H σ st _ _ Xd S h (fun F1 H1 v r s1 e1 S1 rv q => ?_) x⟩
  obtain ⟨F2, env2, tt, xs, a0, ws, e2, R2, rfl, h2, rs2, q⟩ := itK_of S1.prot rv q
  obtain ⟨S2, _⟩ := S1.back R2 e2
  have hH := R2.fr.fz.ex h2 (by cases tt <;> rfl)
  cases tt with
  | false => exact ⟨a0, rfl, .inl ⟨⟨ws, .inl (.inl hH)⟩, k F2 H1 _ xs ⟨s1.g, env2⟩ (e1.trans e2) S2 (walks_lst h2 rs2) q⟩⟩
  | true => exact ⟨a0, rfl, .inr ⟨⟨ws, .inl (.inl hH)⟩, k F2 H1 _ xs ⟨s1.g, env2⟩ (e1.trans e2) S2 (walks_tup h2 rs2) q⟩⟩
def rRng1 (dr : RDA) : RDI := fun s Q X => dr s (fun rs s1 => withD (views s1.e rs) fun ds => match ds with
  | [.int j] => -(2 ^ 62) ≤ j ∧ j < 2 ^ 62 ∧ Q (rangeD 0 j.toNat) s1
  | _ => False) X
theorem ri_range1 (hg : Gl X "range") (hm : X.mg "range" = none) (ha : RAx X E [a] dr) (hs : starEach [a] X.env = [(false, eval a X.env)] := by rfl) : RIx X E tg (.Call (.Name "range" pp) [a] [] pos) (rRng1 dr) := by
  obtain ⟨t, pa, s⟩ := ha.ex
  refine ⟨_, pi_range1 hg hm pa hs, fun L C F H σ st R Rd Xd S h k x => s L C F H σ st _ _ Xd S h (fun F1 H1 vs rs s1 e1 S1 rv q => ?_) x⟩
  obtain ⟨ds, hd, q⟩ := withD_of q
  split at q
  · next j =>
    obtain ⟨v, rfl, r⟩ := (rv.rep1 S1.rl hd).one
    cases rep1_int r
    exact ⟨j, rfl, q.1, q.2.1, k F1 H1 _ _ s1 e1 S1 walks_rng q.2.2⟩
  · exact q.elim
def rRev1 (da : RDE) : RDI := fun s Q X => da s (fun r s1 => match r with
  | .f (.int j) => (-(2 ^ 62) ≤ j ∧ j < 2 ^ 62) ∧ Q (downD (j.toNat : Int) j.toNat) s1
  | _ => False) X
theorem ri_rev1 {cpos : Pos} (hg : Gl X "reversed") (hm : X.mg "reversed" = none) (hg2 : Gl X "range") (hm2 : X.mg "range" = none) (ha : REx X E a da) (hs : starEach [a] X.env = (false, eval a X.env) :: starEach [] X.env := by rfl)
    (hs2 : starEach [Expr.Call (.Name "range" pp) [a] [] pos] X.env = (false, eval (Expr.Call (.Name "range" pp) [a] [] pos) X.env) :: starEach [] X.env := by rfl) :
    RIx X E tg (.Call (.Name "reversed" pos') [.Call (.Name "range" pp) [a] [] pos] [] cpos) (rRev1 da) := by
  obtain ⟨t, pa, s⟩ := ha.ex
  refine ⟨_, pi_revR hg hm (prg_1 hg2 hm2 pa hs) hs2, fun L C F H σ st R Rd Xd S h k x => s L C F H σ st _ _ Xd S h (fun F1 H1 v r s1 e1 S1 rv q => ?_) x⟩
  split at q
  · next j =>
    cases rv
    refine ⟨j, rfl, by omega, by omega, q.1.1, q.1.2, ?_⟩
    rw [Int.sub_zero]
    exact k F1 H1 _ _ s1 e1 S1 (walks_down (by omega)) q.2
  · exact q.elim

/-! ### a region that is begun and left in a def -/
/-- what is handed back: cells in place of their addresses -/
def rtG (Q : Res → Env → Prop) : Res → RE → Prop := fun r s => match r with
  | .f d => ∃ d', Thw s.g d d' ∧ Q (.f d') s.e
  | r => Q r s.e
def xrG (X : XD) : XDR := fun c f s => X c f s.e
def rEnds (D : DEnds) : REnds := { nx := fun s => D.nx s.e, rt := rtG D.rt, xr := xrG D.xr, bk := fun s => D.bk s.e, ct := fun s => D.ct s.e }
/-- rows with a region of their own -/
def dReg (rs : RDS) : DS := fun D env => rs (rEnds D) ⟨fun _ => none, env⟩
/-- the cells frozen -/
theorem RlR.freeze (S : RlR L C g F H σ env) : ∃ F', Ex F F' ∧ Rl L C F' H σ env ∧ ∀ q d, g q = some d → F' q = H q := by
  refine ⟨fun q => if (g q).isSome then H q else F q, fun q o e => ?_, ⟨⟨fun q o e => ?_, fun q n => ?_, S.rl.fr.kp, S.rl.fr.th, S.rl.fr.lk, S.rl.fr.wf, S.rl.fr.wa, S.rl.fr.wb, S.rl.fr.fl⟩, S.rl.len, fun i s h => ?_, S.rl.nd⟩, fun q d h => ?_⟩
  · show (if (g q).isSome = true then H q else F q) = some o
    cases z : g q with
    | none => exact e
    | some d => rw [(S.ow q d z).2.1] at e; cases e
  · cases z : g q with
    | none => rw [z] at e; exact S.rl.fr.fz q o e
    | some d => rw [z] at e; exact .inl e
  · cases z : g q with
    | none => exact S.rl.fr.fn q n
    | some d => exact absurd (S.ow q d z).1 n
  · obtain ⟨ov, h1, h2⟩ := S.rl.sl i s h
    refine ⟨ov, h1, ?_⟩
    have ex : Ex F (fun q => if (g q).isSome then H q else F q) := fun q o e => by
      cases z : g q with
      | none => simp only [z]; exact e
      | some d => rw [(S.ow q d z).2.1] at e; cases e
    have out : ∀ p, IsO env i → σ[i]? = some (some (.ref p)) → (if (g p).isSome = true then H p else F p) = F p := fun p hi e => by
      cases z : g p with
      | none => rfl
      | some d => exact absurd e (S.ns p d i z hi)
    cases s with
    | f d => obtain ⟨v, e, r⟩ := h2; exact ⟨v, e, r.mono ex⟩
    | o d =>
      obtain ⟨p, e, a, b, c⟩ := h2
      subst e
      exact ⟨p, rfl, a, (out p (isO_o h) h1).trans b, c.mono ex rfl⟩
    | b d =>
      obtain ⟨p, e, a, b, c⟩ := h2
      subst e
      exact ⟨p, rfl, a, (out p (isO_b h) h1).trans b, c.mono ex rfl⟩
  · show (if (g q).isSome = true then H q else F q) = H q
    rw [h]; rfl
theorem RV2.unreg {r : Res} (h : RV2 (C.reg g H) F H σ env v r) (S : RlR L C g F H σ env) : RV2 C F H σ env v r := by
  cases r with
  | f d => exact h
  | n d =>
    obtain ⟨p, e, ⟨a, b, c⟩, n⟩ := h
    refine ⟨p, e, ⟨?_, b, c⟩, n⟩
    cases z : g p with
    | none => rwa [reg_out z] at a
    | some d' =>
      obtain ⟨o, ho⟩ := S.there z
      rw [reg_in z, ho] at a; cases a
  | l i => exact h
theorem ss_reg {ts : TS} (s : RSS E ts rs) : SS E ts (dReg rs) := fun L C F H σ env D Dd R h k x =>
  s L C F H σ ⟨fun _ => none, env⟩ D (rEnds Dd) (RlR.bare R) h ⟨fun F' H' σ' s' e S q => k.nx F' H' σ' s'.e e S.rl q, fun F' H' σ' s' v r e S rv q => by
    cases r with
    | f d =>
      obtain ⟨d', t, q⟩ := q
      obtain ⟨F2, e2, R2, hc⟩ := S.freeze
      exact k.rt F2 H' σ' s'.e v (.f d') (e.trans e2) R2 (thaw (H := H') e2 (fun q d h => ⟨(S.ow q d h).2.2, hc q d h⟩) t rv) q
    | n d => exact k.rt F' H' σ' s'.e v (.n d) e S.rl (RV2.unreg rv S) q
    | l i => exact k.rt F' H' σ' s'.e v (.l i) e S.rl rv q,
    fun F' H' σ' s' e S q => k.bk F' H' σ' s'.e e S.rl q, fun F' H' σ' s' e S q => k.ct F' H' σ' s'.e e S.rl q⟩ fun F' H' σ' s' cls od fds e S xf ok q => x F' H' σ' s'.e cls od fds e S.rl xf ok q
theorem dss_reg {sts : List Stmt} (h : RSs X E sts rs) : DSs X E sts (dReg rs) := by
  obtain ⟨t, p, s⟩ := h.ex
  exact ⟨t, p, ss_reg s⟩
end
end DL

set_option Elab.async false
set_option linter.all false
set_option maxRecDepth 100000
set_option maxHeartbeats 2000000
/-! Calls of defs that work on a region of the caller's. -/
namespace DL
open PySem PySem.Spec PyProof.Rows L2
variable [ClsV]
/-- the promise of a def that works on a region -/
abbrev RSp := Reg → List Ar → (Res → Reg → List Dat → Prop) → (Str → Option (List (Str × Dat)) → Reg → List Dat → Prop) → Prop
def outH (g : Reg) (H : Hp) : Hp := fun q => if (g q).isSome then none else H q
def liftR (rsp : RSp) : Sp := fun vs H Q E => ∃ (L : Addr → Prop) (C : Cc) (g : Reg) (as : List Ar) (Qd : Res → Reg → List Dat → Prop) (Xd : Str → Option (List (Str × Dat)) → Reg → List Dat → Prop),
  C.H0 = outH g H ∧ Fr L C C.F0 H ∧ (∀ i j p, C.ad i = some p → C.ad j = some p → i = j) ∧ ArsOk C C.F0 H 0 vs as ∧ (∀ q d, g q = some d → Own C C.F0 H q d) ∧ rsp g as Qd Xd ∧
  (∀ r g' ds F' H' v, Qd r g' ds → (∀ q, g q ≠ none → g' q ≠ none) → Fr L C F' H' → RR (C.reg g' H') F' H' v r → OutOk C F' H' 0 vs as ds → (∀ q d, g' q = some d → Own C F' H' q d) → Q v H') ∧
  (∀ cls fds g' ds F' H' od, Xd cls fds g' ds → (∀ q, g q ≠ none → g' q ≠ none) → Fr L C F' H' → XF F' od fds → ClsV.ok cls → OutOk C F' H' 0 vs as ds → (∀ q d, g' q = some d → Own C F' H' q d) → E (ClsV.v cls) od H')
section
variable {L : Addr → Prop} {C C' : Cc} {F H F' H' F1 H1 H2 : Hp} {σ σ' : L2.St} {env env' env2 : Env} {i : Nat} {d : Dat} {v : V} {p q : Addr} {o : HO} {g g' : Reg} {E : L2.St → XK} {ms : List Bool} {rs : List Res} {vs : List V} {as : List Ar} {ds : List Dat}
theorem outH_in (h : g q = some d) : outH g H q = none := by
  show (if (g q).isSome = true then none else H q) = none
  rw [h]; rfl
theorem outH_out (h : g q = none) : outH g H q = H q := by
  show (if (g q).isSome = true then none else H q) = H q
  rw [h]; rfl
theorem arsOk_ad (e : C'.ad = C.ad) : ∀ {n : Nat} {vs : List V} {as : List Ar}, ArsOk C F H n vs as → ArsOk C' F H n vs as
  | _, _, _, .nil => .nil
  | _, _, _, .f r t => .f r (arsOk_ad e t)
  | _, _, _, .m ⟨a, b, c⟩ t => .m ⟨by rw [e]; exact a, b, c⟩ (arsOk_ad e t)
theorem outOk_ad (e : C'.ad = C.ad) (h : ∀ i p, C.ad i = some p → H2 p = H p) : ∀ {n : Nat} {vs : List V} {as : List Ar} {ds : List Dat}, OutOk C F H n vs as ds → OutOk C' F H2 n vs as ds
  | _, _, _, _, .nil => .nil
  | _, _, _, _, .f t => .f (outOk_ad e h t)
  | _, _, _, _, .m ⟨a, b, c⟩ t => .m ⟨by rw [e]; exact a, b, c.mono (Ex.refl F) (h _ _ a)⟩ (outOk_ad e h t)
theorem isO_putO {j : Nat} (h : IsO (putO env j d) i) : IsO env i := by
  unfold putO at h
  split at h
  · next x e =>
    rcases isO_set h with ⟨z, _⟩ | ⟨_, z⟩
    · subst z; exact isO_o e
    · exact z
  · next x e =>
    rcases isO_set h with ⟨z, _⟩ | ⟨_, z⟩
    · subst z; exact isO_b e
    · exact z
  · exact h
theorem isO_putOuts : ∀ {ms : List Bool} {rs : List Res} {ds : List Dat} {env : Env}, IsO (putOuts env ms rs ds) i → IsO env i
  | [], _, _, _, h => by simpa [putOuts] using h
  | true :: ms, [], _, _, h => by simpa [putOuts] using h
  | false :: ms, [], _, _, h => by simpa [putOuts] using h
  | true :: ms, .l j :: rs, [], env, h => by
    simp only [putOuts] at h
    exact isO_putOuts h
  | true :: ms, .l j :: rs, d :: ds, env, h => by
    simp only [putOuts] at h
    exact isO_putO (isO_putOuts h)
  | true :: ms, .f _ :: rs, ds, env, h => by
    simp only [putOuts] at h
    exact isO_putOuts h
  | true :: ms, .n _ :: rs, ds, env, h => by
    simp only [putOuts] at h
    exact isO_putOuts h
  | false :: ms, r :: rs, ds, env, h => by
    simp only [putOuts] at h
    exact isO_putOuts h
/-- cells that nobody speaks of may hold other things -/
theorem Rl.swap (D : Addr → Prop) (R : Rl L C F H σ env) (same : ∀ q, ¬ D q → H' q = H q) (h0 : ∀ q, D q → C.H0 q = none) (hf : ∀ q, D q → F q = none) (ns : ∀ q i, D q → IsO env i → σ[i]? ≠ some (some (.ref q))) (nl : ∀ q, D q → ¬ L q) (nz : ∀ q ob o, D q → H' q ≠ some (.frz ob o)) : Rl L C F H' σ env := by
  have out : ∀ q, C.H0 q ≠ none → H' q = H q := fun q n => same q fun z => n (h0 q z)
  refine ⟨⟨fun q o e => ?_, fun q n => ?_, fun q o e n => ?_, fun q n => ?_, fun q h => ?_, R.fr.wf, R.fr.wa, R.fr.wb, fun q ob o e => ?_⟩, R.len, fun i s hs => ?_, R.nd⟩
  · rw [same q fun z => by rw [hf q z] at e; cases e]; exact R.fr.fz q o e
  · rcases R.fr.fn q n with z | ⟨z, vs, t⟩
    · exact .inl z
    · exact .inr ⟨z, vs, (out q n).trans t⟩
  · rw [out q (by rw [e]; exact fun z => by cases z)]; exact R.fr.kp q o e n
  · rw [out q n]; exact R.fr.th q n
  · rw [same q fun z => nl q z h]; exact R.fr.lk q h
  · rw [same q fun z => nz q ob o z e] at e; exact R.fr.fl q ob o e
  · obtain ⟨ov, h1, h2⟩ := R.sl i s hs
    refine ⟨ov, h1, ?_⟩
    cases s with
    | f d => exact h2
    | o d =>
      obtain ⟨p, e, a, b, c⟩ := h2
      subst e
      exact ⟨p, rfl, a, b, c.mono (Ex.refl F) (same p fun z => ns p i z (isO_o hs) h1)⟩
    | b d =>
      obtain ⟨p, e, a, b, c⟩ := h2
      subst e
      exact ⟨p, rfl, a, b, c.mono (Ex.refl F) (same p fun z => ns p i z (isO_b hs) h1)⟩
/-- what a call leaves may be kept where something was lent to be read -/
def immG (fl : List Nat) (P : Prop) (ds : List Dat) (g : Reg) : Prop := fl = [] ∨ (P ∧ ds.all immC = true ∧ ∀ q d, g q = some d → immC d = true)
theorem callR_ok (S : RlR L C g F H σ env) (a : RAs F σ vs rs) (h : argsOf env ms rs = some as) (hok : okLoans ms rs = true) :
    ∃ C' : Cc, C'.H0 = outH g H ∧ Fr L C' C'.F0 H ∧ (∀ i j p, C'.ad i = some p → C'.ad j = some p → i = j) ∧ ArsOk C' C'.F0 H 0 vs as ∧ (∀ q d, g q = some d → Own C' C'.F0 H q d) ∧
      ∀ F' H' ds g' (P : Prop), Fr L C' F' H' → OutOk C' F' H' 0 vs as ds → (∀ q d, g' q = some d → Own C' F' H' q d) → (∀ q, g q ≠ none → g' q ≠ none) → immG (frzI ms rs) P ds g' →
        ∃ F2, Ex F F2 ∧ RlR L C g' F2 H' σ (putOuts env ms rs ds) ∧ (∀ q o, F' q = some o → (isT o = true ∨ frzI ms rs = []) → F2 q = some o) ∧
          ∀ v r, RR (C'.reg g' H') F' H' v r → (frzI ms rs = [] ∨ immR r = true) → RV2 (C.reg g' H') F2 H' σ (putOuts env ms rs ds) v r := by
  obtain ⟨C1, hC, fr1, inj, ao, ⟨exF, ff⟩, out⟩ := call_okX S.rl a h hok
  have cell : ∀ q d, g q = some d → C1.F0 q = none ∧ (∀ j, C1.ad j ≠ some q) := fun q d hq => ff q (S.ow q d hq).2.1 fun i hi => S.ns q d i hq hi
  have ng : ∀ q, C1.F0 q ≠ none → g q = none := fun q n => by
    cases z : g q with
    | none => rfl
    | some d => exact absurd (cell q d z).1 n
  have na : ∀ i q, C1.ad i = some q → g q = none := fun i q e => by
    cases z : g q with
    | none => rfl
    | some d => exact absurd e ((cell q d z).2 i)
  have nz : ∀ q ob o, H q = some (.frz ob o) → g q = none := fun q ob o e => by
    cases z : g q with
    | none => rfl
    | some d => exact ((S.ow q d z).2.2.noZ e).elim
  refine ⟨⟨outH g H, C1.F0, C1.ad⟩, rfl, ⟨fr1.fz, fun _ _ => .inl rfl, fun q o e n => ?_, fun q n => ?_, fr1.lk, fun q o e => ?_, fun i q e => ?_, fr1.wb, fun q ob o e => ?_⟩, inj, arsOk_ad (C := C1) (C' := ⟨outH g H, C1.F0, C1.ad⟩) rfl ao, fun q d hq => ⟨outH_in hq, (cell q d hq).1, (S.ow q d hq).2.2.mono exF rfl⟩, ?_⟩
  · have e : outH g H q = some o := e
    cases z : g q with
    | none => rw [outH_out z] at e; exact .inl e
    | some d => rw [outH_in z] at e; cases e
  · have n : outH g H q ≠ none := n
    cases z : g q with
    | none => rwa [outH_out z] at n
    | some d => exact absurd (outH_in z) n
  · have e : C1.F0 q = some o := e
    show outH g H q ≠ none
    rw [outH_out (ng q (by rw [e]; exact fun z => by cases z)), ← hC]
    exact fr1.wf q o e
  · show outH g H q ≠ none
    rw [outH_out (na i q e), ← hC]
    exact fr1.wa i q e
  · show outH g H q = _
    rw [outH_out (nz q ob o e)]; exact e
  · intro F' H' ds g' P fr2 oo own dom imm
    have g'n : ∀ q, g q ≠ none → F' q = none := fun q n => by
      cases z : g' q with
      | none => exact absurd z (dom q n)
      | some d => exact (own q d z).2.1
    have gs : ∀ q d, g q = some d → g q ≠ none := fun q d h => by rw [h]; exact fun z => by cases z
    -- the cells as they were
    let H2 : Hp := fun q => if (g q).isSome then H q else H' q
    have H2in : ∀ q d, g q = some d → H2 q = H q := fun q d h => by show (if (g q).isSome = true then H q else H' q) = _; rw [h]; rfl
    have H2out : ∀ q, g q = none → H2 q = H' q := fun q h => by show (if (g q).isSome = true then H q else H' q) = _; rw [h]; rfl
    have frX : Fr L C1 F' H2 := by
      refine ⟨fun q o e => ?_, fun q n => ?_, fun q o e n => ?_, fun q n => ?_, fun q hl => ?_, fr1.wf, fr1.wa, fr1.wb, fun q ob o e => ?_⟩
      · cases z : g q with
        | none => rw [H2out q z]; exact fr2.fz q o e
        | some d => rw [g'n q (gs q d z)] at e; cases e
      · cases z : g q with
        | none =>
          rcases fr2.fn q (by show outH g H q ≠ none; rw [outH_out z, ← hC]; exact n) with y | ⟨y, vs, t⟩
          · exact .inl y
          · exact .inr ⟨y, vs, (H2out q z).trans t⟩
        | some d => exact .inl ((g'n q (gs q d z)).trans (cell q d z).1.symm)
      · cases z : g q with
        | none =>
          rw [H2out q z]
          rw [hC] at e
          exact fr2.kp q o (by show outH g H q = _; rw [outH_out z]; exact e) n
        | some d =>
          rw [hC] at e
          exact .inl ((H2in q d z).trans e)
      · rw [hC] at n
        cases z : g q with
        | none =>
          rw [H2out q z]
          exact fr2.th q (by show outH g H q ≠ none; rw [outH_out z]; exact n)
        | some d => rw [H2in q d z]; exact n
      · cases z : g q with
        | none =>
          rw [H2out q z]
          exact fr2.lk q hl
        | some d =>
          rw [H2in q d z]
          exact fr1.lk q hl
      · rw [hC]
        cases z : g q with
        | none =>
          rw [H2out q z] at e
          have := fr2.fl q ob o e
          rwa [show (⟨outH g H, C1.F0, C1.ad⟩ : Cc).H0 q = H q from outH_out z] at this
        | some d => rw [H2in q d z] at e; exact e
    have ooX : OutOk C1 F' H2 0 vs as ds := outOk_ad (C := ⟨outH g H, C1.F0, C1.ad⟩) (C' := C1) rfl (fun i p e => H2out p (na i p e)) oo
    obtain ⟨F2, e2, R2, k2, kn, h0⟩ := out F' H2 ds frX ooX (imm.imp id fun z => z.2.1)
    have R3 : Rl L C F2 H' σ (putOuts env ms rs ds) := by
      refine R2.swap (fun q => g q ≠ none) (fun q n => ?_) (fun q n => ?_) (fun q n => kn q (g'n q n)) (fun q i n hi => ?_) (fun q n => ?_) (fun q ob o n e => ?_)
      · exact (H2out q (Classical.not_not.1 n)).symm
      · cases z : g q with
        | none => exact absurd z n
        | some d => exact (S.ow q d z).1
      · cases z : g q with
        | none => exact absurd z n
        | some d => exact S.ns q d i z (isO_putOuts hi)
      · cases z : g q with
        | none => exact absurd z n
        | some d => exact S.nl z
      · cases z : g' q with
        | none => exact absurd z (dom q n)
        | some d => exact (own q d z).2.2.noZ e
    have new : ∀ p, g p = none → outH g H p = none → C.H0 p = none ∧ ∀ i, IsO (putOuts env ms rs ds) i → σ[i]? ≠ some (some (.ref p)) := fun p z e => h0 p (by rw [outH_out z] at e; exact e)
    refine ⟨F2, e2, ⟨R3, fun q d hq => ?_, fun q d i hq hi => ?_⟩, k2, fun v r rr hi => ?_⟩
    · obtain ⟨x, y, c⟩ := own q d hq
      refine ⟨?_, kn q y, ?_⟩
      · cases z : g q with
        | none => exact (new q z x).1
        | some d' => exact (S.ow q d' z).1
      · rcases imm with z | z
        · exact c.mono (fun q o e => k2 q o e (.inr z)) rfl
        · exact imm_cont (fun q o e t => k2 q o e (.inl t)) (z.2.2 q d hq) c
    · cases z : g q with
      | none => exact (new q z (own q d hq).1).2 i hi
      | some d' => exact S.ns q d' i z (isO_putOuts hi)
    · cases r with
      | f d =>
        rcases hi with z | z
        · exact Rep.mono (fun q o e => k2 q o e (.inr z)) rr
        · exact imm_rep (fun q o e t => k2 q o e (.inl t)) z rr
      | n d =>
        obtain ⟨p, e, x, y, c⟩ := rr
        have g'p : g' p = none := by
          cases z : g' p with
          | none => rfl
          | some d' =>
            obtain ⟨o, ho⟩ := (own p d' z).2.2.there
            rw [reg_in z, ho] at x; cases x
        have gp : g p = none := by
          cases z : g p with
          | none => rfl
          | some d' => exact absurd g'p (dom p (gs p d' z))
        rw [reg_out g'p] at x
        obtain ⟨w1, w2⟩ := new p gp x
        refine ⟨p, e, ⟨by rw [reg_out g'p]; exact w1, kn p y, ?_⟩, w2⟩
        rcases hi with z | z
        · exact c.mono (fun q o e => k2 q o e (.inr z)) rfl
        · exact imm_cont (fun q o e t => k2 q o e (.inl t)) z c
      | l i => exact rr.elim
end
end DL

set_option Elab.async false
set_option linter.all false
set_option maxRecDepth 100000
set_option maxHeartbeats 2000000
/-! Calls over a region: readings; defs that work on a region. -/
namespace DL
open PySem PySem.Spec PyProof.Rows L2
variable [ClsV]
def immG1 : List Nat → Prop → List Dat → Reg → Prop
  | [], _, _, _ => True
  | _, P, ds, g => P ∧ ds.all immC = true ∧ ∀ q d, g q = some d → immC d = true
theorem immG1_of {fl : List Nat} {P : Prop} {ds : List Dat} {g : Reg} (h : immG1 fl P ds g) : immG fl P ds g := by
  cases fl with
  | nil => exact .inl rfl
  | cons _ _ => exact .inr h
/-- the arguments in hand: what the def is to tell -/
def rGo (ms : List Bool) (rsp : RSp) (rs : List Res) (s : RE) (Q : Res → RE → Prop) (X : XDR) : Prop := okLoans ms rs = true ∧ withD (argsOf s.e ms rs) fun as =>
  rsp s.g as (fun r g' ds => immG1 (frzI ms rs) (immR r = true) ds g' ∧ Q r ⟨g', putOuts s.e ms rs ds⟩) (fun c f g' ds => immG1 (frzI ms rs) (immFs f = true) ds g' ∧ X c f ⟨g', putOuts s.e ms rs ds⟩)
section
variable {L : Addr → Prop} {C C' : Cc} {F H F' H' F1 H1 H2 : Hp} {σ σ' : L2.St} {env env' env2 : Env} {i k : Nat} {d : Dat} {v : V} {p q : Addr} {o : HO} {g g' : Reg} {E : L2.St → XK} {ms : List Bool} {rs : List Res} {vs : List V} {as : List Ar} {ds : List Dat} {rsp : RSp}
theorem rGo_ok {s : RE} {Q : VK} {Qd : Res → RE → Prop} {Xd : XDR} (S : RlR L C s.g F H σ s.e) (av : RAs F σ vs rs) (h : rGo ms rsp rs s Qd Xd) (k : ∀ F' H' v r s', Ex F F' → RlR L C s'.g F' H' σ s'.e → RV2 (C.reg s'.g H') F' H' σ s'.e v r → Qd r s' → Q v H') (x : XOkR L C F E Xd) : liftR rsp vs H Q (E σ) := by
  obtain ⟨hok, h⟩ := h
  obtain ⟨as, ha, h⟩ := withD_of h
  obtain ⟨C', hC, fr', inj, ao, own, out⟩ := callR_ok (ms := ms) S av ha hok
  refine ⟨L, C', s.g, as, _, _, hC, fr', inj, ao, own, h, fun r g' ds F' H' v hq dom fr2 rr oo own2 => ?_, fun cls f g' ds F' H' od hq dom fr2 xf okc oo own2 => ?_⟩
  · have im := immG1_of hq.1
    obtain ⟨F2, e2, S2, k2, kr⟩ := out F' H' ds g' _ fr2 oo own2 dom im
    exact k F2 H' v r ⟨g', _⟩ e2 S2 (kr v r rr (im.imp id fun z => z.1)) hq.2
  · have im := immG1_of hq.1
    obtain ⟨F2, e2, S2, k2, kr⟩ := out F' H' ds g' _ fr2 oo own2 dom im
    refine x F2 H' σ ⟨g', _⟩ cls od f e2 S2 ?_ okc hq.2
    cases od with
    | none => cases f with
      | none => trivial
      | some fs => exact xf.elim
    | some dd => cases f with
      | none => exact xf.elim
      | some fs =>
        obtain ⟨ws, h1, h2⟩ := xf
        refine ⟨ws, k2 _ _ h1 (.inl rfl), ?_⟩
        rcases im with z | z
        · exact RepF.mono (fun q o e => k2 q o e (.inr z)) h2
        · exact imm_repF (fun q o e t => k2 q o e (.inl t)) z.1 h2
variable {X : Cx} {x m c : Str} {ps : List Str} {f : Addr} {fd : FuncData} {pos pp apos : Pos} {e o' : Expr} {es : List Expr} {da : RDE} {dr : RDA}
/-! ### a def -/
structure CalR (P : Program) (w : World) (K : PySem.W.Frag) (mg : Str → Option Value) (base : Heap) (k : Nat) (x : Str) (ps : List Str) (rsp : RSp) : Prop where
  ex : ∃ f fd, FnOk P w K mg base (L2.CX P w) k f fd ps (liftR rsp) ∧ mg x = some (.ref f) ∧ PySem.W.keepIn K (.ref f) = true ∧ Binds K fd ps []
def rCallR (ms : List Bool) (rsp : RSp) (dr : RDA) : RDE := fun s Q X => dr s (fun rs s1 => rGo ms rsp rs s1 Q X) X
theorem re_callR (ms : List Bool) (c : CalR X.prog X.w X.K X.mg X.base k x ps rsp) (hr : Room k X.A) (hg : Gl X x) (tk : Tk X E) (ha : RAx X E (e :: es) dr) (hdb : (x == ("__debug__" : Str)) = false := by decide) (he : starEach (e :: es) X.env = (false, eval e X.env) :: starEach es X.env := by rfl) (hpl : (backTo pos (starEach es X.env)).any (·.1) = false := by rfl) :
    REx X E (.Call (.Name x pp) (e :: es) [] pos) (rCallR ms rsp dr) := by
  obtain ⟨f, fd, G, hm, hk, hb⟩ := c.ex
  obtain ⟨t, p, s⟩ := ha.ex
  exact ⟨_, pe_callS G hr hg hm hk hb (fun σ => passAt tk σ) p hdb he hpl, fun L C F H σ st Q Qd Xd S h kk xx => s L C F H σ st _ _ Xd S h (fun F1 H1 vs rs s1 e1 S1 av q =>
    rGo_ok S1 av q (fun F' H' v r s' e2 => kk F' H' v r s' (e1.trans e2)) (xx.mono e1)) xx⟩
/-! ### a method -/
def tMethX (C : Addr) (m : Str) (sp : Sp) (E : L2.St → XK) (ta : TE) (t : TA) : TE := fun σ H Q => ta σ H fun x H1 => ∃ a dx fs, x = .ref a ∧ H1 a = some (.ins C dx fs) ∧ fs.lookup m = none ∧ t σ H1 fun vs H2 => sp (x :: vs) H2 Q (E σ)
theorem pe_methX {pl : Sem Bool} {CX : CXT} {C g : Addr} {sp : Sp} {t0 : TE} {t : TA} (h0 : PE X o' t0) (I : Cls X.K C) (M : Meth X.K C m g) (G : FnOk X.prog X.w X.K X.mg X.base CX k g fd ps sp) (hr : Room k X.A) (hb : Binds X.K fd ps []) (hx : ∀ σ, PassesAt CX X σ (E σ)) (ha : PA X (e :: es) t)
    (hS : starEach (e :: es) X.env = (false, eval e X.env) :: starEach es X.env) (hP : (backTo pos (starEach es X.env)).any (·.1) = false)
    (ht : eval (.Call (.Attribute o' m apos) (e :: es) [] pos) X.env = (eval o' X.env >>= fun ov => standAt apos.atName >>= fun _ => holding [ov] (getMethod ov m pl) >>= fun y => callWith pos y.1 y.2 (backTo pos (starEach (e :: es) X.env)) (backToKw pos (keywordEach [] X.env)))) :
    PE X (.Call (.Attribute o' m apos) (e :: es) [] pos) (tMethX C m sp E t0 t) where
  run pins now σ H Q I0 h := by
    refine PySem.W.methodCall_KW (pl := pl) (thn (h0.run pins now σ H _ I0 h) ?_) ht
    rintro _ s1 ⟨_, H1, I1, rel, a, dx, fs, rfl, there, free, h⟩
    cases rel
    refine getmeth_ok I1 there I M free (PySem.W.callWith_K (first := [.ref a]) (h₀ := X.base) I1.ok.mod.kin M.kp (thn (ha.run pos pins s1 σ H1 _ I1 h) ?_) hS hP)
    rintro us s2 ⟨vs, H2, I2, rels, h⟩
    exact ⟨I2.kIn, run_fnS (us := .ref a :: us) (vs := .ref a :: vs) G hr hb (hx σ) I2 (.cons rfl rels) h⟩
theorem pe_methX0 {pl : Sem Bool} {CX : CXT} {C g : Addr} {sp : Sp} {t0 : TE} (h0 : PE X o' t0) (I : Cls X.K C) (M : Meth X.K C m g) (G : FnOk X.prog X.w X.K X.mg X.base CX k g fd ps sp) (hr : Room k X.A) (hb : Binds X.K fd ps []) (hx : ∀ σ, PassesAt CX X σ (E σ))
    (ht : eval (.Call (.Attribute o' m apos) [] [] pos) X.env = (eval o' X.env >>= fun ov => standAt apos.atName >>= fun _ => holding [ov] (getMethod ov m pl) >>= fun y => callWith pos y.1 y.2 (backTo pos (starEach [] X.env)) (backToKw pos (keywordEach [] X.env)))) :
    PE X (.Call (.Attribute o' m apos) [] [] pos) (tMethX C m sp E t0 tNil) where
  run pins now σ H Q I0 h := by
    refine PySem.W.methodCall_KW (pl := pl) (thn (h0.run pins now σ H _ I0 h) ?_) ht
    rintro _ s1 ⟨_, H1, I1, rel, a, dx, fs, rfl, there, free, h⟩
    cases rel
    exact getmeth_ok I1 there I M free (PySem.W.callWith_K0 (first := [.ref a]) I1.kIn M.kp (run_fnS (us := [.ref a]) (vs := [.ref a]) G hr hb (hx σ) I1 (.cons rfl .nil) h))
structure CalMR (P : Program) (w : World) (K : PySem.W.Frag) (mg : Str → Option Value) (base : Heap) (k : Nat) (c m : Str) (ps : List Str) (rsp : RSp) : Prop where
  ex : ∃ f fd, FnOk P w K mg base (L2.CX P w) k f fd ps (liftR rsp) ∧ Meth K (clsA c) m f ∧ Binds K fd ps []
def rMetR (ms : List Bool) (c m : Str) (rsp : RSp) (da : RDE) (dr : RDA) : RDE := fun s Q X => da s (fun r s1 => match r with
  | .f (.raw (.ref t)) => withD (s1.g t) fun d0 => insM c m d0 ∧ dr s1 (fun rs s2 => rGo (false :: ms) rsp (.f (.raw (.ref t)) :: rs) s2 Q X) X
  | _ => False) X
theorem rse_metR {ms : List Bool} {c m : Str} {ta : TE} {t : TA} (s0 : RSE E ta da) (s : RSA E t dr) : RSE E (tMethX (clsA c) m (liftR rsp) E ta t) (rMetR ms c m rsp da dr) := fun L C F H σ st Q Qd Xd S h kk xx =>
  s0 L C F H σ st _ _ Xd S h (fun F1 H1 v1 r1 s1 e1 S1 rv q => by
    split at q
    · next t =>
      cases rv
      obtain ⟨d0, h0, hi, q⟩ := withD_of q
      obtain ⟨_, _, cc⟩ := S1.ow t d0 h0
      cases d0 with
      | ins C' fs =>
        obtain ⟨eC, hn⟩ := hi
        subst eC
        obtain ⟨dx, vs, hh, rf⟩ := cc
        refine ⟨t, dx, vs, rfl, hh, repF_none rf hn, s L C F1 H1 σ s1 _ _ Xd S1 q (fun F2 H2 us rs s2 e2 S2 av q2 => ?_) (xx.mono e1)⟩
        exact rGo_ok S2 (RAs.cons (v := .ref t) (r := .f (.raw (.ref t))) (Rep.raw _) av) q2 (fun F' H' v r s' e3 => kk F' H' v r s' (e1.trans (e2.trans e3))) (xx.mono (e1.trans e2))
      | _ => exact hi.elim
    · exact q.elim) xx
theorem re_metR {pl : Sem Bool} (ms : List Bool) (I : Cls X.K (clsA c)) (M : CalMR X.prog X.w X.K X.mg X.base k c m ps rsp) (hr : Room k X.A) (tk : Tk X E) (ho : REx X E o' da) (ha : RAx X E (e :: es) dr)
    (hP : (backTo pos (starEach es X.env)).any (·.1) = false := by rfl) (hS : starEach (e :: es) X.env = (false, eval e X.env) :: starEach es X.env := by rfl)
    (ht : eval (.Call (.Attribute o' m apos) (e :: es) [] pos) X.env = (eval o' X.env >>= fun ov => standAt apos.atName >>= fun _ => holding [ov] (getMethod ov m pl) >>= fun y => callWith pos y.1 y.2 (backTo pos (starEach (e :: es) X.env)) (backToKw pos (keywordEach [] X.env))) := by rfl) :
    REx X E (.Call (.Attribute o' m apos) (e :: es) [] pos) (rMetR ms c m rsp da dr) := by
  obtain ⟨f, fd, G, hm, hb⟩ := M.ex
  obtain ⟨t0, p0, s0⟩ := ho.ex
  obtain ⟨t, p, s⟩ := ha.ex
  exact ⟨_, pe_methX p0 I hm G hr hb (fun σ => passAt tk σ) p hS hP ht, rse_metR s0 s⟩
theorem re_metR0 {pl : Sem Bool} (I : Cls X.K (clsA c)) (M : CalMR X.prog X.w X.K X.mg X.base k c m ps rsp) (hr : Room k X.A) (tk : Tk X E) (ho : REx X E o' da)
    (ht : eval (.Call (.Attribute o' m apos) [] [] pos) X.env = (eval o' X.env >>= fun ov => standAt apos.atName >>= fun _ => holding [ov] (getMethod ov m pl) >>= fun y => callWith pos y.1 y.2 (backTo pos (starEach [] X.env)) (backToKw pos (keywordEach [] X.env))) := by rfl) :
    REx X E (.Call (.Attribute o' m apos) [] [] pos) (rMetR [] c m rsp da (rLA dNil)) := by
  obtain ⟨f, fd, G, hm, hb⟩ := M.ex
  obtain ⟨t0, p0, s0⟩ := ho.ex
  exact ⟨_, pe_methX0 p0 I hm G hr hb (fun σ => passAt tk σ) ht, rse_metR s0 (rsa_lift sa_nil)⟩
/-! ### an instance is made -/
structure CalIR (P : Program) (w : World) (K : PySem.W.Frag) (mg : Str → Option Value) (base : Heap) (k : Nat) (c : Str) (ps : List Str) (rsp : RSp) : Prop where
  ex : ∃ f fd, FnOk P w K mg base CX0 k f fd ps (liftR rsp) ∧ L2.Mk K (clsA c) f ∧ mg c = some (.ref (clsA c)) ∧ Binds K fd ps []
def rMakeR (ms : List Bool) (c : Str) (rsp : RSp) (dr : RDA) : RDE := fun s Q X => dr s (fun rs s1 => ∀ t, s1.g t = none →
  rGo (false :: ms) rsp (.f (.raw (.ref t)) :: rs) ⟨gset s1.g t (.ins (clsA c) []), s1.e⟩ (fun r s' => r = .f .non ∧ Q (.f (.raw (.ref t))) s') (fun _ _ _ => False)) X
theorem rse_makeR {ta : TA} (s : RSA E ta dr) : RSE E (tMake (clsA c) (liftR rsp) [] (fun _ _ _ => False) ta) (rMakeR ms c rsp dr) := fun L C F H σ st Q Qd Xd S h kk xx =>
  s L C F H σ st _ _ Xd S h (fun F1 H1 vs rs s1 e1 S1 av q => by
    intro t dx ht hdx nx
    have g1 := S1.rl.fr.grO hdx (.own t)
    have S2 := S1.grow g1
    have ht1 : (upd H1 dx (.own t)) t = none := by rw [upd_ne (Ne.symm nx)]; exact ht
    have g2 := S2.rl.fr.grO ht1 (.ins (clsA c) dx [])
    have S3 := S2.grow g2
    have nt : s1.g t = none := by
      cases z : s1.g t with
      | none => rfl
      | some d =>
        obtain ⟨o, ho⟩ := S1.there z
        rw [ht] at ho; cases ho
    have S4 := S3.take (q := t) (d := .ins (clsA c) []) ⟨S2.rl.fr.new0 ht1, S2.rl.fr.fz_eq ht1, dx, [], upd_same, .nil⟩ fun i hi => S2.rl.not_none ht1 hi
    show liftR rsp (.ref t :: (vs ++ [])) _ _ _
    rw [List.append_nil]
    refine rGo_ok (E := fun _ _ _ _ => False) (s := ⟨gset s1.g t (.ins (clsA c) []), s1.e⟩) S4 (RAs.cons (v := .ref t) (r := .f (.raw (.ref t))) (Rep.raw _) av) (q t nt) (fun F' H' v r s' e3 S' rv q3 => ?_) (fun _ _ _ _ _ _ _ _ _ _ _ z => z.elim)
    obtain ⟨er, q3⟩ := q3
    subst er
    cases rv
    exact ⟨rfl, kk F' H' (.ref t) (.f (.raw (.ref t))) s' (e1.trans e3) S' (Rep.raw _) q3⟩) xx
theorem re_makeR (ms : List Bool) (M : CalIR X.prog X.w X.K X.mg X.base k c ps rsp) (hr : Room (k + 1) X.A) (hg : Gl X c) (ha : RAx X E (e :: es) dr) (hdb : (c == ("__debug__" : Str)) = false := by decide) (he : starEach (e :: es) X.env = (false, eval e X.env) :: starEach es X.env := by rfl) (hpl : (backTo pos (starEach es X.env)).any (·.1) = false := by rfl) :
    REx X E (.Call (.Name c pp) (e :: es) [] pos) (rMakeR ms c rsp dr) := by
  obtain ⟨f, fd, G, mk, hm, hb⟩ := M.ex
  obtain ⟨t, p, s⟩ := ha.ex
  exact ⟨_, pe_make mk G hr hg hm hb .nil pass0 p hdb he hpl, rse_makeR s⟩
theorem re_makeR0 (M : CalIR X.prog X.w X.K X.mg X.base k c ps rsp) (hr : Room (k + 1) X.A) (hg : Gl X c) (hdb : (c == ("__debug__" : Str)) = false := by decide) :
    REx X E (.Call (.Name c pp) [] [] pos) (rMakeR [] c rsp (rLA dNil)) := by
  obtain ⟨f, fd, G, mk, hm, hb⟩ := M.ex
  exact ⟨_, pe_make0 mk G hr hg hm hb .nil pass0 hdb, rse_makeR (rsa_lift sa_nil)⟩
/-! ### the defs' bodies -/
def domG (g g' : Reg) : Prop := ∀ q, g q ≠ none → g' q ≠ none
theorem domG.refl : domG g g := fun _ h => h
theorem domG.trans {g3 : Reg} (a : domG g g') (b : domG g' g3) : domG g g3 := fun q h => b q (a q h)
theorem domG.set (a : domG g g') : domG g (gset g' q d) := fun p h => by
  by_cases z : p = q
  · subst z; rw [gset_same]; exact fun z => by cases z
  · rw [gset_ne z]; exact a p h
def rtR (g0 : Reg) (as : List Ar) (Q : Res → Reg → List Dat → Prop) : Res → RE → Prop := fun r s => domG g0 s.g ∧ match r with
  | .f d => withD (outs as s.e) (Q (.f d) s.g)
  | .n d => withD (outs as s.e) (Q (.n d) s.g)
  | .l i => match s.e[i]? with
    | some (some (.o d)) => withD (outs as s.e) (Q (.n d) s.g)
    | _ => False
def xrR (g0 : Reg) (as : List Ar) (X : Str → Option (List (Str × Dat)) → Reg → List Dat → Prop) : XDR := fun c fds s => domG g0 s.g ∧ withD (outs as s.e) (X c fds s.g)
theorem rlr_start (N : List Str) (fr : Fr L C C.F0 H) (inj : ∀ i j p, C.ad i = some p → C.ad j = some p → i = j) (ao : ArsOk C C.F0 H 0 vs as) (own : ∀ q d, g q = some d → Own C C.F0 H q d) : RlR L C g C.F0 H (start N vs) (startE N as) := by
  have R := rl_start N fr inj ao
  refine ⟨R, own, fun q d i hq hi e => ?_⟩
  obtain ⟨s, h1, h2⟩ := isO_get hi
  obtain ⟨a, ha, hs⟩ := startE_get h1
  obtain ⟨ov, h3, h4⟩ := R.sl i s h1
  rw [e] at h3; cases h3
  cases a with
  | f d => cases hs; exact h2 d rfl
  | m d =>
    cases hs
    obtain ⟨p, e, b, _⟩ := h4
    cases e
    exact fr.wa i q b (own q _ hq).1
theorem rtR_ok {s' : RE} {F' H' : Hp} {Qd : Res → Reg → List Dat → Prop} {r : Res} {Q : VK} (S : RlR L C s'.g F' H' σ' s'.e) (rv : RV2 (C.reg s'.g H') F' H' σ' s'.e v r) (ao : ArsOk C C.F0 H 0 vs as) (q : rtR g as Qd r s')
    (hQ : ∀ r g' ds F' H' v, Qd r g' ds → domG g g' → Fr L C F' H' → RR (C.reg g' H') F' H' v r → OutOk C F' H' 0 vs as ds → (∀ q d, g' q = some d → Own C F' H' q d) → Q v H') : Q v H' := by
  obtain ⟨dom, q⟩ := q
  have oo : ∀ ds, outs as s'.e = some ds → OutOk C F' H' 0 vs as ds := fun ds h => outOk_of S.rl (fun i => by rw [Nat.zero_add]) ao h
  cases r with
  | f d =>
    obtain ⟨ds, h1, h2⟩ := withD_of q
    exact hQ _ _ ds F' H' v h2 dom S.rl.fr rv (oo ds h1) S.ow
  | n d =>
    obtain ⟨ds, h1, h2⟩ := withD_of q
    obtain ⟨p, e, ow, _⟩ := rv
    exact hQ _ _ ds F' H' v h2 dom S.rl.fr ⟨p, e, ow⟩ (oo ds h1) S.ow
  | l i =>
    dsimp only at q
    split at q
    · next d e =>
      obtain ⟨ds, h1, h2⟩ := withD_of q
      obtain ⟨ov, a1, p, a2, a3⟩ := S.prot.sl _ _ e
      have rv : σ'[i]? = some (some v) := rv
      subst a2; rw [rv] at a1; cases a1
      exact hQ _ _ ds F' H' _ h2 dom S.rl.fr ⟨p, rfl, a3⟩ (oo ds h1) S.ow
    · exact q.elim
variable {mg : Str → Option Value} {base : Heap} {K : PySem.W.Frag} {w : World} {P : Program}
theorem def_okR {qual : Str} {st : Stmt} {N : List Str} {rd : RDS} (Fn : Fun K x qual st f fd) (S : FnScope N ps (defScope st))
    (hd : ∀ (cdv : Value) (A : Around) (outer : List PySem.Env) (s : Shared) (H : Hp) (E : XK), Room k (A.deeper (envOfC qual (defScope st) s.heap.objs.size f cdv)) →
      Tk (cxOf (L2.CX P w) P w K mg base N qual (defScope st) f cdv A outer s H E) (fun _ => E) →
      PassesOwn (model P w) (cxOf (L2.CX P w) P w K mg base N qual (defScope st) f cdv A outer s H E).A (cxOf (L2.CX P w) P w K mg base N qual (defScope st) f cdv A outer s H E).env (cxOf (L2.CX P w) P w K mg base N qual (defScope st) f cdv A outer s H E).xe →
      RSs (cxOf (L2.CX P w) P w K mg base N qual (defScope st) f cdv A outer s H E) (fun _ => E) (defBody st) rd)
    (hp : ∀ g as Q X, rsp g as Q X → as.length = ps.length ∧ rd { nx := fun s => rtR g as Q (.f .non) s, rt := rtR g as Q, xr := xrR g as X } ⟨g, startE N as⟩) : FnOk P w K mg base (L2.CX P w) (k + 1) f fd ps (liftR rsp) := by
  refine Fn.okX S (fun vs H Q E h => ?_) (fun cdv A outer s H vs Q E hr h => ?_)
  · obtain ⟨L, C, g, as, Qd, Xd, hC, fr, inj, ao, own, hd, _⟩ := h
    rw [ao.len]; exact (hp g as Qd Xd hd).1
  · obtain ⟨L, C, g, as, Qd, Xd, hC, fr, inj, ao, own, hdd, hQ, hX⟩ := h
    obtain ⟨t, p, ss⟩ := (hd cdv A outer s H E hr (takes_of rfl rfl rfl rfl) (passes_of rfl)).ex
    refine ⟨t, p, ss L C C.F0 H (start N vs) ⟨g, startE N as⟩ _ _ (rlr_start N fr inj ao own) (hp g as Qd Xd hdd).2 ⟨fun F' H' σ' s' e S' q => ?_, fun F' H' σ' s' v r e S' rv q => ?_, fun _ _ _ _ _ _ z => z.elim, fun _ _ _ _ _ _ z => z.elim⟩ fun F' H' σ' s' cls od fds ex S' xf okc q => ?_⟩
    · exact rtR_ok S' (v := .non) (r := .f .non) Rep.non ao q hQ
    · exact rtR_ok S' rv ao q hQ
    · obtain ⟨dom, q⟩ := q
      obtain ⟨ds, h1, h2⟩ := withD_of q
      exact hX cls fds _ ds F' H' od h2 dom S'.rl.fr xf okc (outOk_of S'.rl (fun i => by rw [Nat.zero_add]) ao h1) S'.ow
theorem def_okR0 {qual : Str} {st : Stmt} {N : List Str} {rd : RDS} (Fn : Fun K x qual st f fd) (S : FnScope N ps (defScope st))
    (hd : ∀ (cdv : Value) (A : Around) (outer : List PySem.Env) (s : Shared) (H : Hp) (E : XK), Room k (A.deeper (envOfC qual (defScope st) s.heap.objs.size f cdv)) → RSs (cxOf CX0 P w K mg base N qual (defScope st) f cdv A outer s H E).nox noE (defBody st) rd)
    (hp : ∀ g as Q X, rsp g as Q X → as.length = ps.length ∧ rd { nx := fun s => rtR g as Q (.f .non) s, rt := rtR g as Q } ⟨g, startE N as⟩) : FnOk P w K mg base CX0 (k + 1) f fd ps (liftR rsp) := by
  refine Fn.ok S (fun vs H Q E h => ?_) (fun cdv A outer s H vs Q E hr h => ?_)
  · obtain ⟨L, C, g, as, Qd, Xd, hC, fr, inj, ao, own, hd, _⟩ := h
    rw [ao.len]; exact (hp g as Qd Xd hd).1
  · obtain ⟨L, C, g, as, Qd, Xd, hC, fr, inj, ao, own, hdd, hQ, hX⟩ := h
    obtain ⟨t, p, ss⟩ := (hd cdv A outer s H E hr).ex
    refine ⟨t, p, ss L C C.F0 H (start N vs) ⟨g, startE N as⟩ _ _ (rlr_start N fr inj ao own) (hp g as Qd Xd hdd).2 ⟨fun F' H' σ' s' e S' q => ?_, fun F' H' σ' s' v r e S' rv q => ?_, fun _ _ _ _ _ _ z => z.elim, fun _ _ _ _ _ _ z => z.elim⟩ fun _ _ _ _ _ _ _ _ _ _ _ z => z.elim⟩
    · exact rtR_ok S' (v := .non) (r := .f .non) Rep.non ao q hQ
    · exact rtR_ok S' rv ao q hQ
end
end DL

set_option Elab.async false
set_option linter.all false
set_option maxRecDepth 100000
set_option maxHeartbeats 2000000
/-! Comprehensions over a region: what is new becomes a cell. -/
namespace DL
open PySem PySem.Spec PyProof.Rows L2
variable [ClsV]
section
variable {L : Addr → Prop} {C : Cc} {F H F' H' F1 H1 : Hp} {σ σ' : L2.St} {env env' : Env} {i : Nat} {d : Dat} {v : V} {p q D : Addr} {o : HO} {g g' : Reg} {E : L2.St → XK}
theorem prot_ne {u : HO} (h : q ≠ D) : (C.prot D u).H0 q = C.H0 q := upd_ne h
theorem RlR.protD (S : RlR L C g F H σ env) (h0 : C.H0 D = none) (hf : F D = none) (hD : H D = some o) (hs : ∀ i, IsO env i → σ[i]? ≠ some (some (.ref D))) (hg : g D = none) : RlR L (C.prot D o) g F H σ env :=
  ⟨S.rl.prot h0 hf hD hs, fun q d h => by
    have z : q ≠ D := fun z => by subst z; rw [hg] at h; cases h
    obtain ⟨a, b⟩ := S.ow q d h
    exact ⟨(prot_ne z).trans a, b⟩, S.ns⟩
theorem RlR.unprotD (S : RlR L (C.prot D o) g F H σ env) (h0 : C.H0 D = none) (hF : C.F0 D = none) (ha : ∀ i, C.ad i ≠ some D) (hL : ¬ L D) (nT : ∀ vs, o ≠ .tup vs) (nf : isFz o = false := by rfl) :
    RlR L C g F H σ env ∧ H D = some o ∧ F D = none ∧ (∀ i, IsO env i → σ[i]? ≠ some (some (.ref D))) ∧ g D = none := by
  obtain ⟨R, a, b, c⟩ := S.rl.unprot h0 hF ha hL nT nf
  have gD : g D = none := by
    cases z : g D with
    | none => rfl
    | some d =>
      have := (S.ow D d z).1
      rw [show (C.prot D o).H0 D = some o from upd_same] at this
      cases this
  refine ⟨⟨R, fun q d h => ?_, S.ns⟩, a, b, c, gD⟩
  have z : q ≠ D := fun z => by subst z; rw [gD] at h; cases h
  obtain ⟨x, y⟩ := S.ow q d h
  exact ⟨(prot_ne (C := C) z).symm.trans x, y⟩
theorem RlR.wiped (S : RlR L C g F H σ env) : ∀ vs, RlR L C g F H (wipe σ vs) (wipeE env vs)
  | [] => S
  | v :: vs => (S.wiped vs).dropS v none
theorem wipe_wipe {us : List Nat} : ∀ {ys : List Nat} {σ : L2.St}, (∀ u ∈ ys, u ∈ us) → wipe (wipe σ ys) us = wipe σ us
  | [], _, _ => rfl
  | y :: ys, σ, h => by
    show wipe ((wipe σ ys).set y none) us = _
    rw [wipe_set (h y (by simp))]
    exact wipe_wipe fun z hz => h z (by simp [hz])
def noXR : XDR := fun _ _ _ => False
theorem xokR_no : XOkR L C F E noXR := fun _ _ _ _ _ _ _ _ _ _ _ z => z.elim
def rLc (di : RDI) (g : DG) (dt : RDT) (de : RDE) (vs : List Nat) : RDE := fun s Q X => di s (fun items s1 => items.length ≤ 100000 ∧ ∃ W : Nat → List Dat → RE → Prop, W 0 [] ⟨s1.g, wipeE s1.e vs⟩ ∧
  (∀ i d acc s', items[i]? = some d → W i acc s' → g (.f d) s'.e fun e2 => dt ⟨s'.g, e2⟩ (fun b s3 => IfB b (de s3 (fun r s4 => rNew r s4 fun y s5 => W (i + 1) (acc ++ [y]) ⟨s5.g, wipeE s5.e vs⟩) noXR) (W (i + 1) acc ⟨s3.g, wipeE s3.e vs⟩)) noXR) ∧
  ∀ acc s', W items.length acc s' → Q (.n (.lst acc)) ⟨s'.g, restF s1.e (wipeE s'.e vs) vs⟩) X
/-- cells are in no slot that an env has more -/
theorem RlR.of (S : RlR L C g F H σ env) (R : Rl L C F H σ' env') (h : ∀ i, IsO env' i → IsO env i ∧ σ'[i]? = σ[i]?) : RlR L C g F H σ' env' :=
  ⟨R, S.ow, fun q d i hq hi => by
    obtain ⟨a, b⟩ := h i hi
    rw [b]; exact S.ns q d i hq a⟩
theorem rse_lc {wi : TI} {tg : TG} {tt : TT} {te : TE} {di : RDI} {dg : DG} {dt : RDT} {de : RDE} {vs ws : List Nat} (hi : RSI E wi di) (hg : SG ws tg dg) (hw : ∀ i ∈ ws, i ∈ vs) (ht : RST E tt dt) (he : RSE E te de) : RSE E (tLc wi tg tt te vs) (rLc di dg dt de vs) := fun L C F H σ s Q Qd X S h k x => by
  refine hi L C F H σ s _ _ X S h (fun F1 H1 J items s1 e1 S1 w1 q1 => ?_) x
  obtain ⟨hlen, W, w0, turn, done⟩ := q1
  intro D hD
  have hD0 : C.H0 D = none := S1.rl.fr.new0 hD
  have hDF : C.F0 D = none := by
    cases e : C.F0 D with
    | none => rfl
    | some u => exact absurd hD0 (S1.rl.fr.wf D u e)
  have hDa : ∀ i, C.ad i ≠ some D := fun i z => S1.rl.fr.wa i D z hD0
  have hDL : ¬ L D := fun z => by
    obtain ⟨ob, o, e⟩ := S1.rl.fr.lk D z
    rw [hD] at e; cases e
  have gD1 : s1.g D = none := by
    cases z : s1.g D with
    | none => rfl
    | some d =>
      obtain ⟨o, ho⟩ := S1.there z
      rw [hD] at ho; cases ho
  have gD := S1.rl.fr.grO hD (.lst [])
  refine ⟨fun i m H' => m = items.length - i ∧ i ≤ items.length ∧ ∃ F' s' acc vacc, Ex F1 F' ∧ RlR L C s'.g F' H' (wipe σ vs) s'.e ∧ acc.length ≤ i ∧ H' D = some (.lst vacc) ∧ Reps F' vacc acc ∧ F' D = none ∧ (∀ j, IsO s'.e j → (wipe σ vs)[j]? ≠ some (some (.ref D))) ∧ s'.g D = none ∧ W i acc s', ?_, ?_⟩
  · refine ⟨_, rfl, Nat.zero_le _, F1, ⟨s1.g, wipeE s1.e vs⟩, [], [], Ex.refl F1, (S1.grow gD).wiped vs, Nat.le_refl _, upd_same, .nil, S1.rl.fr.fz_eq hD, fun j hj => ?_, gD1, w0⟩
    exact (S1.rl.wiped vs).not_none hD hj
  · rintro i m H2 ⟨rfl, hile, F2, s2, acc, vacc, e2, S2, hacc, hD2, rs2, hF2, ns2, gD2, w2⟩
    by_cases hlt : i < items.length
    · have hd : items[i]? = some items[i] := List.getElem?_eq_getElem hlt
      obtain ⟨go, yld⟩ := (w1 F2 H2 _ s2.e e2 S2.rl i).1 _ hd
      have turn := turn i _ acc s2 hd w2
      refine .inr ⟨go, fun H' => ∃ F' s' acc' vacc', Ex F1 F' ∧ RlR L C s'.g F' H' (wipe σ vs) s'.e ∧ acc'.length ≤ i + 1 ∧ H' D = some (.lst vacc') ∧ Reps F' vacc' acc' ∧ F' D = none ∧ (∀ j, IsO s'.e j → (wipe σ vs)[j]? ≠ some (some (.ref D))) ∧ s'.g D = none ∧ W (i + 1) acc' s', ?_, fun v H3 y => ?_⟩
      · rintro H' ⟨F', s', acc', vacc', a1, a2, a3, a4, a5, a6, a7, a8, a9⟩
        exact ⟨items.length - (i + 1), by omega, rfl, hlt, F', s', acc', vacc', a1, a2, a3, a4, a5, a6, a7, a8, a9⟩
      · obtain ⟨F3, g3, r3⟩ := yld v H3 y
        have S3 : RlR L (C.prot D (.lst vacc)) s2.g F3 H3 (wipe σ vs) s2.e := (S2.grow g3).protD hD0 (g3.own (d := .lst acc) hF2 ⟨vacc, hD2, rs2⟩) (g3.hx _ _ hD2) ns2 gD2
        refine hg L _ F3 H3 _ s2.e v (.f items[i]) _ _ S3.prot r3 turn fun F4 H4 σ4 env4 e4 R4 w4 q4 => ?_
        have ew : wipe σ4 vs = wipe σ vs := by
          exact (w4 vs hw).trans (wipe_wipe fun _ h => h)
        refine ⟨ew, ?_⟩
        obtain ⟨S4, _⟩ := S3.back R4 e4
        refine ht L _ F4 H4 σ4 ⟨s2.g, env4⟩ _ _ noXR S4 q4 (fun F5 H5 b s5 e5 S5 q5 => ?_) xokR_no
        cases b with
        | false =>
          have q5 : W (i + 1) acc ⟨s5.g, wipeE s5.e vs⟩ := q5.f
          have S6 := S5.wiped vs
          rw [ew] at S6
          obtain ⟨S7, hD6, hF6, ns6, g6⟩ := S6.unprotD hD0 hDF hDa hDL (fun _ y => by cases y)
          exact ⟨F5, ⟨s5.g, wipeE s5.e vs⟩, acc, vacc, e2.trans (g3.fx.trans (e4.trans e5)), S7, by omega, hD6, rs2.mono (g3.fx.trans (e4.trans e5)), hF6, ns6, g6, q5⟩
        | true =>
          have q5 : de s5 (fun r s4 => rNew r s4 fun y s6 => W (i + 1) (acc ++ [y]) ⟨s6.g, wipeE s6.e vs⟩) noXR := q5.t
          refine he L _ F5 H5 σ4 s5 _ _ noXR S5 q5 (fun F6 H6 v6 r6 s6 e6 S6 rv6 q6 => ?_) xokR_no
          obtain ⟨y, s7, es, S7, ry, q7⟩ := rNew_ok S6 rv6 q6
          have S8 := S7.wiped vs
          rw [ew] at S8
          obtain ⟨S9, hD8, hF8, ns8, g8⟩ := S8.unprotD hD0 hDF hDa hDL (fun _ y => by cases y)
          have e16 := e2.trans (g3.fx.trans (e4.trans (e5.trans e6)))
          refine ⟨vacc, hD8, ?_, F6, ⟨s7.g, wipeE s7.e vs⟩, acc ++ [y], vacc ++ [v6], e16, ?_, ?_, upd_same, (rs2.mono (g3.fx.trans (e4.trans (e5.trans e6)))).append (.cons ry .nil), hF8, ns8, g8, q7⟩
          · have := rs2.len
            have hs : (100000 : Nat) < sizeLine := by decide
            omega
          · have nq : ∀ q d, s7.g q = some d → q ≠ D := fun q d h z => by
              subst z
              have g8 : s7.g q = none := g8
              rw [h] at g8; cases g8
            refine ⟨⟨S9.rl.fr.write hF8 (.inl hD0) hDL _ rfl, S9.rl.len, fun j s hj => ?_, S9.rl.nd⟩, fun q d h => ?_, S9.ns⟩
            · obtain ⟨ov, h2, h3⟩ := S9.rl.sl j s hj
              refine ⟨ov, h2, ?_⟩
              cases s with
              | f d => exact h3
              | o d =>
                obtain ⟨p, z, a, b, c⟩ := h3
                have np : p ≠ D := fun y => by subst y; subst z; exact ns8 j (isO_o hj) h2
                exact ⟨p, z, a, b, c.mono (Ex.refl _) (upd_ne np)⟩
              | b d =>
                obtain ⟨p, z, a, b, c⟩ := h3
                have np : p ≠ D := fun y => by subst y; subst z; exact ns8 j (isO_b hj) h2
                exact ⟨p, z, a, b, c.mono (Ex.refl _) (upd_ne np)⟩
            · obtain ⟨a, b, c⟩ := S9.ow q d h
              exact ⟨a, b, c.mono (Ex.refl _) (upd_ne (nq q d h))⟩
          · show (acc ++ [y]).length ≤ i + 1; rw [List.length_append]; exact Nat.succ_le_succ hacc
    · have e : i = items.length := by omega
      subst e
      refine .inl ⟨(w1 F2 H2 _ s2.e e2 S2.rl _).2 (Nat.le_refl _), ?_⟩
      have R3 := Rl.rest S1.rl e2 (Rl.unwiped S2.rl) (vs := vs)
      have isO : ∀ j, IsO (restF s1.e (wipeE s2.e vs) vs) j → IsO s2.e j ∧ σ[j]? = (wipe σ vs)[j]? := fun j hj => by
        obtain ⟨h1, h2⟩ := isO_wipeE (isO_restF hj)
        exact ⟨h1, (wipe_out h2).symm⟩
      have S3 : RlR L C s2.g F2 H2 σ (restF s1.e (wipeE s2.e vs) vs) := S2.of R3 isO
      refine k F2 H2 (.ref D) (.n (.lst acc)) ⟨s2.g, _⟩ (e1.trans e2) S3 ⟨D, rfl, ⟨by rw [reg_out gD2]; exact hD0, hF2, vacc, hD2, rs2⟩, fun j hj => ?_⟩ (done acc s2 w2)
      obtain ⟨h1, h2⟩ := isO j hj
      rw [h2]; exact ns2 j h1
structure RTs (X : Cx) (E : L2.St → XK) (ifs : List Expr) (dt : RDT) : Prop where
  ex : ∃ tt, PTs X ifs tt ∧ RST E tt dt
def rYes : RDT := fun s Q _ => Q true s
variable {X : Cx} {e elt tg iter : Expr} {ifs : List Expr}
theorem rts_nil : RTs X E [] rYes := ⟨_, pts_nil, fun L C F H σ s Q Qd Xd S h k x => k F H true s (Ex.refl F) S h⟩
theorem rts_one {c : Expr} {dt : RDT} (h : RTx X E c dt) : RTs X E [c] dt := by
  obtain ⟨t, p, s⟩ := h.ex
  exact ⟨t, pts_one p, s⟩
theorem rlc_t {dt : RDT} {Y : Shared → Hp → Addr → List (Str × Addr) → List Addr → Cx} (hg : ∀ s H C cl fp, RTs (Y s H C cl fp) E ifs dt) : ∃ t, (∀ s H C cl fp, PTs (Y s H C cl fp) ifs t) ∧ RST E t dt := by
  refine ⟨fun σ H Q => ∀ s H' C cl fp, Classical.choose (hg s H' C cl fp).ex σ H Q, fun s H C cl fp => ⟨fun pins s' σ H' Q I h => ?_⟩, fun L C F H σ s0 Q Qd Xd S h k x s H' C' cl fp => ?_⟩
  · exact (Classical.choose_spec (hg s H C cl fp).ex).1.run pins s' σ H' Q I (h s H C cl fp)
  · exact (Classical.choose_spec (hg s H' C' cl fp).ex).2 L C F H σ s0 Q Qd Xd S h k x
theorem rlc_e {de : RDE} {Y : Shared → Hp → Addr → List (Str × Addr) → List Addr → Cx} (hg : ∀ s H C cl fp, REx (Y s H C cl fp) E e de) : ∃ t, (∀ s H C cl fp, PE (Y s H C cl fp) e t) ∧ RSE E t de := by
  refine ⟨fun σ H Q => ∀ s H' C cl fp, Classical.choose (hg s H' C cl fp).ex σ H Q, fun s H C cl fp => ⟨fun pins s' σ H' Q I h => ?_⟩, fun L C F H σ s0 Q Qd Xd S h k x s H' C' cl fp => ?_⟩
  · exact (Classical.choose_spec (hg s H C cl fp).ex).1.run pins s' σ H' Q I (h s H C cl fp)
  · exact (Classical.choose_spec (hg s H' C' cl fp).ex).2 L C F H σ s0 Q Qd Xd S h k x
variable {scope : Scope} {own : List (Str × Nat)} {pos spos py : Pos} {di : RDI} {dg : DG} {dt : RDT} {de : RDE} {ws : List Nat}
theorem re_lc (hc : X.calm = true) (hN : X.N.Nodup) (hi : RIx X E tg iter di) (ok : BlkOk X.N X.env.scope scope own)
    (hg : ∀ (s : Shared) (H : Hp) (C : Addr) (cl : List (Str × Addr)) (fp : List Addr), DGx (X.blk s H scope (compEnvC scope cl C X.env) fp) tg ws dg) (ht : ∀ (s : Shared) (H : Hp) (C : Addr) (cl : List (Str × Addr)) (fp : List Addr), RTs (X.blk s H scope (compEnvC scope cl C X.env) fp) E ifs dt)
    (he : ∀ (s : Shared) (H : Hp) (C : Addr) (cl : List (Str × Addr)) (fp : List Addr), REx (X.blk s H scope (compEnvC scope cl C X.env) fp) E elt de) (hw : ∀ i ∈ ws, i ∈ own.map (·.2) := by decide) (hs : ∀ x, foldedSetIterable iter X.env x = pure x := by intro _; rfl) :
    REx X E (.ListComp elt [⟨tg, iter, ifs, 0⟩] scope pos) (rLc di dg dt de (own.map (·.2))) := by
  obtain ⟨t, p, s⟩ := hi.ex
  obtain ⟨g', pg, sg⟩ := lc_g hg
  obtain ⟨t', pt, st⟩ := rlc_t ht
  obtain ⟨e', pe, se⟩ := rlc_e he
  exact ⟨_, pe_lc hc hN p ok pg pt pe hs, rse_lc s sg hw st se⟩
theorem rs_setLc {i : Nat} {y : Str} (hc : X.calm = true) (hN : X.N.Nodup) (hy : X.N[i]? = some y) (hyl : X.env.scope.names.lookup y = some .local)
    (hsw : swapsWith (.ListComp elt [⟨tg, iter, ifs, 0⟩] scope pos) (some (.Name y py)) spos.line X.env = pure true) (hi : RIx X E tg iter di) (ok : BlkOk X.N X.env.scope scope own)
    (hg : ∀ (s : Shared) (H : Hp) (C : Addr) (cl : List (Str × Addr)) (fp : List Addr), DGx (X.blk s H scope (compEnvC scope cl C X.env) fp) tg ws dg) (ht : ∀ (s : Shared) (H : Hp) (C : Addr) (cl : List (Str × Addr)) (fp : List Addr), RTs (X.blk s H scope (compEnvC scope cl C X.env) fp) E ifs dt)
    (he : ∀ (s : Shared) (H : Hp) (C : Addr) (cl : List (Str × Addr)) (fp : List Addr), REx (X.blk s H scope (compEnvC scope cl C X.env) fp) E elt de) (hw : ∀ i ∈ ws, i ∈ own.map (·.2) := by decide) (hs : ∀ x, foldedSetIterable iter X.env x = pure x := by intro _; rfl) :
    RSx X E (.Assign [.Name y py] (.ListComp elt [⟨tg, iter, ifs, 0⟩] scope pos) spos) (rAsg (rLc di dg dt de (own.map (·.2))) (dgName i)) := by
  obtain ⟨t, p, s⟩ := hi.ex
  obtain ⟨g', pg, sg⟩ := lc_g hg
  obtain ⟨t', pt, st⟩ := rlc_t ht
  obtain ⟨e', pe, se⟩ := rlc_e he
  exact ⟨_, ps_setLc hc hN hy hyl hsw p ok pg pt pe hs, rss_asg (rse_lc s sg hw st se) sg_name⟩
end
end DL

set_option Elab.async false
set_option linter.all false
set_option maxRecDepth 100000
set_option maxHeartbeats 2000000
/-! Defs that work on a region, as their callers know them. -/
namespace DL
open PySem PySem.Spec PyProof.Rows L2
variable [ClsV]
section
variable {mg : Str → Option Value} {base : Heap} {K : PySem.W.Frag} {w : World} {P : Program} {x c m qual : Str} {st : Stmt} {f : Addr} {fd : FuncData} {N ps : List Str} {k : Nat} {rsp : RSp} {rd : RDS}
/-- the body's rows may be walked -/
abbrev BodyX (P : Program) (w : World) (K : PySem.W.Frag) (mg : Str → Option Value) (base : Heap) (N : List Str) (qual : Str) (st : Stmt) (f : Addr) (k : Nat) (rd : RDS) : Prop := ∀ (cdv : Value) (A : Around) (outer : List PySem.Env) (s : Shared) (H : Hp) (E : XK), Room k (A.deeper (envOfC qual (defScope st) s.heap.objs.size f cdv)) →
  Tk (cxOf (L2.CX P w) P w K mg base N qual (defScope st) f cdv A outer s H E) (fun _ => E) →
  PassesOwn (model P w) (cxOf (L2.CX P w) P w K mg base N qual (defScope st) f cdv A outer s H E).A (cxOf (L2.CX P w) P w K mg base N qual (defScope st) f cdv A outer s H E).env (cxOf (L2.CX P w) P w K mg base N qual (defScope st) f cdv A outer s H E).xe →
  RSs (cxOf (L2.CX P w) P w K mg base N qual (defScope st) f cdv A outer s H E) (fun _ => E) (defBody st) rd
theorem def_calR (Fn : Fun K x qual st f fd) (S : FnScope N ps (defScope st)) (hm : mg x = some (.ref f)) (hb : Binds K fd ps []) (hd : BodyX P w K mg base N qual st f k rd)
    (hp : ∀ g as Q X, rsp g as Q X → as.length = ps.length ∧ rd { nx := fun s => rtR g as Q (.f .non) s, rt := rtR g as Q, xr := xrR g as X } ⟨g, startE N as⟩) : CalR P w K mg base (k + 1) x ps rsp := ⟨f, fd, def_okR Fn S hd hp, hm, Fn.kp, hb⟩
theorem def_calMR (Fn : Fun K m qual st f fd) (S : FnScope N ps (defScope st)) (hm : Meth K (clsA c) m f) (hb : Binds K fd ps []) (hd : BodyX P w K mg base N qual st f k rd)
    (hp : ∀ g as Q X, rsp g as Q X → as.length = ps.length ∧ rd { nx := fun s => rtR g as Q (.f .non) s, rt := rtR g as Q, xr := xrR g as X } ⟨g, startE N as⟩) : CalMR P w K mg base (k + 1) c m ps rsp := ⟨f, fd, def_okR Fn S hd hp, hm, hb⟩
theorem def_calIR (Fn : Fun K "__init__" qual st f fd) (S : FnScope N ps (defScope st)) (mk : L2.Mk K (clsA c) f) (hm : mg c = some (.ref (clsA c))) (hb : Binds K fd ps [])
    (hd : ∀ (cdv : Value) (A : Around) (outer : List PySem.Env) (s : Shared) (H : Hp) (E : XK), Room k (A.deeper (envOfC qual (defScope st) s.heap.objs.size f cdv)) → RSs (cxOf CX0 P w K mg base N qual (defScope st) f cdv A outer s H E).nox noE (defBody st) rd)
    (hp : ∀ g as Q X, rsp g as Q X → as.length = ps.length ∧ rd { nx := fun s => rtR g as Q (.f .non) s, rt := rtR g as Q } ⟨g, startE N as⟩) : CalIR P w K mg base (k + 1) c ps rsp := ⟨f, fd, def_okR0 Fn S hd hp, mk, hm, hb⟩
end
theorem withD_at {α : Type} {o : Option α} {a : α} {k : α → Prop} (h : o = some a) (q : k a) : withD o k := by rw [h]; exact q
end DL

set_option Elab.async false
set_option linter.all false
set_option maxRecDepth 100000
set_option maxHeartbeats 4000000
/-! The walker over a region. -/
namespace DP
open PySem PySem.Spec PyProof.Rows L2 DL
variable [ClsV]
def eSetFR (c f : Str) (dw da : RDE) : RDS := fun D s => dw s (fun r s1 => rNew r s1 fun d s2 => da s2 (fun ro s3 => match ro with
  | .f (.raw (.ref t)) => withD (s3.g t) fun d0 => hSetF c f d0 d fun d' => D.nx ⟨gset s3.g t d', s3.e⟩
  | _ => False) D.xr) D.xr
theorem rSetF_h : rSetF = eSetFR := by
  have : gSetF = hSetF := by funext c f o d Q; exact propext ⟨.mk, fun h => h.run⟩
  unfold rSetF eSetFR; rw [this] <;> rfl
def eSetIR (dw da db : RDE) : RDS := fun D s => dw s (fun rv s1 => withD (elD rv) fun d => da s1 (fun ro s2 => db s2 (fun ri s3 => withD (view s3.e (fzR ri)) fun di => match ro with
  | .l j => withD (ownD s3.e j) fun d0 => hSet d0 di d fun d' => D.nx ⟨s3.g, putO s3.e j d'⟩
  | .f (.raw (.ref t)) => withD (s3.g t) fun d0 => hSet d0 di d fun d' => D.nx ⟨gset s3.g t d', s3.e⟩
  | _ => False) D.xr) D.xr) D.xr
theorem rSetI_h : rSetI = eSetIR := by
  have : gSet = hSet := by funext o i v Q; exact propext ⟨.mk, fun h => h.run⟩
  unfold rSetI eSetIR; rw [this] <;> rfl
section
variable {g : Reg} {t : Addr} {c f : Str} {ds : List (Str × Dat)} {d d0 : Dat} {K : Dat → Prop}
theorem fldR_at (h : g t = some (.ins (clsA c) ds)) (hl : ds.lookup f = some d) (k : K d) : withD (g t) fun d0 => Got (fldD c f d0) K := by
  rw [h]
  refine Got.mk ⟨d, ?_, k⟩
  unfold fldD
  dsimp only
  rw [if_pos rfl]; exact hl
theorem setF_at {f : Str} (h : ds.length < 1000) (k : K (.ins (clsA c) (putFd f d ds))) : hSetF c f (.ins (clsA c) ds) d K := .mk ⟨⟨rfl, h⟩, k⟩
end
/-! ### loops -/
section
variable {ε : Type} {R : ε → Prop} {St : (Nat → ε → Prop) → Nat → Dat → ε → Prop} {e0 : ε} {n : Nat} {ns : List Nat} {α : Type} {f : α → Dat} {xs : List α} {items : List Dat}
theorem rfor_items (I : Nat → ε → Prop) (h0 : I 0 e0) (hs : ∀ i d s', items[i]? = some d → I i s' → St I i d s') (hd : ∀ s', I items.length s' → R s') :
    ∃ W : Nat → ε → Prop, W 0 e0 ∧ (∀ i d s', items[i]? = some d → W i s' → St W i d s') ∧ ∀ s', W items.length s' → R s' := ⟨I, h0, hs, hd⟩
theorem rfor_rg (I : Nat → ε → Prop) (h0 : I 0 e0) (hs : ∀ i s', i < n → I i s' → St I i (.int ((i : Nat) : Int)) s') (hd : ∀ s', I n s' → R s') :
    ∃ W : Nat → ε → Prop, W 0 e0 ∧ (∀ i d s', (rangeD 0 n)[i]? = some d → W i s' → St W i d s') ∧ ∀ s', W (rangeD 0 n).length s' → R s' :=
  ⟨I, h0, fun i d s' h w => by
    obtain ⟨hi, rfl⟩ := rangeD_some h
    rw [Int.zero_add]; exact hs i s' hi w, fun s' w => hd s' (by rw [rangeD_len] at w; exact w)⟩
theorem rfor_ns (I : Nat → ε → Prop) (h0 : I 0 e0) (hs : ∀ i x s', ns[i]? = some x → I i s' → St I i (.int ((x : Nat) : Int)) s') (hd : ∀ s', I ns.length s' → R s') :
    ∃ W : Nat → ε → Prop, W 0 e0 ∧ (∀ i d s', (natsD ns)[i]? = some d → W i s' → St W i d s') ∧ ∀ s', W (natsD ns).length s' → R s' :=
  ⟨I, h0, fun i d s' h w => by
    obtain ⟨x, hx, rfl⟩ := natsD_get h
    exact hs i x s' hx w, fun s' w => hd s' (by rw [natsD_len] at w; exact w)⟩
theorem rfor_mp (I : Nat → ε → Prop) (h0 : I 0 e0) (hs : ∀ i x s', xs[i]? = some x → I i s' → St I i (f x) s') (hd : ∀ s', I xs.length s' → R s') :
    ∃ W : Nat → ε → Prop, W 0 e0 ∧ (∀ i d s', (xs.map f)[i]? = some d → W i s' → St W i d s') ∧ ∀ s', W (xs.map f).length s' → R s' :=
  ⟨I, h0, fun i d s' h w => by
    obtain ⟨x, hx, rfl⟩ := mapD_some h
    exact hs i x s' hx w, fun s' w => hd s' (by rw [List.length_map] at w; exact w)⟩
theorem rfor_dn (I : Nat → ε → Prop) (h0 : I 0 e0) (hs : ∀ i s', i < n → I i s' → St I i (.int ((n - 1 - i : Nat) : Int)) s') (hd : ∀ s', I n s' → R s') :
    ∃ W : Nat → ε → Prop, W 0 e0 ∧ (∀ i d s', (downD (n : Int) n)[i]? = some d → W i s' → St W i d s') ∧ ∀ s', W (downD (n : Int) n).length s' → R s' :=
  ⟨I, h0, fun i d s' h w => by
    obtain ⟨hi, rfl⟩ := down_some h
    rw [show (n : Int) - 1 - (i : Int) = ((n - 1 - i : Nat) : Int) by omega]; exact hs i s' hi w, fun s' w => hd s' (by rw [down_len] at w; exact w)⟩
end
/-- a cell's address as a datum -/
abbrev rawA (b : Addr) : Dat := .raw (.ref b)
theorem rlc_cells {n : Nat} {e0 : DL.Env} {g0 : Reg} {R : List Dat → RE → Prop} {St : (Nat → List Dat → RE → Prop) → Nat → Dat → List Dat → RE → Prop}
    (hs : ∀ (W : Nat → List Dat → RE → Prop) i acc g, i < n → (∀ p, g p = none → W (i + 1) (acc ++ [rawA p]) ⟨gset g p (.lst []), e0⟩) → St W i (.int ((i : Nat) : Int)) acc ⟨g, e0⟩)
    (hd : ∀ (bs : List Addr) g, bs.length = n → bs.Nodup → (∀ b ∈ bs, g0 b = none ∧ g b = some (.lst [])) → (∀ q, q ∉ bs → g q = g0 q) → R (bs.map rawA) ⟨g, e0⟩) :
    ∃ W : Nat → List Dat → RE → Prop, W 0 [] ⟨g0, e0⟩ ∧ (∀ i d acc s', (rangeD 0 n)[i]? = some d → W i acc s' → St W i d acc s') ∧ ∀ acc s', W (rangeD 0 n).length acc s' → R acc s' := by
  refine ⟨fun i acc s => ∃ bs : List Addr, acc = bs.map rawA ∧ bs.length = i ∧ bs.Nodup ∧ (∀ b ∈ bs, g0 b = none ∧ s.g b = some (.lst [])) ∧ (∀ q, q ∉ bs → s.g q = g0 q) ∧ s.e = e0, ⟨[], rfl, rfl, List.nodup_nil, fun b h => by simp at h, fun _ _ => rfl, rfl⟩, ?_, ?_⟩
  · rintro i d acc ⟨g, e⟩ h ⟨bs, rfl, bl, nd, hb, ho, he⟩
    obtain ⟨hi, rfl⟩ := rangeD_some h
    subst he
    rw [Int.zero_add]
    refine hs _ i _ g hi fun p hp => ⟨bs ++ [p], by rw [List.map_append]; rfl, by rw [List.length_append, bl]; rfl, ?_, fun b h => ?_, fun q hq => ?_, rfl⟩
    · have np : p ∉ bs := fun z => by
        have := (hb p z).2.symm.trans hp
        cases this
      exact List.nodup_append.2 ⟨nd, by simp, fun a ha b hb e => np (by rw [List.mem_singleton] at hb; rw [← hb, ← e]; exact ha)⟩
    · rcases List.mem_append.1 h with z | z
      · have nb : b ≠ p := fun y => by
          subst y
          have := (hb b z).2.symm.trans hp
          cases this
        exact ⟨(hb b z).1, (gset_ne nb).trans (hb b z).2⟩
      · rw [List.mem_singleton.1 z]
        refine ⟨?_, gset_same⟩
        have np : p ∉ bs := fun z => by
          have := (hb p z).2.symm.trans hp
          cases this
        exact (ho p np).symm.trans hp
    · have n1 : q ∉ bs := fun z => hq (List.mem_append_left _ z)
      have n2 : q ≠ p := fun z => hq (by rw [z]; simp)
      exact (gset_ne n2).trans (ho q n1)
  · rintro acc ⟨g, e⟩ ⟨bs, rfl, bl, nd, hb, ho, he⟩
    subst he
    exact hd bs g (by rw [rangeD_len] at bl; exact bl) nd hb ho
theorem thws_get {g : Reg} : ∀ {l l' : List Dat}, l.length = l'.length → (∀ (i : Nat) d d', l[i]? = some d → l'[i]? = some d' → Thw g d d') → Thws g l l'
  | [], [], _, _ => .nil
  | [], _ :: _, hl, _ => nomatch hl
  | _ :: _, [], hl, _ => nomatch hl
  | x :: l, y :: l', h, k => .cons (k 0 x y rfl rfl) (thws_get (Nat.succ.inj h) fun i d d' a b => k (i + 1) d d' a b)
/-! ### what a reading expression sees -/
class ThwC (g : Reg) (d : Dat) (d' : outParam Dat) : Prop where
  h : Thw g d d'
section
variable {g : Reg} {l : List Dat} {i : Int} {b : Bool} {s : Str} {C : Addr} {fs : List (Str × Dat)} {kl : List (Key × Dat)} {tl : List (List Key × Dat)} {c : Str} {xf : Option (List (Str × Dat))}
instance thwc_int : ThwC g (.int i) (.int i) := ⟨.same _⟩
instance thwc_bl : ThwC g (.bl b) (.bl b) := ⟨.same _⟩
instance thwc_str : ThwC g (.str s) (.str s) := ⟨.same _⟩
instance thwc_non : ThwC g .non .non := ⟨.same _⟩
instance thwc_tup : ThwC g (.tup l) (.tup l) := ⟨.same _⟩
instance thwc_lst : ThwC g (.lst l) (.lst l) := ⟨.same _⟩
instance thwc_dk : ThwC g (.dk kl) (.dk kl) := ⟨.same _⟩
instance thwc_dt : ThwC g (.dt tl) (.dt tl) := ⟨.same _⟩
instance thwc_ins : ThwC g (.ins C fs) (.ins C fs) := ⟨.same _⟩
instance thwc_exc : ThwC g (.exc c xf) (.exc c xf) := ⟨.same _⟩
instance thwc_net {m : Nat} {js : List (Nat × Nat)} {os : List Nat} : ThwC g (netD m js os) (netD m js os) := ⟨.same _⟩
end
/-- a slot that is not looked at -/
class DropC (x : Option S) : Prop where
instance dropc_none : DropC none := ⟨⟩
class PkC (g : Reg) (e : DL.Env) (e' : outParam DL.Env) : Prop where
  h : PkR g e e'
section
variable {g : Reg} {e e' : DL.Env} {d d' : Dat} {P : DL.Env → Prop}
instance pkc_nil : PkC g [] [] := ⟨.nil⟩
instance pkc_f [a : ThwC g d d'] [b : PkC g e e'] : PkC g (some (.f d) :: e) (some (.f d') :: e') := ⟨.f a.h b.h⟩
instance pkc_o [b : PkC g e e'] : PkC g (some (.o d) :: e) (some (.f d) :: e') := ⟨.o b.h⟩
instance pkc_b [b : PkC g e e'] : PkC g (some (.b d) :: e) (some (.f d) :: e') := ⟨.b b.h⟩
instance (priority := low) pkc_x {x : Option S} [DropC x] [b : PkC g e e'] : PkC g (x :: e) (none :: e') := ⟨.drop b.h⟩
instance go_pk [a : PkC g e e'] : Go (∃ e', PkR g e e' ∧ P e') (P e') := ⟨fun k => ⟨e', a.h, k⟩⟩
end
/-! ### an instance of Turning -/
def turnD (m : Nat) (ra ja : Addr) : Dat := .ins (clsA "Turning") [("many", .int (m : Nat)), ("rows", .raw (.ref ra)), ("joins", .raw (.ref ja))]
def turnV (m : Nat) (rows : List Nat) (js : List (Nat × Nat)) : Dat := .ins (clsA "Turning") [("many", .int (m : Nat)), ("rows", .lst (natsD rows)), ("joins", .lst (js.map pairD))]
structure TurnAt (g : Reg) (t ra ja : Addr) (m : Nat) (rows : List Nat) (js : List (Nat × Nat)) : Prop where
  ht : g t = some (turnD m ra ja)
  hr : g ra = some (.lst (natsD rows))
  hj : g ja = some (.lst (js.map pairD))
  tr : t ≠ ra
  tj : t ≠ ja
  rj : ra ≠ ja
section
variable {g : Reg} {t ra ja : Addr} {m : Nat} {rows rows' : List Nat} {js js' : List (Nat × Nat)} {Q : Res → Prop}
theorem TurnAt.thw (h : TurnAt g t ra ja m rows js) : Thw g (.raw (.ref t)) (turnV m rows js) := .ins h.ht (.cons (.same _) (.cons (.lst h.hr (Thws.refl _ _)) (.cons (.lst h.hj (Thws.refl _ _)) .nil)))
theorem TurnAt.putR (h : TurnAt g t ra ja m rows js) : TurnAt (gset g ra (.lst (natsD rows'))) t ra ja m rows' js := ⟨(gset_ne h.tr).trans h.ht, gset_same, (gset_ne h.rj.symm).trans h.hj, h.tr, h.tj, h.rj⟩
theorem TurnAt.putJ (h : TurnAt g t ra ja m rows js) : TurnAt (gset g ja (.lst (js'.map pairD))) t ra ja m rows js' := ⟨(gset_ne h.tj).trans h.ht, (gset_ne h.rj).trans h.hr, gset_same, h.tr, h.tj, h.rj⟩
variable {d a b : Dat} {G1 : Dat → Prop}
instance go_tS1 : Go (hSetF "Turning" "many" (.ins (clsA "Turning") []) d G1) (G1 (.ins (clsA "Turning") [("many", d)])) := ⟨fun k => .mk ⟨⟨rfl, by show 0 < 1000; decide⟩, k⟩⟩
instance go_tS2 : Go (hSetF "Turning" "rows" (.ins (clsA "Turning") [("many", a)]) d G1) (G1 (.ins (clsA "Turning") [("many", a), ("rows", d)])) := ⟨fun k => .mk ⟨⟨rfl, by show 1 < 1000; decide⟩, k⟩⟩
instance go_tS3 : Go (hSetF "Turning" "joins" (.ins (clsA "Turning") [("many", a), ("rows", b)]) d G1) (G1 (.ins (clsA "Turning") [("many", a), ("rows", b), ("joins", d)])) := ⟨fun k => .mk ⟨⟨rfl, by show 2 < 1000; decide⟩, k⟩⟩
instance go_tR : Go (hFld "Turning" "rows" (turnV m rows js) Q) (Q (.f (.lst (natsD rows)))) := ⟨fun k => fld_at (by rfl) k⟩
instance go_tJ : Go (hFld "Turning" "joins" (turnV m rows js) Q) (Q (.f (.lst (js.map pairD)))) := ⟨fun k => fld_at (by rfl) k⟩
end
end DP

set_option Elab.async false
set_option linter.all false
set_option maxRecDepth 100000
set_option maxHeartbeats 800000
namespace DP
open PySem PySem.Spec PyProof.Rows L2 DL
variable [ClsV]
local macro_rules | `(tactic| walk_at "dw") => `(tactic| ((conv => whnf); (try dsimp only [putOuts, putO, fzR, List.set_cons_zero, List.set_cons_succ, List.getElem?_cons_zero, List.getElem?_cons_succ, startE, arS, List.map_cons, List.map_nil, wipeE, restF, List.length_cons, List.length_nil, Int.toNat_natCast, List.getD_cons_zero, List.getD_cons_succ])))
local macro_rules | `(tactic| walk_at "om") => `(tactic| first | omega | (simp only [List.length_cons, List.length_nil, List.length_map, List.length_append, List.length_replicate, List.length_range, List.length_take, List.length_drop, List.length_set, List.length_reverse, rangeD_len, natsD_len]; omega) | assumption | exact rfl | trivial | (refine And.intro ?_ ?_ <;> walk_at "om"))
local macro_rules | `(tactic| walk_at "im") => `(tactic| first | exact trivial | exact ⟨rfl, rfl⟩ | exact imm_any rfl)
local macro_rules | `(tactic| walk_at "tr") => `(tactic| first | exact rfl | exact trivial | assumption | (refine And.intro ?_ ?_ <;> walk_at "tr"))
local macro_rules | `(tactic| walk_at "go1") => `(tactic| ((first
  | refine Go.go ?_
  | refine g_sub (by walk_at "om") ?_ | refine g_subI ?_
  | refine ifb_t rfl ?_ | refine ifb_f rfl ?_
  | refine ifb_y (by first | omega | walk_at "tr") ?_ | refine ifb_n (by first | omega | assumption | decide +kernel) ?_
  | refine and_imm _ _ _ (by walk_at "im") ?_
  | refine and_immX _ _ _ (by first | exact imm_noneX rfl | exact imm_anyX rfl | exact trivial) ?_
  | refine And.intro (by walk_at "om") ?_
  | refine Got.mk ⟨_, rfl, ?_⟩
  | refine fldR_at (by assumption) (by rfl) ?_ | refine withD_at (by assumption) ?_
  | refine draw_go (by assumption) (by walk_at "om") (by walk_at "om") (by walk_at "om") ?_); walk_at "dw"))
local macro_rules | `(tactic| walk_at "go") => `(tactic| (walk_at "dw"; repeat walk_at "go1"))
local macro_rules | `(tactic| walk_at "h") => `(tactic| try simp only [gEq_h, gIs_h, gIn_h, gI0_h, gB0_h, gAdd_h, gMul_h, gIx_h, gI_h, gU_h, gBits_h, gLen_h, gList_h, gTuple_h, gSum_h, gAll_h, gAny_h, gMax_h, gMin_h, gSorted_h, gInt_h, gIsi_h, gAppend_h, gClear_h, gPop_h, gPopAt_h, gInsert_h, gCount_h, gIndex_h, gRevL_h, gEqV_h, dSet_h, dSetd_h, dSl_h, gInV_h, gCountV_h, gFld_h, rSetF_h, sp_weight_h, sp_givens_of_h, sp_row_of_h, sp_joined_h, sp_law_whole_h, sp_tells_h, sp_law_draw_h])
local macro_rules | `(tactic| walk_at "giv") => `(tactic| ((refine lc_rN (2 ^ ·) (fun W i acc hi k => ?_) ?_; · (walk_at "go"; exact k _ rfl)); rw [show ∀ m, (List.range m).map (2 ^ ·) = giv m from fun _ => rfl]; walk_at "go"))
abbrev N_Turning___init__ : List Str := ["self", "many", "place"]
def r_Turning___init__ : RDS :=
  (rSeq (rSetF "Turning" "many" (rL (dVar 1)) (rL (dVar 0)))
  (rSeq (rSetF "Turning" "rows" (rL (dLc (dRng1 (dCons (dVar 1) dNil)) (dgName 2) dYes (dOp (gI CSh fun i j => i * 2 ^ j.toNat) (dC (.int 1)) (dVar 2)) [2])) (rL (dVar 0)))
  (rSetF "Turning" "joins" (rL (dLst dNil)) (rL (dVar 0)))))
abbrev N_Turning_summed : List Str := ["self", "uses", "thing", "here", "use"]
def r_Turning_summed : RDS :=
  (rSeq (rLs (dAsg (dOp gIx (dVar 1) (dC (.int 0))) 3))
  (rSeq (rFor (rSeqI (rL (dSl (dVar 1) (dPart (dC (.int 1))) dNoPart))) (dgName 4) (rSeq (rIfS (rPT (dB (dOp (gEqV false) (dOp gIx (dUn (gFld "Turning" "rows") (dVar 0)) (dVar 3)) (dOp gIx (dUn (gFld "Turning" "rows") (dVar 0)) (dVar 4))))) (rLs (dRaise (dMkF "Nought" (dCons (dVar 2) dNil)))) rNext)
  (rSeq (rDrop (rMut gAppend (rFldR "Turning" "joins" (rL (dVar 0))) (rLA (dCons (dTup (dCons (dCB gMin (dCons (dVar 3) (dCons (dVar 4) dNil))) (dCons (dCB gMax (dCons (dVar 3) (dCons (dVar 4) dNil))) dNil))) dNil))))
  (rSeq (rDrop (rMut gAppend (rFldR "Turning" "rows" (rL (dVar 0))) (rCons (rP (dOp (gI0 Builtin.bitXor) (dOp gIx (dUn (gFld "Turning" "rows") (dVar 0)) (dVar 3)) (dOp gIx (dUn (gFld "Turning" "rows") (dVar 0)) (dVar 4)))) (rLA dNil))))
  (rAsg (rP (dOp (gI0 fun i j => i - j) (dCB gLen (dCons (dUn (gFld "Turning" "rows") (dVar 0)) dNil)) (dC (.int 1)))) (dgName 3))))))
  (rLs (dRet (dVar 3)))))
inductive sp_Turning___init__ : RSp
  | mk {g : Reg} {t : Addr} {m : Nat} {Q X} (ht : g t = some (.ins (clsA "Turning") [])) (hm : m ≤ 24) (q : ∀ g' ra ja, TurnAt g' t ra ja m (giv m) [] → domG g g' → Q (.f .non) g' []) : sp_Turning___init__ g [.f (.raw (.ref t)), .f (.int (m : Nat))] Q X
inductive sp_Turning_summed : RSp
  | mk {g : Reg} {t ra ja : Addr} {m thing u : Nat} {rows us : List Nat} {js : List (Nat × Nat)} {Q X} (ta : TurnAt g t ra ja m rows js) (hr : rows.length + us.length < 90000) (hj : js.length + us.length < 90000) (hu : u < rows.length) (hus : ∀ x ∈ us, x < rows.length)
    (hn : sumG rows js u us = none → ∀ g', domG g g' → X "Nought" (some [("at", .int (thing : Nat))]) g' []) (q : ∀ r g', sumG rows js u us = some r → TurnAt g' t ra ja m r.1 r.2.1 → domG g g' → Q (.f (.int (r.2.2 : Nat))) g' []) :
      sp_Turning_summed g [.f (.raw (.ref t)), .f (.lst (natsD (u :: us))), .f (.int (thing : Nat))] Q X
theorem p_Turning___init__ : ∀ g as Q X, sp_Turning___init__ g as Q X → as.length = 2 ∧ r_Turning___init__  { nx := fun s => rtR g as Q (.f .non) s, rt := rtR g as Q } ⟨g, startE N_Turning___init__ as⟩ := by
  rintro g0 _ _ _ @⟨_, t, m, Q, X, ht, hm, q⟩
  refine ⟨rfl, ?_⟩
  show r_Turning___init__  _ ⟨_, [_, _, none]⟩
  unfold r_Turning___init__
  walk_at "h"
  walk_at "go"
  walk_at "giv"
  intro ra hra
  have nr : t ≠ ra := fun z => by rw [← z, gset_same] at hra; cases hra
  refine withD_at ((gset_ne nr).trans gset_same) ?_
  walk_at "go"
  intro ja hja
  have nj : t ≠ ja := fun z => by rw [← z, gset_same] at hja; cases hja
  have nrj : ra ≠ ja := fun z => by rw [← z, gset_ne (Ne.symm nr), gset_same] at hja; cases hja
  refine withD_at ((gset_ne nj).trans gset_same) ?_
  walk_at "go"
  have dom : ∀ a b c d e, domG g0 (gset (gset (gset (gset (gset g0 t a) ra b) t c) ja d) t e) := fun a b c d e => ((((domG.refl.set).set).set).set).set
  refine ⟨dom _ _ _ _ _, q _ ra ja ⟨gset_same, ?_, ?_, nr, nj, nrj⟩ (dom _ _ _ _ _)⟩
  · rw [gset_ne nr.symm, gset_ne nrj, gset_ne nr.symm, gset_same]
  · rw [gset_ne nj.symm, gset_same]; rfl
theorem p_Turning_summed : ∀ g as Q X, sp_Turning_summed g as Q X → as.length = 3 ∧ r_Turning_summed  { nx := fun s => rtR g as Q (.f .non) s, rt := rtR g as Q, xr := xrR g as X } ⟨g, startE N_Turning_summed as⟩ := by
  rintro g0 _ _ _ @⟨_, t, ra, ja, m, thing, u, rows, us, js, Q, X, ta, hr, hj, hu, hus, hn, q⟩
  refine ⟨rfl, ?_⟩
  show r_Turning_summed  _ ⟨_, [_, _, _, none, none]⟩
  unfold r_Turning_summed
  walk_at "h"
  walk_at "go"
  refine rfor_ns (ns := us) (fun i s => ∃ g r x, s = ⟨g, [some (.f (.raw (.ref t))), some (.f (.lst (natsD (u :: us)))), some (.f (.int (thing : Nat))), some (.f (.int ((r.2.2 : Nat) : Int))), x]⟩ ∧ sumG rows js u (us.take i) = some r ∧ TurnAt g t ra ja m r.1 r.2.1 ∧ domG g0 g) ⟨g0, (rows, js, u), none, rfl, rfl, ta, domG.refl⟩ ?_ ?_
  · rintro i y s hy ⟨g, r, x, rfl, hs, ta, dom⟩
    have hi : i < us.length := (List.getElem?_eq_some_iff.1 hy).1
    have hl := sumG_len hs hu
    rw [List.length_take] at hl
    have := hus y (List.mem_of_getElem? hy)
    haveI : ThwC g (.raw (.ref t)) (turnV m r.1 r.2.1) := ⟨ta.thw⟩
    walk_at "go"
    have ht := ta.ht
    have hja := ta.hj
    refine ifb_c (fun e => ?_) (fun e => ?_)
    · walk_at "go"
      exact hn (sumG_none hs hy e) g dom
    · walk_at "go"
      generalize hj2 : r.2.1 ++ [(min r.2.2 y, max r.2.2 y)] = j2
      have ta2 := ta.putJ (js' := j2)
      have hr2 := ta2.hr
      have dom2 : domG g0 (gset g ja (.lst (j2.map pairD))) := dom.set
      generalize gset g ja (.lst (j2.map pairD)) = g2 at ta2 hr2 dom2 ⊢
      haveI : ThwC g2 (.raw (.ref t)) (turnV m r.1 j2) := ⟨ta2.thw⟩
      refine fldR_at ta2.ht (by rfl) ?_
      walk_at "dw"
      refine withD_at hr2 ?_
      walk_at "go"
      have ta3 := ta2.putR (rows' := r.1 ++ [r.1.getD r.2.2 0 ^^^ r.1.getD y 0])
      have dom3 : domG g0 (gset g2 ra (.lst (natsD (r.1 ++ [r.1.getD r.2.2 0 ^^^ r.1.getD y 0])))) := dom2.set
      generalize gset g2 ra (.lst (natsD (r.1 ++ [r.1.getD r.2.2 0 ^^^ r.1.getD y 0]))) = g3 at ta3 dom3 ⊢
      haveI : ThwC g3 (.raw (.ref t)) (turnV m (r.1 ++ [r.1.getD r.2.2 0 ^^^ r.1.getD y 0]) j2) := ⟨ta3.thw⟩
      walk_at "go"
      rw [List.length_append, List.length_singleton, Nat.add_sub_cancel]
      exact ⟨g3, _, _, rfl, sumG_next hs hy e, by subst hj2; exact ta3, dom3⟩
  · rintro s ⟨g, r, x, rfl, hs, ta, dom⟩
    rw [List.take_length] at hs
    walk_at "go"
    exact q r g hs ta dom
end DP

set_option Elab.async false
set_option linter.all false
set_option maxRecDepth 100000
set_option maxHeartbeats 4000000
namespace DP
open PySem PySem.Spec PyProof.Rows L2 DL
variable [ClsV]
/-! odd sums of rows -/
abbrev KT := Nat × Nat × Nat
def ktD (t : KT) : Dat := .tup [.int (t.1 : Nat), .int (t.2.1 : Nat), .int (t.2.2 : Nat)]
def lesS (s : Nat × Nat) (t : KT) : Nat × Nat := if s.1.testBit t.1 then (s.1 ^^^ t.2.1, s.2 ^^^ t.2.2) else s
def lessen (row : Nat) (ks : List KT) : Nat × Nat := ks.foldl lesS (row, 0)
def keptN (rows : List Nat) : Nat → List KT
  | 0 => []
  | n + 1 => if 0 < (lessen (rows.getD n 0) (keptN rows n)).1 then keptN rows n ++ [((lessen (rows.getD n 0) (keptN rows n)).1.log2, (lessen (rows.getD n 0) (keptN rows n)).1, (lessen (rows.getD n 0) (keptN rows n)).2 ^^^ 2 ^ n)] else keptN rows n
theorem keptN_succ (rows : List Nat) (n : Nat) : keptN rows (n + 1) = if 0 < (lessen (rows.getD n 0) (keptN rows n)).1 then keptN rows n ++ [((lessen (rows.getD n 0) (keptN rows n)).1.log2, (lessen (rows.getD n 0) (keptN rows n)).1, (lessen (rows.getD n 0) (keptN rows n)).2 ^^^ 2 ^ n)] else keptN rows n := rfl
theorem fold_its (n : Nat) : ∀ (ks : List KT) (s : Nat × Nat), s.2 < 2 ^ n → (∀ t ∈ ks, t.2.2 < 2 ^ n) → (ks.foldl lesS s).2 < 2 ^ n
  | [], s, h, _ => h
  | t :: ks, s, h, hk => by
    refine fold_its n ks (lesS s t) ?_ fun u hu => hk u (List.mem_cons_of_mem _ hu)
    unfold lesS
    split
    · exact Nat.xor_lt_two_pow h (hk t List.mem_cons_self)
    · exact h
theorem fold_row (n : Nat) : ∀ (ks : List KT) (s : Nat × Nat), s.1 < 2 ^ n → (∀ t ∈ ks, t.2.1 < 2 ^ n) → (ks.foldl lesS s).1 < 2 ^ n
  | [], s, h, _ => h
  | t :: ks, s, h, hk => by
    refine fold_row n ks (lesS s t) ?_ fun u hu => hk u (List.mem_cons_of_mem _ hu)
    unfold lesS
    split
    · exact Nat.xor_lt_two_pow h (hk t List.mem_cons_self)
    · exact h
structure KOk (n : Nat) (t : KT) : Prop where
  pos : 0 < t.2.1
  top : t.1 = t.2.1.log2
  its : t.2.2 < 2 ^ n
theorem log2_xor {p n : Nat} (h : p < 2 ^ n) : (p ^^^ 2 ^ n).log2 = n := by
  have h1 : p ^^^ 2 ^ n < 2 ^ (n + 1) := Nat.xor_lt_two_pow (Nat.lt_of_lt_of_le h (Nat.pow_le_pow_right (by omega) (by omega))) (Nat.pow_lt_pow_right (by omega) (by omega))
  have hb : (p ^^^ 2 ^ n).testBit n = true := by rw [Nat.testBit_xor, Nat.testBit_lt_two_pow h, Nat.testBit_two_pow_self]; rfl
  have h2 : 2 ^ n ≤ p ^^^ 2 ^ n := Nat.ge_two_pow_of_testBit hb
  have h0 : p ^^^ 2 ^ n ≠ 0 := by have := Nat.two_pow_pos n; omega
  have a := (Nat.log2_lt h0).2 h1
  have b := (Nat.le_log2 h0).2 h2
  omega
theorem kept_ok (rows : List Nat) : ∀ n, ∀ t ∈ keptN rows n, KOk n t
  | 0, t, h => by cases h
  | n + 1, t, h => by
    have old : ∀ t ∈ keptN rows n, KOk (n + 1) t := fun t h => by
      have := kept_ok rows n t h
      exact ⟨this.pos, this.top, Nat.lt_of_lt_of_le this.its (Nat.pow_le_pow_right (by omega) (by omega))⟩
    rw [keptN_succ] at h
    split at h
    · next z =>
      rcases List.mem_append.1 h with y | y
      · exact old t y
      · rw [List.mem_singleton.1 y]
        have hp : (lessen (rows.getD n 0) (keptN rows n)).2 < 2 ^ n := fold_its n _ _ (Nat.two_pow_pos n) fun u hu => (kept_ok rows n u hu).its
        exact ⟨z, rfl, Nat.xor_lt_two_pow (Nat.lt_of_lt_of_le hp (Nat.pow_le_pow_right (by omega) (by omega))) (Nat.pow_lt_pow_right (by omega) (by omega))⟩
    · exact old t h
theorem its_pos (rows : List Nat) : ∀ {n : Nat} {t : KT}, t ∈ keptN rows n → 0 < t.2.2
  | 0, t, h => by cases h
  | n + 1, t, h => by
    rw [keptN_succ] at h
    split at h
    · rcases List.mem_append.1 h with y | y
      · exact its_pos rows y
      · rw [List.mem_singleton.1 y]
        have hp : (lessen (rows.getD n 0) (keptN rows n)).2 < 2 ^ n := fold_its n _ _ (Nat.two_pow_pos n) fun u hu => (kept_ok rows n u hu).its
        have hb : ((lessen (rows.getD n 0) (keptN rows n)).2 ^^^ 2 ^ n).testBit n = true := by rw [Nat.testBit_xor, Nat.testBit_lt_two_pow hp, Nat.testBit_two_pow_self]; rfl
        exact Nat.lt_of_lt_of_le (Nat.two_pow_pos n) (Nat.ge_two_pow_of_testBit hb)
    · exact its_pos rows h
theorem les_its (rows : List Nat) (row n : Nat) : (lessen row (keptN rows n)).2 < 2 ^ n := fold_its n _ _ (Nat.two_pow_pos n) fun u hu => (kept_ok rows n u hu).its
theorem kept_row {rows : List Nat} {B : Nat} (h : ∀ r ∈ rows, r < 2 ^ B) : ∀ n, ∀ t ∈ keptN rows n, t.2.1 < 2 ^ B
  | 0, t, z => by cases z
  | n + 1, t, z => by
    rw [keptN_succ] at z
    split at z
    · rcases List.mem_append.1 z with y | y
      · exact kept_row h n t y
      · rw [List.mem_singleton.1 y]
        refine fold_row B _ _ ?_ fun u hu => kept_row h n u hu
        show rows.getD n 0 < 2 ^ B
        rw [List.getD_eq_getElem?_getD]
        cases e : rows[n]? with
        | none => exact Nat.two_pow_pos B
        | some x => exact h x (List.mem_of_getElem? e)
    · exact kept_row h n t z
theorem kept_len (rows : List Nat) : ∀ n, (keptN rows n).length ≤ n
  | 0 => Nat.le_refl 0
  | n + 1 => by
    have := kept_len rows n
    rw [keptN_succ]
    split
    · rw [List.length_append, List.length_singleton]; omega
    · omega
theorem lt_bit {x y i : Nat} (hx : x.testBit i = false) (hy : y.testBit i = true) (h : ∀ j, i < j → x.testBit j = y.testBit j) : x < y := by
  have e : x / 2 ^ (i + 1) = y / 2 ^ (i + 1) := Nat.eq_of_testBit_eq fun j => by
    rw [Nat.testBit_div_two_pow, Nat.testBit_div_two_pow]; exact h _ (by omega)
  have a : x % 2 ^ (i + 1) < 2 ^ i := Nat.lt_pow_two_of_testBit _ fun j hj => by
    rw [Nat.testBit_mod_two_pow]
    rcases Nat.lt_or_ge i j with z | z
    · rw [decide_eq_false (by omega)]; rfl
    · have : j = i := by omega
      subst this; rw [hx, Bool.and_false]
  have b : 2 ^ i ≤ y % 2 ^ (i + 1) := Nat.ge_two_pow_of_testBit (by rw [Nat.testBit_mod_two_pow, hy, decide_eq_true (by omega)]; rfl)
  have c := Nat.div_add_mod x (2 ^ (i + 1))
  have d := Nat.div_add_mod y (2 ^ (i + 1))
  rw [e] at c
  omega
/-- the law's own way: the lesser of the row and the row joined -/
theorem min_xor {o : Nat} (ho : 0 < o) (r : Nat) : min r (r ^^^ o) = if r.testBit o.log2 then r ^^^ o else r := by
  have hb : o.testBit o.log2 = true := Nat.testBit_log2 (by omega)
  have hh : ∀ j, o.log2 < j → o.testBit j = false := fun j hj => Nat.testBit_lt_two_pow ((Nat.log2_lt (by omega)).1 hj)
  cases h : r.testBit o.log2 with
  | true =>
    have : r ^^^ o < r := lt_bit (i := o.log2) (by rw [Nat.testBit_xor, h, hb]; rfl) h fun j hj => by rw [Nat.testBit_xor, hh j hj, Bool.xor_false]
    rw [if_pos rfl, Nat.min_eq_right (by omega)]
  | false =>
    have : r < r ^^^ o := lt_bit (i := o.log2) h (by rw [Nat.testBit_xor, h, hb]; rfl) fun j hj => by rw [Nat.testBit_xor, hh j hj, Bool.xor_false]
    rw [if_neg (by decide), Nat.min_eq_left (by omega)]
def leftL (r : Nat) (ks : List Nat) : Nat := ks.foldl (fun r o => min r (r ^^^ o)) r
theorem left_les {n : Nat} : ∀ (ks : List KT) (s : Nat × Nat), (∀ t ∈ ks, KOk n t) → leftL s.1 (ks.map (·.2.1)) = (ks.foldl lesS s).1
  | [], s, _ => rfl
  | t :: ks, s, h => by
    have ht := h t List.mem_cons_self
    rw [List.map_cons]
    show leftL (min s.1 (s.1 ^^^ t.2.1)) (ks.map (·.2.1)) = (ks.foldl lesS (lesS s t)).1
    rw [min_xor ht.pos, ← left_les ks (lesS s t) fun u hu => h u (List.mem_cons_of_mem _ hu), ht.top.symm]
    unfold lesS
    split <;> rfl
theorem left_kept (rows : List Nat) (row n : Nat) : leftL row ((keptN rows n).map (·.2.1)) = (lessen row (keptN rows n)).1 := left_les (n := n) _ (row, 0) (kept_ok rows n)
def placesL (rows : List Nat) (n : Nat) : List Nat := (keptN rows n).map fun t => t.2.2.log2
theorem places_succ (rows : List Nat) (n : Nat) : placesL rows (n + 1) = if 0 < (lessen (rows.getD n 0) (keptN rows n)).1 then placesL rows n ++ [n] else placesL rows n := by
  unfold placesL
  rw [keptN_succ]
  split
  · rw [List.map_append, List.map_singleton, log2_xor (les_its rows _ n)]
  · rfl
theorem bits_pos {n : Nat} (h : 0 < n) : ((Builtin.Int.intBits (n : Int) : Nat) : Int) - 1 = ((n.log2 : Nat) : Int) := by
  unfold Builtin.Int.intBits
  split
  · next z => have := Int.natCast_eq_zero.1 (by simpa using z); omega
  · rw [Int.natAbs_natCast]; omega
end DP

set_option Elab.async false
set_option linter.all false
set_option maxRecDepth 100000
set_option maxHeartbeats 4000000
namespace DP
open PySem PySem.Spec PyProof.Rows L2 DL
variable [ClsV]
/-! the odd sum of the rows at the places that are bits -/
def xs (rows : List Nat) (p : Nat) : Nat → Nat
  | 0 => 0
  | n + 1 => xs rows p n ^^^ (if p.testBit n then rows.getD n 0 else 0)
theorem xor_mid (a b c d : Nat) : (a ^^^ b) ^^^ (c ^^^ d) = (a ^^^ c) ^^^ (b ^^^ d) := Nat.eq_of_testBit_eq fun i => by
  simp only [Nat.testBit_xor]
  cases a.testBit i <;> cases b.testBit i <;> cases c.testBit i <;> cases d.testBit i <;> rfl
theorem xor_in (r p q : Nat) : (r ^^^ q) ^^^ (p ^^^ q) = r ^^^ p := by rw [xor_mid, Nat.xor_self, Nat.xor_zero]
theorem xor_back (a b : Nat) : b ^^^ (a ^^^ b) = a := by rw [Nat.xor_comm a, ← Nat.xor_assoc, Nat.xor_self, Nat.zero_xor]
theorem xs_xor (rows : List Nat) (p q : Nat) : ∀ n, xs rows (p ^^^ q) n = xs rows p n ^^^ xs rows q n
  | 0 => (Nat.xor_zero 0).symm
  | n + 1 => by
    show xs rows (p ^^^ q) n ^^^ _ = (xs rows p n ^^^ _) ^^^ (xs rows q n ^^^ _)
    rw [xs_xor rows p q n, Nat.testBit_xor, xor_mid (xs rows p n)]
    congr 1
    cases p.testBit n <;> cases q.testBit n <;> simp
theorem xs_zero (rows : List Nat) : ∀ n, xs rows 0 n = 0
  | 0 => rfl
  | n + 1 => by show xs rows 0 n ^^^ _ = 0; rw [xs_zero rows n, Nat.zero_testBit]; simp
theorem xs_more (rows : List Nat) {p n : Nat} (h : p < 2 ^ n) : ∀ k, xs rows p (n + k) = xs rows p n
  | 0 => rfl
  | k + 1 => by
    show xs rows p (n + k) ^^^ (if p.testBit (n + k) then rows.getD (n + k) 0 else 0) = _
    rw [xs_more rows h k, Nat.testBit_lt_two_pow (Nat.lt_of_lt_of_le h (Nat.pow_le_pow_right (by omega) (Nat.le_add_right n k)))]
    exact Nat.xor_zero _
theorem xs_top (rows : List Nat) {n B : Nat} (h : n < B) : xs rows (2 ^ n) B = rows.getD n 0 := by
  have a : xs rows (2 ^ n) n = 0 := by
    have key : ∀ k, k ≤ n → xs rows (2 ^ n) k = 0 := by
      intro k
      induction k with
      | zero => intro _; rfl
      | succ k ih =>
        intro hk
        show xs rows (2 ^ n) k ^^^ _ = 0
        rw [ih (by omega), Nat.testBit_two_pow, decide_eq_false (by omega)]; simp
    exact key n (Nat.le_refl n)
  have b : xs rows (2 ^ n) (n + 1) = rows.getD n 0 := by
    show xs rows (2 ^ n) n ^^^ _ = _
    rw [a, Nat.testBit_two_pow_self]; exact Nat.zero_xor _
  obtain ⟨k, rfl⟩ : ∃ k, B = n + 1 + k := ⟨B - (n + 1), by omega⟩
  rw [xs_more rows (Nat.pow_lt_pow_right (by omega) (by omega)) k, b]
/-- a kept row is the odd sum of the rows at its places -/
theorem fold_xs (rows : List Nat) (B : Nat) : ∀ (ks : List KT) (s : Nat × Nat), (∀ t ∈ ks, t.2.1 = xs rows t.2.2 B) → (ks.foldl lesS s).1 ^^^ xs rows (ks.foldl lesS s).2 B = s.1 ^^^ xs rows s.2 B
  | [], s, _ => rfl
  | t :: ks, s, h => by
    rw [List.foldl_cons, fold_xs rows B ks (lesS s t) fun u hu => h u (List.mem_cons_of_mem _ hu)]
    unfold lesS
    split
    · have ht := h t List.mem_cons_self
      show (s.1 ^^^ t.2.1) ^^^ xs rows (s.2 ^^^ t.2.2) B = _
      rw [xs_xor, ← ht, xor_in]
    · rfl
theorem kept_xs (rows : List Nat) (B : Nat) : ∀ n, n ≤ B → ∀ t ∈ keptN rows n, t.2.1 = xs rows t.2.2 B
  | 0, _, t, h => by cases h
  | n + 1, hn, t, h => by
    rw [keptN_succ] at h
    split at h
    · rcases List.mem_append.1 h with y | y
      · exact kept_xs rows B n (by omega) t y
      · rw [List.mem_singleton.1 y]
        have := fold_xs rows B (keptN rows n) (rows.getD n 0, 0) (kept_xs rows B n (by omega))
        show (lessen (rows.getD n 0) (keptN rows n)).1 = xs rows ((lessen (rows.getD n 0) (keptN rows n)).2 ^^^ 2 ^ n) B
        rw [xs_xor, xs_top rows (by omega)]
        have this : (lessen (rows.getD n 0) (keptN rows n)).1 ^^^ xs rows (lessen (rows.getD n 0) (keptN rows n)).2 B = rows.getD n 0 ^^^ xs rows 0 B := this
        rw [xs_zero, Nat.xor_zero] at this
        generalize lessen (rows.getD n 0) (keptN rows n) = u at this ⊢
        rw [← this]
        exact (xor_back _ _).symm
    · exact kept_xs rows B n (by omega) t h
theorem les_xs (rows : List Nat) (row : Nat) {n : Nat} : (lessen row (keptN rows n)).1 ^^^ xs rows (lessen row (keptN rows n)).2 n = row := by
  have := fold_xs rows n (keptN rows n) (row, 0) (kept_xs rows n n (Nat.le_refl n))
  show _ = row
  have this : (lessen row (keptN rows n)).1 ^^^ xs rows (lessen row (keptN rows n)).2 n = row ^^^ xs rows 0 n := this
  rw [this, xs_zero, Nat.xor_zero]
/-- the bits of what is told lie in the basis -/
def InB (pl : List Nat) (p : Nat) : Prop := ∀ k, p.testBit k = true → k ∈ pl
theorem inB_xor {pl : List Nat} {p q : Nat} (h1 : InB pl p) (h2 : InB pl q) : InB pl (p ^^^ q) := fun k hk => by
  rw [Nat.testBit_xor] at hk
  cases e : p.testBit k with
  | true => exact h1 k e
  | false => rw [e, Bool.false_xor] at hk; exact h2 k hk
theorem fold_inB (pl : List Nat) : ∀ (ks : List KT) (s : Nat × Nat), InB pl s.2 → (∀ t ∈ ks, InB pl t.2.2) → InB pl (ks.foldl lesS s).2
  | [], s, h, _ => h
  | t :: ks, s, h, hk => by
    refine fold_inB pl ks (lesS s t) ?_ fun u hu => hk u (List.mem_cons_of_mem _ hu)
    unfold lesS
    split
    · exact inB_xor h (hk t List.mem_cons_self)
    · exact h
theorem inB_zero (pl : List Nat) : InB pl 0 := fun k hk => by rw [Nat.zero_testBit] at hk; cases hk
theorem kept_inB (rows : List Nat) : ∀ n, ∀ t ∈ keptN rows n, InB (placesL rows n) t.2.2
  | 0, t, h => by cases h
  | n + 1, t, h => by
    have e := places_succ rows n
    rw [keptN_succ] at h
    split at h
    · next z =>
      rw [if_pos z] at e
      rw [e]
      rcases List.mem_append.1 h with y | y
      · exact fun k hk => List.mem_append.2 (.inl (kept_inB rows n t y k hk))
      · rw [List.mem_singleton.1 y]
        refine inB_xor (fold_inB _ _ _ (inB_zero _) fun u hu k hk => List.mem_append.2 (.inl (kept_inB rows n u hu k hk))) fun k hk => ?_
        rw [Nat.testBit_two_pow] at hk
        rw [← of_decide_eq_true hk]; simp
    · next z =>
      rw [if_neg z] at e
      rw [e]
      exact kept_inB rows n t h
theorem les_inB (rows : List Nat) (row n : Nat) : InB (placesL rows n) (lessen row (keptN rows n)).2 := fold_inB _ _ _ (inB_zero _) (kept_inB rows n)
/-- the odd sum, place by place -/
theorem xs_gls (rows : List Nat) (p r : Nat) : ∀ n, (gls n p).foldl (fun r k => r ^^^ rows.getD k 0) r = r ^^^ xs rows p n
  | 0 => by show r = r ^^^ 0; rw [Nat.xor_zero]
  | n + 1 => by
    rw [gls_succ, List.foldl_append, xs_gls rows p r n]
    show _ = r ^^^ (xs rows p n ^^^ _)
    cases p.testBit n with
    | true => show r ^^^ xs rows p n ^^^ rows.getD n 0 = _; rw [Nat.xor_assoc]; rfl
    | false => show r ^^^ xs rows p n = r ^^^ (xs rows p n ^^^ 0); rw [Nat.xor_zero]
end DP

set_option Elab.async false
set_option linter.all false
set_option maxRecDepth 100000
set_option maxHeartbeats 4000000
namespace DP
open PySem PySem.Spec PyProof.Rows L2 DL
variable [ClsV]
/-! what the kept rows leave is linear, and nothing of every odd sum -/
def leftK (ks : List KT) (r : Nat) : Nat := ks.foldl (fun r t => if r.testBit t.1 then r ^^^ t.2.1 else r) r
theorem les_leftK : ∀ (ks : List KT) (s : Nat × Nat), (ks.foldl lesS s).1 = leftK ks s.1
  | [], s => rfl
  | t :: ks, s => by
    show (ks.foldl lesS (lesS s t)).1 = leftK ks (if s.1.testBit t.1 then s.1 ^^^ t.2.1 else s.1)
    rw [les_leftK ks]
    unfold lesS
    cases s.1.testBit t.1 <;> rfl
theorem leftK_lin : ∀ (ks : List KT) (a b : Nat), leftK ks (a ^^^ b) = leftK ks a ^^^ leftK ks b
  | [], a, b => rfl
  | t :: ks, a, b => by
    show leftK ks (if (a ^^^ b).testBit t.1 then a ^^^ b ^^^ t.2.1 else a ^^^ b) = leftK ks (if a.testBit t.1 then a ^^^ t.2.1 else a) ^^^ leftK ks (if b.testBit t.1 then b ^^^ t.2.1 else b)
    rw [← leftK_lin ks, Nat.testBit_xor]
    refine congrArg _ ?_
    cases a.testBit t.1 <;> cases b.testBit t.1
    · rfl
    · show a ^^^ b ^^^ t.2.1 = a ^^^ (b ^^^ t.2.1); rw [Nat.xor_assoc]
    · show a ^^^ b ^^^ t.2.1 = a ^^^ t.2.1 ^^^ b; rw [Nat.xor_assoc, Nat.xor_comm b, ← Nat.xor_assoc]
    · show a ^^^ b = a ^^^ t.2.1 ^^^ (b ^^^ t.2.1); rw [xor_mid, Nat.xor_self, Nat.xor_zero]
theorem leftK_zero : ∀ ks : List KT, leftK ks 0 = 0
  | [] => rfl
  | t :: ks => by
    show leftK ks (if (0 : Nat).testBit t.1 then 0 ^^^ t.2.1 else 0) = 0
    rw [Nat.zero_testBit]; exact leftK_zero ks
theorem leftK_app (ks ls : List KT) (r : Nat) : leftK (ks ++ ls) r = leftK ls (leftK ks r) := by unfold leftK; rw [List.foldl_append]
theorem left_les2 (ks : List KT) (r : Nat) : (lessen r ks).1 = leftK ks r := les_leftK ks (r, 0)
theorem leftK_row (rows : List Nat) : ∀ n i, i < n → leftK (keptN rows n) (rows.getD i 0) = 0
  | 0, i, h => absurd h (by omega)
  | n + 1, i, h => by
    rw [keptN_succ]
    by_cases z : 0 < (lessen (rows.getD n 0) (keptN rows n)).1
    · rw [if_pos z, leftK_app]
      by_cases y : i < n
      · rw [leftK_row rows n i y]; exact leftK_zero _
      · have e : i = n := by omega
        subst e
        rw [left_les2] at z ⊢
        show (if (leftK (keptN rows i) (rows.getD i 0)).testBit (leftK (keptN rows i) (rows.getD i 0)).log2 then _ else _) = 0
        rw [if_pos (Nat.testBit_log2 (by omega))]
        exact Nat.xor_self _
    · rw [if_neg z]
      by_cases y : i < n
      · exact leftK_row rows n i y
      · have e : i = n := by omega
        subst e
        rw [left_les2] at z
        omega
theorem leftK_xs (rows : List Nat) (p N : Nat) : ∀ n, n ≤ N → leftK (keptN rows N) (xs rows p n) = 0
  | 0, _ => leftK_zero _
  | n + 1, h => by
    show leftK _ (xs rows p n ^^^ (if p.testBit n then rows.getD n 0 else 0)) = 0
    rw [leftK_lin, leftK_xs rows p N n (by omega), Nat.zero_xor]
    cases p.testBit n
    · exact leftK_zero _
    · exact leftK_row rows N n (by omega)
/-- a row is an odd sum of the rows just when the kept rows leave nothing of it -/
def InSp (rows : List Nat) (x : Nat) : Prop := ∃ p, xs rows p rows.length = x
theorem inSp_iff (rows : List Nat) (x : Nat) : InSp rows x ↔ leftK (keptN rows rows.length) x = 0 := by
  constructor
  · rintro ⟨p, rfl⟩; exact leftK_xs rows p _ _ (Nat.le_refl _)
  · intro h
    have e := les_xs rows x (n := rows.length)
    rw [left_les2, h, Nat.zero_xor] at e
    exact ⟨_, e⟩
theorem inSp_xor {rows : List Nat} {x y : Nat} (h1 : InSp rows x) (h2 : InSp rows y) : InSp rows (x ^^^ y) := by
  rw [inSp_iff] at *
  rw [leftK_lin, h1, h2]; rfl
end DP

set_option Elab.async false
set_option linter.all false
set_option maxRecDepth 100000
set_option maxHeartbeats 4000000
namespace DP
open PySem PySem.Spec PyProof.Rows L2 DL
variable [ClsV]
/-! the rank: the kept rows' highest givens are the highest givens of the odd sums -/
def topsK (rows : List Nat) : List Nat := (keptN rows rows.length).map (·.1)
theorem kept_top (rows : List Nat) : ∀ n, ∀ t ∈ keptN rows n, t.2.1 ≠ 0 ∧ t.1 = t.2.1.log2
  | 0, t, h => by cases h
  | n + 1, t, h => by
    rw [keptN_succ] at h
    by_cases z : 0 < (lessen (rows.getD n 0) (keptN rows n)).1
    · rw [if_pos z, List.mem_append, List.mem_singleton] at h
      rcases h with h | h
      · exact kept_top rows n t h
      · subst h; exact ⟨by show (lessen _ _).1 ≠ 0; omega, rfl⟩
    · rw [if_neg z] at h; exact kept_top rows n t h
def Apart (a b : KT) : Prop := b.2.1.testBit a.1 = false
theorem leftK_keeps {k : Nat} : ∀ (ks : List KT) (r : Nat), r.testBit k = false → (∀ t ∈ ks, t.2.1.testBit k = false) → (leftK ks r).testBit k = false
  | [], r, h, _ => h
  | t :: ks, r, h, hk => by
    show (leftK ks (if r.testBit t.1 then r ^^^ t.2.1 else r)).testBit k = false
    refine leftK_keeps ks _ ?_ fun u hu => hk u (List.mem_cons_of_mem _ hu)
    cases r.testBit t.1
    · exact h
    · show (r ^^^ t.2.1).testBit k = false
      rw [Nat.testBit_xor, h, hk t List.mem_cons_self]; rfl
theorem leftK_clear : ∀ (ks : List KT) (r : Nat), ks.Pairwise Apart → (∀ t ∈ ks, t.2.1 ≠ 0 ∧ t.1 = t.2.1.log2) → ∀ t ∈ ks, (leftK ks r).testBit t.1 = false
  | [], r, _, _, t, h => by cases h
  | u :: ks, r, pw, ht, t, h => by
    rw [List.pairwise_cons] at pw
    show (leftK ks (if r.testBit u.1 then r ^^^ u.2.1 else r)).testBit t.1 = false
    rcases List.mem_cons.1 h with h | h
    · subst h
      refine leftK_keeps ks _ ?_ fun v hv => pw.1 v hv
      obtain ⟨a, b⟩ := ht t List.mem_cons_self
      have tb : t.2.1.testBit t.1 = true := by rw [b]; exact Nat.testBit_log2 a
      cases e : r.testBit t.1
      · exact e
      · show (r ^^^ t.2.1).testBit t.1 = false
        rw [Nat.testBit_xor, e, tb]; rfl
    · exact leftK_clear ks _ pw.2 (fun v hv => ht v (List.mem_cons_of_mem _ hv)) t h
theorem kept_apart (rows : List Nat) : ∀ n, (keptN rows n).Pairwise Apart
  | 0 => .nil
  | n + 1 => by
    rw [keptN_succ]
    by_cases z : 0 < (lessen (rows.getD n 0) (keptN rows n)).1
    · rw [if_pos z, List.pairwise_append]
      refine ⟨kept_apart rows n, List.pairwise_singleton _ _, fun t ht u hu => ?_⟩
      rw [List.mem_singleton] at hu
      subst hu
      show (lessen (rows.getD n 0) (keptN rows n)).1.testBit t.1 = false
      rw [left_les2]
      exact leftK_clear _ _ (kept_apart rows n) (kept_top rows n) t ht
    · rw [if_neg z]; exact kept_apart rows n
theorem tops_nodup (rows : List Nat) : (topsK rows).Nodup := by
  unfold topsK List.Nodup
  rw [List.pairwise_map]
  refine (kept_apart rows rows.length).imp_of_mem fun {a b} ha hb h e => ?_
  obtain ⟨x, y⟩ := kept_top rows _ b hb
  have : b.2.1.testBit b.1 = true := by rw [y]; exact Nat.testBit_log2 x
  unfold Apart at h
  rw [e, this] at h
  cases h
theorem leftK_top : ∀ (ks : List KT) (r : Nat), r ≠ 0 → (∀ t ∈ ks, t.2.1 ≠ 0 ∧ t.1 = t.2.1.log2) → r.log2 ∉ ks.map (·.1) → leftK ks r ≠ 0 ∧ (leftK ks r).log2 = r.log2
  | [], r, h, _, _ => ⟨h, rfl⟩
  | t :: ks, r, h, ht, hn => by
    rw [List.map_cons, List.mem_cons, not_or] at hn
    obtain ⟨a, b⟩ := ht t List.mem_cons_self
    show leftK ks (if r.testBit t.1 then r ^^^ t.2.1 else r) ≠ 0 ∧ (leftK ks (if r.testBit t.1 then r ^^^ t.2.1 else r)).log2 = r.log2
    have hr : r < 2 ^ (r.log2 + 1) := Nat.lt_log2_self
    cases e : r.testBit t.1
    · exact leftK_top ks r h (fun v hv => ht v (List.mem_cons_of_mem _ hv)) hn.2
    · have l1 : t.1 ≤ r.log2 := (Nat.le_log2 h).2 (Nat.ge_two_pow_of_testBit e)
      have l2 : t.1 < r.log2 := by have := hn.1; omega
      have l3 : t.2.1 < 2 ^ r.log2 := (Nat.log2_lt a).1 (by omega)
      have bt : (r ^^^ t.2.1).testBit r.log2 = true := by rw [Nat.testBit_xor, Nat.testBit_log2 h, Nat.testBit_lt_two_pow l3]; rfl
      have nz : r ^^^ t.2.1 ≠ 0 := fun z => by rw [z, Nat.zero_testBit] at bt; cases bt
      have lt : r ^^^ t.2.1 < 2 ^ (r.log2 + 1) := Nat.xor_lt_two_pow hr (by rw [Nat.pow_succ]; omega)
      have lg : (r ^^^ t.2.1).log2 = r.log2 := by
        have g1 := (Nat.le_log2 nz).2 (Nat.ge_two_pow_of_testBit bt)
        have g2 := (Nat.log2_lt nz).2 lt
        omega
      have := leftK_top ks (r ^^^ t.2.1) nz (fun v hv => ht v (List.mem_cons_of_mem _ hv)) (by rw [lg]; exact hn.2)
      rw [lg] at this
      exact this
theorem mem_tops (rows : List Nat) (b : Nat) : b ∈ topsK rows ↔ ∃ x, x ≠ 0 ∧ InSp rows x ∧ x.log2 = b := by
  constructor
  · intro h
    obtain ⟨t, ht, rfl⟩ := List.mem_map.1 h
    obtain ⟨a, e⟩ := kept_top rows _ t ht
    exact ⟨t.2.1, a, ⟨t.2.2, (kept_xs rows rows.length _ (Nat.le_refl _) t ht).symm⟩, e.symm⟩
  · rintro ⟨x, h, hx, rfl⟩
    refine Classical.byContradiction fun n => ?_
    exact (leftK_top _ x h (kept_top rows _) n).1 ((inSp_iff rows x).1 hx)
theorem rank_eq {rows rows' : List Nat} (h : ∀ x, InSp rows x ↔ InSp rows' x) : (keptN rows rows.length).length = (keptN rows' rows'.length).length := by
  have e : (topsK rows).Perm (topsK rows') := by
    refine (List.perm_ext_iff_of_nodup (tops_nodup rows) (tops_nodup rows')).2 fun b => ?_
    rw [mem_tops, mem_tops]
    exact exists_congr fun x => and_congr_right fun _ => and_congr_left fun _ => h x
  have := e.length_eq
  unfold topsK at this
  rw [List.length_map, List.length_map] at this
  exact this
end DP

set_option Elab.async false
set_option linter.all false
set_option maxRecDepth 100000
set_option maxHeartbeats 4000000
namespace DP
open PySem PySem.Spec PyProof.Rows L2 DL
variable [ClsV]
/-! spans compared -/
/-! what a row tells at a setting, as a truth -/
def tl (r s : Nat) : Bool := decide (par (r &&& s) = 1)
theorem par_01 (n : Nat) : par n = 0 ∨ par n = 1 := by have := par_lt n; omega
theorem par_zero : par 0 = 0 := by unfold par; rw [popc_zero]
theorem tl_nat (r s : Nat) : par (r &&& s) = (tl r s).toNat := by
  unfold tl; rcases par_01 (r &&& s) with h | h <;> simp [h]
theorem tl_xr (r s t : Nat) : tl r (s ^^^ t) = (tl r s ^^ tl r t) := by
  unfold tl
  rw [Nat.and_xor_distrib_left, par_xor]
  rcases par_01 (r &&& s) with h | h <;> rcases par_01 (r &&& t) with g | g <;> simp [h, g]
theorem tl_comm (r s : Nat) : tl r s = tl s r := by unfold tl; rw [Nat.and_comm]
theorem tl_xl (r q s : Nat) : tl (r ^^^ q) s = (tl r s ^^ tl q s) := by rw [tl_comm, tl_xr, tl_comm s, tl_comm s]
theorem tl_0r (r : Nat) : tl r 0 = false := by unfold tl; rw [Nat.and_zero, par_zero]; rfl
theorem tl_0l (r : Nat) : tl 0 r = false := by unfold tl; rw [Nat.zero_and, par_zero]; rfl
theorem popc_p2 : ∀ k : Nat, popc (2 ^ k) = 1
  | 0 => by rw [popc_eq]; show 1 + popc 0 = 1; rw [popc_zero]
  | k + 1 => by
    rw [popc_eq, Nat.pow_succ, Nat.mul_mod_left, Nat.mul_div_cancel _ (by omega), popc_p2 k]
theorem and_p2 (r k : Nat) : r &&& 2 ^ k = if r.testBit k then 2 ^ k else 0 := by
  refine Nat.eq_of_testBit_eq fun i => ?_
  rw [Nat.testBit_and, Nat.testBit_two_pow]
  by_cases h : k = i
  · subst h
    cases e : r.testBit k
    · simp
    · simp [Nat.testBit_two_pow_self]
  · cases e : r.testBit k
    · simp [h]
    · simp [h, Nat.testBit_two_pow]
theorem tl_p2 (r k : Nat) : tl r (2 ^ k) = r.testBit k := by
  unfold tl
  rw [and_p2]
  cases r.testBit k
  · rw [if_neg (by decide), par_zero]; rfl
  · rw [if_pos rfl]; unfold par; rw [popc_p2]; rfl
/-! columns -/
def colW (rows : List Nat) (g : Nat) : Nat → Nat
  | 0 => 0
  | n + 1 => colW rows g n ^^^ (if (rows.getD n 0).testBit g then 2 ^ n else 0)
theorem colW_lt (rows : List Nat) (g : Nat) : ∀ n, colW rows g n < 2 ^ n
  | 0 => by show 0 < 1; omega
  | n + 1 => by
    refine Nat.xor_lt_two_pow (Nat.lt_of_lt_of_le (colW_lt rows g n) (Nat.pow_le_pow_right (by omega) (by omega))) ?_
    split
    · exact Nat.pow_lt_pow_right (by omega) (by omega)
    · exact Nat.two_pow_pos _
theorem colW_bit (rows : List Nat) (g i : Nat) : ∀ n, (colW rows g n).testBit i = (decide (i < n) && (rows.getD i 0).testBit g)
  | 0 => by simp [colW]
  | n + 1 => by
    show (colW rows g n ^^^ _).testBit i = _
    rw [Nat.testBit_xor, colW_bit rows g i n]
    rcases Nat.lt_trichotomy i n with h | h | h
    · have : (if (rows.getD n 0).testBit g then 2 ^ n else 0).testBit i = false := by
        split
        · rw [Nat.testBit_two_pow, decide_eq_false (by omega)]
        · exact Nat.zero_testBit i
      rw [this, decide_eq_true h, decide_eq_true (by omega), Bool.xor_false]
    · subst h
      rw [decide_eq_false (by omega), decide_eq_true (by omega), Bool.false_and, Bool.false_xor, Bool.true_and]
      split
      · next e => rw [Nat.testBit_two_pow_self, e]
      · next e => rw [Nat.zero_testBit]; simpa using e
    · have : (if (rows.getD n 0).testBit g then 2 ^ n else 0).testBit i = false := by
        split
        · rw [Nat.testBit_two_pow, decide_eq_false (by omega)]
        · exact Nat.zero_testBit i
      rw [this, decide_eq_false (by omega), decide_eq_false (by omega)]; rfl
def colsL (m : Nat) (rows : List Nat) : List Nat := (List.range m).map fun g => colW rows g rows.length
theorem cols_len (m : Nat) (rows : List Nat) : (colsL m rows).length = m := by simp [colsL]
theorem cols_get {m g : Nat} (rows : List Nat) (h : g < m) : (colsL m rows).getD g 0 = colW rows g rows.length := by
  unfold colsL
  rw [List.getD_eq_getElem?_getD, List.getElem?_map, List.getElem?_range h]; rfl
theorem mod_top (s n : Nat) : s % 2 ^ (n + 1) = s % 2 ^ n ^^^ (if s.testBit n then 2 ^ n else 0) := by
  refine Nat.eq_of_testBit_eq fun i => ?_
  rw [Nat.testBit_mod_two_pow, Nat.testBit_xor, Nat.testBit_mod_two_pow]
  rcases Nat.lt_trichotomy i n with h | h | h
  · have : (if s.testBit n then 2 ^ n else 0).testBit i = false := by
      split
      · rw [Nat.testBit_two_pow, decide_eq_false (by omega)]
      · exact Nat.zero_testBit i
    rw [this, decide_eq_true h, decide_eq_true (by omega), Bool.xor_false]
  · subst h
    rw [decide_eq_true (show i < i + 1 by omega), decide_eq_false (show ¬ i < i by omega), Bool.false_and, Bool.false_xor, Bool.true_and]
    split
    · next e => rw [Nat.testBit_two_pow_self, e]
    · next e => rw [Nat.zero_testBit]; simpa using e
  · have : (if s.testBit n then 2 ^ n else 0).testBit i = false := by
      split
      · rw [Nat.testBit_two_pow, decide_eq_false (by omega)]
      · exact Nat.zero_testBit i
    rw [this, decide_eq_false (by omega), decide_eq_false (by omega)]; rfl
/-- the odd sum of the columns of a setting tells, bit by bit, what the rows tell -/
theorem xs_cols (m : Nat) (rows : List Nat) (s i : Nat) : ∀ n, n ≤ m → (xs (colsL m rows) s n).testBit i = (decide (i < rows.length) && tl (rows.getD i 0) (s % 2 ^ n))
  | 0, _ => by
    show (0 : Nat).testBit i = _
    rw [Nat.pow_zero, Nat.mod_one, tl_0r, Nat.zero_testBit, Bool.and_false]
  | n + 1, h => by
    show (xs (colsL m rows) s n ^^^ _).testBit i = _
    rw [Nat.testBit_xor, xs_cols m rows s i n (by omega), mod_top, tl_xr]
    have : (if s.testBit n then (colsL m rows).getD n 0 else 0).testBit i = (decide (i < rows.length) && tl (rows.getD i 0) (if s.testBit n then 2 ^ n else 0)) := by
      split
      · rw [cols_get rows (by omega), colW_bit, tl_p2]
      · rw [tl_0r, Nat.zero_testBit, Bool.and_false]
    rw [this]
    cases decide (i < rows.length) <;> simp
theorem xs_lt {rows : List Nat} {B : Nat} (h : ∀ r ∈ rows, r < 2 ^ B) (p : Nat) : ∀ n, xs rows p n < 2 ^ B
  | 0 => Nat.two_pow_pos B
  | n + 1 => by
    refine Nat.xor_lt_two_pow (xs_lt h p n) ?_
    split
    · rw [List.getD_eq_getElem?_getD]
      cases e : rows[n]? with
      | none => exact Nat.two_pow_pos B
      | some x => exact h x (List.mem_of_getElem? e)
    · exact Nat.two_pow_pos B
/-- a setting at which every row tells 0 -/
def Bl (rows : List Nat) (s : Nat) : Prop := ∀ r ∈ rows, tl r s = false
theorem getD_mem {l : List Nat} {i : Nat} (h : i < l.length) : l.getD i 0 ∈ l := by
  rw [List.getD_eq_getElem?_getD, List.getElem?_eq_getElem h]; exact List.getElem_mem h
theorem mem_getD {l : List Nat} {x : Nat} (h : x ∈ l) : ∃ i, i < l.length ∧ l.getD i 0 = x := by
  obtain ⟨i, hi, e⟩ := List.mem_iff_getElem.1 h
  exact ⟨i, hi, by rw [List.getD_eq_getElem?_getD, List.getElem?_eq_getElem hi, ← e]; rfl⟩
/-- rows told by a number's bits -/
theorem xs_told {m : Nat} (rows : List Nat) {s a : Nat} (hs : s < 2 ^ m) (ha : a < 2 ^ rows.length) : xs (colsL m rows) s m = a ↔ ∀ i, i < rows.length → tl (rows.getD i 0) s = a.testBit i := by
  have e : ∀ i, (xs (colsL m rows) s m).testBit i = (decide (i < rows.length) && tl (rows.getD i 0) s) := fun i => by
    rw [xs_cols m rows s i m (Nat.le_refl m), Nat.mod_eq_of_lt hs]
  constructor
  · intro h i hi
    rw [← h, e i, decide_eq_true hi, Bool.true_and]
  · intro h
    refine Nat.eq_of_testBit_eq fun i => ?_
    rw [e i]
    by_cases hi : i < rows.length
    · rw [decide_eq_true hi, Bool.true_and, h i hi]
    · rw [decide_eq_false hi, Bool.false_and]
      exact (Nat.testBit_lt_two_pow (Nat.lt_of_lt_of_le ha (Nat.pow_le_pow_right (by omega) (by omega)))).symm
theorem xs_blind {m : Nat} (rows : List Nat) {s : Nat} (hs : s < 2 ^ m) : xs (colsL m rows) s m = 0 ↔ Bl rows s := by
  rw [xs_told rows hs (Nat.two_pow_pos _)]
  constructor
  · intro h r hr
    obtain ⟨i, hi, rfl⟩ := mem_getD hr
    rw [h i hi, Nat.zero_testBit]
  · intro h i hi
    rw [h _ (getD_mem hi), Nat.zero_testBit]
/-! the least settings -/
theorem keptN_take (rows : List Nat) (g : Nat) : ∀ n, n ≤ g → keptN (rows.take g) n = keptN rows n
  | 0, _ => rfl
  | n + 1, h => by
    have e : (rows.take g).getD n 0 = rows.getD n 0 := by
      rw [List.getD_eq_getElem?_getD, List.getD_eq_getElem?_getD, List.getElem?_take, if_pos (by omega)]
    rw [keptN_succ, keptN_succ, keptN_take rows g n (by omega), e]
def Dep (cols : List Nat) (g : Nat) : Prop := (lessen (cols.getD g 0) (keptN cols g)).1 = 0
theorem dep_places (cols : List Nat) (g : Nat) : ∀ n, g < n → (g ∈ placesL cols n ↔ ¬ Dep cols g)
  | 0, h => absurd h (by omega)
  | n + 1, h => by
    have lt : ∀ k x, x ∈ placesL cols k → x < k := fun k x hx => by
      unfold placesL at hx
      obtain ⟨t, ht, rfl⟩ := List.mem_map.1 hx
      exact (Nat.log2_lt (by have := its_pos cols ht; omega)).2 (kept_ok cols k t ht).its
    rw [places_succ]
    by_cases e : g = n
    · subst e
      unfold Dep
      split
      · next z => exact ⟨fun _ => by omega, fun _ => by simp⟩
      · next z =>
        have : g ∉ placesL cols g := fun q => by have := lt _ _ q; omega
        exact ⟨fun q => absurd q this, fun q => absurd (by omega) q⟩
    · split
      · rw [List.mem_append, List.mem_singleton, dep_places cols g n (by omega)]; simp [e]
      · exact dep_places cols g n (by omega)
theorem dep_lead (cols : List Nat) {s m : Nat} (hs : s < 2 ^ m) (h0 : s ≠ 0) (h : xs cols s m = 0) : Dep cols s.log2 := by
  have hg : s.log2 < m := (Nat.log2_lt h0).2 hs
  have e : xs cols s (s.log2 + 1) = 0 := by
    obtain ⟨k, rfl⟩ : ∃ k, m = s.log2 + 1 + k := ⟨m - (s.log2 + 1), by omega⟩
    rw [xs_more cols Nat.lt_log2_self k] at h; exact h
  have e2 : xs cols s s.log2 ^^^ (if s.testBit s.log2 then cols.getD s.log2 0 else 0) = 0 := e
  rw [Nat.testBit_log2 h0, if_pos rfl] at e2
  have e3 : cols.getD s.log2 0 = xs cols s s.log2 := by
    have := congrArg (· ^^^ cols.getD s.log2 0) e2
    simp only [Nat.xor_assoc, Nat.xor_self, Nat.xor_zero, Nat.zero_xor] at this
    exact this.symm
  unfold Dep
  rw [left_les2, e3]
  exact leftK_xs cols s s.log2 s.log2 (Nat.le_refl _)
theorem lead_xor {a b : Nat} (h : a ≠ b) (i : Nat) (hi : (a ^^^ b).log2 < i) : a.testBit i = b.testBit i := by
  have : (a ^^^ b).testBit i = false := Nat.testBit_lt_two_pow (Nat.lt_of_lt_of_le Nat.lt_log2_self (Nat.pow_le_pow_right (by omega) (by omega)))
  rw [Nat.testBit_xor] at this
  cases p : a.testBit i <;> cases q : b.testBit i <;> simp_all
theorem xor_ne {a b : Nat} (h : a ≠ b) : a ^^^ b ≠ 0 := fun z => h (by
  have := congrArg (· ^^^ b) z
  simp only [Nat.xor_assoc, Nat.xor_self, Nat.xor_zero, Nat.zero_xor] at this
  exact this)
/-- of the settings with the same odd sum the least has no given that could be left out -/
theorem least_of (cols : List Nat) {p s m : Nat} (hp : p < 2 ^ m) (hs : s < 2 ^ m) (hb : ∀ h, Dep cols h → p.testBit h = false) (e : xs cols p m = xs cols s m) : p ≤ s := by
  rcases Nat.lt_or_ge s p with h | h
  · exfalso
    have ne : p ≠ s := by omega
    have x0 := xor_ne ne
    have d := dep_lead cols (Nat.xor_lt_two_pow hp hs) x0 (by rw [xs_xor, e, Nat.xor_self])
    have b1 := hb _ d
    have b2 : (p ^^^ s).testBit (p ^^^ s).log2 = true := Nat.testBit_log2 x0
    rw [Nat.testBit_xor, b1, Bool.false_xor] at b2
    have := lt_bit b1 b2 fun j hj => lead_xor ne j hj
    omega
  · exact h
theorem les_free (cols : List Nat) (a n h : Nat) (hd : Dep cols h) : (lessen a (keptN cols n)).2.testBit h = false := by
  cases e : (lessen a (keptN cols n)).2.testBit h with
  | false => rfl
  | true =>
    have h1 := les_inB cols a n h e
    have h2 : h < n := by
      rcases Nat.lt_or_ge h n with z | z
      · exact z
      · rw [Nat.testBit_lt_two_pow (Nat.lt_of_lt_of_le (les_its cols a n) (Nat.pow_le_pow_right (by omega) z))] at e; cases e
    exact absurd hd ((dep_places cols h n h2).1 h1)
/-- the blind setting with g as its highest given -/
def blS (cols : List Nat) (g : Nat) : Nat := (lessen (cols.getD g 0) (keptN cols g)).2 ^^^ 2 ^ g
theorem blS_log (cols : List Nat) (g : Nat) : (blS cols g).log2 = g := log2_xor (les_its cols _ g)
theorem blS_lt (cols : List Nat) (g : Nat) : blS cols g < 2 ^ (g + 1) :=
  Nat.xor_lt_two_pow (Nat.lt_of_lt_of_le (les_its cols _ g) (Nat.pow_le_pow_right (by omega) (by omega))) (Nat.pow_lt_pow_right (by omega) (by omega))
theorem blS_top (cols : List Nat) (g : Nat) : (blS cols g).testBit g = true := by
  unfold blS; rw [Nat.testBit_xor, Nat.testBit_lt_two_pow (les_its cols _ g), Nat.testBit_two_pow_self]; rfl
theorem blS_ge (cols : List Nat) (g : Nat) : 2 ^ g ≤ blS cols g := Nat.ge_two_pow_of_testBit (blS_top cols g)
theorem blS_free (cols : List Nat) {g h : Nat} (hd : Dep cols h) (ne : h ≠ g) : (blS cols g).testBit h = false := by
  unfold blS
  rw [Nat.testBit_xor, les_free cols _ g h hd, Nat.testBit_two_pow, decide_eq_false (Ne.symm ne)]; rfl
theorem blS_xs (cols : List Nat) {g m : Nat} (hg : g < m) (hd : Dep cols g) : xs cols (blS cols g) m = 0 := by
  have e := les_xs cols (cols.getD g 0) (n := g)
  have hd' : (lessen (cols.getD g 0) (keptN cols g)).1 = 0 := hd
  rw [hd', Nat.zero_xor] at e
  unfold blS
  obtain ⟨k, rfl⟩ : ∃ k, m = g + k := ⟨m - g, by omega⟩
  rw [xs_xor, xs_top cols hg, xs_more cols (les_its cols _ g) k, e, Nat.xor_self]
theorem blS_least (cols : List Nat) {g s m : Nat} (hg : g < m) (hd : Dep cols g) (hs : s < 2 ^ m) (h : xs cols s m = 0) (hl : s.testBit g = true) : blS cols g ≤ s := by
  rcases Nat.lt_or_ge s (blS cols g) with z | z
  · exfalso
    have ne : blS cols g ≠ s := by omega
    have x0 := xor_ne ne
    have bl : blS cols g < 2 ^ m := Nat.lt_of_lt_of_le (blS_lt cols g) (Nat.pow_le_pow_right (by omega) (by omega))
    have d := dep_lead cols (Nat.xor_lt_two_pow bl hs) x0 (by rw [xs_xor, h, blS_xs cols hg hd, Nat.xor_self])
    have b2 : (blS cols g ^^^ s).testBit (blS cols g ^^^ s).log2 = true := Nat.testBit_log2 x0
    have nq : (blS cols g ^^^ s).log2 ≠ g := fun q => by
      rw [q, Nat.testBit_xor, blS_top, hl] at b2; cases b2
    have b1 := blS_free cols d nq
    rw [Nat.testBit_xor, b1, Bool.false_xor] at b2
    have := lt_bit b1 b2 fun j hj => lead_xor ne j hj
    omega
  · exact z
def blL (cols : List Nat) : Nat → List Nat
  | 0 => []
  | n + 1 => if (lessen (cols.getD n 0) (keptN cols n)).1 = 0 then blL cols n ++ [blS cols n] else blL cols n
theorem mem_blL (cols : List Nat) (x : Nat) : ∀ n, x ∈ blL cols n ↔ ∃ g, g < n ∧ Dep cols g ∧ x = blS cols g
  | 0 => by simp [blL]
  | n + 1 => by
    show x ∈ (if _ then _ else _) ↔ _
    split
    · next z =>
      rw [List.mem_append, List.mem_singleton, mem_blL cols x n]
      constructor
      · rintro (⟨g, a, b, c⟩ | h)
        · exact ⟨g, by omega, b, c⟩
        · exact ⟨n, by omega, z, h⟩
      · rintro ⟨g, a, b, c⟩
        by_cases e : g = n
        · subst e; exact .inr c
        · exact .inl ⟨g, by omega, b, c⟩
    · next z =>
      rw [mem_blL cols x n]
      constructor
      · rintro ⟨g, a, b, c⟩; exact ⟨g, by omega, b, c⟩
      · rintro ⟨g, a, b, c⟩
        by_cases e : g = n
        · subst e; exact absurd b z
        · exact ⟨g, by omega, b, c⟩
theorem blL_lt (cols : List Nat) {x n : Nat} (h : x ∈ blL cols n) : x < 2 ^ n := by
  obtain ⟨g, a, b, rfl⟩ := (mem_blL cols x n).1 h
  exact Nat.lt_of_lt_of_le (blS_lt cols g) (Nat.pow_le_pow_right (by omega) (by omega))
theorem blL_rise (cols : List Nat) : ∀ n, (blL cols n).Pairwise (· < ·)
  | 0 => .nil
  | n + 1 => by
    show (if _ then _ else _ : List Nat).Pairwise _
    split
    · rw [List.pairwise_append]
      refine ⟨blL_rise cols n, List.pairwise_singleton _ _, fun a ha b hb => ?_⟩
      rw [List.mem_singleton] at hb; subst hb
      exact Nat.lt_of_lt_of_le (blL_lt cols ha) (blS_ge cols n)
    · exact blL_rise cols n
theorem blL_len (cols : List Nat) : ∀ n, (blL cols n).length + (placesL cols n).length = n
  | 0 => rfl
  | n + 1 => by
    have ih := blL_len cols n
    rw [places_succ]
    show (if _ then _ else _ : List Nat).length + _ = _
    by_cases z : (lessen (cols.getD n 0) (keptN cols n)).1 = 0
    · rw [if_pos z, if_neg (by omega), List.length_append, List.length_singleton]; omega
    · rw [if_neg z, if_pos (by omega), List.length_append, List.length_singleton]; omega
/-! the blind settings lessen a setting -/
def ktOf (s : Nat) : KT := (s.log2, s, 0)
theorem leftL_kt : ∀ (l : List Nat) (r : Nat), (∀ x ∈ l, 0 < x) → leftL r l = leftK (l.map ktOf) r
  | [], r, _ => rfl
  | o :: l, r, h => by
    show leftL (min r (r ^^^ o)) l = leftK (l.map ktOf) (if r.testBit o.log2 then r ^^^ o else r)
    rw [min_xor (h o List.mem_cons_self), leftL_kt l _ fun x hx => h x (List.mem_cons_of_mem _ hx)]
theorem leftK_le : ∀ (l : List Nat) (r : Nat), (∀ x ∈ l, 0 < x) → leftK (l.map ktOf) r ≤ r
  | [], r, _ => Nat.le_refl r
  | o :: l, r, h => by
    show leftK (l.map ktOf) (if r.testBit o.log2 then r ^^^ o else r) ≤ r
    rw [← min_xor (h o List.mem_cons_self)]
    exact Nat.le_trans (leftK_le l _ fun x hx => h x (List.mem_cons_of_mem _ hx)) (Nat.min_le_left _ _)
theorem leftK_xs0 (cols : List Nat) (m : Nat) : ∀ (l : List Nat) (r : Nat), (∀ x ∈ l, xs cols x m = 0) → xs cols (leftK (l.map ktOf) r) m = xs cols r m
  | [], r, _ => rfl
  | o :: l, r, h => by
    show xs cols (leftK (l.map ktOf) (if r.testBit o.log2 then r ^^^ o else r)) m = _
    rw [leftK_xs0 cols m l _ fun x hx => h x (List.mem_cons_of_mem _ hx)]
    split
    · rw [xs_xor, h o List.mem_cons_self, Nat.xor_zero]
    · rfl
theorem leftK_same : ∀ (l : List Nat) (r : Nat), (∀ x ∈ l, r.testBit x.log2 = false) → leftK (l.map ktOf) r = r
  | [], r, _ => rfl
  | o :: l, r, h => by
    show leftK (l.map ktOf) (if r.testBit o.log2 then r ^^^ o else r) = r
    rw [h o List.mem_cons_self]
    exact leftK_same l r fun x hx => h x (List.mem_cons_of_mem _ hx)
theorem leftK_clr {l : List Nat} (pw : l.Pairwise fun a b => b.testBit a.log2 = false) (h0 : ∀ x ∈ l, x ≠ 0) (r : Nat) {x : Nat} (hx : x ∈ l) : (leftK (l.map ktOf) r).testBit x.log2 = false := by
  refine leftK_clear (l.map ktOf) r ?_ ?_ (ktOf x) (List.mem_map.2 ⟨x, hx, rfl⟩)
  · rw [List.pairwise_map]; exact pw
  · intro t ht
    obtain ⟨y, hy, rfl⟩ := List.mem_map.1 ht
    exact ⟨h0 y hy, rfl⟩
end DP

set_option Elab.async false
set_option linter.all false
set_option maxRecDepth 100000
set_option maxHeartbeats 800000
namespace DP
open PySem PySem.Spec PyProof.Rows L2 DL
variable [ClsV]
local macro_rules | `(tactic| walk_at "dw") => `(tactic| ((conv => whnf); (try dsimp only [putOuts, putO, fzR, List.set_cons_zero, List.set_cons_succ, List.getElem?_cons_zero, List.getElem?_cons_succ, startE, arS, List.map_cons, List.map_nil, wipeE, restF, List.length_cons, List.length_nil, Int.toNat_natCast, List.getD_cons_zero, List.getD_cons_succ])))
local macro_rules | `(tactic| walk_at "om") => `(tactic| first | omega | (simp only [List.length_cons, List.length_nil, List.length_map, List.length_append, List.length_replicate, List.length_range, List.length_take, List.length_drop, List.length_set, List.length_reverse, rangeD_len, natsD_len]; omega) | assumption | exact rfl | trivial | (refine And.intro ?_ ?_ <;> walk_at "om"))
local macro_rules | `(tactic| walk_at "im") => `(tactic| first | exact trivial | exact ⟨rfl, rfl⟩ | exact imm_any rfl)
local macro_rules | `(tactic| walk_at "tr") => `(tactic| first | exact rfl | exact trivial | assumption | (refine And.intro ?_ ?_ <;> walk_at "tr"))
local macro_rules | `(tactic| walk_at "go1") => `(tactic| ((first
  | refine Go.go ?_
  | refine g_sub (by walk_at "om") ?_ | refine g_subI ?_
  | refine ifb_t rfl ?_ | refine ifb_f rfl ?_
  | refine ifb_y (by first | omega | walk_at "tr") ?_ | refine ifb_n (by first | omega | assumption | decide +kernel) ?_
  | refine and_imm _ _ _ (by walk_at "im") ?_
  | refine and_immX _ _ _ (by first | exact imm_noneX rfl | exact imm_anyX rfl | exact trivial) ?_
  | refine And.intro (by walk_at "om") ?_
  | refine Got.mk ⟨_, rfl, ?_⟩
  | refine fldR_at (by assumption) (by rfl) ?_ | refine withD_at (by assumption) ?_
  | refine draw_go (by assumption) (by walk_at "om") (by walk_at "om") (by walk_at "om") ?_); walk_at "dw"))
local macro_rules | `(tactic| walk_at "go") => `(tactic| (walk_at "dw"; repeat walk_at "go1"))
local macro_rules | `(tactic| walk_at "h") => `(tactic| try simp only [gEq_h, gIs_h, gIn_h, gI0_h, gB0_h, gAdd_h, gMul_h, gIx_h, gI_h, gU_h, gBits_h, gLen_h, gList_h, gTuple_h, gSum_h, gAll_h, gAny_h, gMax_h, gMin_h, gSorted_h, gInt_h, gIsi_h, gAppend_h, gClear_h, gPop_h, gPopAt_h, gInsert_h, gCount_h, gIndex_h, gRevL_h, gEqV_h, dSet_h, dSetd_h, dSl_h, gInV_h, gCountV_h, gFld_h, rSetF_h, rSetI_h, sp_weight_h, sp_givens_of_h, sp_row_of_h, sp_joined_h, sp_law_whole_h, sp_tells_h, sp_law_draw_h])
local macro_rules | `(tactic| walk_at "giv") => `(tactic| ((refine lc_rN (2 ^ ·) (fun W i acc hi k => ?_) ?_; · (walk_at "go"; exact k _ rfl)); rw [show ∀ m, (List.range m).map (2 ^ ·) = giv m from fun _ => rfl]; walk_at "go"))
abbrev N_uses_of : List Str := ["net", "many", "joins", "outs", "places", "thing", "takers", "place", "at"]
def r_uses_of : DS :=
  (dReg (rSeq (rLs (dAsgG (dVar 0) (dgTup 3 (dgCons (dgName 1) (dgCons (dgName 2) (dgCons (dgName 3) dgNil))))))
  (rSeq (rAsg (rLc (rRng1 (rLA (dCons (dOp gAdd (dVar 1) (dCB gLen (dCons (dVar 2) dNil))) dNil))) (dgName 5) rYes (rL (dLst dNil)) [5]) (dgName 4))
  (rSeq (rAsg (rLc (rRng1 (rLA (dCons (dOp gAdd (dVar 1) (dCB gLen (dCons (dVar 2) dNil))) dNil))) (dgName 5) rYes (rL (dLst dNil)) [5]) (dgName 6))
  (rSeq (rFor (rRng1 (rLA (dCons (dCB gLen (dCons (dVar 3) dNil)) dNil))) (dgName 7) (rDrop (rMut gAppend (rL (dOp gIx (dVar 4) (dOp gIx (dVar 3) (dVar 7)))) (rLA (dCons (dVar 7) dNil)))))
  (rSeq (rFor (rRev1 (rL (dCB gLen (dCons (dVar 2) dNil)))) (dgName 8) (rFor (rSeqI (rL (dOp gIx (dVar 2) (dVar 8)))) (dgName 5) (rDrop (rMut gAppend (rL (dOp gIx (dVar 6) (dVar 5))) (rLA (dCons (dOp gAdd (dVar 1) (dVar 8)) dNil))))))
  (rLs (dRet (dTup (dCons (dVar 4) (dCons (dVar 6) dNil)))))))))))
abbrev N_turned_net : List Str := ["net", "many", "joins", "outs", "places", "takers", "turning", "got", "thing", "uses", "taker"]
def r_turned_net (sp_uses_of : DSp) (sp_Turning___init__ : RSp) (sp_Turning_summed : RSp) : DS :=
  (dReg (rSeq (rLs (dAsgG (dVar 0) (dgTup 3 (dgCons (dgName 1) (dgCons (dgName 2) (dgCons (dgName 3) dgNil))))))
  (rSeq (rLs (dIfS (dOr (dB (dOp (gB0 fun i j => decide (j < i)) (dCB gLen (dCons (dVar 3) dNil)) (dC (.int 12)))) (dB (dOp (gB0 fun i j => decide (j < i)) (dOp (gI0 fun i j => i - j) (dOp gAdd (dCB gLen (dCons (dVar 2) dNil)) (dCB gLen (dCons (dVar 3) dNil))) (dVar 1)) (dC (.int 132))))) (dRaise (dMkT "TooMany")) dNext))
  (rSeq (rLs (dAsgG (dCall0 [false] sp_uses_of (dCons (dVar 0) dNil)) (dgTup 2 (dgCons (dgName 4) (dgCons (dgName 5) dgNil)))))
  (rSeq (rAsg (rMakeR [false] "Turning" sp_Turning___init__ (rLA (dCons (dCB gLen (dCons (dVar 3) dNil)) dNil))) (dgName 6))
  (rSeq (rLs (dAsg (dOp gMul (dLst (dCons (dC (.int 0)) dNil)) (dOp gAdd (dVar 1) (dCB gLen (dCons (dVar 2) dNil)))) 7))
  (rSeq (rFor (rRev1 (rL (dOp gAdd (dVar 1) (dCB gLen (dCons (dVar 2) dNil))))) (dgName 8) (rSeq (rLs (dAsg (dOp gAdd (dOp gIx (dVar 4) (dVar 8)) (dLc (dSeqI (dOp gIx (dVar 5) (dVar 8))) (dgName 10) dYes (dOp gIx (dVar 7) (dVar 10)) [10])) 9))
  (rSeq (rLs (dIfS (dB (dOp (gEqV false) (dVar 9) (dLst dNil))) (dRaise (dMkF "Loose" (dCons (dVar 8) dNil))) dNext))
  (rSetI (rMetR [false, false] "Turning" "summed" sp_Turning_summed (rL (dVar 6)) (rLA (dCons (dVarF 9) (dCons (dVar 8) dNil)))) (rL (dVar 7)) (rL (dVar 8))))))
  (rRet (rP (dTup (dCons (dCB gLen (dCons (dVar 3) dNil)) (dCons (dCB gTuple (dCons (dUn (gFld "Turning" "joins") (dVar 6)) dNil)) (dCons (dCB gTuple (dCons (dSl (dVar 7) dNoPart (dPart (dVar 1))) dNil)) dNil)))))))))))))
/-- the lists of places and of takers -/
structure UsesAt (g : Reg) (n : Nat) (bs cs : List Addr) (A B : Nat → List Nat) : Prop where
  bl : bs.length = n
  cl : cs.length = n
  nd : (bs ++ cs).Nodup
  hb : ∀ t b, bs[t]? = some b → g b = some (.lst (natsD (A t)))
  hc : ∀ t c, cs[t]? = some c → g c = some (.lst (natsD (B t)))
section
variable {g : Reg} {n t x : Nat} {bs cs : List Addr} {A B A' : Nat → List Nat} {b : Addr}
theorem nodup_at {l : List Addr} (nd : l.Nodup) {i j : Nat} (h1 : l[i]? = some b) (h2 : l[j]? = some b) : i = j := by
  obtain ⟨a1, a2⟩ := List.getElem?_eq_some_iff.1 h1
  obtain ⟨b1, b2⟩ := List.getElem?_eq_some_iff.1 h2
  have := List.pairwise_iff_getElem.1 nd
  rcases Nat.lt_trichotomy i j with z | z | z
  · exact absurd (a2.trans b2.symm) (this i j a1 b1 z)
  · exact z
  · exact absurd (b2.trans a2.symm) (this j i b1 a1 z)
theorem UsesAt.ne (h : UsesAt g n bs cs A B) {s : Nat} {c : Addr} (h1 : bs[t]? = some b) (h2 : cs[s]? = some c) : b ≠ c := fun z => by
  have := (List.nodup_append.1 h.nd).2.2 b (List.mem_of_getElem? h1) c (List.mem_of_getElem? h2)
  exact this z
theorem UsesAt.putA (h : UsesAt g n bs cs A B) (hb : bs[t]? = some b) (e : ∀ s, A' s = if s = t then A t ++ [x] else A s) : UsesAt (gset g b (.lst (natsD (A t ++ [x])))) n bs cs A' B :=
  ⟨h.bl, h.cl, h.nd, fun s c hc => by
    by_cases z : s = t
    · subst z
      rw [hb] at hc; cases hc
      rw [gset_same, e, if_pos rfl]
    · have nc : c ≠ b := fun y => by
        subst y
        exact z (nodup_at (List.nodup_append.1 h.nd).1 hc hb)
      rw [gset_ne nc, e, if_neg z]
      exact h.hb s c hc, fun s c hc => by
    rw [gset_ne (h.ne hb hc).symm]
    exact h.hc s c hc⟩
theorem UsesAt.putB (h : UsesAt g n bs cs A B) (hb : cs[t]? = some b) (e : ∀ s, A' s = if s = t then B t ++ [x] else B s) : UsesAt (gset g b (.lst (natsD (B t ++ [x])))) n bs cs A A' :=
  ⟨h.bl, h.cl, h.nd, fun s c hc => by
    rw [gset_ne (h.ne hc hb)]
    exact h.hb s c hc, fun s c hc => by
    by_cases z : s = t
    · subst z
      rw [hb] at hc; cases hc
      rw [gset_same, e, if_pos rfl]
    · have nc : c ≠ b := fun y => by
        subst y
        exact z (nodup_at (List.nodup_append.1 h.nd).2.1 hc hb)
      rw [gset_ne nc, e, if_neg z]
      exact h.hc s c hc⟩
/-- lists of whole numbers -/
def lstsD (n : Nat) (A : Nat → List Nat) : List Dat := (List.range n).map fun t => .lst (natsD (A t))
theorem UsesAt.thw (h : UsesAt g n bs cs A B) : Thw g (.tup [.lst (bs.map rawA), .lst (cs.map rawA)]) (.tup [.lst (lstsD n A), .lst (lstsD n B)]) := by
  have go : ∀ {l : List Addr} {A : Nat → List Nat}, l.length = n → (∀ t b, l[t]? = some b → g b = some (.lst (natsD (A t)))) → Thws g (l.map rawA) (lstsD n A) := fun {l A} hl hg => by
    refine thws_get (by simp [lstsD, hl]) fun i d d' h1 h2 => ?_
    rw [List.getElem?_map] at h1
    obtain ⟨a, ha, rfl⟩ := Option.map_eq_some_iff.1 h1
    unfold lstsD at h2
    rw [List.getElem?_map] at h2
    obtain ⟨k, hk, rfl⟩ := Option.map_eq_some_iff.1 h2
    have := (List.getElem?_eq_some_iff.1 hk).2
    rw [List.getElem_range] at this
    subst this
    exact .lst (hg _ a ha) (Thws.refl _ _)
  exact .tup (.cons (.lstF (go h.bl h.hb)) (.cons (.lstF (go h.cl h.hc)) .nil))
end
instance go_ixLs {i : Int} {t n : Nat} {A : Nat → List Nat} {Q : Res → Prop} [h : IsN i t] : Go (hIx (.lst (lstsD n A)) (.int i) Q) (t < n ∧ Q (.f (.lst (natsD (A t))))) := ⟨fun k => by
  show hIx (.lst ((List.range n).map fun t => Dat.lst (natsD (A t)))) (.int i) Q
  exact go_ixM.go ⟨by rw [List.length_range]; exact k.1, fun x hx => by
    have := (List.getElem?_eq_some_iff.1 hx).2
    rw [List.getElem_range] at this
    subst this
    exact k.2⟩⟩
theorem immL_n : ∀ l : List Nat, immL (natsD l) = true
  | [] => rfl
  | _ :: l => immL_n l
theorem immL_p : ∀ l : List (Nat × Nat), immL (l.map pairD) = true
  | [] => rfl
  | _ :: l => immL_p l
theorem imm_net {m : Nat} {js : List (Nat × Nat)} {os : List Nat} : imm (netD m js os) = true := by
  show (true && (immL (js.map pairD) && (immL (natsD os) && true))) = true
  rw [immL_n, immL_p]; rfl
theorem ins_summed {m : Nat} {ra ja : Addr} : insM "Turning" "summed" (turnD m ra ja) := ⟨rfl, by rfl⟩
inductive sp_uses_of : DSp
  | mk {m : Nat} {js : List (Nat × Nat)} {os : List Nat} {Q X} (ok : NetT m js os) (q : Q (.f (.tup [.lst (lstsD (m + js.length) (plP os)), .lst (lstsD (m + js.length) (tkP m js))])) []) : sp_uses_of [.f (netD m js os)] Q X
inductive sp_turned_net : DSp
  | mk {m : Nat} {js : List (Nat × Nat)} {os : List Nat} {Q X} (ok : NetT m js os) (hx : GreatT m js.length os.length → X "TooMany" none []) (hl : ∀ t, ¬ GreatT m js.length os.length → trn m js os (m + js.length) = .loose t → X "Loose" (some [("thing", .int (t : Nat))]) [])
    (hn : ∀ t, ¬ GreatT m js.length os.length → trn m js os (m + js.length) = .nought t → X "Nought" (some [("at", .int (t : Nat))]) []) (q : ∀ rows tj got, ¬ GreatT m js.length os.length → TrOk m js os (m + js.length) rows tj got → Q (.f (netD os.length tj (got.take m))) []) : sp_turned_net [.f (netD m js os)] Q X
theorem p_uses_of : ∀ as Q X, sp_uses_of as Q X → as.length = 1 ∧ r_uses_of  { nx := fun env => rtD as Q (.f .non) env, rt := rtD as Q } (startE N_uses_of as) := by
  rintro _ _ _ @⟨m, js, os, Q, X, ok, q⟩
  refine ⟨rfl, ?_⟩
  have := ok.m2
  have := ok.jl
  have := ok.o2
  show r_uses_of  _ [_, none, none, none, none, none, none, none, none]
  unfold r_uses_of
  walk_at "h"
  walk_at "go"
  refine rlc_cells (fun W i acc g hi k => ?_) (fun bs g hl nd hb ho => ?_)
  · walk_at "go"
    exact k
  walk_at "go"
  refine rlc_cells (fun W i acc g hi k => ?_) (fun cs g2 hl2 nd2 hb2 ho2 => ?_)
  · walk_at "go"
    exact k
  have U : UsesAt g2 (m + js.length) bs cs (plN os 0) (fun _ => []) := by
    refine ⟨hl, hl2, List.nodup_append.2 ⟨nd, nd2, fun a ha b hb' e => ?_⟩, fun t b h => ?_, fun t c h => (hb2 c (List.mem_of_getElem? h)).2⟩
    · subst e
      have := (hb2 a hb').1
      rw [(hb a ha).2] at this; cases this
    · have hm := List.mem_of_getElem? h
      rw [ho2 b fun z => ?_]
      · exact (hb b hm).2
      · have := (hb2 b z).1
        rw [(hb b hm).2] at this; cases this
  clear hb hb2 ho ho2
  walk_at "go"
  refine rfor_rg (fun i s => ∃ g x, s = ⟨g, [some (.f (netD m js os)), some (.f (.int (m : Nat))), some (.f (.tup (js.map pairD))), some (.f (.tup (natsD os))), some (.o (.lst (bs.map rawA))), none, some (.o (.lst (cs.map rawA))), x, none]⟩ ∧ UsesAt g (m + js.length) bs cs (plN os i) (fun _ => [])) ⟨g2, none, rfl, U⟩ ?_ ?_
  · rintro i s hi ⟨g, x, rfl, U⟩
    have ho := ok.ol _ (getD_mem hi)
    have bl := U.bl
    walk_at "go"
    intro b hb
    have hg := U.hb _ b hb
    have pl := plN_len os i (os.getD i 0)
    walk_at "go"
    exact ⟨_, _, rfl, U.putA hb (plN_put os i)⟩
  · rintro s ⟨g, x, rfl, U⟩
    walk_at "go"
    refine rfor_dn (fun i s => ∃ g y z, s = ⟨g, [some (.f (netD m js os)), some (.f (.int (m : Nat))), some (.f (.tup (js.map pairD))), some (.f (.tup (natsD os))), some (.o (.lst (bs.map rawA))), y, some (.o (.lst (cs.map rawA))), x, z]⟩ ∧ UsesAt g (m + js.length) bs cs (plP os) (fun t => (tkN js i t).map (m + ·))) ⟨g, none, none, rfl, U⟩ ?_ ?_
    · rintro i s hi ⟨g, y, z, rfl, U⟩
      walk_at "go"
      rintro ⟨a, b⟩ hab
      have lt := ok.lt _ _ hab
      have la : a < b ∧ b < m + (js.length - 1 - i) := lt
      have gd : js.getD (js.length - 1 - i) (0, 0) = (a, b) := by rw [List.getD_eq_getElem?_getD, hab]; rfl
      have cl := U.cl
      have tl := tkN_len js i
      show ∃ W : Nat → RE → Prop, _
      refine rfor_ns (ns := [a, b]) (fun k s => ∃ g y, s = ⟨g, [some (.f (netD m js os)), some (.f (.int (m : Nat))), some (.f (.tup (js.map pairD))), some (.f (.tup (natsD os))), some (.o (.lst (bs.map rawA))), y, some (.o (.lst (cs.map rawA))), x, some (.f (.int ((js.length - 1 - i : Nat) : Int)))]⟩ ∧
        UsesAt g (m + js.length) bs cs (plP os) (match k with
          | 0 => fun t => (tkN js i t).map (m + ·)
          | 1 => tkM m js i (some a)
          | _ => fun t => (tkN js (i + 1) t).map (m + ·))) ⟨g, y, rfl, U⟩ ?_ ?_
      · rintro k v s hk ⟨g, y, rfl, U⟩
        match k, hk with
        | 0, hk =>
          cases hk
          walk_at "go"
          intro c hc
          have hg := U.hc _ c hc
          have tl := tl a
          walk_at "go"
          exact ⟨_, _, rfl, U.putB hc (tkM_1 m js i a)⟩
        | 1, hk =>
          cases hk
          walk_at "go"
          intro c hc
          have hg := U.hc _ c hc
          have tl2 : (tkM m js i (some a) b).length ≤ i + 1 := by
            rw [tkM_1, if_neg (by omega), List.length_map]
            have := tl b
            omega
          walk_at "go"
          exact ⟨_, _, rfl, U.putB hc (tkM_2 m js i gd (by omega))⟩
        | k + 2, hk => cases hk
      · rintro s ⟨g, y, rfl, U⟩
        exact ⟨_, _, _, rfl, U⟩
    · rintro s ⟨g, y, z, rfl, U⟩
      walk_at "go"
      exact ⟨_, U.thw, q⟩
theorem p_turned_net : ∀ as Q X, sp_turned_net as Q X → as.length = 1 ∧ r_turned_net sp_uses_of sp_Turning___init__ sp_Turning_summed { nx := fun env => rtD as Q (.f .non) env, rt := rtD as Q, xr := xrD as X } (startE N_turned_net as) := by
  rintro _ _ _ @⟨m, js, os, Q, X, ok, hx, hl, hn, q⟩
  refine ⟨rfl, ?_⟩
  have := ok.m1
  have := ok.m2
  have := ok.jl
  have := ok.o1
  have := ok.o2
  show r_turned_net sp_uses_of sp_Turning___init__ sp_Turning_summed _ [_, none, none, none, none, none, none, none, none, none, none]
  unfold r_turned_net
  walk_at "h"
  walk_at "go"
  refine ifb_c (fun e => ?_) (fun e => ?_)
  · walk_at "go"
    exact hx (.inl e)
  walk_at "go"
  refine ifb_c (fun e1 => ?_) (fun e1 => ?_)
  · walk_at "go"
    exact hx (.inr e1)
  walk_at "go"
  have ng : ¬ GreatT m js.length os.length := fun z => z.elim e e1
  refine .mk ok ?_
  walk_at "go"
  intro t _
  refine ⟨by rfl, ?_⟩
  walk_at "dw"
  refine .mk gset_same (by omega) fun g ra ja ta dom => ?_
  refine ⟨trivial, rfl, ?_⟩
  walk_at "go"
  refine rfor_dn (n := m + js.length) (fun k s => ∃ g rows tj got x y, s = ⟨g, [some (.f (netD m js os)), some (.f (.int (m : Nat))), some (.f (.tup (js.map pairD))), some (.f (.tup (natsD os))), some (.f (.lst (lstsD (m + js.length) (plP os)))), some (.f (.lst (lstsD (m + js.length) (tkP m js)))), some (.f (.raw (.ref t))), some (.o (.lst (natsD got))), x, y, none]⟩ ∧
    TurnAt g t ra ja os.length rows tj ∧ TrOk m js os k rows tj got ∧ (y = none ∨ ∃ d, y = some (.f d))) ⟨g, _, _, _, none, none, rfl, ta, trOk0 m js os (by omega), .inl rfl⟩ ?_ ?_
  · rintro k s hk ⟨g, rows, tj, got, x, y, rfl, ta, tr, hy⟩
    have ht := ta.ht
    have gl := tr.gl
    have hlt : m + js.length - 1 - k < m + js.length := by omega
    generalize hT : m + js.length - 1 - k = T at *
    walk_at "go"
    have tl := tk_len m js T
    have pl := pl_len os T
    refine ⟨by rw [natsD_len]; omega, ?_⟩
    refine lc_nN (fun u => got.getD u 0) (fun W i u acc hu kk => ?_) ?_
    · have := tk_lt (List.mem_of_getElem? hu)
      walk_at "go"
      exact kk _ rfl
    have ul := uses_len m js os got T
    walk_at "dw"
    rw [show ∀ l, natsD (List.map (fun u => got.getD u 0) l) = natsD (List.map (fun u => got.getD u 0) l) from fun _ => rfl]
    walk_at "go"
    refine ifb_c (fun e => ?_) (fun e => ?_)
    · walk_at "go"
      have := tr.loose (n := m + js.length) (by rw [hT]; exact e) hk
      rw [hT] at this
      exact hl T ng this
    obtain ⟨u, us, hu⟩ : ∃ u us, usesP m js os got T = u :: us := by
      cases h : usesP m js os got T with
      | nil => exact absurd h e
      | cons u us => exact ⟨u, us, rfl⟩
    have hm : ∀ x ∈ u :: us, x < rows.length := fun x hx => tr.uses (by rw [hu]; exact hx)
    have rl := tr.rl
    have jl := tr.jl
    have kb : k * (os.length + js.length) ≤ 144 * 156 := Nat.mul_le_mul (by omega) (by omega)
    have ul2 : us.length ≤ 156 := by
      rw [hu, List.length_cons] at ul
      omega
    rw [show plP os T ++ List.map (fun u => got.getD u 0) (tkP m js T) = u :: us from hu]
    walk_at "go"
    refine .mk ta (by omega) (by omega) (hm u (by simp)) (fun x hx => hm x (by simp [hx])) (fun hs g' dom => ?_) (fun r g' hs ta' dom => ?_)
    · have := tr.nought (n := m + js.length) (by rw [hT]; exact hu) hs hk
      rw [hT] at this
      exact ⟨trivial, hn T ng this⟩
    · refine ⟨trivial, ?_⟩
      walk_at "go"
      have st := tr.step (by rw [hT]; exact hu) hs
      rw [hT] at st
      exact ⟨_, _, _, _, _, _, rfl, ta', st, .inr ⟨_, rfl⟩⟩
  · rintro s ⟨g, rows, tj, got, x, y, rfl, ta, tr, hy⟩
    haveI : ThwC g (.raw (.ref t)) (turnV os.length rows tj) := ⟨ta.thw⟩
    haveI : DropC x := ⟨⟩
    haveI : DropC y := ⟨⟩
    have gl := tr.gl
    walk_at "go"
    refine ⟨imm_net, _, .same _, ?_⟩
    exact q rows tj got ng tr
end DP

set_option Elab.async false
set_option linter.all false
set_option maxRecDepth 100000
set_option maxHeartbeats 800000
namespace DP
open PySem PySem.Spec PyProof.Rows L2 DL
variable [ClsV]
local macro_rules | `(tactic| walk_at "dw") => `(tactic| ((conv => whnf); (try dsimp only [putOuts, putO, fzR, List.set_cons_zero, List.set_cons_succ, List.getElem?_cons_zero, List.getElem?_cons_succ, startE, arS, List.map_cons, List.map_nil, wipeE, restF, List.length_cons, List.length_nil, Int.toNat_natCast, List.getD_cons_zero, List.getD_cons_succ])))
local macro_rules | `(tactic| walk_at "om") => `(tactic| first | omega | (simp only [List.length_cons, List.length_nil, List.length_map, List.length_append, List.length_replicate, List.length_range, List.length_take, List.length_drop, List.length_set, List.length_reverse, rangeD_len, natsD_len]; omega) | assumption | exact rfl | trivial | (refine And.intro ?_ ?_ <;> walk_at "om"))
local macro_rules | `(tactic| walk_at "im") => `(tactic| first | exact trivial | exact ⟨rfl, rfl⟩ | exact imm_any rfl)
local macro_rules | `(tactic| walk_at "tr") => `(tactic| first | exact rfl | exact trivial | assumption | (refine And.intro ?_ ?_ <;> walk_at "tr"))
local macro_rules | `(tactic| walk_at "go1") => `(tactic| ((first
  | refine Go.go ?_
  | refine g_sub (by walk_at "om") ?_ | refine g_subI ?_
  | refine ifb_t rfl ?_ | refine ifb_f rfl ?_
  | refine ifb_y (by first | omega | walk_at "tr") ?_ | refine ifb_n (by first | omega | assumption | decide +kernel) ?_
  | refine and_imm _ _ _ (by walk_at "im") ?_
  | refine and_immX _ _ _ (by first | exact imm_noneX rfl | exact imm_anyX rfl | exact trivial) ?_
  | refine And.intro (by walk_at "om") ?_
  | refine Got.mk ⟨_, rfl, ?_⟩
  | refine draw_go (by assumption) (by walk_at "om") (by walk_at "om") (by walk_at "om") ?_); walk_at "dw"))
local macro_rules | `(tactic| walk_at "go") => `(tactic| (walk_at "dw"; repeat walk_at "go1"))
local macro_rules | `(tactic| walk_at "h") => `(tactic| try simp only [gEq_h, gIs_h, gIn_h, gI0_h, gB0_h, gAdd_h, gMul_h, gIx_h, gI_h, gU_h, gBits_h, gLen_h, gList_h, gTuple_h, gSum_h, gAll_h, gAny_h, gMax_h, gMin_h, gSorted_h, gInt_h, gIsi_h, gAppend_h, gClear_h, gPop_h, gPopAt_h, gInsert_h, gCount_h, gIndex_h, gRevL_h, gEqV_h, dSet_h, dSetd_h, dSl_h, sp_weight_h, sp_givens_of_h, sp_row_of_h, sp_joined_h, sp_law_whole_h, sp_tells_h, sp_law_draw_h])
local macro_rules | `(tactic| walk_at "giv") => `(tactic| ((refine lc_rN (2 ^ ·) (fun W i acc hi k => ?_) ?_; · (walk_at "go"; exact k _ rfl)); rw [show ∀ m, (List.range m).map (2 ^ ·) = giv m from fun _ => rfl]; walk_at "go"))
abbrev N_law_net_k06 : List Str := ["_law_tape_here", "_law_most", "_law_joins_most", "_law_many", "_law_rows", "_law_k", "_law_joins", "_law_way", "_law_turn", "_law_a", "_law_b", "_law_outs"]
def r_law_net_k06 (sp_law_draw : DSp) : DS :=
  (dSeq (dAsg (dOp gAdd (dC (.int 1)) (dCall0 [true, false] sp_law_draw (dCons (dVar 0) (dCons (dVar 1) dNil)))) 3)
  (dSeq (dAsg (dLc (dRng1 (dCons (dVar 3) dNil)) (dgName 5) dYes (dOp (gI CSh fun i j => i * 2 ^ j.toNat) (dC (.int 1)) (dVar 5)) [5]) 4)
  (dSeq (dAsg (dLst dNil) 6)
  (dSeq (dAsg (dCall0 [true, false] sp_law_draw (dCons (dVar 0) (dCons (dC (.int 4)) dNil))) 7)
  (dSeq (dFor (dRng1 (dCons (dCall0 [true, false] sp_law_draw (dCons (dVar 0) (dCons (dOp gAdd (dVar 2) (dC (.int 1))) dNil))) dNil)) (dgName 8) (dSeq (dAsg (dCall0 [true, false] sp_law_draw (dCons (dVar 0) (dCons (dCB gLen (dCons (dVar 4) dNil)) dNil))) 9)
  (dSeq (dAsg (dCall0 [true, false] sp_law_draw (dCons (dVar 0) (dCons (dCB gLen (dCons (dVar 4) dNil)) dNil))) 10)
  (dSeq (dIfS (dB (dOp (gEq false) (dVar 7) (dC (.int 1)))) (dAsg (dOp (gI0 fun i j => i - j) (dCB gLen (dCons (dVar 4) dNil)) (dC (.int 1))) 10) dNext)
  (dSeq (dIfS (dB (dOp (gEq false) (dVar 7) (dC (.int 2)))) (dSeq (dAsg (dCB gMax (dCons (dC (.int 0)) (dCons (dOp (gI0 fun i j => i - j) (dOp (gI0 fun i j => i - j) (dCB gLen (dCons (dVar 4) dNil)) (dC (.int 1))) (dOp (gI (fun _ j => 0 < j) fun i j => i % j) (dVar 9) (dC (.int 4)))) dNil))) 9)
  (dAsg (dCB gMax (dCons (dC (.int 0)) (dCons (dOp (gI0 fun i j => i - j) (dOp (gI0 fun i j => i - j) (dCB gLen (dCons (dVar 4) dNil)) (dC (.int 1))) (dOp (gI (fun _ j => 0 < j) fun i j => i % j) (dVar 10) (dC (.int 4)))) dNil))) 10)) dNext)
  (dIfS (dB (dOp (gEq true) (dOp gIx (dVar 4) (dVar 9)) (dOp gIx (dVar 4) (dVar 10)))) (dSeq (dDrop (dMut gAppend (dVar 6) (dCons (dTup (dCons (dCB gMin (dCons (dVar 9) (dCons (dVar 10) dNil))) (dCons (dCB gMax (dCons (dVar 9) (dCons (dVar 10) dNil))) dNil))) dNil)))
  (dDrop (dMut gAppend (dVar 4) (dCons (dOp (gI0 Builtin.bitXor) (dOp gIx (dVar 4) (dVar 9)) (dOp gIx (dVar 4) (dVar 10))) dNil)))) dNext))))))
  (dSeq (dAsg (dCB gTuple (dCons (dLc (dRng1 (dCons (dOp gAdd (dC (.int 1)) (dCall0 [true, false] sp_law_draw (dCons (dVar 0) (dCons (dC (.int 24)) dNil)))) dNil)) (dgName 8) dYes (dCall0 [true, false] sp_law_draw (dCons (dVar 0) (dCons (dCB gLen (dCons (dVar 4) dNil)) dNil))) [8]) dNil)) 11)
  (dRet (dTup (dCons (dVar 3) (dCons (dCB gTuple (dCons (dVar 6) dNil)) (dCons (dVar 11) dNil)))))))))))
theorem p_law_net_k06 : ∀ as Q X, sp_law_net_k05 as Q X → as.length = 3 ∧ r_law_net_k06 sp_law_draw { nx := fun env => rtD as Q (.f .non) env, rt := rtD as Q } (startE N_law_net_k06 as) := p_law_net_k05
def sp_law_net_k06 : DSp := sp_law_net_k05
theorem sp_law_net_k06_h : sp_law_net_k06 = hs_law_net_k05 := sp_law_net_k05_h
end DP

set_option Elab.async false
set_option linter.all false
set_option maxRecDepth 100000
set_option maxHeartbeats 800000
namespace DP
open PySem PySem.Spec PyProof.Rows L2 DL
variable [ClsV]
structure hs_is_number (as : List Ar) (Q : Res → List Dat → Prop) (X : Str → Option (List (Str × Dat)) → List Dat → Prop) : Prop where
  mk ::
  run : sp_is_number as Q X
theorem sp_is_number_h : sp_is_number = hs_is_number := by funext as Q X; exact propext ⟨.mk, fun h => h.run⟩
local macro_rules | `(tactic| walk_at "dw") => `(tactic| ((conv => whnf); (try dsimp only [putOuts, putO, fzR, List.set_cons_zero, List.set_cons_succ, List.getElem?_cons_zero, List.getElem?_cons_succ, startE, arS, List.map_cons, List.map_nil, wipeE, restF, List.length_cons, List.length_nil, Int.toNat_natCast, List.getD_cons_zero, List.getD_cons_succ])))
local macro_rules | `(tactic| walk_at "om") => `(tactic| first | omega | (simp only [List.length_cons, List.length_nil, List.length_map, List.length_append, List.length_replicate, List.length_range, List.length_take, List.length_drop, List.length_set, List.length_reverse, rangeD_len, natsD_len]; omega) | assumption | exact rfl | trivial | (refine And.intro ?_ ?_ <;> walk_at "om"))
local macro_rules | `(tactic| walk_at "im") => `(tactic| first | exact trivial | exact ⟨rfl, rfl⟩ | exact imm_any rfl)
local macro_rules | `(tactic| walk_at "tr") => `(tactic| first | exact rfl | exact trivial | assumption | (refine And.intro ?_ ?_ <;> walk_at "tr"))
local macro_rules | `(tactic| walk_at "go1") => `(tactic| ((first
  | refine Go.go ?_
  | refine g_sub (by walk_at "om") ?_ | refine g_subI ?_
  | refine ifb_t rfl ?_ | refine ifb_f rfl ?_
  | refine ifb_y (by first | omega | walk_at "tr") ?_ | refine ifb_n (by first | omega | assumption | decide +kernel) ?_
  | refine and_imm _ _ _ (by walk_at "im") ?_
  | refine and_immX _ _ _ (by first | exact imm_noneX rfl | exact imm_anyX rfl | exact trivial) ?_
  | refine And.intro (by walk_at "om") ?_
  | refine Got.mk ⟨_, rfl, ?_⟩
  | refine draw_go (by assumption) (by walk_at "om") (by walk_at "om") (by walk_at "om") ?_); walk_at "dw"))
local macro_rules | `(tactic| walk_at "go") => `(tactic| (walk_at "dw"; repeat walk_at "go1"))
local macro_rules | `(tactic| walk_at "h") => `(tactic| try simp only [gEq_h, gIs_h, gIn_h, gI0_h, gB0_h, gAdd_h, gMul_h, gIx_h, gI_h, gU_h, gBits_h, gLen_h, gList_h, gTuple_h, gSum_h, gAll_h, gAny_h, gMax_h, gMin_h, gSorted_h, gInt_h, gIsi_h, gAppend_h, gClear_h, gPop_h, gPopAt_h, gInsert_h, gCount_h, gIndex_h, gRevL_h, gEqV_h, dSet_h, dSetd_h, dSl_h, sp_weight_h, sp_givens_of_h, sp_row_of_h, sp_joined_h, sp_law_whole_h, sp_tells_h, sp_law_draw_h, sp_is_number_h])
local macro_rules | `(tactic| walk_at "giv") => `(tactic| ((refine lc_rN (2 ^ ·) (fun W i acc hi k => ?_) ?_; · (walk_at "go"; exact k _ rfl)); rw [show ∀ m, (List.range m).map (2 ^ ·) = giv m from fun _ => rfl]; walk_at "go"))
abbrev N_is_wish : List Str := ["thing", "many", "rows", "row"]
def r_is_wish (sp_is_number : DSp) : DS :=
  (dSeq (dIfS (dOr (dNot (dB (dCB gIsi (dCons (dVar 0) (dCons (dC (.raw (.ty "tuple"))) dNil))))) (dOr (dB (dOp (gEqV true) (dCB gLen (dCons (dVar 0) dNil)) (dC (.int 2)))) (dNot (dB (dCall0 [false, false, false] sp_is_number (dCons (dOp gIx (dVar 0) (dC (.int 0))) (dCons (dC (.int 1)) (dCons (dOp gAdd (dC (.int 12)) (dC (.int 1))) dNil)))))))) (dRet (dC (.bl false))) dNext)
  (dSeq (dAsgG (dVar 0) (dgTup 2 (dgCons (dgName 1) (dgCons (dgName 2) dgNil))))
  (dSeq (dIfS (dOr (dNot (dB (dCB gIsi (dCons (dVar 2) (dCons (dC (.raw (.ty "tuple"))) dNil))))) (dOr (dB (dOp (gB0 fun i j => decide (i < j)) (dCB gLen (dCons (dVar 2) dNil)) (dC (.int 1)))) (dB (dOp (gB0 fun i j => decide (j < i)) (dCB gLen (dCons (dVar 2) dNil)) (dC (.int 24)))))) (dRet (dC (.bl false))) dNext)
  (dRet (dCB gAll (dCons (dLc (dSeqI (dVar 2)) (dgName 3) dYes (dCall0 [false, false, false] sp_is_number (dCons (dVar 3) (dCons (dC (.int 1)) (dCons (dOp (gI CSh fun i j => i * 2 ^ j.toNat) (dC (.int 1)) (dVar 1)) dNil)))) [3]) dNil))))))
/-! wishes -/
def wishD (m : Nat) (rows : List Nat) : Dat := .tup [.int (m : Nat), .tup (natsD rows)]
structure WishOk (m : Nat) (rows : List Nat) : Prop where
  m1 : 1 ≤ m
  m2 : m ≤ 12
  l1 : 1 ≤ rows.length
  l2 : rows.length ≤ 24
  pos : ∀ r ∈ rows, 0 < r
  lt : ∀ r ∈ rows, r < 2 ^ m
class IsWish (d : Dat) (m : outParam Nat) (rows : outParam (List Nat)) : Prop where
  eq : d = wishD m rows
instance isWish_w (m : Nat) (rows : List Nat) : IsWish (wishD m rows) m rows := ⟨rfl⟩
instance isWish_t {i : Int} {m : Nat} {l : List Dat} {rows : List Nat} [h : IsN i m] [g : IsNs l rows] : IsWish (.tup [.int i, .tup l]) m rows := ⟨by rw [h.eq, g.eq]; rfl⟩
section
variable {i j : Int} {n m k : Nat} {Q : Res → List Dat → Prop} {Q1 : Res → Prop} {X : Str → Option (List (Str × Dat)) → List Dat → Prop} {rows : List Nat} {d x y : Dat}
instance im_wish : Im (wishD m rows) := ⟨(im_tup (l := [.int (m : Nat), .tup (natsD rows)])).eq⟩
instance go_w0 : Go (hIx (wishD m rows) (.int 0) Q1) (Q1 (.f (.int (m : Int)))) := ⟨fun k => .mk <| Got.mk ⟨_, atI_nat (j := 0) rfl, k⟩⟩
instance go_w1 : Go (hIx (wishD m rows) (.int 1) Q1) (Q1 (.f (.tup (natsD rows)))) := ⟨fun k => .mk <| Got.mk ⟨_, atI_nat (j := 1) rfl, k⟩⟩
theorem pln_wish (n m : Nat) (rows : List Nat) : pln (n + 2) (wishD m rows) = true := by
  show ([_, _] : List Dat).all (pln (n + 1)) = true
  have h2 : pln (n + 1) (.tup (natsD rows)) = true := pln_ns n rows
  rw [List.all_cons, List.all_cons, pln_i, h2]; rfl
instance eqD_wish {m' : Nat} {rows' : List Nat} [h : IsWish x m rows] [g : IsWish y m' rows'] : EqD (n + 2) x y (m = m' ∧ rows = rows') := ⟨by rw [h.eq]; exact pln_wish n m rows, by rw [g.eq]; exact pln_wish n m' rows', by
  rw [h.eq, g.eq]
  unfold wishD
  refine ⟨fun e => ?_, fun ⟨a, b⟩ => by rw [a, b]⟩
  have := Dat.tup.inj e
  simp only [List.cons.injEq, Dat.int.injEq, Dat.tup.injEq, and_true] at this
  exact ⟨by omega, natsD_inj this.2⟩⟩
instance (priority := 500) go_is_number : Go (hs_is_number [.f d, .f (.int i), .f (.int j)] Q X) (Pd d ∧ Q (.f (.bl (numB d i j))) []) := ⟨fun k => .mk ⟨d, i, j, rfl, k.1, k.2⟩⟩
theorem numB_nat {a b : Nat} [h : IsN i a] [g : IsN j b] : numB (.int (n : Int)) i j = dc (a ≤ n ∧ n < b) := by
  show (decide (i ≤ (n : Int)) && decide ((n : Int) < j)) = _
  rw [h.eq, g.eq, Bool.eq_iff_iff, Bool.and_eq_true, dc_iff, decide_eq_true_iff, decide_eq_true_iff, Int.ofNat_le, Int.ofNat_lt]
instance go_is_numberN {c a b : Nat} {z : Int} [f : IsN z c] [h : IsN i a] [g : IsN j b] : Go (hs_is_number [.f (.int z), .f (.int i), .f (.int j)] Q X) (Q (.f (.bl (dc (a ≤ c ∧ c < b)))) []) := ⟨fun k => .mk ⟨_, _, _, rfl, .int _, by rw [f.eq, numB_nat (a := a) (b := b)]; exact k⟩⟩
end
def wishB (d : Dat) : Bool := match d with
  | .tup [.int m, .tup l] => decide (1 ≤ m ∧ m < 13) && decide (1 ≤ l.length ∧ l.length ≤ 24) && l.all fun r => numB r 1 (2 ^ m.toNat)
  | _ => false
inductive sp_is_wish : DSp
  | mk {d : Dat} {Q X} (hd : Pd d) (q : Q (.f (.bl (wishB d))) []) : sp_is_wish [.f d] Q X
theorem wishB_len {l : List Dat} (h : l.length ≠ 2) : wishB (.tup l) = false := by
  match l, h with
  | [], _ => rfl
  | [a], _ => unfold wishB; split <;> first | rfl | (next e => cases e)
  | [_, _], h => exact absurd rfl h
  | a :: b :: c :: l, _ => unfold wishB; split <;> first | rfl | (next e => cases e)
theorem wishB_num {a b : Dat} (h : numB a 1 13 = false) : wishB (.tup [a, b]) = false := by
  unfold wishB
  split
  · next m l e =>
    cases e
    have h : (decide (1 ≤ m) && decide (m < 13)) = false := h
    have : decide (1 ≤ m ∧ m < 13) = false := by
      rw [decide_eq_false_iff_not]; intro z
      rw [decide_eq_true z.1, decide_eq_true z.2] at h; cases h
    rw [this]; rfl
  · rfl
theorem numB_is {a : Dat} {lo hi : Int} (h : numB a lo hi = true) : ∃ n, a = .int n ∧ lo ≤ n ∧ n < hi := by
  unfold numB at h
  split at h
  · next n => rw [Bool.and_eq_true] at h; exact ⟨n, rfl, of_decide_eq_true h.1, of_decide_eq_true h.2⟩
  · cases h
theorem p_is_wish : ∀ as Q X, sp_is_wish as Q X → as.length = 1 ∧ r_is_wish sp_is_number { nx := fun env => rtD as Q (.f .non) env, rt := rtD as Q } (startE N_is_wish as) := by
  rintro _ _ _ @⟨d, Q, X, hd, q⟩
  refine ⟨rfl, ?_⟩
  cases hd with
  | non => (show r_is_wish _ _ [_, none, none, none]); unfold r_is_wish; walk_at "h"; walk_at "go"; exact q
  | bl b => (show r_is_wish _ _ [_, none, none, none]); unfold r_is_wish; walk_at "h"; walk_at "go"; exact q
  | int b => (show r_is_wish _ _ [_, none, none, none]); unfold r_is_wish; walk_at "h"; walk_at "go"; exact q
  | str b => (show r_is_wish _ _ [_, none, none, none]); unfold r_is_wish; walk_at "h"; walk_at "go"; exact q
  | lst b => (show r_is_wish _ _ [_, none, none, none]); unfold r_is_wish; walk_at "h"; walk_at "go"; exact q
  | @tup l hl =>
    (show r_is_wish _ _ [_, none, none, none]); unfold r_is_wish; walk_at "h"; walk_at "go"
    refine ifb_c (fun e => ?_) (fun e => ?_)
    · match l, e, hl, q with
      | [a, b], _, hl, q =>
        have ha := hl a (by simp)
        have hb := hl b (by simp)
        walk_at "go"
        refine ifb_b (fun e1 => ?_) (fun e1 => ?_)
        · obtain ⟨z, rfl, z1, z2⟩ := numB_is e1
          obtain ⟨m, rfl⟩ : ∃ m : Nat, z = (m : Int) := ⟨z.toNat, by omega⟩
          walk_at "go"
          cases hb with
          | non => walk_at "go"; exact q
          | bl b => walk_at "go"; exact q
          | int b => walk_at "go"; exact q
          | str b => walk_at "go"; exact q
          | lst b => walk_at "go"; exact q
          | @tup l hl2 =>
            have qe : wishB (.tup [.int (m : Int), .tup l]) = (decide (1 ≤ l.length ∧ l.length ≤ 24) && l.all fun r => numB r 1 (2 ^ m)) := by
              show (decide (1 ≤ (m : Int) ∧ (m : Int) < 13) && decide (1 ≤ l.length ∧ l.length ≤ 24) && l.all fun r => numB r 1 (2 ^ (m : Int).toNat)) = _
              rw [decide_eq_true ⟨z1, z2⟩, Int.toNat_natCast]; rfl
            walk_at "go"
            refine ifb_c (fun e2 => ?_) (fun e2 => ?_)
            · walk_at "go"
              rw [qe, decide_eq_false (by omega)] at q
              exact q
            walk_at "go"
            refine ifb_c (fun e3 => ?_) (fun e3 => ?_)
            · walk_at "go"
              rw [qe, decide_eq_false (by omega)] at q
              exact q
            walk_at "go"
            refine lc_items (fun r => some (.bl (numB r 1 (2 ^ m)))) (fun W i r acc hr k1 _ => ?_) ?_
            · have hr := hl2 r (List.mem_of_getElem? hr)
              walk_at "go"
              refine k1 _ ?_
              rw [show ((2 ^ m : Nat) : Int) = 2 ^ m by norm_cast]
            · rw [List.filterMap_eq_map' (f := fun r => Dat.bl (numB r 1 (2 ^ m))), show l.map (fun r => Dat.bl (numB r 1 (2 ^ m))) = (l.map fun r => numB r 1 (2 ^ m)).map Dat.bl by rw [List.map_map]; rfl]
              walk_at "go"
              rw [qe, decide_eq_true (by omega)] at q
              rw [List.all_map]
              exact q
        · walk_at "go"
          rw [wishB_num e1] at q
          exact q
    · walk_at "go"
      rw [wishB_len e] at q
      exact q
end DP

set_option Elab.async false
set_option linter.all false
set_option maxRecDepth 100000
set_option maxHeartbeats 800000
namespace DP
open PySem PySem.Spec PyProof.Rows L2 DL
variable [ClsV]
local macro_rules | `(tactic| walk_at "dw") => `(tactic| ((conv => whnf); (try dsimp only [putOuts, putO, fzR, List.set_cons_zero, List.set_cons_succ, List.getElem?_cons_zero, List.getElem?_cons_succ, startE, arS, List.map_cons, List.map_nil, wipeE, restF, List.length_cons, List.length_nil, Int.toNat_natCast, List.getD_cons_zero, List.getD_cons_succ])))
local macro_rules | `(tactic| walk_at "om") => `(tactic| first | omega | (simp only [List.length_cons, List.length_nil, List.length_map, List.length_append, List.length_replicate, List.length_range, List.length_take, List.length_drop, List.length_set, List.length_reverse, rangeD_len, natsD_len]; omega) | assumption | exact rfl | trivial | (refine And.intro ?_ ?_ <;> walk_at "om"))
local macro_rules | `(tactic| walk_at "im") => `(tactic| first | exact trivial | exact ⟨rfl, rfl⟩ | exact imm_any rfl)
local macro_rules | `(tactic| walk_at "tr") => `(tactic| first | exact rfl | exact trivial | assumption | (refine And.intro ?_ ?_ <;> walk_at "tr"))
local macro_rules | `(tactic| walk_at "go1") => `(tactic| ((first
  | refine Go.go ?_
  | refine g_sub (by walk_at "om") ?_ | refine g_subI ?_
  | refine ifb_t rfl ?_ | refine ifb_f rfl ?_
  | refine ifb_y (by first | omega | walk_at "tr") ?_ | refine ifb_n (by first | omega | assumption | decide +kernel) ?_
  | refine and_imm _ _ _ (by walk_at "im") ?_
  | refine and_immX _ _ _ (by first | exact imm_noneX rfl | exact imm_anyX rfl | exact trivial) ?_
  | refine And.intro (by walk_at "om") ?_
  | refine Got.mk ⟨_, rfl, ?_⟩
  | refine fldR_at (by assumption) (by rfl) ?_ | refine withD_at (by assumption) ?_
  | refine draw_go (by assumption) (by walk_at "om") (by walk_at "om") (by walk_at "om") ?_); walk_at "dw"))
local macro_rules | `(tactic| walk_at "go") => `(tactic| (walk_at "dw"; repeat walk_at "go1"))
local macro_rules | `(tactic| walk_at "h") => `(tactic| try simp only [gEq_h, gIs_h, gIn_h, gI0_h, gB0_h, gAdd_h, gMul_h, gIx_h, gI_h, gU_h, gBits_h, gLen_h, gList_h, gTuple_h, gSum_h, gAll_h, gAny_h, gMax_h, gMin_h, gSorted_h, gInt_h, gIsi_h, gAppend_h, gClear_h, gPop_h, gPopAt_h, gInsert_h, gCount_h, gIndex_h, gRevL_h, gEqV_h, dSet_h, dSetd_h, dSl_h, gInV_h, gCountV_h, gFld_h, rSetF_h, rSetI_h, sp_weight_h, sp_givens_of_h, sp_row_of_h, sp_joined_h, sp_law_whole_h, sp_tells_h, sp_law_draw_h, sp_law_net_k06_h])
local macro_rules | `(tactic| walk_at "giv") => `(tactic| ((refine lc_rN (2 ^ ·) (fun W i acc hi k => ?_) ?_; · (walk_at "go"; exact k _ rfl)); rw [show ∀ m, (List.range m).map (2 ^ ·) = giv m from fun _ => rfl]; walk_at "go"))
abbrev N_law_used : List Str := ["_law_net_here", "_law_taken", "_law_a", "_law_b", "_law_outs", "_law_thing"]
def r_law_used : DS :=
  (dSeq (dAsg dNewK 1)
  (dSeq (dFor (dSeqI (dOp gIx (dVar 0) (dC (.int 1)))) (dgTup 2 (dgCons (dgName 2) (dgCons (dgName 3) dgNil))) (dSeq (dSet (dC (.bl true)) (dVar 1) (dVar 2))
  (dSet (dC (.bl true)) (dVar 1) (dVar 3))))
  (dSeq (dAsg (dOp gAdd (dLc (dRng1 (dCons (dOp gAdd (dOp gIx (dVar 0) (dC (.int 0))) (dCB gLen (dCons (dOp gIx (dVar 0) (dC (.int 1))) dNil))) dNil)) (dgName 5) (dB (dOp (gIn true) (dVar 5) (dVar 1))) (dVar 5) [5]) (dCB gList (dCons (dOp gIx (dVar 0) (dC (.int 2))) dNil))) 4)
  (dRet (dTup (dCons (dOp gIx (dVar 0) (dC (.int 0))) (dCons (dOp gIx (dVar 0) (dC (.int 1))) (dCons (dCB gTuple (dCons (dSl (dVar 4) dNoPart (dPart (dC (.int 12)))) dNil)) dNil))))))))
abbrev N_law_told_k44 : List Str := ["_law_net_here", "_law_kind", "_law_value", "_law_found", "e", "_law_some", "_law_others"]
def r_law_told_k44 (sp_turned_net : DSp) : DS :=
  (dSeq (dAsg (dC .non) 1)
  (dSeq (dAsg (dC .non) 2)
  (dSeq (dAsg (dC .non) 3)
  (dSeq (dTry (dAsg (dCallX [false] sp_turned_net (dCons (dVar 0) dNil)) 3) [("Loose", some 4, (dSeq (dAsg (dVar 4) 1)
  (dAsg (dXf "thing" (dVar 4)) 2))), ("Nought", some 4, (dSeq (dAsg (dVar 4) 1)
  (dAsg (dXf "at" (dVar 4)) 2))), ("JoinError", some 4, (dAsg (dVar 4) 1))])
  (dSeq (dIfS (dB (dOp (gIs false) (dVar 1) (dC .non))) (dRet (dTup (dCons (dC (.str "net")) (dCons (dVar 3) dNil)))) dNext)
  (dSeq (dAsg (dLst (dCons (dIsX ["TooMany"] (dVar 1)) (dCons (dIsX ["Loose"] (dVar 1)) (dCons (dIsX ["Nought"] (dVar 1)) (dCons (dIsX ["ValueError"] (dVar 1)) dNil))))) 5)
  (dSeq (dAsg (dIsX ["Bare", "Leans", "NoAnswer", "NoFit", "NoName", "NoRow", "NoText", "NoWidth"] (dVar 1)) 6)
  (dRet (dTup (dCons (dC (.str "refused")) (dCons (dVar 5) (dCons (dVar 6) (dCons (dVar 2) dNil)))))))))))))
abbrev N_law_due_k44 : List Str := ["_law_net_here", "_law_many", "_law_joins", "_law_outs", "_law_rows", "_law_place", "_law_found", "_law_got", "_law_thing", "_law_uses", "_law_at", "_law_here", "_law_use", "_law_k"]
def r_law_due_k44 : DS :=
  (dSeq (dAsgG (dVar 0) (dgTup 3 (dgCons (dgName 1) (dgCons (dgName 2) (dgCons (dgName 3) dgNil)))))
  (dSeq (dIfS (dOr (dB (dOp (gB0 fun i j => decide (j < i)) (dCB gLen (dCons (dVar 3) dNil)) (dC (.int 12)))) (dB (dOp (gB0 fun i j => decide (j < i)) (dOp (gI0 fun i j => i - j) (dOp gAdd (dCB gLen (dCons (dVar 2) dNil)) (dCB gLen (dCons (dVar 3) dNil))) (dVar 1)) (dC (.int 132))))) (dRet (dTup (dCons (dC (.str "refused")) (dCons (dLst (dCons (dC (.bl true)) (dCons (dC (.bl false)) (dCons (dC (.bl false)) (dCons (dC (.bl true)) dNil))))) (dCons (dC (.bl false)) (dCons (dC .non) dNil)))))) dNext)
  (dSeq (dAsg (dLc (dRng1 (dCons (dCB gLen (dCons (dVar 3) dNil)) dNil)) (dgName 5) dYes (dOp (gI CSh fun i j => i * 2 ^ j.toNat) (dC (.int 1)) (dVar 5)) [5]) 4)
  (dSeq (dAsg (dLst dNil) 6)
  (dSeq (dAsg dNewK 7)
  (dSeq (dFor (dRng3 (dCons (dOp (gI0 fun i j => i - j) (dOp gAdd (dVar 1) (dCB gLen (dCons (dVar 2) dNil))) (dC (.int 1))) (dCons (dUn (gU fun i => -i) (dC (.int 1))) (dCons (dUn (gU fun i => -i) (dC (.int 1))) dNil)))) (dgName 8) (dSeq (dAsg (dLc (dRng1 (dCons (dCB gLen (dCons (dVar 3) dNil)) dNil)) (dgName 5) (dB (dOp (gEqV false) (dOp gIx (dVar 3) (dVar 5)) (dVar 8))) (dVar 5) [5]) 9)
  (dSeq (dFor (dRng3 (dCons (dOp (gI0 fun i j => i - j) (dCB gLen (dCons (dVar 2) dNil)) (dC (.int 1))) (dCons (dCB gMax (dCons (dUn (gU fun i => -i) (dC (.int 1))) (dCons (dOp (gI0 fun i j => i - j) (dVar 8) (dVar 1)) dNil))) (dCons (dUn (gU fun i => -i) (dC (.int 1))) dNil)))) (dgName 10) (dIfS (dB (dOp (gIn false) (dVar 8) (dOp gIx (dVar 2) (dVar 10)))) (dDrop (dMut gAppend (dVar 9) (dCons (dOp gIx (dVar 7) (dOp gAdd (dVar 1) (dVar 10))) dNil))) dNext))
  (dSeq (dIfS (dB (dOp (gEqV false) (dVar 9) (dLst dNil))) (dRet (dTup (dCons (dC (.str "refused")) (dCons (dLst (dCons (dC (.bl false)) (dCons (dC (.bl true)) (dCons (dC (.bl false)) (dCons (dC (.bl true)) dNil))))) (dCons (dC (.bl false)) (dCons (dVar 8) dNil)))))) dNext)
  (dSeq (dAsg (dOp gIx (dVar 9) (dC (.int 0))) 11)
  (dSeq (dFor (dSeqI (dSl (dVar 9) (dPart (dC (.int 1))) dNoPart)) (dgName 12) (dSeq (dIfS (dB (dOp (gEqV false) (dOp gIx (dVar 4) (dVar 12)) (dOp gIx (dVar 4) (dVar 11)))) (dRet (dTup (dCons (dC (.str "refused")) (dCons (dLst (dCons (dC (.bl false)) (dCons (dC (.bl false)) (dCons (dC (.bl true)) (dCons (dC (.bl true)) dNil))))) (dCons (dC (.bl false)) (dCons (dVar 8) dNil)))))) dNext)
  (dSeq (dDrop (dMut gAppend (dVar 6) (dCons (dTup (dCons (dCB gMin (dCons (dVar 11) (dCons (dVar 12) dNil))) (dCons (dCB gMax (dCons (dVar 11) (dCons (dVar 12) dNil))) dNil))) dNil)))
  (dSeq (dDrop (dMut gAppend (dVar 4) (dCons (dOp (gI0 Builtin.bitXor) (dOp gIx (dVar 4) (dVar 11)) (dOp gIx (dVar 4) (dVar 12))) dNil)))
  (dAsg (dOp (gI0 fun i j => i - j) (dCB gLen (dCons (dVar 4) dNil)) (dC (.int 1))) 11)))))
  (dSet (dVar 11) (dVar 7) (dVar 8))))))))
  (dRet (dTup (dCons (dC (.str "net")) (dCons (dTup (dCons (dCB gLen (dCons (dVar 3) dNil)) (dCons (dCB gTuple (dCons (dVar 6) dNil)) (dCons (dCB gTuple (dCons (dLc (dRng1 (dCons (dVar 1) dNil)) (dgName 13) dYes (dOp gIx (dVar 7) (dVar 13)) [13]) dNil)) dNil)))) dNil))))))))))
abbrev N_law_k44 : List Str := ["_law_script", "_law_tape_here", "_law_turn", "_law_net_here", "_law_outs"]
def r_law_k44 (sp_law_net_k06 sp_law_draw sp_law_used sp_law_told_k44 sp_law_due_k44 : DSp) : DS :=
  (dSeq (dFor (dRng1 (dCons (dC (.int 3)) dNil)) (dgName 2) (dSeq (dAsg (dCall0 [true, false, false] sp_law_net_k06 (dCons (dVar 1) (dCons (dC (.int 12)) (dCons (dOp gIx (dLst (dCons (dC (.int 132)) (dCons (dC (.int 20)) (dCons (dC (.int 6)) dNil)))) (dVar 2)) dNil)))) 3)
  (dSeq (dAsg (dTup (dCons (dOp gIx (dVar 3) (dC (.int 0))) (dCons (dOp gIx (dVar 3) (dC (.int 1))) (dCons (dSl (dOp gIx (dVar 3) (dC (.int 2))) dNoPart (dPart (dOp gIx (dLst (dCons (dC (.int 14)) (dCons (dC (.int 14)) (dCons (dC (.int 14)) (dCons (dC (.int 24)) dNil))))) (dCall0 [true, false] sp_law_draw (dCons (dVar 1) (dCons (dC (.int 4)) dNil)))))) dNil)))) 3)
  (dSeq (dIfS (dB (dOp (gB0 fun i j => decide (j < i)) (dCall0 [true, false] sp_law_draw (dCons (dVar 1) (dCons (dC (.int 3)) dNil))) (dC (.int 0)))) (dAsg (dCall0 [false] sp_law_used (dCons (dVar 3) dNil)) 3) dNext)
  (dIfS (dB (dOp (gEqV true) (dCall0 [false] sp_law_told_k44 (dCons (dVar 3) dNil)) (dCall0 [false] sp_law_due_k44 (dCons (dVar 3) dNil)))) (dRet (dC (.bl false))) dNext)))))
  (dSeq (dFor (dSeqI (dLst (dCons (dTup (dCons (dC (.int 133)) (dCons (dC (.int 132)) dNil))) (dCons (dTup (dCons (dC (.int 133)) (dCons (dC (.int 132)) (dCons (dC (.int 131)) dNil)))) dNil)))) (dgName 4) (dSeq (dAsg (dTup (dCons (dC (.int 2)) (dCons (dOp gRepT (dTup (dCons (dTup (dCons (dC (.int 0)) (dCons (dC (.int 1)) dNil))) dNil)) (dC (.int 132))) (dCons (dVar 4) dNil)))) 3)
  (dIfS (dB (dOp (gEqV true) (dCall0 [false] sp_law_told_k44 (dCons (dVar 3) dNil)) (dCall0 [false] sp_law_due_k44 (dCons (dVar 3) dNil)))) (dRet (dC (.bl false))) dNext)))
  (dRet (dC (.bl true)))))
instance lay_refused : LayS "refused" := ⟨by decide +kernel⟩
instance lay_net44 : LayS "net" := ⟨by decide +kernel⟩
def refD (bs : List Bool) (v : Dat) : Dat := .tup [.str "refused", .lst (bs.map Dat.bl), .bl false, v]
/-- what is due -/
inductive TdIs (m : Nat) (js : List (Nat × Nat)) (os : List Nat) : Dat → Prop
  | great : GreatT m js.length os.length → TdIs m js os (refD [true, false, false, true] .non)
  | loose {t : Nat} : ¬ GreatT m js.length os.length → trn m js os (m + js.length) = .loose t → TdIs m js os (refD [false, true, false, true] (.int (t : Nat)))
  | nought {t : Nat} : ¬ GreatT m js.length os.length → trn m js os (m + js.length) = .nought t → TdIs m js os (refD [false, false, true, true] (.int (t : Nat)))
  | net {rows : List Nat} {tj : List (Nat × Nat)} {got : List Nat} : ¬ GreatT m js.length os.length → trn m js os (m + js.length) = .ok rows tj got → TdIs m js os (.tup [.str "net", netD os.length tj (got.take m)])
theorem TdIs.det {m : Nat} {js : List (Nat × Nat)} {os : List Nat} {d d' : Dat} (h : TdIs m js os d) (h' : TdIs m js os d') : d = d' := by
  cases h with
  | great a => cases h' with
    | great b => rfl
    | loose b _ => exact absurd a b
    | nought b _ => exact absurd a b
    | net b _ => exact absurd a b
  | loose a e => cases h' with
    | great b => exact absurd b a
    | loose b f => rw [e] at f; cases f; rfl
    | nought b f => rw [e] at f; cases f
    | net b f => rw [e] at f; cases f
  | nought a e => cases h' with
    | great b => exact absurd b a
    | loose b f => rw [e] at f; cases f
    | nought b f => rw [e] at f; cases f; rfl
    | net b f => rw [e] at f; cases f
  | net a e => cases h' with
    | great b => exact absurd b a
    | loose b f => rw [e] at f; cases f
    | nought b f => rw [e] at f; cases f
    | net b f => rw [e] at f; cases f; rfl
theorem ne_self {d : Dat} {p : Prop} {Q : Res → Prop} [h : EqV 40 d d p] (hp : p) (k : Q (.f (.bl false))) : hEqV true d d Q := (go_neV (h := h)).go (by
  rw [show dc (¬ p) = false from by
    cases e : dc (¬ p) with
    | false => rfl
    | true => exact absurd hp (dc_iff.1 e)]
  exact k)
theorem TdIs.same {m : Nat} {js : List (Nat × Nat)} {os : List Nat} {d : Dat} {Q : Res → Prop} (h : TdIs m js os d) (k : Q (.f (.bl false))) : hEqV true d d Q := by
  cases h with
  | great => unfold refD; simp only [List.map_cons, List.map_nil]; exact ne_self (by simp) k
  | loose => unfold refD; simp only [List.map_cons, List.map_nil]; exact ne_self (by simp) k
  | nought => unfold refD; simp only [List.map_cons, List.map_nil]; exact ne_self (by simp) k
  | net => exact ne_self (by simp) k
inductive sp_law_told_k44 : DSp
  | mk {m : Nat} {js : List (Nat × Nat)} {os : List Nat} {Q X} (ok : NetT m js os) (q : ∀ d, TdIs m js os d → Q (.f d) []) : sp_law_told_k44 [.f (netD m js os)] Q X
inductive sp_law_due_k44 : DSp
  | mk {m : Nat} {js : List (Nat × Nat)} {os : List Nat} {Q X} (ok : NetT m js os) (q : ∀ d, TdIs m js os d → Q (.f d) []) : sp_law_due_k44 [.f (netD m js os)] Q X
inductive sp_law_used : DSp
  | mk {m : Nat} {js : List (Nat × Nat)} {os : List Nat} {Q X} (ok : NetT m js os) (q : ∀ os', NetT m js os' → Q (.f (netD m js os')) []) : sp_law_used [.f (netD m js os)] Q X
theorem p_law_told_k44 : ∀ as Q X, sp_law_told_k44 as Q X → as.length = 1 ∧ r_law_told_k44 sp_turned_net { nx := fun env => rtD as Q (.f .non) env, rt := rtD as Q } (startE N_law_told_k44 as) := by
  rintro _ _ _ @⟨m, js, os, Q, X, ok, q⟩
  refine ⟨rfl, ?_⟩
  show r_law_told_k44 sp_turned_net _ [_, none, none, none, none, none, none]
  unfold r_law_told_k44
  walk_at "h"
  walk_at "go"
  refine .mk ok (fun g => ?_) (fun t g e => ?_) (fun t g e => ?_) (fun rows tj got g e => ?_)
  · walk_at "go"
    exact q _ (.great g)
  · walk_at "go"
    exact q _ (.loose g e)
  · walk_at "go"
    exact q _ (.nought g e)
  · walk_at "go"
    exact q _ (.net g e.is)
theorem p_law_used : ∀ as Q X, sp_law_used as Q X → as.length = 1 ∧ r_law_used  { nx := fun env => rtD as Q (.f .non) env, rt := rtD as Q } (startE N_law_used as) := by
  rintro _ _ _ @⟨m, js, os, Q, X, ok, q⟩
  refine ⟨rfl, ?_⟩
  have := ok.m2
  have := ok.jl
  have := ok.o2
  show r_law_used  _ [_, none, none, none, none, none]
  unfold r_law_used
  walk_at "h"
  walk_at "go"
  refine for_mp (fun i env => ∃ (ul : List (Nat × Unit)) (x y : Option S), env = [some (.f (netD m js os)), some (.o (dkD uT ul)), x, y, none, none] ∧ ul.length ≤ 2 * i) ⟨[], _, _, rfl, Nat.zero_le _⟩ ?_ ?_
  · rintro i ⟨a, b⟩ env hj ⟨ul, x, y, rfl, hu⟩
    have hi : i < js.length := (List.getElem?_eq_some_iff.1 hj).1
    walk_at "go"
    have h1 := putA_len ul a ()
    have h2 := putA_len (putA ul a ()) b ()
    refine ⟨by omega, ?_⟩
    walk_at "go"
    exact ⟨_, _, _, rfl, by omega⟩
  · rintro env ⟨ul, x, y, rfl, hu⟩
    walk_at "go"
    refine lcf_rN (fun t => lkA ul t = none) (fun t => t) (fun W i acc hi k1 k2 => ?_) ?_
    · walk_at "go"
      refine ifb_c (fun e => ?_) (fun e => ?_)
      · walk_at "go"
        exact k1 e _ rfl
      · walk_at "go"
        exact k2 e
    have fl : ((List.range (m + js.length)).filter fun b => decide (lkA ul b = none)).length ≤ m + js.length := Nat.le_trans (List.length_filter_le _ _) (by simp)
    have fm : ∀ t ∈ (List.range (m + js.length)).filter fun b => decide (lkA ul b = none), t < m + js.length := fun t ht => List.mem_range.1 (List.mem_filter.1 ht).1
    rw [List.map_id']
    generalize (List.range (m + js.length)).filter (fun b => decide (lkA ul b = none)) = L at fl fm ⊢
    walk_at "go"
    refine q _ ⟨ok.toJsOk, ok.m1, ok.m2, ok.jl, ?_, ?_, fun o ho => ?_⟩
    · have := ok.o1
      rw [List.length_take, List.length_append]; omega
    · rw [List.length_take]; omega
    · rcases List.mem_append.1 (List.mem_of_mem_take ho) with z | z
      · exact fm o z
      · exact ok.ol o z
theorem p_law_due_k44 : ∀ as Q X, sp_law_due_k44 as Q X → as.length = 1 ∧ r_law_due_k44  { nx := fun env => rtD as Q (.f .non) env, rt := rtD as Q } (startE N_law_due_k44 as) := by
  rintro _ _ _ @⟨m, js, os, Q, X, ok, q⟩
  refine ⟨rfl, ?_⟩
  have := ok.m1
  have := ok.m2
  have := ok.jl
  have := ok.o1
  have := ok.o2
  show r_law_due_k44  _ [_, none, none, none, none, none, none, none, none, none, none, none, none, none]
  unfold r_law_due_k44
  walk_at "h"
  walk_at "go"
  refine ifb_c (fun e => ?_) (fun e => ?_)
  · walk_at "go"
    exact q _ (.great (.inl e))
  walk_at "go"
  refine ifb_c (fun e1 => ?_) (fun e1 => ?_)
  · walk_at "go"
    exact q _ (.great (.inr e1))
  walk_at "go"
  have ng : ¬ GreatT m js.length os.length := fun z => z.elim e e1
  walk_at "giv"
  have hd : downD (((m + js.length - 1 : Nat) : Int) + 1) (((m + js.length - 1 : Nat) : Int) - -1).toNat = downD ((m + js.length : Nat) : Int) (m + js.length) := by congr 1 <;> omega
  rw [hd]
  refine for_dn (n := m + js.length) (fun k env => ∃ rows tj got dl x8 x9 x10 x11 x12, env = [some (.f (netD m js os)), some (.f (.int (m : Nat))), some (.f (.tup (js.map pairD))), some (.f (.tup (natsD os))), some (.o (.lst (natsD rows))), none, some (.o (.lst (tj.map pairD))), some (.o (dkD nI dl)), x8, x9, x10, x11, x12, none] ∧
    TrOk m js os k rows tj got ∧ dl.length ≤ k ∧ ∀ u, m + js.length - k ≤ u → u < m + js.length → lkA dl u = some (got.getD u 0)) ⟨_, _, _, [], _, _, _, _, _, rfl, trOk0 m js os (by omega), Nat.le_refl _, fun u h1 h2 => by omega⟩ ?_ ?_
  · rintro k env hk ⟨rows, tj, got, dl, x8, x9, x10, x11, x12, rfl, tr, dn, lk⟩
    have lk2 : ∀ u, m + js.length - 1 - k < u → u < m + js.length → lkA dl u = some (got.getD u 0) := fun u h1 h2 => lk u (by omega) h2
    have hlt : m + js.length - 1 - k < m + js.length := by omega
    generalize hT : m + js.length - 1 - k = T at lk2 hlt ⊢
    walk_at "go"
    refine lcf_rN (fun i => os.getD i 0 = T) (fun i => i) (fun W i acc hi k1 k2 => ?_) ?_
    · walk_at "go"
      refine ifb_c (fun e => ?_) (fun e => ?_)
      · walk_at "go"
        exact k1 e _ rfl
      · walk_at "go"
        exact k2 e
    rw [show ((List.range os.length).filter fun i => decide (os.getD i 0 = T)).map (fun i => i) = plP os T from List.map_id' _]
    walk_at "go"
    refine .mk ?_
    walk_at "go"
    have pl := pl_len os T
    have nE : ((js.length : Int) - 1 - max (-1) ((T : Int) - (m : Int))).toNat = min js.length (m + js.length - 1 - T) := by rw [Int.max_def]; split <;> omega
    rw [nE]
    refine for_items (fun i env => ∃ x10, env = [some (.f (netD m js os)), some (.f (.int (m : Nat))), some (.f (.tup (js.map pairD))), some (.f (.tup (natsD os))), some (.o (.lst (natsD rows))), none, some (.o (.lst (tj.map pairD))), some (.o (dkD nI dl)), some (.f (.int (T : Nat))),
      some (.o (.lst (natsD (plP os T ++ (tkN js i T).map fun a => got.getD (m + a) 0)))), x10, x11, x12, none]) ⟨_, by rw [show tkN js 0 T = [] from rfl, List.map_nil, List.append_nil]⟩ ?_ ?_
    · rintro i d env hd ⟨x10, rfl⟩
      obtain ⟨hi, rfl⟩ := down_some hd
      rw [show (js.length : Int) - 1 + 1 - 1 - (i : Int) = ((js.length - 1 - i : Nat) : Int) by omega]
      walk_at "go"
      rintro ⟨a, b⟩ hab
      have lt : a < b ∧ b < m + (js.length - 1 - i) := ok.lt _ _ hab
      have gd : js.getD (js.length - 1 - i) (0, 0) = (a, b) := by rw [List.getD_eq_getElem?_getD, hab]; rfl
      have tk : takes js (js.length - 1 - i) T ↔ (a = T ∨ b = T) := by unfold takes; rw [gd]
      have tl := tkN_len js i T
      show hIn false (.int (T : Nat)) (.tup (natsD [a, b])) _
      walk_at "go"
      refine ifb_c (fun e => ?_) (fun e => ?_)
      · have e' : a = T ∨ b = T := by simpa [eq_comm] using e
        have lk3 := lk2 (m + (js.length - 1 - i)) (by omega) (by omega)
        walk_at "go"
        refine ⟨by rw [lk3]; exact fun z => (by cases z), fun v hv => ?_⟩
        have ev : got.getD (m + (js.length - 1 - i)) 0 = v := by rw [lk3] at hv; exact Option.some.inj hv
        walk_at "go"
        rw [tkN_succ, if_pos (tk.2 e'), List.map_append, ← List.append_assoc, ← ev]
        exact ⟨_, rfl⟩
      · have e' : ¬ (a = T ∨ b = T) := by simpa [eq_comm] using e
        walk_at "go"
        rw [tkN_succ, if_neg (fun z => e' (tk.1 z)), List.append_nil]
        exact ⟨_, rfl⟩
    · rintro env ⟨x10, rfl⟩
      have hU : plP os T ++ (tkN js (min js.length (m + js.length - 1 - T)) T).map (fun a => got.getD (m + a) 0) = usesP m js os got T := by
        have := tkN_cut (js := js) (t := T) (n := min js.length (m + js.length - 1 - T)) (fun i h1 h2 z => by
          obtain ⟨p, hp⟩ : ∃ p, js[js.length - 1 - i]? = some p := ⟨_, List.getElem?_eq_getElem (by omega)⟩
          have lt := ok.lt _ _ hp
          unfold takes at z
          rw [List.getD_eq_getElem?_getD, hp] at z
          have z : p.1 = T ∨ p.2 = T := z
          omega) (js.length - min js.length (m + js.length - 1 - T)) (by omega)
        rw [show min js.length (m + js.length - 1 - T) + (js.length - min js.length (m + js.length - 1 - T)) = js.length by omega] at this
        unfold usesP tkP
        rw [List.map_map, this]; rfl
      rw [down_len, hU]
      have ul := uses_len m js os got T
      walk_at "go"
      refine ifb_c (fun e => ?_) (fun e => ?_)
      · walk_at "go"
        have := tr.loose (n := m + js.length) (by rw [hT]; exact e) hk
        rw [hT] at this
        exact q _ (.loose ng this)
      obtain ⟨u, us, hu⟩ : ∃ u us, usesP m js os got T = u :: us := by
        cases h : usesP m js os got T with
        | nil => exact absurd h e
        | cons u us => exact ⟨u, us, rfl⟩
      have hm : ∀ x ∈ u :: us, x < rows.length := fun x hx => tr.uses (by rw [hu]; exact hx)
      have rl := tr.rl
      have jl := tr.jl
      have kb : k * (os.length + js.length) ≤ 144 * 156 := Nat.mul_le_mul (by omega) (by omega)
      have ul2 : us.length ≤ 156 := by
        rw [hu, List.length_cons] at ul
        omega
      rw [hu]
      walk_at "go"
      refine for_ns (ns := us) (fun i env => ∃ r x12, env = [some (.f (netD m js os)), some (.f (.int (m : Nat))), some (.f (.tup (js.map pairD))), some (.f (.tup (natsD os))), some (.o (.lst (natsD r.1))), none, some (.o (.lst (r.2.1.map pairD))), some (.o (dkD nI dl)), some (.f (.int (T : Nat))),
        some (.o (.lst (natsD (u :: us)))), x10, some (.f (.int ((r.2.2 : Nat) : Int))), x12, none] ∧ sumG rows tj u (us.take i) = some r) ⟨(rows, tj, u), _, rfl, rfl⟩ ?_ ?_
      · rintro i y env hy ⟨r, x12, rfl, hs⟩
        have hi : i < us.length := (List.getElem?_eq_some_iff.1 hy).1
        have hl := sumG_len hs (hm u (by simp))
        rw [List.length_take] at hl
        have := hm y (by simp [List.mem_of_getElem? hy])
        walk_at "go"
        refine ifb_c (fun e => ?_) (fun e => ?_)
        · walk_at "go"
          have := tr.nought (n := m + js.length) (by rw [hT]; exact hu) (sumG_none hs hy e.symm) hk
          rw [hT] at this
          exact q _ (.nought ng this)
        walk_at "go"
        rw [List.length_append, List.length_singleton, Nat.add_sub_cancel]
        exact ⟨_, _, by rw [Nat.xor_comm], sumG_next hs hy (Ne.symm e)⟩
      · rintro env ⟨r, x12, rfl, hs⟩
        rw [List.take_length] at hs
        walk_at "go"
        have st := tr.step (by rw [hT]; exact hu) hs
        rw [hT] at st
        have pn := putA_len dl T r.2.2
        refine ⟨_, _, _, putA dl T r.2.2, _, _, _, _, _, rfl, st, by omega, fun w h1 h2 => ?_⟩
        rw [lkA_put, getD_setN]
        by_cases z : w = T
        · rw [if_pos z, if_pos ⟨z.symm, by rw [tr.gl]; exact hlt⟩]
        · rw [if_neg z, if_neg (fun y => z y.1.symm)]
          exact lk2 w (by omega) h2
  · rintro env ⟨rows, tj, got, dl, x8, x9, x10, x11, x12, rfl, tr, dn, lk⟩
    walk_at "go"
    have gl := tr.gl
    refine lc_rN (fun i => got.getD i 0) (fun W i acc hi kk => ?_) ?_
    · have lk3 := lk i (by omega) (by omega)
      walk_at "go"
      refine ⟨by rw [lk3]; exact fun z => (by cases z), fun v hv => ?_⟩
      have ev : got.getD i 0 = v := by rw [lk3] at hv; exact Option.some.inj hv
      walk_at "go"
      exact kk _ (by rw [ev])
    walk_at "go"
    have e : (List.range m).map (fun i => got.getD i 0) = got.take m := by
      refine List.ext_getElem (by simp [gl]) fun i h1 h2 => ?_
      rw [List.getElem_map, List.getElem_range, List.getElem_take, List.getD_eq_getElem?_getD, List.getElem?_eq_getElem (by rw [List.length_map, List.length_range] at h1; omega)]
      rfl
    rw [e]
    exact q _ (.net ng tr.is)
theorem rep44 : (List.replicate (Int.toNat 132) [Dat.tup [Dat.int 0, Dat.int 1]]).flatten = (List.replicate 132 (0, 1)).map pairD := by rfl
theorem net44 {os : List Nat} (h1 : 1 ≤ os.length) (h2 : os.length ≤ 24) (h3 : ∀ o ∈ os, o < 134) : NetT 2 (List.replicate 132 (0, 1)) os :=
  ⟨⟨fun i j h => by
    rw [List.getElem?_replicate] at h
    split at h
    · cases h; exact ⟨by show 0 < 1; omega, by show 1 < 2 + i; omega⟩
    · cases h⟩, by omega, by omega, by rw [List.length_replicate]; exact Nat.le_refl _, h1, h2, fun o ho => by rw [List.length_replicate]; exact h3 o ho⟩
theorem p_law_k44 : ∀ T, Tape 0 T → r_law_k44 sp_law_net_k06 sp_law_draw sp_law_used sp_law_told_k44 sp_law_due_k44 { nx := fun _ => False, rt := fun r _ => r = .f (.bl true) } (none :: (List.replicate N_law_k44.tail.length none).set 0 (some (.o T))) := by
  intro T hT
  show r_law_k44 sp_law_net_k06 sp_law_draw sp_law_used sp_law_told_k44 sp_law_due_k44 _ [none, some (.o T), none, none, none]
  unfold r_law_k44
  walk_at "h"
  walk_at "go"
  have fin : ∀ {A B : Prop} {x : Dat}, A → (dc (¬ (x = x)) = true → B) ∧ (dc (¬ (x = x)) = false → A) := fun h => ⟨fun e => absurd rfl (dc_iff.1 e), fun _ => h⟩
  refine for_rg (n := 3) (fun i env => ∃ T1 a b c, env = [none, some (.o T1), a, b, c] ∧ Tape (1000 * i) T1) ⟨_, _, _, _, rfl, hT⟩ ?_ ?_
  · rintro i env hi ⟨T0, a, b, c, rfl, hT0⟩
    have hj : [132, 20, 6].getD i 0 ≤ 132 := by
      match i, hi with
      | 0, _ => decide
      | 1, _ => decide
      | 2, _ => decide
    walk_at "go"
    refine net_go (n := 12) (m := [132, 20, 6].getD i 0) hT0 (by omega) (by omega) (by omega) hj fun m js os T1 hT1 ok hm hjl => ?_
    walk_at "go"
    intro v T2 hT2 hv
    have hw : 14 ≤ [14, 14, 14, 24].getD v 0 := by
      match v, hv with
      | 0, _ => decide
      | 1, _ => decide
      | 2, _ => decide
      | 3, _ => decide
    walk_at "go"
    have okt : NetT m js (os.take ([14, 14, 14, 24].getD v 0)) := ⟨ok.toJsOk, ok.m1, ok.m2, ok.jl, by have := ok.o1; rw [List.length_take]; omega, by have := ok.o2; rw [List.length_take]; omega, fun o ho => ok.ol o (List.mem_of_mem_take ho)⟩
    intro v2 T3 hT3 hv2
    walk_at "go"
    generalize hD : DEnds.mk _ _ _ _ _ = D
    have tail : ∀ os, NetT m js os → D.nx [none, some (.o T3), some (.f (.int ((i : Nat) : Int))), some (.f (netD m js os)), c] := by
      intro os ok
      rw [← hD]
      walk_at "go"
      refine .mk ok fun d hd => ?_
      walk_at "go"
      refine .mk ok fun d' hd' => ?_
      have e := hd.det hd'
      subst e
      walk_at "go"
      refine hd.same ?_
      walk_at "go"
      exact ⟨_, _, _, _, rfl, hT3.mono (by omega)⟩
    have t2 : D.nx [none, some (.o T3), some (.f (.int ((i : Nat) : Int))), some (.f (netD m js (os.take ([14, 14, 14, 24].getD v 0)))), c] := tail _ okt
    refine ifb_c (fun e => ?_) (fun e => ?_)
    · walk_at "go"
      refine sp_law_used.mk okt fun os' ok' => ?_
      walk_at "go"
      exact tail _ ok'
    · exact t2
  · rintro env ⟨T0, a, b, c, rfl, hT0⟩
    walk_at "go"
    refine for_items (fun i env => ∃ b c, env = [none, some (.o T0), a, b, c]) ⟨_, _, rfl⟩ ?_ ?_
    · rintro i d env hd ⟨b, c, rfl⟩
      match i, hd with
      | 0, hd =>
        cases hd
        walk_at "go"
        rw [rep44]
        refine sp_law_told_k44.mk (m := 2) (js := List.replicate 132 (0, 1)) (os := [133, 132]) (net44 (by decide) (by decide) (by decide)) fun d hd => ?_
        walk_at "go"
        refine sp_law_due_k44.mk (m := 2) (js := List.replicate 132 (0, 1)) (os := [133, 132]) (net44 (by decide) (by decide) (by decide)) fun d' hd' => ?_
        have e := hd.det hd'
        subst e
        walk_at "go"
        refine hd.same ?_
        walk_at "go"
        exact ⟨_, _, rfl⟩
      | 1, hd =>
        cases hd
        walk_at "go"
        rw [rep44]
        refine sp_law_told_k44.mk (m := 2) (js := List.replicate 132 (0, 1)) (os := [133, 132, 131]) (net44 (by decide) (by decide) (by decide)) fun d hd => ?_
        walk_at "go"
        refine sp_law_due_k44.mk (m := 2) (js := List.replicate 132 (0, 1)) (os := [133, 132, 131]) (net44 (by decide) (by decide) (by decide)) fun d' hd' => ?_
        have e := hd.det hd'
        subst e
        walk_at "go"
        refine hd.same ?_
        walk_at "go"
        exact ⟨_, _, rfl⟩
      | i + 2, hd => cases hd
    · rintro env ⟨b, c, rfl⟩
      walk_at "go"
end DP

namespace DP
open PySem PySem.Spec PyProof.Rows L2 DL

def topS (i : Nat) : Stmt := PySem.Challenge.pw_fewjoins_k44_nets_turned_about.main.body.getD i (.Pass ⟨0, 0, 0, 0⟩)
abbrev s_Turning___init__ : Stmt := (clsBody (topS 16)).getD 0 (.Pass ⟨0, 0, 0, 0⟩)
theorem sc_Turning___init__ : FnScope N_Turning___init__ ["self", "many"] (defScope s_Turning___init__) := ⟨rfl, rfl, rfl, by decide +kernel, rfl, by decide +kernel, by decide +kernel⟩
abbrev s_Turning_summed : Stmt := (clsBody (topS 16)).getD 1 (.Pass ⟨0, 0, 0, 0⟩)
theorem sc_Turning_summed : FnScope N_Turning_summed ["self", "uses", "thing"] (defScope s_Turning_summed) := ⟨rfl, rfl, rfl, by decide +kernel, rfl, by decide +kernel, by decide +kernel⟩
abbrev s_uses_of : Stmt := topS 17
theorem sc_uses_of : FnScope N_uses_of ["net"] (defScope s_uses_of) := ⟨rfl, rfl, rfl, by decide +kernel, rfl, by decide +kernel, by decide +kernel⟩
abbrev s_turned_net : Stmt := topS 18
theorem sc_turned_net : FnScope N_turned_net ["net"] (defScope s_turned_net) := ⟨rfl, rfl, rfl, by decide +kernel, rfl, by decide +kernel, by decide +kernel⟩
abbrev s_law_tape : Stmt := topS 20
theorem sc_law_tape : FnScope ["_law_script"] ["_law_script"] (defScope s_law_tape) := ⟨rfl, rfl, rfl, by decide +kernel, rfl, by decide +kernel, by decide +kernel⟩
abbrev s_law_draw : Stmt := topS 21
theorem sc_law_draw : FnScope N_law_draw ["_law_tape_here", "_law_many"] (defScope s_law_draw) := ⟨rfl, rfl, rfl, by decide +kernel, rfl, by decide +kernel, by decide +kernel⟩
abbrev s_law_net_k06 : Stmt := topS 22
theorem sc_law_net_k06 : FnScope N_law_net_k06 ["_law_tape_here", "_law_most", "_law_joins_most"] (defScope s_law_net_k06) := ⟨rfl, rfl, rfl, by decide +kernel, rfl, by decide +kernel, by decide +kernel⟩
abbrev s_law_used : Stmt := topS 23
theorem sc_law_used : FnScope N_law_used ["_law_net_here"] (defScope s_law_used) := ⟨rfl, rfl, rfl, by decide +kernel, rfl, by decide +kernel, by decide +kernel⟩
abbrev s_law_told_k44 : Stmt := topS 24
theorem sc_law_told_k44 : FnScope N_law_told_k44 ["_law_net_here"] (defScope s_law_told_k44) := ⟨rfl, rfl, rfl, by decide +kernel, rfl, by decide +kernel, by decide +kernel⟩
abbrev s_law_due_k44 : Stmt := topS 25
theorem sc_law_due_k44 : FnScope N_law_due_k44 ["_law_net_here"] (defScope s_law_due_k44) := ⟨rfl, rfl, rfl, by decide +kernel, rfl, by decide +kernel, by decide +kernel⟩
abbrev s_law_k44 : Stmt := topS 26
theorem sc_law_k44 : FnScope N_law_k44 ["_law_script"] (defScope s_law_k44) := ⟨rfl, rfl, rfl, by decide +kernel, rfl, by decide +kernel, by decide +kernel⟩
abbrev sI_Nought : Stmt := (clsBody (topS 7)).getD 0 (.Pass ⟨0, 0, 0, 0⟩)
theorem sc_I_Nought : FnScope ["self", "at"] ["self", "at"] (defScope sI_Nought) := ⟨rfl, rfl, rfl, by decide +kernel, rfl, by decide +kernel, by decide +kernel⟩
abbrev sI_Bare : Stmt := (clsBody (topS 8)).getD 0 (.Pass ⟨0, 0, 0, 0⟩)
theorem sc_I_Bare : FnScope ["self", "given"] ["self", "given"] (defScope sI_Bare) := ⟨rfl, rfl, rfl, by decide +kernel, rfl, by decide +kernel, by decide +kernel⟩
abbrev sI_Loose : Stmt := (clsBody (topS 9)).getD 0 (.Pass ⟨0, 0, 0, 0⟩)
theorem sc_I_Loose : FnScope ["self", "thing"] ["self", "thing"] (defScope sI_Loose) := ⟨rfl, rfl, rfl, by decide +kernel, rfl, by decide +kernel, by decide +kernel⟩
abbrev sI_Leans : Stmt := (clsBody (topS 10)).getD 0 (.Pass ⟨0, 0, 0, 0⟩)
theorem sc_I_Leans : FnScope ["self", "place"] ["self", "place"] (defScope sI_Leans) := ⟨rfl, rfl, rfl, by decide +kernel, rfl, by decide +kernel, by decide +kernel⟩
abbrev sI_NoAnswer : Stmt := (clsBody (topS 11)).getD 0 (.Pass ⟨0, 0, 0, 0⟩)
theorem sc_I_NoAnswer : FnScope ["self", "places"] ["self", "places"] (defScope sI_NoAnswer) := ⟨rfl, rfl, rfl, by decide +kernel, rfl, by decide +kernel, by decide +kernel⟩
abbrev sI_NoText : Stmt := (clsBody (topS 12)).getD 0 (.Pass ⟨0, 0, 0, 0⟩)
theorem sc_I_NoText : FnScope ["self", "row"] ["self", "row"] (defScope sI_NoText) := ⟨rfl, rfl, rfl, by decide +kernel, rfl, by decide +kernel, by decide +kernel⟩
section
variable [ClsV] {mg : Str → Option Value} {base : Heap} {K : PySem.W.Frag} {w : World} {P : Program} {f : Addr} {fd : FuncData}
theorem ok_law_tape (Fn : Fun K "_law_tape" "_law_tape" s_law_tape f fd) : FnOk P w K mg base CX0 1 f fd ["_law_script"] (spTape K) :=
  tape_ok Fn sc_law_tape fun cdv A outer s H E => pss_one (ps_ret (pe_disp (pps_cons pe_str (pe_slice sl_list (pv 0) po_none (po_some pe_int)) (pps_cons pe_str pe_int (pps_cons pe_str pe_int pps_nil))) (by rfl) (by rfl) (fun z => by cases z) (by decide)))
theorem ok_Turning___init__ (Fn : Fun K "__init__" "Turning.__init__" s_Turning___init__ f fd) (mk : L2.Mk K (clsA "Turning") f) (hm : mg "Turning" = some (.ref (clsA "Turning"))) (hb : Binds K fd ["self", "many"] []) (zb_range : mg "range" = none) (I_Turning : Cls K (clsA "Turning")) (n_Turning_many : NoAttr K (clsA "Turning") "many") (n_Turning_rows : NoAttr K (clsA "Turning") "rows") (n_Turning_joins : NoAttr K (clsA "Turning") "joins") : CalIR P w K mg base 1 "Turning" ["self", "many"] sp_Turning___init__ :=
  def_calIR (rd := r_Turning___init__ ) Fn sc_Turning___init__ mk hm hb (fun cdv A outer s H E hr => (rss_cons (rs_setF I_Turning n_Turning_many (re_l (dv 1)) (re_l (dv 0)))
  (rss_cons (rs_setF I_Turning n_Turning_rows (re_l (de_lc (own := [("place", 2)]) rfl sc_Turning___init__.nd (di_range1 (by rfl) zb_range (da_cons (dv 1) da_nil)) (blkOk_by (N := N_Turning___init__) (sc := defScope s_Turning___init__) (by decide +kernel)) (fun _ _ _ _ _ => (dg_name (i := 2) sc_Turning___init__.nd (by rfl) (by first | exact .inl rfl | exact .inr rfl))) (fun _ _ _ _ _ => dts_nil) (fun _ _ _ _ _ => (de_shl de_int (dv 2))))) (re_l (dv 0)))
  (rss_one (rs_setF I_Turning n_Turning_joins (re_l (de_lst da_nil)) (re_l (dv 0))))))) p_Turning___init__
theorem ok_Turning_summed (Fn : Fun K "summed" "Turning.summed" s_Turning_summed f fd) (hm : Meth K (clsA "Turning") "summed" f) (hb : Binds K fd ["self", "uses", "thing"] []) (zb_min : mg "min" = none) (zb_max : mg "max" = none) (zb_len : mg "len" = none) (T : XTab K mg) (M_Nought : XMk P w K mg base "Nought" (spIni K (fieldOf "Nought"))) (I_Turning : Cls K (clsA "Turning")) (n_Turning_rows : NoAttr K (clsA "Turning") "rows") (n_Turning_joins : NoAttr K (clsA "Turning") "joins") : CalMR P w K mg base 3 "Turning" "summed" ["self", "uses", "thing"] sp_Turning_summed :=
  def_calMR (rd := r_Turning_summed ) Fn sc_Turning_summed hm hb (fun cdv A outer s H E hr tk po => (rss_cons (rs_l (ds_set (i := 3) sc_Turning_summed.nd (by rfl) (by first | exact .inl rfl | exact .inr rfl) (de_ix hr (dv 1) de_int)))
  (rss_cons (rs_for po rfl (ri_seq (re_l (de_slice (dv 1) (do_some de_int) do_none))) (dg_name (i := 4) sc_Turning_summed.nd (by rfl) (by first | exact .inl rfl | exact .inr rfl)) (rss_cons (rs_if (rt_p (dt_eqV hr (de_ix hr (de_fld I_Turning n_Turning_rows (dv 0)) (dv 3)) (de_ix hr (de_fld I_Turning n_Turning_rows (dv 0)) (dv 4)))) (rss_one (rs_l (ds_raise rfl tk (dm_field (k := 0) M_Nought (hr.mono (by decide)) (by rfl) (da_cons (dv 2) da_nil))))) rss_nil)
  (rss_cons (rs_expr (re_append (re_fldR I_Turning n_Turning_joins (re_l (dv 0))) (ra_l (da_cons (de_tup (da_cons (de_min rfl (by rfl) zb_min (da_cons (dv 3) (da_cons (dv 4) da_nil))) (da_cons (de_max rfl (by rfl) zb_max (da_cons (dv 3) (da_cons (dv 4) da_nil))) da_nil))) da_nil))))
  (rss_cons (rs_expr (re_append (re_fldR I_Turning n_Turning_rows (re_l (dv 0))) (ra_cons (re_p (de_bxor (de_ix hr (de_fld I_Turning n_Turning_rows (dv 0)) (dv 3)) (de_ix hr (de_fld I_Turning n_Turning_rows (dv 0)) (dv 4)))) ra_nil)))
  (rss_one (rs_set (i := 3) sc_Turning_summed.nd (by rfl) (by first | exact .inl rfl | exact .inr rfl) (re_p (de_sub (de_len (by rfl) zb_len (da_cons (de_fld I_Turning n_Turning_rows (dv 0)) da_nil)) de_int))))))))
  (rss_one (rs_l (ds_ret (dv 3))))))) p_Turning_summed
theorem ok_uses_of (Fn : Fun K "uses_of" "uses_of" s_uses_of f fd) (hm : mg "uses_of" = some (.ref f)) (hb : Binds K fd ["net"] []) (zb_len : mg "len" = none) (zb_range : mg "range" = none) (zb_reversed : mg "reversed" = none) : Cal P w K mg base 1 "uses_of" ["net"] sp_uses_of :=
  def_cal (rd := r_uses_of ) Fn sc_uses_of hm hb (fun cdv A outer s H E hr => (dss_reg (rss_cons (rs_l (ds_asg (dv 0) (dg_tup rfl (dgs_cons (dg_name (i := 1) sc_uses_of.nd (by rfl) (by first | exact .inl rfl | exact .inr rfl)) (dgs_cons (dg_name (i := 2) sc_uses_of.nd (by rfl) (by first | exact .inl rfl | exact .inr rfl)) (dgs_cons (dg_name (i := 3) sc_uses_of.nd (by rfl) (by first | exact .inl rfl | exact .inr rfl)) dgs_nil))))))
  (rss_cons (rs_setLc (i := 4) (own := [("thing", 5)]) rfl sc_uses_of.nd (by rfl) (by rfl) (sw_true (by rfl) (by rfl) (by rfl) (by decide +kernel)) (ri_range1 (by rfl) zb_range (ra_l (da_cons (de_add (dv 1) (de_len (by rfl) zb_len (da_cons (dv 2) da_nil))) da_nil))) (blkOk_by (N := N_uses_of) (sc := defScope s_uses_of) (by decide +kernel)) (fun _ _ _ _ _ => (dg_name (i := 5) sc_uses_of.nd (by rfl) (by first | exact .inl rfl | exact .inr rfl))) (fun _ _ _ _ _ => rts_nil) (fun _ _ _ _ _ => (re_l (de_lst da_nil))))
  (rss_cons (rs_setLc (i := 6) (own := [("thing", 5)]) rfl sc_uses_of.nd (by rfl) (by rfl) (sw_true (by rfl) (by rfl) (by rfl) (by decide +kernel)) (ri_range1 (by rfl) zb_range (ra_l (da_cons (de_add (dv 1) (de_len (by rfl) zb_len (da_cons (dv 2) da_nil))) da_nil))) (blkOk_by (N := N_uses_of) (sc := defScope s_uses_of) (by decide +kernel)) (fun _ _ _ _ _ => (dg_name (i := 5) sc_uses_of.nd (by rfl) (by first | exact .inl rfl | exact .inr rfl))) (fun _ _ _ _ _ => rts_nil) (fun _ _ _ _ _ => (re_l (de_lst da_nil))))
  (rss_cons (rs_for PassesOwn.never rfl (ri_range1 (by rfl) zb_range (ra_l (da_cons (de_len (by rfl) zb_len (da_cons (dv 3) da_nil)) da_nil))) (dg_name (i := 7) sc_uses_of.nd (by rfl) (by first | exact .inl rfl | exact .inr rfl)) (rss_one (rs_expr (re_append (re_l (de_ix hr (dv 4) (de_ix hr (dv 3) (dv 7)))) (ra_l (da_cons (dv 7) da_nil))))))
  (rss_cons (rs_for PassesOwn.never rfl (ri_rev1 (by rfl) zb_reversed (by rfl) zb_range (re_l (de_len (by rfl) zb_len (da_cons (dv 2) da_nil)))) (dg_name (i := 8) sc_uses_of.nd (by rfl) (by first | exact .inl rfl | exact .inr rfl)) (rss_one (rs_for PassesOwn.never rfl (ri_seq (re_l (de_ix hr (dv 2) (dv 8)))) (dg_name (i := 5) sc_uses_of.nd (by rfl) (by first | exact .inl rfl | exact .inr rfl)) (rss_one (rs_expr (re_append (re_l (de_ix hr (dv 6) (dv 5))) (ra_l (da_cons (de_add (dv 1) (dv 8)) da_nil))))))))
  (rss_one (rs_l (ds_ret (de_tup (da_cons (dv 4) (da_cons (dv 6) da_nil))))))))))))) p_uses_of
theorem ok_turned_net (Fn : Fun K "turned_net" "turned_net" s_turned_net f fd) (hm : mg "turned_net" = some (.ref f)) (hb : Binds K fd ["net"] []) (zb_len : mg "len" = none) (zb_reversed : mg "reversed" = none) (zb_range : mg "range" = none) (zb_tuple : mg "tuple" = none) {tk_MOST_GIVENS : Tok} (gl_MOST_GIVENS : mg "MOST_GIVENS" = some (.int 12 tk_MOST_GIVENS)) {tk_MOST_JOINS : Tok} (gl_MOST_JOINS : mg "MOST_JOINS" = some (.int 132 tk_MOST_JOINS)) (T : XTab K mg) (ok_TooMany : ClsV.ok "TooMany") (qx_TooMany : ∀ C, ClsV.v "TooMany" = .ref C → PySem.W.excIn K C PySem.HandSPX.veTail "ValueError.__new__" = true) (M_Loose : XMk P w K mg base "Loose" (spIni K (fieldOf "Loose"))) (I_Turning : Cls K (clsA "Turning")) (n_Turning_joins : NoAttr K (clsA "Turning") "joins") (c_uses_of : Cal P w K mg base 1 "uses_of" ["net"] sp_uses_of) (c_Turning___init__ : CalIR P w K mg base 1 "Turning" ["self", "many"] sp_Turning___init__) (c_Turning_summed : CalMR P w K mg base 3 "Turning" "summed" ["self", "uses", "thing"] sp_Turning_summed) : CalX P w K mg base 4 "turned_net" ["net"] sp_turned_net :=
  def_calX (rd := r_turned_net sp_uses_of sp_Turning___init__ sp_Turning_summed) Fn sc_turned_net hm hb (fun cdv A outer s H E hr tk po => (dss_reg (rss_cons (rs_l (ds_asg (dv 0) (dg_tup rfl (dgs_cons (dg_name (i := 1) sc_turned_net.nd (by rfl) (by first | exact .inl rfl | exact .inr rfl)) (dgs_cons (dg_name (i := 2) sc_turned_net.nd (by rfl) (by first | exact .inl rfl | exact .inr rfl)) (dgs_cons (dg_name (i := 3) sc_turned_net.nd (by rfl) (by first | exact .inl rfl | exact .inr rfl)) dgs_nil))))))
  (rss_cons (rs_l (ds_if (DWx.t (dw_or (dt_gt (de_len (by rfl) zb_len (da_cons (dv 3) da_nil)) (de_glob (.int 12) (.int 12) (by rfl) gl_MOST_GIVENS ⟨_, rfl⟩ (fun _ => .int 12))) (dw_or1 (dt_gt (de_sub (de_add (de_len (by rfl) zb_len (da_cons (dv 2) da_nil)) (de_len (by rfl) zb_len (da_cons (dv 3) da_nil))) (dv 1)) (de_glob (.int 132) (.int 132) (by rfl) gl_MOST_JOINS ⟨_, rfl⟩ (fun _ => .int 132)))))) (dss_one (ds_raise rfl tk (dm_text T ok_TooMany qx_TooMany (by rfl)))) dss_nil))
  (rss_cons (rs_l (ds_asg (de_call [false] c_uses_of (hr.mono (by decide)) (by rfl) (da_cons (dv 0) da_nil)) (dg_tup rfl (dgs_cons (dg_name (i := 4) sc_turned_net.nd (by rfl) (by first | exact .inl rfl | exact .inr rfl)) (dgs_cons (dg_name (i := 5) sc_turned_net.nd (by rfl) (by first | exact .inl rfl | exact .inr rfl)) dgs_nil)))))
  (rss_cons (rs_set (i := 6) sc_turned_net.nd (by rfl) (by first | exact .inl rfl | exact .inr rfl) (re_makeR [false] c_Turning___init__ (hr.mono (by decide)) (by rfl) (ra_l (da_cons (de_len (by rfl) zb_len (da_cons (dv 3) da_nil)) da_nil))))
  (rss_cons (rs_l (ds_set (i := 7) sc_turned_net.nd (by rfl) (by first | exact .inl rfl | exact .inr rfl) (de_mul (de_lst (da_cons de_int da_nil)) (de_add (dv 1) (de_len (by rfl) zb_len (da_cons (dv 2) da_nil))))))
  (rss_cons (rs_for po rfl (ri_rev1 (by rfl) zb_reversed (by rfl) zb_range (re_l (de_add (dv 1) (de_len (by rfl) zb_len (da_cons (dv 2) da_nil))))) (dg_name (i := 8) sc_turned_net.nd (by rfl) (by first | exact .inl rfl | exact .inr rfl)) (rss_cons (rs_l (ds_set (i := 9) sc_turned_net.nd (by rfl) (by first | exact .inl rfl | exact .inr rfl) (de_add (de_ix hr (dv 4) (dv 8)) (de_lc (own := [("taker", 10)]) rfl sc_turned_net.nd (di_seq (de_ix hr (dv 5) (dv 8))) (blkOk_by (N := N_turned_net) (sc := defScope s_turned_net) (by decide +kernel)) (fun _ _ _ _ _ => (dg_name (i := 10) sc_turned_net.nd (by rfl) (by first | exact .inl rfl | exact .inr rfl))) (fun _ _ _ _ _ => dts_nil) (fun _ _ _ _ _ => (de_ix hr (dv 7) (dv 10)))))))
  (rss_cons (rs_l (ds_if (dt_eqV hr (dv 9) (de_lst da_nil)) (dss_one (ds_raise rfl tk (dm_field (k := 0) M_Loose (hr.mono (by decide)) (by rfl) (da_cons (dv 8) da_nil)))) dss_nil))
  (rss_one (rs_setI hr (re_metR [false, false] I_Turning c_Turning_summed (hr.mono (by decide)) tk (re_l (dv 6)) (ra_l (da_cons (dvF 9) (da_cons (dv 8) da_nil)))) (re_l (dv 7)) (re_l (dv 8)))))))
  (rss_one (rs_ret (re_p (de_tup (da_cons (de_len (by rfl) zb_len (da_cons (dv 3) da_nil)) (da_cons (de_tuple (by rfl) zb_tuple (da_cons (de_fld I_Turning n_Turning_joins (dv 6)) da_nil)) (da_cons (de_tuple (by rfl) zb_tuple (da_cons (de_slice (dv 7) do_none (do_some (dv 1))) da_nil)) da_nil))))))))))))))) p_turned_net
theorem ok_law_draw (Fn : Fun K "_law_draw" "_law_draw" s_law_draw f fd) (hm : mg "_law_draw" = some (.ref f)) (hb : Binds K fd ["_law_tape_here", "_law_many"] []) (zb_len : mg "len" = none) : Cal P w K mg base 1 "_law_draw" ["_law_tape_here", "_law_many"] sp_law_draw :=
  def_cal (rd := r_law_draw ) Fn sc_law_draw hm hb (fun cdv A outer s H E hr => (dss_cons (ds_if (dt_gt (de_ix hr (dv 0) de_str) de_int) (dss_cons (ds_set (i := 2) sc_law_draw.nd (by rfl) (by first | exact .inl rfl | exact .inr rfl) (de_mod (de_ix hr (dv 0) de_str) (dv 1)))
  (dss_cons (ds_setI hr (de_fdiv (de_ix hr (dv 0) de_str) (dv 1)) (dv 0) de_str)
  (dss_one (ds_ret (dv 2))))) dss_nil)
  (dss_cons (ds_set (i := 3) sc_law_draw.nd (by rfl) (by first | exact .inl rfl | exact .inr rfl) (de_ix hr (dv 0) de_str))
  (dss_cons (ds_setI hr (de_add (dv 3) de_int) (dv 0) de_str)
  (dss_cons (ds_set (i := 4) sc_law_draw.nd (by rfl) (by first | exact .inl rfl | exact .inr rfl) (de_ix hr (dv 0) de_str))
  (dss_cons (ds_set (i := 5) sc_law_draw.nd (by rfl) (by first | exact .inl rfl | exact .inr rfl) de_int)
  (dss_cons (ds_if (dt_gt (de_len (by rfl) zb_len (da_cons (dv 4) da_nil)) de_int) (dss_one (ds_set (i := 5) sc_law_draw.nd (by rfl) (by first | exact .inl rfl | exact .inr rfl) (de_ix hr (dv 4) (de_mod (dv 3) (de_len (by rfl) zb_len (da_cons (dv 4) da_nil)))))) dss_nil)
  (dss_cons (ds_if (DWx.t (dw_and (dt_ge (dv 5) (de_pow de_int de_int)) (dw_and1 (dt_lt (dv 3) (de_len (by rfl) zb_len (da_cons (dv 4) da_nil)))))) (dss_cons (ds_setI hr (de_fdiv (de_sub (dv 5) (de_pow de_int de_int)) (dv 1)) (dv 0) de_str)
  (dss_one (ds_ret (de_mod (de_sub (dv 5) (de_pow de_int de_int)) (dv 1))))) dss_nil)
  (dss_cons (ds_set (i := 6) sc_law_draw.nd (by rfl) (by first | exact .inl rfl | exact .inr rfl) (de_mod (de_mul (de_add (de_add (de_add (de_mod (dv 5) de_int) (de_mul (de_mul de_int (dv 3)) (dv 3))) (de_mul de_int (dv 3))) de_int) de_int) de_int))
  (dss_one (ds_ret (de_mod (de_fdiv (de_mod (de_mul (dv 6) (de_add (dv 6) de_int)) de_int) de_int) (dv 1))))))))))))) p_law_draw
theorem ok_law_net_k06 (Fn : Fun K "_law_net" "_law_net" s_law_net_k06 f fd) (hm : mg "_law_net" = some (.ref f)) (hb : Binds K fd ["_law_tape_here", "_law_most", "_law_joins_most"] []) (zb_range : mg "range" = none) (zb_len : mg "len" = none) (zb_max : mg "max" = none) (zb_min : mg "min" = none) (zb_tuple : mg "tuple" = none) (c_law_draw : Cal P w K mg base 1 "_law_draw" ["_law_tape_here", "_law_many"] sp_law_draw) : Cal P w K mg base 2 "_law_net" ["_law_tape_here", "_law_most", "_law_joins_most"] sp_law_net_k06 :=
  def_cal (rd := r_law_net_k06 sp_law_draw) Fn sc_law_net_k06 hm hb (fun cdv A outer s H E hr => (dss_cons (ds_set (i := 3) sc_law_net_k06.nd (by rfl) (by first | exact .inl rfl | exact .inr rfl) (de_add de_int (de_call [true, false] c_law_draw (hr.mono (by decide)) (by rfl) (da_cons (dv 0) (da_cons (dv 1) da_nil)))))
  (dss_cons (ds_set (i := 4) sc_law_net_k06.nd (by rfl) (by first | exact .inl rfl | exact .inr rfl) (de_lc (own := [("_law_k", 5)]) rfl sc_law_net_k06.nd (di_range1 (by rfl) zb_range (da_cons (dv 3) da_nil)) (blkOk_by (N := N_law_net_k06) (sc := defScope s_law_net_k06) (by decide +kernel)) (fun _ _ _ _ _ => (dg_name (i := 5) sc_law_net_k06.nd (by rfl) (by first | exact .inl rfl | exact .inr rfl))) (fun _ _ _ _ _ => dts_nil) (fun _ _ _ _ _ => (de_shl de_int (dv 5)))))
  (dss_cons (ds_set (i := 6) sc_law_net_k06.nd (by rfl) (by first | exact .inl rfl | exact .inr rfl) (de_lst da_nil))
  (dss_cons (ds_set (i := 7) sc_law_net_k06.nd (by rfl) (by first | exact .inl rfl | exact .inr rfl) (de_call [true, false] c_law_draw (hr.mono (by decide)) (by rfl) (da_cons (dv 0) (da_cons de_int da_nil))))
  (dss_cons (ds_for PassesOwn.never rfl (di_range1 (by rfl) zb_range (da_cons (de_call [true, false] c_law_draw (hr.mono (by decide)) (by rfl) (da_cons (dv 0) (da_cons (de_add (dv 2) de_int) da_nil))) da_nil)) (dg_name (i := 8) sc_law_net_k06.nd (by rfl) (by first | exact .inl rfl | exact .inr rfl)) (dss_cons (ds_set (i := 9) sc_law_net_k06.nd (by rfl) (by first | exact .inl rfl | exact .inr rfl) (de_call [true, false] c_law_draw (hr.mono (by decide)) (by rfl) (da_cons (dv 0) (da_cons (de_len (by rfl) zb_len (da_cons (dv 4) da_nil)) da_nil))))
  (dss_cons (ds_set (i := 10) sc_law_net_k06.nd (by rfl) (by first | exact .inl rfl | exact .inr rfl) (de_call [true, false] c_law_draw (hr.mono (by decide)) (by rfl) (da_cons (dv 0) (da_cons (de_len (by rfl) zb_len (da_cons (dv 4) da_nil)) da_nil))))
  (dss_cons (ds_if (dt_eq hr (dv 7) de_int) (dss_one (ds_set (i := 10) sc_law_net_k06.nd (by rfl) (by first | exact .inl rfl | exact .inr rfl) (de_sub (de_len (by rfl) zb_len (da_cons (dv 4) da_nil)) de_int))) dss_nil)
  (dss_cons (ds_if (dt_eq hr (dv 7) de_int) (dss_cons (ds_set (i := 9) sc_law_net_k06.nd (by rfl) (by first | exact .inl rfl | exact .inr rfl) (de_max rfl (by rfl) zb_max (da_cons de_int (da_cons (de_sub (de_sub (de_len (by rfl) zb_len (da_cons (dv 4) da_nil)) de_int) (de_mod (dv 9) de_int)) da_nil))))
  (dss_one (ds_set (i := 10) sc_law_net_k06.nd (by rfl) (by first | exact .inl rfl | exact .inr rfl) (de_max rfl (by rfl) zb_max (da_cons de_int (da_cons (de_sub (de_sub (de_len (by rfl) zb_len (da_cons (dv 4) da_nil)) de_int) (de_mod (dv 10) de_int)) da_nil)))))) dss_nil)
  (dss_one (ds_if (dt_ne hr (de_ix hr (dv 4) (dv 9)) (de_ix hr (dv 4) (dv 10))) (dss_cons (ds_expr (de_append (dv 6) (da_cons (de_tup (da_cons (de_min rfl (by rfl) zb_min (da_cons (dv 9) (da_cons (dv 10) da_nil))) (da_cons (de_max rfl (by rfl) zb_max (da_cons (dv 9) (da_cons (dv 10) da_nil))) da_nil))) da_nil)))
  (dss_one (ds_expr (de_append (dv 4) (da_cons (de_bxor (de_ix hr (dv 4) (dv 9)) (de_ix hr (dv 4) (dv 10))) da_nil))))) dss_nil)))))))
  (dss_cons (ds_set (i := 11) sc_law_net_k06.nd (by rfl) (by first | exact .inl rfl | exact .inr rfl) (de_tuple (by rfl) zb_tuple (da_cons (de_lc (own := [("_law_turn", 8)]) rfl sc_law_net_k06.nd (di_range1 (by rfl) zb_range (da_cons (de_add de_int (de_call [true, false] c_law_draw (hr.mono (by decide)) (by rfl) (da_cons (dv 0) (da_cons de_int da_nil)))) da_nil)) (blkOk_by (N := N_law_net_k06) (sc := defScope s_law_net_k06) (by decide +kernel)) (fun _ _ _ _ _ => (dg_name (i := 8) sc_law_net_k06.nd (by rfl) (by first | exact .inl rfl | exact .inr rfl))) (fun _ _ _ _ _ => dts_nil) (fun _ _ _ _ _ => (de_call [true, false] c_law_draw (hr.mono (by decide)) (by rfl) (da_cons (dv 0) (da_cons (de_len (by rfl) zb_len (da_cons (dv 4) da_nil)) da_nil))))) da_nil)))
  (dss_one (ds_ret (de_tup (da_cons (dv 3) (da_cons (de_tuple (by rfl) zb_tuple (da_cons (dv 6) da_nil)) (da_cons (dv 11) da_nil))))))))))))) p_law_net_k06
theorem ok_law_used (Fn : Fun K "_law_used" "_law_used" s_law_used f fd) (hm : mg "_law_used" = some (.ref f)) (hb : Binds K fd ["_law_net_here"] []) (zb_len : mg "len" = none) (zb_range : mg "range" = none) (zb_list : mg "list" = none) (zb_tuple : mg "tuple" = none) : Cal P w K mg base 1 "_law_used" ["_law_net_here"] sp_law_used :=
  def_cal (rd := r_law_used ) Fn sc_law_used hm hb (fun cdv A outer s H E hr => (dss_cons (ds_set (i := 1) sc_law_used.nd (by rfl) (by first | exact .inl rfl | exact .inr rfl) de_newK)
  (dss_cons (ds_for PassesOwn.never rfl (di_seq (de_ix hr (dv 0) de_int)) (dg_tup rfl (dgs_cons (dg_name (i := 2) sc_law_used.nd (by rfl) (by first | exact .inl rfl | exact .inr rfl)) (dgs_cons (dg_name (i := 3) sc_law_used.nd (by rfl) (by first | exact .inl rfl | exact .inr rfl)) dgs_nil))) (dss_cons (ds_setI hr de_bl (dv 1) (dv 2))
  (dss_one (ds_setI hr de_bl (dv 1) (dv 3)))))
  (dss_cons (ds_set (i := 4) sc_law_used.nd (by rfl) (by first | exact .inl rfl | exact .inr rfl) (de_add (de_lc (own := [("_law_thing", 5)]) rfl sc_law_used.nd (di_range1 (by rfl) zb_range (da_cons (de_add (de_ix hr (dv 0) de_int) (de_len (by rfl) zb_len (da_cons (de_ix hr (dv 0) de_int) da_nil))) da_nil)) (blkOk_by (N := N_law_used) (sc := defScope s_law_used) (by decide +kernel)) (fun _ _ _ _ _ => (dg_name (i := 5) sc_law_used.nd (by rfl) (by first | exact .inl rfl | exact .inr rfl))) (fun _ _ _ _ _ => (dts_one (dt_notin hr (dv 5) (dv 1)))) (fun _ _ _ _ _ => (dv 5))) (de_list (by rfl) zb_list (da_cons (de_ix hr (dv 0) de_int) da_nil))))
  (dss_one (ds_ret (de_tup (da_cons (de_ix hr (dv 0) de_int) (da_cons (de_ix hr (dv 0) de_int) (da_cons (de_tuple (by rfl) zb_tuple (da_cons (de_slice (dv 4) do_none (do_some de_int)) da_nil)) da_nil)))))))))) p_law_used
theorem ok_law_told_k44 (Fn : Fun K "_law_told" "_law_told" s_law_told_k44 f fd) (hm : mg "_law_told" = some (.ref f)) (hb : Binds K fd ["_law_net_here"] []) (zb_isinstance : mg "isinstance" = none) (zb_ValueError : mg "ValueError" = none) (T : XTab K mg) (ok_Nought : ClsV.ok "Nought") (ok_Loose : ClsV.ok "Loose") (ok_TooMany : ClsV.ok "TooMany") (ok_NoWidth : ClsV.ok "NoWidth") (ok_NoText : ClsV.ok "NoText") (ok_NoRow : ClsV.ok "NoRow") (ok_NoName : ClsV.ok "NoName") (ok_NoFit : ClsV.ok "NoFit") (ok_NoAnswer : ClsV.ok "NoAnswer") (ok_Leans : ClsV.ok "Leans") (ok_Bare : ClsV.ok "Bare") (c_turned_net : CalX P w K mg base 4 "turned_net" ["net"] sp_turned_net) : Cal P w K mg base 5 "_law_told" ["_law_net_here"] sp_law_told_k44 :=
  def_cal (rd := r_law_told_k44 sp_turned_net) Fn sc_law_told_k44 hm hb (fun cdv A outer s H E hr => (dss_cons (ds_set (i := 1) sc_law_told_k44.nd (by rfl) (by first | exact .inl rfl | exact .inr rfl) de_non)
  (dss_cons (ds_set (i := 2) sc_law_told_k44.nd (by rfl) (by first | exact .inl rfl | exact .inr rfl) de_non)
  (dss_cons (ds_set (i := 3) sc_law_told_k44.nd (by rfl) (by first | exact .inl rfl | exact .inr rfl) de_non)
  (dss_cons (ds_try rfl rfl rfl tk0 (fun W pn xe tk po => (dss_one (ds_set (i := 3) sc_law_told_k44.nd (by rfl) (by first | exact .inl rfl | exact .inr rfl) (de_callX [false] c_turned_net (hr.mono (by decide)) (by rfl) tk (da_cons (dv 0) da_nil))))) (dh_as (i := 4) (cx_own T ok_Loose (by rfl)) sc_law_told_k44.nd (by rfl) (by rfl) (fun _ _ => (dss_cons (ds_set (i := 1) sc_law_told_k44.nd (by rfl) (by first | exact .inl rfl | exact .inr rfl) (dv 4))
  (dss_one (ds_set (i := 2) sc_law_told_k44.nd (by rfl) (by first | exact .inl rfl | exact .inr rfl) (de_xf T (dv 4)))))) (dh_as (i := 4) (cx_own T ok_Nought (by rfl)) sc_law_told_k44.nd (by rfl) (by rfl) (fun _ _ => (dss_cons (ds_set (i := 1) sc_law_told_k44.nd (by rfl) (by first | exact .inl rfl | exact .inr rfl) (dv 4))
  (dss_one (ds_set (i := 2) sc_law_told_k44.nd (by rfl) (by first | exact .inl rfl | exact .inr rfl) (de_xf T (dv 4)))))) (dh_as (i := 4) (cx_je T (by rfl)) sc_law_told_k44.nd (by rfl) (by rfl) (fun _ _ => (dss_one (ds_set (i := 1) sc_law_told_k44.nd (by rfl) (by first | exact .inl rfl | exact .inr rfl) (dv 4)))) dh_nil))))
  (dss_cons (ds_if (dt_isN (dv 1) de_non) (dss_one (ds_ret (de_tup (da_cons de_str (da_cons (dv 3) da_nil))))) dss_nil)
  (dss_cons (ds_set (i := 5) sc_law_told_k44.nd (by rfl) (by first | exact .inl rfl | exact .inr rfl) (de_lst (da_cons (de_isX1 (by rfl) zb_isinstance T (cn_own T ok_TooMany (by rfl)) (dv 1)) (da_cons (de_isX1 (by rfl) zb_isinstance T (cn_own T ok_Loose (by rfl)) (dv 1)) (da_cons (de_isX1 (by rfl) zb_isinstance T (cn_own T ok_Nought (by rfl)) (dv 1)) (da_cons (de_isX1 (by rfl) zb_isinstance T (cn_ve T (by rfl) zb_ValueError) (dv 1)) da_nil))))))
  (dss_cons (ds_set (i := 6) sc_law_told_k44.nd (by rfl) (by first | exact .inl rfl | exact .inr rfl) (de_isXs (by rfl) zb_isinstance T (cnl_cons (cn_own T ok_Bare (by rfl)) (cnl_cons (cn_own T ok_Leans (by rfl)) (cnl_cons (cn_own T ok_NoAnswer (by rfl)) (cnl_cons (cn_own T ok_NoFit (by rfl)) (cnl_cons (cn_own T ok_NoName (by rfl)) (cnl_cons (cn_own T ok_NoRow (by rfl)) (cnl_cons (cn_own T ok_NoText (by rfl)) (cnl_cons (cn_own T ok_NoWidth (by rfl)) cnl_nil)))))))) (dv 1)))
  (dss_one (ds_ret (de_tup (da_cons de_str (da_cons (dv 5) (da_cons (dv 6) (da_cons (dv 2) da_nil))))))))))))))) p_law_told_k44
theorem ok_law_due_k44 (Fn : Fun K "_law_due" "_law_due" s_law_due_k44 f fd) (hm : mg "_law_due" = some (.ref f)) (hb : Binds K fd ["_law_net_here"] []) (zb_len : mg "len" = none) (zb_range : mg "range" = none) (zb_max : mg "max" = none) (zb_min : mg "min" = none) (zb_tuple : mg "tuple" = none) : Cal P w K mg base 1 "_law_due" ["_law_net_here"] sp_law_due_k44 :=
  def_cal (rd := r_law_due_k44 ) Fn sc_law_due_k44 hm hb (fun cdv A outer s H E hr => (dss_cons (ds_asg (dv 0) (dg_tup rfl (dgs_cons (dg_name (i := 1) sc_law_due_k44.nd (by rfl) (by first | exact .inl rfl | exact .inr rfl)) (dgs_cons (dg_name (i := 2) sc_law_due_k44.nd (by rfl) (by first | exact .inl rfl | exact .inr rfl)) (dgs_cons (dg_name (i := 3) sc_law_due_k44.nd (by rfl) (by first | exact .inl rfl | exact .inr rfl)) dgs_nil)))))
  (dss_cons (ds_if (DWx.t (dw_or (dt_gt (de_len (by rfl) zb_len (da_cons (dv 3) da_nil)) de_int) (dw_or1 (dt_gt (de_sub (de_add (de_len (by rfl) zb_len (da_cons (dv 2) da_nil)) (de_len (by rfl) zb_len (da_cons (dv 3) da_nil))) (dv 1)) de_int)))) (dss_one (ds_ret (de_tup (da_cons de_str (da_cons (de_lst (da_cons de_bl (da_cons de_bl (da_cons de_bl (da_cons de_bl da_nil))))) (da_cons de_bl (da_cons de_non da_nil))))))) dss_nil)
  (dss_cons (ds_setLc (i := 4) (own := [("_law_place", 5)]) rfl sc_law_due_k44.nd (by rfl) (by rfl) (sw_true (by rfl) (by rfl) (by rfl) (by decide +kernel)) (di_range1 (by rfl) zb_range (da_cons (de_len (by rfl) zb_len (da_cons (dv 3) da_nil)) da_nil)) (blkOk_by (N := N_law_due_k44) (sc := defScope s_law_due_k44) (by decide +kernel)) (fun _ _ _ _ _ => (dg_name (i := 5) sc_law_due_k44.nd (by rfl) (by first | exact .inl rfl | exact .inr rfl))) (fun _ _ _ _ _ => dts_nil) (fun _ _ _ _ _ => (de_shl de_int (dv 5))))
  (dss_cons (ds_set (i := 6) sc_law_due_k44.nd (by rfl) (by first | exact .inl rfl | exact .inr rfl) (de_lst da_nil))
  (dss_cons (ds_set (i := 7) sc_law_due_k44.nd (by rfl) (by first | exact .inl rfl | exact .inr rfl) de_newK)
  (dss_cons (ds_for PassesOwn.never rfl (di_range3 (by rfl) zb_range (da_cons (de_sub (de_add (dv 1) (de_len (by rfl) zb_len (da_cons (dv 2) da_nil))) de_int) (da_cons (de_neg de_int) (da_cons (de_neg de_int) da_nil)))) (dg_name (i := 8) sc_law_due_k44.nd (by rfl) (by first | exact .inl rfl | exact .inr rfl)) (dss_cons (ds_setLc (i := 9) (own := [("_law_place", 5)]) rfl sc_law_due_k44.nd (by rfl) (by rfl) (sw_true (by rfl) (by rfl) (by rfl) (by decide +kernel)) (di_range1 (by rfl) zb_range (da_cons (de_len (by rfl) zb_len (da_cons (dv 3) da_nil)) da_nil)) (blkOk_by (N := N_law_due_k44) (sc := defScope s_law_due_k44) (by decide +kernel)) (fun _ _ _ _ _ => (dg_name (i := 5) sc_law_due_k44.nd (by rfl) (by first | exact .inl rfl | exact .inr rfl))) (fun _ _ _ _ _ => (dts_one (dt_eqV hr (de_ix hr (dv 3) (dv 5)) (dv 8)))) (fun _ _ _ _ _ => (dv 5)))
  (dss_cons (ds_for PassesOwn.never rfl (di_range3 (by rfl) zb_range (da_cons (de_sub (de_len (by rfl) zb_len (da_cons (dv 2) da_nil)) de_int) (da_cons (de_max rfl (by rfl) zb_max (da_cons (de_neg de_int) (da_cons (de_sub (dv 8) (dv 1)) da_nil))) (da_cons (de_neg de_int) da_nil)))) (dg_name (i := 10) sc_law_due_k44.nd (by rfl) (by first | exact .inl rfl | exact .inr rfl)) (dss_one (ds_if (dt_in hr (dv 8) (de_ix hr (dv 2) (dv 10))) (dss_one (ds_expr (de_append (dv 9) (da_cons (de_ix hr (dv 7) (de_add (dv 1) (dv 10))) da_nil)))) dss_nil)))
  (dss_cons (ds_if (dt_eqV hr (dv 9) (de_lst da_nil)) (dss_one (ds_ret (de_tup (da_cons de_str (da_cons (de_lst (da_cons de_bl (da_cons de_bl (da_cons de_bl (da_cons de_bl da_nil))))) (da_cons de_bl (da_cons (dv 8) da_nil))))))) dss_nil)
  (dss_cons (ds_set (i := 11) sc_law_due_k44.nd (by rfl) (by first | exact .inl rfl | exact .inr rfl) (de_ix hr (dv 9) de_int))
  (dss_cons (ds_for PassesOwn.never rfl (di_seq (de_slice (dv 9) (do_some de_int) do_none)) (dg_name (i := 12) sc_law_due_k44.nd (by rfl) (by first | exact .inl rfl | exact .inr rfl)) (dss_cons (ds_if (dt_eqV hr (de_ix hr (dv 4) (dv 12)) (de_ix hr (dv 4) (dv 11))) (dss_one (ds_ret (de_tup (da_cons de_str (da_cons (de_lst (da_cons de_bl (da_cons de_bl (da_cons de_bl (da_cons de_bl da_nil))))) (da_cons de_bl (da_cons (dv 8) da_nil))))))) dss_nil)
  (dss_cons (ds_expr (de_append (dv 6) (da_cons (de_tup (da_cons (de_min rfl (by rfl) zb_min (da_cons (dv 11) (da_cons (dv 12) da_nil))) (da_cons (de_max rfl (by rfl) zb_max (da_cons (dv 11) (da_cons (dv 12) da_nil))) da_nil))) da_nil)))
  (dss_cons (ds_expr (de_append (dv 4) (da_cons (de_bxor (de_ix hr (dv 4) (dv 11)) (de_ix hr (dv 4) (dv 12))) da_nil)))
  (dss_one (ds_set (i := 11) sc_law_due_k44.nd (by rfl) (by first | exact .inl rfl | exact .inr rfl) (de_sub (de_len (by rfl) zb_len (da_cons (dv 4) da_nil)) de_int)))))))
  (dss_one (ds_setI hr (dv 11) (dv 7) (dv 8)))))))))
  (dss_one (ds_ret (de_tup (da_cons de_str (da_cons (de_tup (da_cons (de_len (by rfl) zb_len (da_cons (dv 3) da_nil)) (da_cons (de_tuple (by rfl) zb_tuple (da_cons (dv 6) da_nil)) (da_cons (de_tuple (by rfl) zb_tuple (da_cons (de_lc (own := [("_law_k", 13)]) rfl sc_law_due_k44.nd (di_range1 (by rfl) zb_range (da_cons (dv 1) da_nil)) (blkOk_by (N := N_law_due_k44) (sc := defScope s_law_due_k44) (by decide +kernel)) (fun _ _ _ _ _ => (dg_name (i := 13) sc_law_due_k44.nd (by rfl) (by first | exact .inl rfl | exact .inr rfl))) (fun _ _ _ _ _ => dts_nil) (fun _ _ _ _ _ => (de_ix hr (dv 7) (dv 13)))) da_nil)) da_nil)))) da_nil)))))))))))) p_law_due_k44
theorem ok_law (Fn : Fun K "law" "law" s_law_k44 f fd) {ft : Addr} {fdt : FuncData} (GT : FnOk P w K mg base CX0 1 ft fdt ["_law_script"] (spTape K)) (mt : mg "_law_tape" = some (.ref ft)) (kt : PySem.W.keepIn K (.ref ft) = true) (bt : Binds K fdt ["_law_script"] []) (zb_range : mg "range" = none) (c_law_net_k06 : Cal P w K mg base 2 "_law_net" ["_law_tape_here", "_law_most", "_law_joins_most"] sp_law_net_k06) (c_law_draw : Cal P w K mg base 1 "_law_draw" ["_law_tape_here", "_law_many"] sp_law_draw) (c_law_used : Cal P w K mg base 1 "_law_used" ["_law_net_here"] sp_law_used) (c_law_told_k44 : Cal P w K mg base 5 "_law_told" ["_law_net_here"] sp_law_told_k44) (c_law_due_k44 : Cal P w K mg base 1 "_law_due" ["_law_net_here"] sp_law_due_k44) :
    FnOk P w K mg base CX0 6 f fd ["_law_script"] (spLaw K) :=
  law_ok (N := N_law_k44.tail) (k := 5) Fn sc_law_k44 rfl GT 0 (fun cdv A outer s H E hr => ps_set (i := 1) sc_law_k44.nd (by rfl) (by first | exact .inl rfl | exact .inr rfl) (pe_call GT (hr.mono (by decide)) (by rfl) mt kt bt .nil pass0 (pa_cons (pv 0) pa_nil)))
  (fun cdv A outer s H E hr => ⟨r_law_k44 sp_law_net_k06 sp_law_draw sp_law_used sp_law_told_k44 sp_law_due_k44, (dss_cons (ds_for PassesOwn.never rfl (di_range1 (by rfl) zb_range (da_cons de_int da_nil)) (dg_name (i := 2) sc_law_k44.nd (by rfl) (by first | exact .inl rfl | exact .inr rfl)) (dss_cons (ds_set (i := 3) sc_law_k44.nd (by rfl) (by first | exact .inl rfl | exact .inr rfl) (de_call [true, false, false] c_law_net_k06 (hr.mono (by decide)) (by rfl) (da_cons (dv 1) (da_cons de_int (da_cons (de_ix hr (de_lst (da_cons de_int (da_cons de_int (da_cons de_int da_nil)))) (dv 2)) da_nil)))))
  (dss_cons (ds_set (i := 3) sc_law_k44.nd (by rfl) (by first | exact .inl rfl | exact .inr rfl) (de_tup (da_cons (de_ix hr (dv 3) de_int) (da_cons (de_ix hr (dv 3) de_int) (da_cons (de_slice (de_ix hr (dv 3) de_int) do_none (do_some (de_ix hr (de_lst (da_cons de_int (da_cons de_int (da_cons de_int (da_cons de_int da_nil))))) (de_call [true, false] c_law_draw (hr.mono (by decide)) (by rfl) (da_cons (dv 1) (da_cons de_int da_nil)))))) da_nil)))))
  (dss_cons (ds_if (dt_gt (de_call [true, false] c_law_draw (hr.mono (by decide)) (by rfl) (da_cons (dv 1) (da_cons de_int da_nil))) de_int) (dss_one (ds_set (i := 3) sc_law_k44.nd (by rfl) (by first | exact .inl rfl | exact .inr rfl) (de_call [false] c_law_used (hr.mono (by decide)) (by rfl) (da_cons (dv 3) da_nil)))) dss_nil)
  (dss_one (ds_if (dt_neV hr (de_call [false] c_law_told_k44 (hr.mono (by decide)) (by rfl) (da_cons (dv 3) da_nil)) (de_call [false] c_law_due_k44 (hr.mono (by decide)) (by rfl) (da_cons (dv 3) da_nil))) (dss_one (ds_ret de_bl)) dss_nil))))))
  (dss_cons (ds_for PassesOwn.never rfl (di_seq (de_lst (da_cons (de_tup (da_cons de_int (da_cons de_int da_nil))) (da_cons (de_tup (da_cons de_int (da_cons de_int (da_cons de_int da_nil)))) da_nil)))) (dg_name (i := 4) sc_law_k44.nd (by rfl) (by first | exact .inl rfl | exact .inr rfl)) (dss_cons (ds_set (i := 3) sc_law_k44.nd (by rfl) (by first | exact .inl rfl | exact .inr rfl) (de_tup (da_cons de_int (da_cons (de_mulT (de_tup (da_cons (de_tup (da_cons de_int (da_cons de_int da_nil))) da_nil)) de_int) (da_cons (dv 4) da_nil)))))
  (dss_one (ds_if (dt_neV hr (de_call [false] c_law_told_k44 (hr.mono (by decide)) (by rfl) (da_cons (dv 3) da_nil)) (de_call [false] c_law_due_k44 (hr.mono (by decide)) (by rfl) (da_cons (dv 3) da_nil))) (dss_one (ds_ret de_bl)) dss_nil))))
  (dss_one (ds_ret de_bl)))), p_law_k44⟩)
end
theorem all_mk {l : PySem.W.OpenLaw} {w : World} {K : PySem.W.Frag} {h : Heap} {mg : Str → Option Value} {fa : Addr} (X : K.In h) (G : h.Ns mainGlobals mg) (hfa : mg "law" = some (.ref fa)) {f0 : Addr} {od0 an0 : Option Addr} {sl0 : Array (Option Value)} {oc0 kV0 dc0 pm0 cd0 ct0 : Value} {f1 : Addr} {od1 an1 : Option Addr} {sl1 : Array (Option Value)} {oc1 kV1 dc1 pm1 cd1 ct1 : Value} {f2 : Addr} {od2 an2 : Option Addr} {sl2 : Array (Option Value)} {oc2 kV2 dc2 pm2 cd2 ct2 : Value} {f3 : Addr} {od3 an3 : Option Addr} {sl3 : Array (Option Value)} {oc3 kV3 dc3 pm3 cd3 ct3 : Value} {f4 : Addr} {od4 an4 : Option Addr} {sl4 : Array (Option Value)} {oc4 kV4 dc4 pm4 cd4 ct4 : Value} {f5 : Addr} {od5 an5 : Option Addr} {sl5 : Array (Option Value)} {oc5 kV5 dc5 pm5 cd5 ct5 : Value} {f6 : Addr} {od6 an6 : Option Addr} {sl6 : Array (Option Value)} {oc6 kV6 dc6 pm6 cd6 ct6 : Value} {f7 : Addr} {od7 an7 : Option Addr} {sl7 : Array (Option Value)} {oc7 kV7 dc7 pm7 cd7 ct7 : Value} {f8 : Addr} {od8 an8 : Option Addr} {sl8 : Array (Option Value)} {oc8 kV8 dc8 pm8 cd8 ct8 : Value} {f9 : Addr} {od9 an9 : Option Addr} {sl9 : Array (Option Value)} {oc9 kV9 dc9 pm9 cd9 ct9 : Value} {f10 : Addr} {od10 an10 : Option Addr} {sl10 : Array (Option Value)} {oc10 kV10 dc10 pm10 cd10 ct10 : Value} {CTurning : Addr} {CJ : Addr} {kdJ : ClassData} {CNoFit : Addr} {kd_NoFit : ClassData} {CTooMany : Addr} {kd_TooMany : ClassData} {CNoWidth : Addr} {kd_NoWidth : ClassData} {CNoRow : Addr} {kd_NoRow : ClassData} {CNoName : Addr} {kd_NoName : ClassData} {CNought : Addr} {kd_Nought : ClassData} {nm_Nought q_Nought : Str} {N_Nought : Addr} {bs_Nought sub_Nought : List Value} {sn_Nought : List Str} {ab_Nought : Bool} {col_Nought : Option Bool} {dd_Nought : Option Addr} {m0_Nought m1_Nought m2_Nought m3_Nought m5_Nought : Option Value} {fI_Nought : Addr} {odI_Nought anI_Nought : Option Addr} {slI_Nought : Array (Option Value)} {ocI_Nought kVI_Nought dcI_Nought pmI_Nought cdI_Nought ctI_Nought : Value} {CBare : Addr} {kd_Bare : ClassData} {nm_Bare q_Bare : Str} {N_Bare : Addr} {bs_Bare sub_Bare : List Value} {sn_Bare : List Str} {ab_Bare : Bool} {col_Bare : Option Bool} {dd_Bare : Option Addr} {m0_Bare m1_Bare m2_Bare m3_Bare m5_Bare : Option Value} {fI_Bare : Addr} {odI_Bare anI_Bare : Option Addr} {slI_Bare : Array (Option Value)} {ocI_Bare kVI_Bare dcI_Bare pmI_Bare cdI_Bare ctI_Bare : Value} {CLoose : Addr} {kd_Loose : ClassData} {nm_Loose q_Loose : Str} {N_Loose : Addr} {bs_Loose sub_Loose : List Value} {sn_Loose : List Str} {ab_Loose : Bool} {col_Loose : Option Bool} {dd_Loose : Option Addr} {m0_Loose m1_Loose m2_Loose m3_Loose m5_Loose : Option Value} {fI_Loose : Addr} {odI_Loose anI_Loose : Option Addr} {slI_Loose : Array (Option Value)} {ocI_Loose kVI_Loose dcI_Loose pmI_Loose cdI_Loose ctI_Loose : Value} {CLeans : Addr} {kd_Leans : ClassData} {nm_Leans q_Leans : Str} {N_Leans : Addr} {bs_Leans sub_Leans : List Value} {sn_Leans : List Str} {ab_Leans : Bool} {col_Leans : Option Bool} {dd_Leans : Option Addr} {m0_Leans m1_Leans m2_Leans m3_Leans m5_Leans : Option Value} {fI_Leans : Addr} {odI_Leans anI_Leans : Option Addr} {slI_Leans : Array (Option Value)} {ocI_Leans kVI_Leans dcI_Leans pmI_Leans cdI_Leans ctI_Leans : Value} {CNoAnswer : Addr} {kd_NoAnswer : ClassData} {nm_NoAnswer q_NoAnswer : Str} {N_NoAnswer : Addr} {bs_NoAnswer sub_NoAnswer : List Value} {sn_NoAnswer : List Str} {ab_NoAnswer : Bool} {col_NoAnswer : Option Bool} {dd_NoAnswer : Option Addr} {m0_NoAnswer m1_NoAnswer m2_NoAnswer m3_NoAnswer m5_NoAnswer : Option Value} {fI_NoAnswer : Addr} {odI_NoAnswer anI_NoAnswer : Option Addr} {slI_NoAnswer : Array (Option Value)} {ocI_NoAnswer kVI_NoAnswer dcI_NoAnswer pmI_NoAnswer cdI_NoAnswer ctI_NoAnswer : Value} {CNoText : Addr} {kd_NoText : ClassData} {nm_NoText q_NoText : Str} {N_NoText : Addr} {bs_NoText sub_NoText : List Value} {sn_NoText : List Str} {ab_NoText : Bool} {col_NoText : Option Bool} {dd_NoText : Option Addr} {m0_NoText m1_NoText m2_NoText m3_NoText m5_NoText : Option Value} {fI_NoText : Addr} {odI_NoText anI_NoText : Option Addr} {slI_NoText : Array (Option Value)} {ocI_NoText kVI_NoText dcI_NoText pmI_NoText cdI_NoText ctI_NoText : Value}
    (a0 : PySem.W.findIn K (.ref CTurning) "__init__" = some (some (.ref f0))) (l0 : K.lookup f0 = some ⟨oc0, od0, .func (PySem.W.fnOf "__init__" "Turning.__init__" (defArgs s_Turning___init__) (defBody s_Turning___init__) (defScope s_Turning___init__) .none kV0 dc0 pm0 an0 cd0 ct0), sl0⟩) (c0 : PySem.W.codeIn K cd0 "Turning.__init__" = true) (k0 : PySem.W.keepIn K (.ref f0) = true)
    (a1 : PySem.W.findIn K (.ref CTurning) "summed" = some (some (.ref f1))) (l1 : K.lookup f1 = some ⟨oc1, od1, .func (PySem.W.fnOf "summed" "Turning.summed" (defArgs s_Turning_summed) (defBody s_Turning_summed) (defScope s_Turning_summed) .none kV1 dc1 pm1 an1 cd1 ct1), sl1⟩) (c1 : PySem.W.codeIn K cd1 "Turning.summed" = true) (k1 : PySem.W.keepIn K (.ref f1) = true)
    (a2 : PySem.W.nsIn K mainGlobals "uses_of" = some (some (.ref f2))) (l2 : K.lookup f2 = some ⟨oc2, od2, .func (PySem.W.fnOf "uses_of" "uses_of" (defArgs s_uses_of) (defBody s_uses_of) (defScope s_uses_of) .none kV2 dc2 pm2 an2 cd2 ct2), sl2⟩) (c2 : PySem.W.codeIn K cd2 "uses_of" = true) (k2 : PySem.W.keepIn K (.ref f2) = true)
    (a3 : PySem.W.nsIn K mainGlobals "turned_net" = some (some (.ref f3))) (l3 : K.lookup f3 = some ⟨oc3, od3, .func (PySem.W.fnOf "turned_net" "turned_net" (defArgs s_turned_net) (defBody s_turned_net) (defScope s_turned_net) .none kV3 dc3 pm3 an3 cd3 ct3), sl3⟩) (c3 : PySem.W.codeIn K cd3 "turned_net" = true) (k3 : PySem.W.keepIn K (.ref f3) = true)
    (a4 : PySem.W.nsIn K mainGlobals "_law_tape" = some (some (.ref f4))) (l4 : K.lookup f4 = some ⟨oc4, od4, .func (PySem.W.fnOf "_law_tape" "_law_tape" (defArgs s_law_tape) (defBody s_law_tape) (defScope s_law_tape) .none kV4 dc4 pm4 an4 cd4 ct4), sl4⟩) (c4 : PySem.W.codeIn K cd4 "_law_tape" = true) (k4 : PySem.W.keepIn K (.ref f4) = true)
    (a5 : PySem.W.nsIn K mainGlobals "_law_draw" = some (some (.ref f5))) (l5 : K.lookup f5 = some ⟨oc5, od5, .func (PySem.W.fnOf "_law_draw" "_law_draw" (defArgs s_law_draw) (defBody s_law_draw) (defScope s_law_draw) .none kV5 dc5 pm5 an5 cd5 ct5), sl5⟩) (c5 : PySem.W.codeIn K cd5 "_law_draw" = true) (k5 : PySem.W.keepIn K (.ref f5) = true)
    (a6 : PySem.W.nsIn K mainGlobals "_law_net" = some (some (.ref f6))) (l6 : K.lookup f6 = some ⟨oc6, od6, .func (PySem.W.fnOf "_law_net" "_law_net" (defArgs s_law_net_k06) (defBody s_law_net_k06) (defScope s_law_net_k06) .none kV6 dc6 pm6 an6 cd6 ct6), sl6⟩) (c6 : PySem.W.codeIn K cd6 "_law_net" = true) (k6 : PySem.W.keepIn K (.ref f6) = true)
    (a7 : PySem.W.nsIn K mainGlobals "_law_used" = some (some (.ref f7))) (l7 : K.lookup f7 = some ⟨oc7, od7, .func (PySem.W.fnOf "_law_used" "_law_used" (defArgs s_law_used) (defBody s_law_used) (defScope s_law_used) .none kV7 dc7 pm7 an7 cd7 ct7), sl7⟩) (c7 : PySem.W.codeIn K cd7 "_law_used" = true) (k7 : PySem.W.keepIn K (.ref f7) = true)
    (a8 : PySem.W.nsIn K mainGlobals "_law_told" = some (some (.ref f8))) (l8 : K.lookup f8 = some ⟨oc8, od8, .func (PySem.W.fnOf "_law_told" "_law_told" (defArgs s_law_told_k44) (defBody s_law_told_k44) (defScope s_law_told_k44) .none kV8 dc8 pm8 an8 cd8 ct8), sl8⟩) (c8 : PySem.W.codeIn K cd8 "_law_told" = true) (k8 : PySem.W.keepIn K (.ref f8) = true)
    (a9 : PySem.W.nsIn K mainGlobals "_law_due" = some (some (.ref f9))) (l9 : K.lookup f9 = some ⟨oc9, od9, .func (PySem.W.fnOf "_law_due" "_law_due" (defArgs s_law_due_k44) (defBody s_law_due_k44) (defScope s_law_due_k44) .none kV9 dc9 pm9 an9 cd9 ct9), sl9⟩) (c9 : PySem.W.codeIn K cd9 "_law_due" = true) (k9 : PySem.W.keepIn K (.ref f9) = true)
    (a10 : PySem.W.nsIn K mainGlobals "law" = some (some (.ref f10))) (l10 : K.lookup f10 = some ⟨oc10, od10, .func (PySem.W.fnOf "law" "law" (defArgs s_law_k44) (defBody s_law_k44) (defScope s_law_k44) .none kV10 dc10 pm10 an10 cd10 ct10), sl10⟩) (c10 : PySem.W.codeIn K cd10 "law" = true) (k10 : PySem.W.keepIn K (.ref f10) = true)
    (z_range : PySem.W.nsIn K mainGlobals "range" = some none)
    (z_min : PySem.W.nsIn K mainGlobals "min" = some none)
    (z_max : PySem.W.nsIn K mainGlobals "max" = some none)
    (z_len : PySem.W.nsIn K mainGlobals "len" = some none)
    (z_reversed : PySem.W.nsIn K mainGlobals "reversed" = some none)
    (z_tuple : PySem.W.nsIn K mainGlobals "tuple" = some none)
    (z_list : PySem.W.nsIn K mainGlobals "list" = some none)
    (z_isinstance : PySem.W.nsIn K mainGlobals "isinstance" = some none)
    (z_ValueError : PySem.W.nsIn K mainGlobals "ValueError" = some none)
    {tk_MOST_GIVENS : Tok} (g_MOST_GIVENS : PySem.W.nsIn K mainGlobals "MOST_GIVENS" = some (some (.int 12 tk_MOST_GIVENS)))
    {tk_MOST_JOINS : Tok} (g_MOST_JOINS : PySem.W.nsIn K mainGlobals "MOST_JOINS" = some (some (.int 132 tk_MOST_JOINS)))
    (xJa : PySem.W.nsIn K mainGlobals "JoinError" = some (some (.ref CJ)))
    (xJc : PySem.W.clsIn K CJ = some kdJ)
    (xJt : PySem.W.typeIn K (.ref CJ) = some (.type "type"))
    (xJb : PySem.W.subIn K (.ref CJ) (.type "BaseException") = some true)
    (xg1 : PySem.W.specialIn K (.builtin "object.__class__") "__get__" = some (some (.builtin "getset_descriptor.__get__")))
    (xg2 : PySem.W.takesIn K (.builtin "object.__class__") = some true)
    (xa_NoFit : PySem.W.nsIn K mainGlobals "NoFit" = some (some (.ref CNoFit)))
    (xk_NoFit : PySem.W.keepIn K (.ref CNoFit) = true)
    (xq_NoFit : PySem.W.excIn K CNoFit PySem.HandSPX.veTail "ValueError.__new__" = true)
    (xc_NoFit : PySem.W.clsIn K CNoFit = some kd_NoFit)
    (xm0_NoFit : kd_NoFit.mro = .ref CNoFit :: .ref CJ :: PySem.HandSPX.veTail)
    (xt_NoFit : PySem.W.typeIn K (.ref CNoFit) = some (.type "type"))
    (xd_NoFit : PySem.W.hasDictIn K CNoFit = true)
    (xga_NoFit : PySem.W.findIn K (.ref CNoFit) "__getattribute__" = some (some (.builtin "BaseException.__getattribute__")))
    (xgg_NoFit : PySem.W.findIn K (.ref CNoFit) "__getattr__" = some none)
    (xca_NoFit : PySem.W.findIn K (.ref CNoFit) "__class__" = some (some (.builtin "object.__class__")))
    (xf_NoFit : PySem.W.findIn K (.ref CNoFit) "row" = some none)
    (xa_TooMany : PySem.W.nsIn K mainGlobals "TooMany" = some (some (.ref CTooMany)))
    (xk_TooMany : PySem.W.keepIn K (.ref CTooMany) = true)
    (xq_TooMany : PySem.W.excIn K CTooMany PySem.HandSPX.veTail "ValueError.__new__" = true)
    (xc_TooMany : PySem.W.clsIn K CTooMany = some kd_TooMany)
    (xm0_TooMany : kd_TooMany.mro = .ref CTooMany :: .ref CJ :: PySem.HandSPX.veTail)
    (xt_TooMany : PySem.W.typeIn K (.ref CTooMany) = some (.type "type"))
    (xd_TooMany : PySem.W.hasDictIn K CTooMany = true)
    (xga_TooMany : PySem.W.findIn K (.ref CTooMany) "__getattribute__" = some (some (.builtin "BaseException.__getattribute__")))
    (xgg_TooMany : PySem.W.findIn K (.ref CTooMany) "__getattr__" = some none)
    (xca_TooMany : PySem.W.findIn K (.ref CTooMany) "__class__" = some (some (.builtin "object.__class__")))
    (xf_TooMany : PySem.W.findIn K (.ref CTooMany) "row" = some none)
    (xa_NoWidth : PySem.W.nsIn K mainGlobals "NoWidth" = some (some (.ref CNoWidth)))
    (xk_NoWidth : PySem.W.keepIn K (.ref CNoWidth) = true)
    (xq_NoWidth : PySem.W.excIn K CNoWidth PySem.HandSPX.veTail "ValueError.__new__" = true)
    (xc_NoWidth : PySem.W.clsIn K CNoWidth = some kd_NoWidth)
    (xm0_NoWidth : kd_NoWidth.mro = .ref CNoWidth :: .ref CJ :: PySem.HandSPX.veTail)
    (xt_NoWidth : PySem.W.typeIn K (.ref CNoWidth) = some (.type "type"))
    (xd_NoWidth : PySem.W.hasDictIn K CNoWidth = true)
    (xga_NoWidth : PySem.W.findIn K (.ref CNoWidth) "__getattribute__" = some (some (.builtin "BaseException.__getattribute__")))
    (xgg_NoWidth : PySem.W.findIn K (.ref CNoWidth) "__getattr__" = some none)
    (xca_NoWidth : PySem.W.findIn K (.ref CNoWidth) "__class__" = some (some (.builtin "object.__class__")))
    (xf_NoWidth : PySem.W.findIn K (.ref CNoWidth) "row" = some none)
    (xa_NoRow : PySem.W.nsIn K mainGlobals "NoRow" = some (some (.ref CNoRow)))
    (xk_NoRow : PySem.W.keepIn K (.ref CNoRow) = true)
    (xq_NoRow : PySem.W.excIn K CNoRow PySem.HandSPX.veTail "ValueError.__new__" = true)
    (xc_NoRow : PySem.W.clsIn K CNoRow = some kd_NoRow)
    (xm0_NoRow : kd_NoRow.mro = .ref CNoRow :: .ref CJ :: PySem.HandSPX.veTail)
    (xt_NoRow : PySem.W.typeIn K (.ref CNoRow) = some (.type "type"))
    (xd_NoRow : PySem.W.hasDictIn K CNoRow = true)
    (xga_NoRow : PySem.W.findIn K (.ref CNoRow) "__getattribute__" = some (some (.builtin "BaseException.__getattribute__")))
    (xgg_NoRow : PySem.W.findIn K (.ref CNoRow) "__getattr__" = some none)
    (xca_NoRow : PySem.W.findIn K (.ref CNoRow) "__class__" = some (some (.builtin "object.__class__")))
    (xf_NoRow : PySem.W.findIn K (.ref CNoRow) "row" = some none)
    (xa_NoName : PySem.W.nsIn K mainGlobals "NoName" = some (some (.ref CNoName)))
    (xk_NoName : PySem.W.keepIn K (.ref CNoName) = true)
    (xq_NoName : PySem.W.excIn K CNoName PySem.HandSPX.veTail "ValueError.__new__" = true)
    (xc_NoName : PySem.W.clsIn K CNoName = some kd_NoName)
    (xm0_NoName : kd_NoName.mro = .ref CNoName :: .ref CJ :: PySem.HandSPX.veTail)
    (xt_NoName : PySem.W.typeIn K (.ref CNoName) = some (.type "type"))
    (xd_NoName : PySem.W.hasDictIn K CNoName = true)
    (xga_NoName : PySem.W.findIn K (.ref CNoName) "__getattribute__" = some (some (.builtin "BaseException.__getattribute__")))
    (xgg_NoName : PySem.W.findIn K (.ref CNoName) "__getattr__" = some none)
    (xca_NoName : PySem.W.findIn K (.ref CNoName) "__class__" = some (some (.builtin "object.__class__")))
    (xf_NoName : PySem.W.findIn K (.ref CNoName) "row" = some none)
    (xa_Nought : PySem.W.nsIn K mainGlobals "Nought" = some (some (.ref CNought)))
    (xk_Nought : PySem.W.keepIn K (.ref CNought) = true)
    (xl_Nought : K.lookup CNought = some (excClassObj nm_Nought q_Nought CNought N_Nought bs_Nought (.ref CJ :: PySem.HandSPX.veTail) true sn_Nought sub_Nought ab_Nought col_Nought dd_Nought m0_Nought m1_Nought m2_Nought m3_Nought m5_Nought "ValueError.__new__"))
    (xi_Nought : PySem.W.findIn K (.ref CNought) "__init__" = some (some (.ref fI_Nought)))
    (xj_Nought : PySem.W.typeIn K (.ref fI_Nought) = some (.type "function"))
    (xm_Nought : K.lookup fI_Nought = some ⟨ocI_Nought, odI_Nought, .func (PySem.W.fnOf "__init__" "Nought.__init__" (defArgs sI_Nought) (defBody sI_Nought) (defScope sI_Nought) .none kVI_Nought dcI_Nought pmI_Nought anI_Nought cdI_Nought ctI_Nought), slI_Nought⟩)
    (xn_Nought : PySem.W.codeIn K cdI_Nought "Nought.__init__" = true)
    (xo_Nought : PySem.W.keepIn K (.ref fI_Nought) = true)
    (xs_Nought : PySem.W.findIn K (.ref CNought) "__setattr__" = some (some (.builtin "object.__setattr__")))
    (xc_Nought : PySem.W.clsIn K CNought = some kd_Nought)
    (xm0_Nought : kd_Nought.mro = .ref CNought :: .ref CJ :: PySem.HandSPX.veTail)
    (xt_Nought : PySem.W.typeIn K (.ref CNought) = some (.type "type"))
    (xd_Nought : PySem.W.hasDictIn K CNought = true)
    (xga_Nought : PySem.W.findIn K (.ref CNought) "__getattribute__" = some (some (.builtin "BaseException.__getattribute__")))
    (xgg_Nought : PySem.W.findIn K (.ref CNought) "__getattr__" = some none)
    (xca_Nought : PySem.W.findIn K (.ref CNought) "__class__" = some (some (.builtin "object.__class__")))
    (xf_Nought : PySem.W.findIn K (.ref CNought) "at" = some none)
    (xa_Bare : PySem.W.nsIn K mainGlobals "Bare" = some (some (.ref CBare)))
    (xk_Bare : PySem.W.keepIn K (.ref CBare) = true)
    (xl_Bare : K.lookup CBare = some (excClassObj nm_Bare q_Bare CBare N_Bare bs_Bare (.ref CJ :: PySem.HandSPX.veTail) true sn_Bare sub_Bare ab_Bare col_Bare dd_Bare m0_Bare m1_Bare m2_Bare m3_Bare m5_Bare "ValueError.__new__"))
    (xi_Bare : PySem.W.findIn K (.ref CBare) "__init__" = some (some (.ref fI_Bare)))
    (xj_Bare : PySem.W.typeIn K (.ref fI_Bare) = some (.type "function"))
    (xm_Bare : K.lookup fI_Bare = some ⟨ocI_Bare, odI_Bare, .func (PySem.W.fnOf "__init__" "Bare.__init__" (defArgs sI_Bare) (defBody sI_Bare) (defScope sI_Bare) .none kVI_Bare dcI_Bare pmI_Bare anI_Bare cdI_Bare ctI_Bare), slI_Bare⟩)
    (xn_Bare : PySem.W.codeIn K cdI_Bare "Bare.__init__" = true)
    (xo_Bare : PySem.W.keepIn K (.ref fI_Bare) = true)
    (xs_Bare : PySem.W.findIn K (.ref CBare) "__setattr__" = some (some (.builtin "object.__setattr__")))
    (xc_Bare : PySem.W.clsIn K CBare = some kd_Bare)
    (xm0_Bare : kd_Bare.mro = .ref CBare :: .ref CJ :: PySem.HandSPX.veTail)
    (xt_Bare : PySem.W.typeIn K (.ref CBare) = some (.type "type"))
    (xd_Bare : PySem.W.hasDictIn K CBare = true)
    (xga_Bare : PySem.W.findIn K (.ref CBare) "__getattribute__" = some (some (.builtin "BaseException.__getattribute__")))
    (xgg_Bare : PySem.W.findIn K (.ref CBare) "__getattr__" = some none)
    (xca_Bare : PySem.W.findIn K (.ref CBare) "__class__" = some (some (.builtin "object.__class__")))
    (xf_Bare : PySem.W.findIn K (.ref CBare) "given" = some none)
    (xa_Loose : PySem.W.nsIn K mainGlobals "Loose" = some (some (.ref CLoose)))
    (xk_Loose : PySem.W.keepIn K (.ref CLoose) = true)
    (xl_Loose : K.lookup CLoose = some (excClassObj nm_Loose q_Loose CLoose N_Loose bs_Loose (.ref CJ :: PySem.HandSPX.veTail) true sn_Loose sub_Loose ab_Loose col_Loose dd_Loose m0_Loose m1_Loose m2_Loose m3_Loose m5_Loose "ValueError.__new__"))
    (xi_Loose : PySem.W.findIn K (.ref CLoose) "__init__" = some (some (.ref fI_Loose)))
    (xj_Loose : PySem.W.typeIn K (.ref fI_Loose) = some (.type "function"))
    (xm_Loose : K.lookup fI_Loose = some ⟨ocI_Loose, odI_Loose, .func (PySem.W.fnOf "__init__" "Loose.__init__" (defArgs sI_Loose) (defBody sI_Loose) (defScope sI_Loose) .none kVI_Loose dcI_Loose pmI_Loose anI_Loose cdI_Loose ctI_Loose), slI_Loose⟩)
    (xn_Loose : PySem.W.codeIn K cdI_Loose "Loose.__init__" = true)
    (xo_Loose : PySem.W.keepIn K (.ref fI_Loose) = true)
    (xs_Loose : PySem.W.findIn K (.ref CLoose) "__setattr__" = some (some (.builtin "object.__setattr__")))
    (xc_Loose : PySem.W.clsIn K CLoose = some kd_Loose)
    (xm0_Loose : kd_Loose.mro = .ref CLoose :: .ref CJ :: PySem.HandSPX.veTail)
    (xt_Loose : PySem.W.typeIn K (.ref CLoose) = some (.type "type"))
    (xd_Loose : PySem.W.hasDictIn K CLoose = true)
    (xga_Loose : PySem.W.findIn K (.ref CLoose) "__getattribute__" = some (some (.builtin "BaseException.__getattribute__")))
    (xgg_Loose : PySem.W.findIn K (.ref CLoose) "__getattr__" = some none)
    (xca_Loose : PySem.W.findIn K (.ref CLoose) "__class__" = some (some (.builtin "object.__class__")))
    (xf_Loose : PySem.W.findIn K (.ref CLoose) "thing" = some none)
    (xa_Leans : PySem.W.nsIn K mainGlobals "Leans" = some (some (.ref CLeans)))
    (xk_Leans : PySem.W.keepIn K (.ref CLeans) = true)
    (xl_Leans : K.lookup CLeans = some (excClassObj nm_Leans q_Leans CLeans N_Leans bs_Leans (.ref CJ :: PySem.HandSPX.veTail) true sn_Leans sub_Leans ab_Leans col_Leans dd_Leans m0_Leans m1_Leans m2_Leans m3_Leans m5_Leans "ValueError.__new__"))
    (xi_Leans : PySem.W.findIn K (.ref CLeans) "__init__" = some (some (.ref fI_Leans)))
    (xj_Leans : PySem.W.typeIn K (.ref fI_Leans) = some (.type "function"))
    (xm_Leans : K.lookup fI_Leans = some ⟨ocI_Leans, odI_Leans, .func (PySem.W.fnOf "__init__" "Leans.__init__" (defArgs sI_Leans) (defBody sI_Leans) (defScope sI_Leans) .none kVI_Leans dcI_Leans pmI_Leans anI_Leans cdI_Leans ctI_Leans), slI_Leans⟩)
    (xn_Leans : PySem.W.codeIn K cdI_Leans "Leans.__init__" = true)
    (xo_Leans : PySem.W.keepIn K (.ref fI_Leans) = true)
    (xs_Leans : PySem.W.findIn K (.ref CLeans) "__setattr__" = some (some (.builtin "object.__setattr__")))
    (xc_Leans : PySem.W.clsIn K CLeans = some kd_Leans)
    (xm0_Leans : kd_Leans.mro = .ref CLeans :: .ref CJ :: PySem.HandSPX.veTail)
    (xt_Leans : PySem.W.typeIn K (.ref CLeans) = some (.type "type"))
    (xd_Leans : PySem.W.hasDictIn K CLeans = true)
    (xga_Leans : PySem.W.findIn K (.ref CLeans) "__getattribute__" = some (some (.builtin "BaseException.__getattribute__")))
    (xgg_Leans : PySem.W.findIn K (.ref CLeans) "__getattr__" = some none)
    (xca_Leans : PySem.W.findIn K (.ref CLeans) "__class__" = some (some (.builtin "object.__class__")))
    (xf_Leans : PySem.W.findIn K (.ref CLeans) "place" = some none)
    (xa_NoAnswer : PySem.W.nsIn K mainGlobals "NoAnswer" = some (some (.ref CNoAnswer)))
    (xk_NoAnswer : PySem.W.keepIn K (.ref CNoAnswer) = true)
    (xl_NoAnswer : K.lookup CNoAnswer = some (excClassObj nm_NoAnswer q_NoAnswer CNoAnswer N_NoAnswer bs_NoAnswer (.ref CJ :: PySem.HandSPX.veTail) true sn_NoAnswer sub_NoAnswer ab_NoAnswer col_NoAnswer dd_NoAnswer m0_NoAnswer m1_NoAnswer m2_NoAnswer m3_NoAnswer m5_NoAnswer "ValueError.__new__"))
    (xi_NoAnswer : PySem.W.findIn K (.ref CNoAnswer) "__init__" = some (some (.ref fI_NoAnswer)))
    (xj_NoAnswer : PySem.W.typeIn K (.ref fI_NoAnswer) = some (.type "function"))
    (xm_NoAnswer : K.lookup fI_NoAnswer = some ⟨ocI_NoAnswer, odI_NoAnswer, .func (PySem.W.fnOf "__init__" "NoAnswer.__init__" (defArgs sI_NoAnswer) (defBody sI_NoAnswer) (defScope sI_NoAnswer) .none kVI_NoAnswer dcI_NoAnswer pmI_NoAnswer anI_NoAnswer cdI_NoAnswer ctI_NoAnswer), slI_NoAnswer⟩)
    (xn_NoAnswer : PySem.W.codeIn K cdI_NoAnswer "NoAnswer.__init__" = true)
    (xo_NoAnswer : PySem.W.keepIn K (.ref fI_NoAnswer) = true)
    (xs_NoAnswer : PySem.W.findIn K (.ref CNoAnswer) "__setattr__" = some (some (.builtin "object.__setattr__")))
    (xc_NoAnswer : PySem.W.clsIn K CNoAnswer = some kd_NoAnswer)
    (xm0_NoAnswer : kd_NoAnswer.mro = .ref CNoAnswer :: .ref CJ :: PySem.HandSPX.veTail)
    (xt_NoAnswer : PySem.W.typeIn K (.ref CNoAnswer) = some (.type "type"))
    (xd_NoAnswer : PySem.W.hasDictIn K CNoAnswer = true)
    (xga_NoAnswer : PySem.W.findIn K (.ref CNoAnswer) "__getattribute__" = some (some (.builtin "BaseException.__getattribute__")))
    (xgg_NoAnswer : PySem.W.findIn K (.ref CNoAnswer) "__getattr__" = some none)
    (xca_NoAnswer : PySem.W.findIn K (.ref CNoAnswer) "__class__" = some (some (.builtin "object.__class__")))
    (xf_NoAnswer : PySem.W.findIn K (.ref CNoAnswer) "places" = some none)
    (xa_NoText : PySem.W.nsIn K mainGlobals "NoText" = some (some (.ref CNoText)))
    (xk_NoText : PySem.W.keepIn K (.ref CNoText) = true)
    (xl_NoText : K.lookup CNoText = some (excClassObj nm_NoText q_NoText CNoText N_NoText bs_NoText (.ref CJ :: PySem.HandSPX.veTail) true sn_NoText sub_NoText ab_NoText col_NoText dd_NoText m0_NoText m1_NoText m2_NoText m3_NoText m5_NoText "ValueError.__new__"))
    (xi_NoText : PySem.W.findIn K (.ref CNoText) "__init__" = some (some (.ref fI_NoText)))
    (xj_NoText : PySem.W.typeIn K (.ref fI_NoText) = some (.type "function"))
    (xm_NoText : K.lookup fI_NoText = some ⟨ocI_NoText, odI_NoText, .func (PySem.W.fnOf "__init__" "NoText.__init__" (defArgs sI_NoText) (defBody sI_NoText) (defScope sI_NoText) .none kVI_NoText dcI_NoText pmI_NoText anI_NoText cdI_NoText ctI_NoText), slI_NoText⟩)
    (xn_NoText : PySem.W.codeIn K cdI_NoText "NoText.__init__" = true)
    (xo_NoText : PySem.W.keepIn K (.ref fI_NoText) = true)
    (xs_NoText : PySem.W.findIn K (.ref CNoText) "__setattr__" = some (some (.builtin "object.__setattr__")))
    (xc_NoText : PySem.W.clsIn K CNoText = some kd_NoText)
    (xm0_NoText : kd_NoText.mro = .ref CNoText :: .ref CJ :: PySem.HandSPX.veTail)
    (xt_NoText : PySem.W.typeIn K (.ref CNoText) = some (.type "type"))
    (xd_NoText : PySem.W.hasDictIn K CNoText = true)
    (xga_NoText : PySem.W.findIn K (.ref CNoText) "__getattribute__" = some (some (.builtin "BaseException.__getattribute__")))
    (xgg_NoText : PySem.W.findIn K (.ref CNoText) "__getattr__" = some none)
    (xca_NoText : PySem.W.findIn K (.ref CNoText) "__class__" = some (some (.builtin "object.__class__")))
    (xf_NoText : PySem.W.findIn K (.ref CNoText) "row" = some none)
    (xnd : [CJ, CNoFit, CTooMany, CNoWidth, CNoRow, CNoName, CNought, CBare, CLoose, CLeans, CNoAnswer, CNoText].Nodup)
    (y_Turning : PySem.W.nsIn K mainGlobals "Turning" = some (some (.ref CTurning)))
    (yk_Turning : PySem.W.keepIn K (.ref CTurning) = true)
    (yp_Turning : PySem.W.plainGet K CTurning Str.empty = true)
    (yd_Turning : PySem.W.hasDictIn K CTurning = true)
    (yo_Turning : PySem.W.plainOver K CTurning = true)
    (ys_Turning : PySem.W.findIn K (.ref CTurning) "__setattr__" = some (some (.builtin "object.__setattr__")))
    (ym_Turning : PySem.W.makesIn K CTurning = true)
    (yn_Turning_many : PySem.W.findIn K (.ref CTurning) "many" = some none)
    (yn_Turning_rows : PySem.W.findIn K (.ref CTurning) "rows" = some none)
    (yn_Turning_joins : PySem.W.findIn K (.ref CTurning) "joins" = some none)
    (yf_0 : PySem.W.isFn K (.ref f0) = true)
    (yf_1 : PySem.W.isFn K (.ref f1) = true) :
    ∃ fd : FuncData, (∀ (s : Shared) (v : Value), BindsTo s fd ⟨[v], []⟩ [("_law_script", v)]) ∧ ∀ base : Heap, K.In base → base.Ns mainGlobals mg → FnOk l.prog w K mg base CX0 6 fa fd ["_law_script"] (spLaw K) := by
  have e := hfa.symm.trans (PySem.W.mg_of X G a10)
  cases e
  letI : ClsV := clsOf2 [("NoFit", CNoFit), ("TooMany", CTooMany), ("NoWidth", CNoWidth), ("NoRow", CNoRow), ("NoName", CNoName), ("Nought", CNought), ("Bare", CBare), ("Loose", CLoose), ("Leans", CLeans), ("NoAnswer", CNoAnswer), ("NoText", CNoText)] [("Turning", CTurning)]
  have eC_Turning : clsA "Turning" = CTurning := by rfl
  have I_Turning : Cls K (clsA "Turning") := by rw [eC_Turning]; exact ⟨yp_Turning, yd_Turning, yo_Turning, ys_Turning⟩
  have n_Turning_many : NoAttr K (clsA "Turning") "many" := by rw [eC_Turning]; exact yn_Turning_many
  have n_Turning_rows : NoAttr K (clsA "Turning") "rows" := by rw [eC_Turning]; exact yn_Turning_rows
  have n_Turning_joins : NoAttr K (clsA "Turning") "joins" := by rw [eC_Turning]; exact yn_Turning_joins
  have xJs : (PySem.W.clsIn K CJ).isSome = true := by rw [xJc]; rfl
  have xr_NoFit : (PySem.W.clsIn K CNoFit).map (·.mro) = some (.ref CNoFit :: .ref CJ :: PySem.HandSPX.veTail) := by rw [xc_NoFit]; exact congrArg some xm0_NoFit
  have xr_TooMany : (PySem.W.clsIn K CTooMany).map (·.mro) = some (.ref CTooMany :: .ref CJ :: PySem.HandSPX.veTail) := by rw [xc_TooMany]; exact congrArg some xm0_TooMany
  have xr_NoWidth : (PySem.W.clsIn K CNoWidth).map (·.mro) = some (.ref CNoWidth :: .ref CJ :: PySem.HandSPX.veTail) := by rw [xc_NoWidth]; exact congrArg some xm0_NoWidth
  have xr_NoRow : (PySem.W.clsIn K CNoRow).map (·.mro) = some (.ref CNoRow :: .ref CJ :: PySem.HandSPX.veTail) := by rw [xc_NoRow]; exact congrArg some xm0_NoRow
  have xr_NoName : (PySem.W.clsIn K CNoName).map (·.mro) = some (.ref CNoName :: .ref CJ :: PySem.HandSPX.veTail) := by rw [xc_NoName]; exact congrArg some xm0_NoName
  have xr_Nought : (PySem.W.clsIn K CNought).map (·.mro) = some (.ref CNought :: .ref CJ :: PySem.HandSPX.veTail) := by rw [xc_Nought]; exact congrArg some xm0_Nought
  have xr_Bare : (PySem.W.clsIn K CBare).map (·.mro) = some (.ref CBare :: .ref CJ :: PySem.HandSPX.veTail) := by rw [xc_Bare]; exact congrArg some xm0_Bare
  have xr_Loose : (PySem.W.clsIn K CLoose).map (·.mro) = some (.ref CLoose :: .ref CJ :: PySem.HandSPX.veTail) := by rw [xc_Loose]; exact congrArg some xm0_Loose
  have xr_Leans : (PySem.W.clsIn K CLeans).map (·.mro) = some (.ref CLeans :: .ref CJ :: PySem.HandSPX.veTail) := by rw [xc_Leans]; exact congrArg some xm0_Leans
  have xr_NoAnswer : (PySem.W.clsIn K CNoAnswer).map (·.mro) = some (.ref CNoAnswer :: .ref CJ :: PySem.HandSPX.veTail) := by rw [xc_NoAnswer]; exact congrArg some xm0_NoAnswer
  have xr_NoText : (PySem.W.clsIn K CNoText).map (·.mro) = some (.ref CNoText :: .ref CJ :: PySem.HandSPX.veTail) := by rw [xc_NoText]; exact congrArg some xm0_NoText
  have T : XTab K mg := xtab2 (xtab_of (PySem.W.mg_of X G xJa) xJs xJt xJb (J := CJ) (tab := [("NoFit", CNoFit), ("TooMany", CTooMany), ("NoWidth", CNoWidth), ("NoRow", CNoRow), ("NoName", CNoName), ("Nought", CNought), ("Bare", CBare), ("Loose", CLoose), ("Leans", CLeans), ("NoAnswer", CNoAnswer), ("NoText", CNoText)]) ⟨⟨PySem.W.mg_of X G xa_NoFit, fun z => (List.nodup_cons.mp xnd).1 (by rw [← z]; simp), xk_NoFit, xr_NoFit, xt_NoFit, excC_of xr_NoFit xga_NoFit xgg_NoFit xd_NoFit xca_NoFit xg1 xg2, xf_NoFit⟩, ⟨PySem.W.mg_of X G xa_TooMany, fun z => (List.nodup_cons.mp xnd).1 (by rw [← z]; simp), xk_TooMany, xr_TooMany, xt_TooMany, excC_of xr_TooMany xga_TooMany xgg_TooMany xd_TooMany xca_TooMany xg1 xg2, xf_TooMany⟩, ⟨PySem.W.mg_of X G xa_NoWidth, fun z => (List.nodup_cons.mp xnd).1 (by rw [← z]; simp), xk_NoWidth, xr_NoWidth, xt_NoWidth, excC_of xr_NoWidth xga_NoWidth xgg_NoWidth xd_NoWidth xca_NoWidth xg1 xg2, xf_NoWidth⟩, ⟨PySem.W.mg_of X G xa_NoRow, fun z => (List.nodup_cons.mp xnd).1 (by rw [← z]; simp), xk_NoRow, xr_NoRow, xt_NoRow, excC_of xr_NoRow xga_NoRow xgg_NoRow xd_NoRow xca_NoRow xg1 xg2, xf_NoRow⟩, ⟨PySem.W.mg_of X G xa_NoName, fun z => (List.nodup_cons.mp xnd).1 (by rw [← z]; simp), xk_NoName, xr_NoName, xt_NoName, excC_of xr_NoName xga_NoName xgg_NoName xd_NoName xca_NoName xg1 xg2, xf_NoName⟩, ⟨PySem.W.mg_of X G xa_Nought, fun z => (List.nodup_cons.mp xnd).1 (by rw [← z]; simp), xk_Nought, xr_Nought, xt_Nought, excC_of xr_Nought xga_Nought xgg_Nought xd_Nought xca_Nought xg1 xg2, xf_Nought⟩, ⟨PySem.W.mg_of X G xa_Bare, fun z => (List.nodup_cons.mp xnd).1 (by rw [← z]; simp), xk_Bare, xr_Bare, xt_Bare, excC_of xr_Bare xga_Bare xgg_Bare xd_Bare xca_Bare xg1 xg2, xf_Bare⟩, ⟨PySem.W.mg_of X G xa_Loose, fun z => (List.nodup_cons.mp xnd).1 (by rw [← z]; simp), xk_Loose, xr_Loose, xt_Loose, excC_of xr_Loose xga_Loose xgg_Loose xd_Loose xca_Loose xg1 xg2, xf_Loose⟩, ⟨PySem.W.mg_of X G xa_Leans, fun z => (List.nodup_cons.mp xnd).1 (by rw [← z]; simp), xk_Leans, xr_Leans, xt_Leans, excC_of xr_Leans xga_Leans xgg_Leans xd_Leans xca_Leans xg1 xg2, xf_Leans⟩, ⟨PySem.W.mg_of X G xa_NoAnswer, fun z => (List.nodup_cons.mp xnd).1 (by rw [← z]; simp), xk_NoAnswer, xr_NoAnswer, xt_NoAnswer, excC_of xr_NoAnswer xga_NoAnswer xgg_NoAnswer xd_NoAnswer xca_NoAnswer xg1 xg2, xf_NoAnswer⟩, ⟨PySem.W.mg_of X G xa_NoText, fun z => (List.nodup_cons.mp xnd).1 (by rw [← z]; simp), xk_NoText, xr_NoText, xt_NoText, excC_of xr_NoText xga_NoText xgg_NoText xd_NoText xca_NoText xg1 xg2, xf_NoText⟩, trivial⟩ (List.nodup_cons.mp xnd).2 (by rfl)) (by rfl)
  have ok_NoFit : ClsV.ok "NoFit" := ⟨CNoFit, by rfl⟩
  have qx_NoFit : ∀ C, ClsV.v "NoFit" = .ref C → PySem.W.excIn K C PySem.HandSPX.veTail "ValueError.__new__" = true := fun C e => by
    have e2 : (Value.ref CNoFit) = .ref C := e
    cases e2
    exact xq_NoFit
  have ok_TooMany : ClsV.ok "TooMany" := ⟨CTooMany, by rfl⟩
  have qx_TooMany : ∀ C, ClsV.v "TooMany" = .ref C → PySem.W.excIn K C PySem.HandSPX.veTail "ValueError.__new__" = true := fun C e => by
    have e2 : (Value.ref CTooMany) = .ref C := e
    cases e2
    exact xq_TooMany
  have ok_NoWidth : ClsV.ok "NoWidth" := ⟨CNoWidth, by rfl⟩
  have qx_NoWidth : ∀ C, ClsV.v "NoWidth" = .ref C → PySem.W.excIn K C PySem.HandSPX.veTail "ValueError.__new__" = true := fun C e => by
    have e2 : (Value.ref CNoWidth) = .ref C := e
    cases e2
    exact xq_NoWidth
  have ok_NoRow : ClsV.ok "NoRow" := ⟨CNoRow, by rfl⟩
  have qx_NoRow : ∀ C, ClsV.v "NoRow" = .ref C → PySem.W.excIn K C PySem.HandSPX.veTail "ValueError.__new__" = true := fun C e => by
    have e2 : (Value.ref CNoRow) = .ref C := e
    cases e2
    exact xq_NoRow
  have ok_NoName : ClsV.ok "NoName" := ⟨CNoName, by rfl⟩
  have qx_NoName : ∀ C, ClsV.v "NoName" = .ref C → PySem.W.excIn K C PySem.HandSPX.veTail "ValueError.__new__" = true := fun C e => by
    have e2 : (Value.ref CNoName) = .ref C := e
    cases e2
    exact xq_NoName
  have ok_Nought : ClsV.ok "Nought" := ⟨CNought, by rfl⟩
  have FI_Nought := fun_mk (st := sI_Nought) xm_Nought xn_Nought xo_Nought
  have bI_Nought := FI_Nought.binds (ps := ["self", "at"]) fun _ _ _ _ _ _ us hl => match us, hl with | [_, _], _ => rfl
  have ok_Bare : ClsV.ok "Bare" := ⟨CBare, by rfl⟩
  have FI_Bare := fun_mk (st := sI_Bare) xm_Bare xn_Bare xo_Bare
  have bI_Bare := FI_Bare.binds (ps := ["self", "given"]) fun _ _ _ _ _ _ us hl => match us, hl with | [_, _], _ => rfl
  have ok_Loose : ClsV.ok "Loose" := ⟨CLoose, by rfl⟩
  have FI_Loose := fun_mk (st := sI_Loose) xm_Loose xn_Loose xo_Loose
  have bI_Loose := FI_Loose.binds (ps := ["self", "thing"]) fun _ _ _ _ _ _ us hl => match us, hl with | [_, _], _ => rfl
  have ok_Leans : ClsV.ok "Leans" := ⟨CLeans, by rfl⟩
  have FI_Leans := fun_mk (st := sI_Leans) xm_Leans xn_Leans xo_Leans
  have bI_Leans := FI_Leans.binds (ps := ["self", "place"]) fun _ _ _ _ _ _ us hl => match us, hl with | [_, _], _ => rfl
  have ok_NoAnswer : ClsV.ok "NoAnswer" := ⟨CNoAnswer, by rfl⟩
  have FI_NoAnswer := fun_mk (st := sI_NoAnswer) xm_NoAnswer xn_NoAnswer xo_NoAnswer
  have bI_NoAnswer := FI_NoAnswer.binds (ps := ["self", "places"]) fun _ _ _ _ _ _ us hl => match us, hl with | [_, _], _ => rfl
  have ok_NoText : ClsV.ok "NoText" := ⟨CNoText, by rfl⟩
  have FI_NoText := fun_mk (st := sI_NoText) xm_NoText xn_NoText xo_NoText
  have bI_NoText := FI_NoText.binds (ps := ["self", "row"]) fun _ _ _ _ _ _ us hl => match us, hl with | [_, _], _ => rfl
  have F0 := fun_mk (st := s_Turning___init__) l0 c0 k0
  have m0 : L2.Mk K (clsA "Turning") f0 := by rw [eC_Turning]; exact ⟨ym_Turning, a0, yf_0, yk_Turning⟩
  have g0 : mg "Turning" = some (.ref (clsA "Turning")) := by rw [eC_Turning]; exact PySem.W.mg_of X G y_Turning
  have b0 := F0.binds (ps := ["self", "many"]) fun _ _ _ _ _ _ us hl => match us, hl with | [_, _], _ => rfl
  have F1 := fun_mk (st := s_Turning_summed) l1 c1 k1
  have m1 : Meth K (clsA "Turning") "summed" f1 := by rw [eC_Turning]; exact ⟨a1, yf_1, k1⟩
  have b1 := F1.binds (ps := ["self", "uses", "thing"]) fun _ _ _ _ _ _ us hl => match us, hl with | [_, _, _], _ => rfl
  have F2 := fun_mk (st := s_uses_of) l2 c2 k2
  have b2 := F2.binds (ps := ["net"]) fun _ _ _ _ _ _ us hl => match us, hl with | [_], _ => rfl
  have F3 := fun_mk (st := s_turned_net) l3 c3 k3
  have b3 := F3.binds (ps := ["net"]) fun _ _ _ _ _ _ us hl => match us, hl with | [_], _ => rfl
  have F4 := fun_mk (st := s_law_tape) l4 c4 k4
  have b4 := F4.binds (ps := ["_law_script"]) fun _ _ _ _ _ _ us hl => match us, hl with | [_], _ => rfl
  have F5 := fun_mk (st := s_law_draw) l5 c5 k5
  have b5 := F5.binds (ps := ["_law_tape_here", "_law_many"]) fun _ _ _ _ _ _ us hl => match us, hl with | [_, _], _ => rfl
  have F6 := fun_mk (st := s_law_net_k06) l6 c6 k6
  have b6 := F6.binds (ps := ["_law_tape_here", "_law_most", "_law_joins_most"]) fun _ _ _ _ _ _ us hl => match us, hl with | [_, _, _], _ => rfl
  have F7 := fun_mk (st := s_law_used) l7 c7 k7
  have b7 := F7.binds (ps := ["_law_net_here"]) fun _ _ _ _ _ _ us hl => match us, hl with | [_], _ => rfl
  have F8 := fun_mk (st := s_law_told_k44) l8 c8 k8
  have b8 := F8.binds (ps := ["_law_net_here"]) fun _ _ _ _ _ _ us hl => match us, hl with | [_], _ => rfl
  have F9 := fun_mk (st := s_law_due_k44) l9 c9 k9
  have b9 := F9.binds (ps := ["_law_net_here"]) fun _ _ _ _ _ _ us hl => match us, hl with | [_], _ => rfl
  have F10 := fun_mk (st := s_law_k44) l10 c10 k10
  have zb_range := PySem.W.mg_none_of X G z_range
  have zb_min := PySem.W.mg_none_of X G z_min
  have zb_max := PySem.W.mg_none_of X G z_max
  have zb_len := PySem.W.mg_none_of X G z_len
  have zb_reversed := PySem.W.mg_none_of X G z_reversed
  have zb_tuple := PySem.W.mg_none_of X G z_tuple
  have zb_list := PySem.W.mg_none_of X G z_list
  have zb_isinstance := PySem.W.mg_none_of X G z_isinstance
  have zb_ValueError := PySem.W.mg_none_of X G z_ValueError
  have gl_MOST_GIVENS := PySem.W.mg_of X G g_MOST_GIVENS
  have gl_MOST_JOINS := PySem.W.mg_of X G g_MOST_JOINS
  refine ⟨PySem.W.fnOf "law" "law" (defArgs s_law_k44) (defBody s_law_k44) (defScope s_law_k44) .none kV10 dc10 pm10 an10 cd10 ct10, fun s v => .of_eq rfl, fun base _ _ => ?_⟩
  have M_Nought : XMk l.prog w K mg base "Nought" (spIni K (fieldOf "Nought")) := ⟨ok_Nought, CNought, fI_Nought, _, _, by rfl, PySem.W.mg_of X G xa_Nought, ⟨⟨_, _, _, _, _, _, _, _, _, _, _, _, _, _, _, xl_Nought, rfl⟩, xs_Nought, T.sub_ok ok_Nought (by rfl), xt_Nought, xk_Nought⟩, xi_Nought, xj_Nought, ini_ok FI_Nought sc_I_Nought rfl (fun cdv A outer s H E => pss_one (ps_ost (pv 0) (pv 1))), bI_Nought, xf_Nought⟩
  have M_Loose : XMk l.prog w K mg base "Loose" (spIni K (fieldOf "Loose")) := ⟨ok_Loose, CLoose, fI_Loose, _, _, by rfl, PySem.W.mg_of X G xa_Loose, ⟨⟨_, _, _, _, _, _, _, _, _, _, _, _, _, _, _, xl_Loose, rfl⟩, xs_Loose, T.sub_ok ok_Loose (by rfl), xt_Loose, xk_Loose⟩, xi_Loose, xj_Loose, ini_ok FI_Loose sc_I_Loose rfl (fun cdv A outer s H E => pss_one (ps_ost (pv 0) (pv 1))), bI_Loose, xf_Loose⟩
  have c_Turning___init__ : CalIR l.prog w K mg base 1 "Turning" ["self", "many"] sp_Turning___init__ := ok_Turning___init__ F0 m0 g0 b0 zb_range I_Turning n_Turning_many n_Turning_rows n_Turning_joins
  have c_Turning_summed : CalMR l.prog w K mg base 3 "Turning" "summed" ["self", "uses", "thing"] sp_Turning_summed := ok_Turning_summed F1 m1 b1 zb_min zb_max zb_len T M_Nought I_Turning n_Turning_rows n_Turning_joins
  have c_uses_of : Cal l.prog w K mg base 1 "uses_of" ["net"] sp_uses_of := ok_uses_of F2 (PySem.W.mg_of X G a2) b2 zb_len zb_range zb_reversed
  have c_turned_net : CalX l.prog w K mg base 4 "turned_net" ["net"] sp_turned_net := ok_turned_net F3 (PySem.W.mg_of X G a3) b3 zb_len zb_reversed zb_range zb_tuple gl_MOST_GIVENS gl_MOST_JOINS T ok_TooMany qx_TooMany M_Loose I_Turning n_Turning_joins c_uses_of c_Turning___init__ c_Turning_summed
  have c_law_draw : Cal l.prog w K mg base 1 "_law_draw" ["_law_tape_here", "_law_many"] sp_law_draw := ok_law_draw F5 (PySem.W.mg_of X G a5) b5 zb_len
  have c_law_net_k06 : Cal l.prog w K mg base 2 "_law_net" ["_law_tape_here", "_law_most", "_law_joins_most"] sp_law_net_k06 := ok_law_net_k06 F6 (PySem.W.mg_of X G a6) b6 zb_range zb_len zb_max zb_min zb_tuple c_law_draw
  have c_law_used : Cal l.prog w K mg base 1 "_law_used" ["_law_net_here"] sp_law_used := ok_law_used F7 (PySem.W.mg_of X G a7) b7 zb_len zb_range zb_list zb_tuple
  have c_law_told_k44 : Cal l.prog w K mg base 5 "_law_told" ["_law_net_here"] sp_law_told_k44 := ok_law_told_k44 F8 (PySem.W.mg_of X G a8) b8 zb_isinstance zb_ValueError T ok_Nought ok_Loose ok_TooMany ok_NoWidth ok_NoText ok_NoRow ok_NoName ok_NoFit ok_NoAnswer ok_Leans ok_Bare c_turned_net
  have c_law_due_k44 : Cal l.prog w K mg base 1 "_law_due" ["_law_net_here"] sp_law_due_k44 := ok_law_due_k44 F9 (PySem.W.mg_of X G a9) b9 zb_len zb_range zb_max zb_min zb_tuple
  exact ok_law F10 (ok_law_tape F4) (PySem.W.mg_of X G a4) k4 b4 zb_range c_law_net_k06 c_law_draw c_law_used c_law_told_k44 c_law_due_k44
end DP
open PySem PySem.W PyProof.Rows in
set_option maxRecDepth 100000 in
set_option maxHeartbeats 0 in
theorem PySem.Challenge.cw_fewjoins_k44_nets_turned_about_holds : PySem.Challenge.rw_fewjoins_k44_nets_turned_about.Holds := by
  w_on; o_law; k_head; (case hw => w_witness2)
  k_fill
  refine L2.walk_of (l := PySem.Challenge.rw_fewjoins_k44_nets_turned_about) (n := 63) (k := 6) (x := "_law_script") (CX := fun _ => L2.CX0) (sp := fun w => DL.spLaw _) rfl (by decide) rfl ⟨rfl, by decide, by decide⟩ (fun w h Y => PySem.W.kIn_of Y) ?F (fun _ _ a ns hl _ hS => ⟨a, ns, rfl, hS, hl, fun _ => rfl⟩) (fun _ _ _ _ _ h => h)
  case F =>
    intro w mg fa h KX G hmg
    refine' DP.all_mk KX G hmg ?a0 ?l0 ?c0 ?k0 ?a1 ?l1 ?c1 ?k1 ?a2 ?l2 ?c2 ?k2 ?a3 ?l3 ?c3 ?k3 ?a4 ?l4 ?c4 ?k4 ?a5 ?l5 ?c5 ?k5 ?a6 ?l6 ?c6 ?k6 ?a7 ?l7 ?c7 ?k7 ?a8 ?l8 ?c8 ?k8 ?a9 ?l9 ?c9 ?k9 ?a10 ?l10 ?c10 ?k10 ?z_range ?z_min ?z_max ?z_len ?z_reversed ?z_tuple ?z_list ?z_isinstance ?z_ValueError ?g_MOST_GIVENS ?g_MOST_JOINS ?xJa ?xJc ?xJt ?xJb ?xg1 ?xg2 ?xa_NoFit ?xk_NoFit ?xq_NoFit ?xc_NoFit ?xm0_NoFit ?xt_NoFit ?xd_NoFit ?xga_NoFit ?xgg_NoFit ?xca_NoFit ?xf_NoFit ?xa_TooMany ?xk_TooMany ?xq_TooMany ?xc_TooMany ?xm0_TooMany ?xt_TooMany ?xd_TooMany ?xga_TooMany ?xgg_TooMany ?xca_TooMany ?xf_TooMany ?xa_NoWidth ?xk_NoWidth ?xq_NoWidth ?xc_NoWidth ?xm0_NoWidth ?xt_NoWidth ?xd_NoWidth ?xga_NoWidth ?xgg_NoWidth ?xca_NoWidth ?xf_NoWidth ?xa_NoRow ?xk_NoRow ?xq_NoRow ?xc_NoRow ?xm0_NoRow ?xt_NoRow ?xd_NoRow ?xga_NoRow ?xgg_NoRow ?xca_NoRow ?xf_NoRow ?xa_NoName ?xk_NoName ?xq_NoName ?xc_NoName ?xm0_NoName ?xt_NoName ?xd_NoName ?xga_NoName ?xgg_NoName ?xca_NoName ?xf_NoName ?xa_Nought ?xk_Nought ?xl_Nought ?xi_Nought ?xj_Nought ?xm_Nought ?xn_Nought ?xo_Nought ?xs_Nought ?xc_Nought ?xm0_Nought ?xt_Nought ?xd_Nought ?xga_Nought ?xgg_Nought ?xca_Nought ?xf_Nought ?xa_Bare ?xk_Bare ?xl_Bare ?xi_Bare ?xj_Bare ?xm_Bare ?xn_Bare ?xo_Bare ?xs_Bare ?xc_Bare ?xm0_Bare ?xt_Bare ?xd_Bare ?xga_Bare ?xgg_Bare ?xca_Bare ?xf_Bare ?xa_Loose ?xk_Loose ?xl_Loose ?xi_Loose ?xj_Loose ?xm_Loose ?xn_Loose ?xo_Loose ?xs_Loose ?xc_Loose ?xm0_Loose ?xt_Loose ?xd_Loose ?xga_Loose ?xgg_Loose ?xca_Loose ?xf_Loose ?xa_Leans ?xk_Leans ?xl_Leans ?xi_Leans ?xj_Leans ?xm_Leans ?xn_Leans ?xo_Leans ?xs_Leans ?xc_Leans ?xm0_Leans ?xt_Leans ?xd_Leans ?xga_Leans ?xgg_Leans ?xca_Leans ?xf_Leans ?xa_NoAnswer ?xk_NoAnswer ?xl_NoAnswer ?xi_NoAnswer ?xj_NoAnswer ?xm_NoAnswer ?xn_NoAnswer ?xo_NoAnswer ?xs_NoAnswer ?xc_NoAnswer ?xm0_NoAnswer ?xt_NoAnswer ?xd_NoAnswer ?xga_NoAnswer ?xgg_NoAnswer ?xca_NoAnswer ?xf_NoAnswer ?xa_NoText ?xk_NoText ?xl_NoText ?xi_NoText ?xj_NoText ?xm_NoText ?xn_NoText ?xo_NoText ?xs_NoText ?xc_NoText ?xm0_NoText ?xt_NoText ?xd_NoText ?xga_NoText ?xgg_NoText ?xca_NoText ?xf_NoText ?xnd ?y_Turning ?yk_Turning ?yp_Turning ?yd_Turning ?yo_Turning ?ys_Turning ?ym_Turning ?yn_Turning_many ?yn_Turning_rows ?yn_Turning_joins ?yf_0 ?yf_1
    (case y_Turning => k_is)
    (case a0 => k_is)
    (case l0 => k_is)
    (case c0 => k_is)
    (case k0 => k_is)
    (case a1 => k_is)
    (case l1 => k_is)
    (case c1 => k_is)
    (case k1 => k_is)
    (case a2 => k_is)
    (case l2 => k_is)
    (case c2 => k_is)
    (case k2 => k_is)
    (case a3 => k_is)
    (case l3 => k_is)
    (case c3 => k_is)
    (case k3 => k_is)
    (case a4 => k_is)
    (case l4 => k_is)
    (case c4 => k_is)
    (case k4 => k_is)
    (case a5 => k_is)
    (case l5 => k_is)
    (case c5 => k_is)
    (case k5 => k_is)
    (case a6 => k_is)
    (case l6 => k_is)
    (case c6 => k_is)
    (case k6 => k_is)
    (case a7 => k_is)
    (case l7 => k_is)
    (case c7 => k_is)
    (case k7 => k_is)
    (case a8 => k_is)
    (case l8 => k_is)
    (case c8 => k_is)
    (case k8 => k_is)
    (case a9 => k_is)
    (case l9 => k_is)
    (case c9 => k_is)
    (case k9 => k_is)
    (case a10 => k_is)
    (case l10 => k_is)
    (case c10 => k_is)
    (case k10 => k_is)
    (case z_range => k_is)
    (case z_min => k_is)
    (case z_max => k_is)
    (case z_len => k_is)
    (case z_reversed => k_is)
    (case z_tuple => k_is)
    (case z_list => k_is)
    (case z_isinstance => k_is)
    (case z_ValueError => k_is)
    (case g_MOST_GIVENS => k_is)
    (case g_MOST_JOINS => k_is)
    (case xJa => k_is)
    (case xJc => k_is)
    (case xJt => k_is)
    (case xJb => k_is)
    (case xg1 => k_is)
    (case xg2 => k_is)
    (case xa_NoFit => k_is)
    (case xk_NoFit => k_is)
    (case xq_NoFit => k_exc)
    (case xc_NoFit => k_is)
    (case xm0_NoFit => rfl)
    (case xt_NoFit => k_is)
    (case xd_NoFit => k_is)
    (case xga_NoFit => k_is)
    (case xgg_NoFit => k_is)
    (case xca_NoFit => k_is)
    (case xf_NoFit => k_is)
    (case xa_TooMany => k_is)
    (case xk_TooMany => k_is)
    (case xq_TooMany => k_exc)
    (case xc_TooMany => k_is)
    (case xm0_TooMany => rfl)
    (case xt_TooMany => k_is)
    (case xd_TooMany => k_is)
    (case xga_TooMany => k_is)
    (case xgg_TooMany => k_is)
    (case xca_TooMany => k_is)
    (case xf_TooMany => k_is)
    (case xa_NoWidth => k_is)
    (case xk_NoWidth => k_is)
    (case xq_NoWidth => k_exc)
    (case xc_NoWidth => k_is)
    (case xm0_NoWidth => rfl)
    (case xt_NoWidth => k_is)
    (case xd_NoWidth => k_is)
    (case xga_NoWidth => k_is)
    (case xgg_NoWidth => k_is)
    (case xca_NoWidth => k_is)
    (case xf_NoWidth => k_is)
    (case xa_NoRow => k_is)
    (case xk_NoRow => k_is)
    (case xq_NoRow => k_exc)
    (case xc_NoRow => k_is)
    (case xm0_NoRow => rfl)
    (case xt_NoRow => k_is)
    (case xd_NoRow => k_is)
    (case xga_NoRow => k_is)
    (case xgg_NoRow => k_is)
    (case xca_NoRow => k_is)
    (case xf_NoRow => k_is)
    (case xa_NoName => k_is)
    (case xk_NoName => k_is)
    (case xq_NoName => k_exc)
    (case xc_NoName => k_is)
    (case xm0_NoName => rfl)
    (case xt_NoName => k_is)
    (case xd_NoName => k_is)
    (case xga_NoName => k_is)
    (case xgg_NoName => k_is)
    (case xca_NoName => k_is)
    (case xf_NoName => k_is)
    (case xa_Nought => k_is)
    (case xk_Nought => k_is)
    (case xl_Nought => k_is)
    (case xi_Nought => k_is)
    (case xj_Nought => k_is)
    (case xm_Nought => k_is)
    (case xn_Nought => k_is)
    (case xo_Nought => k_is)
    (case xs_Nought => k_is)
    (case xc_Nought => k_is)
    (case xm0_Nought => rfl)
    (case xt_Nought => k_is)
    (case xd_Nought => k_is)
    (case xga_Nought => k_is)
    (case xgg_Nought => k_is)
    (case xca_Nought => k_is)
    (case xf_Nought => k_is)
    (case xa_Bare => k_is)
    (case xk_Bare => k_is)
    (case xl_Bare => k_is)
    (case xi_Bare => k_is)
    (case xj_Bare => k_is)
    (case xm_Bare => k_is)
    (case xn_Bare => k_is)
    (case xo_Bare => k_is)
    (case xs_Bare => k_is)
    (case xc_Bare => k_is)
    (case xm0_Bare => rfl)
    (case xt_Bare => k_is)
    (case xd_Bare => k_is)
    (case xga_Bare => k_is)
    (case xgg_Bare => k_is)
    (case xca_Bare => k_is)
    (case xf_Bare => k_is)
    (case xa_Loose => k_is)
    (case xk_Loose => k_is)
    (case xl_Loose => k_is)
    (case xi_Loose => k_is)
    (case xj_Loose => k_is)
    (case xm_Loose => k_is)
    (case xn_Loose => k_is)
    (case xo_Loose => k_is)
    (case xs_Loose => k_is)
    (case xc_Loose => k_is)
    (case xm0_Loose => rfl)
    (case xt_Loose => k_is)
    (case xd_Loose => k_is)
    (case xga_Loose => k_is)
    (case xgg_Loose => k_is)
    (case xca_Loose => k_is)
    (case xf_Loose => k_is)
    (case xa_Leans => k_is)
    (case xk_Leans => k_is)
    (case xl_Leans => k_is)
    (case xi_Leans => k_is)
    (case xj_Leans => k_is)
    (case xm_Leans => k_is)
    (case xn_Leans => k_is)
    (case xo_Leans => k_is)
    (case xs_Leans => k_is)
    (case xc_Leans => k_is)
    (case xm0_Leans => rfl)
    (case xt_Leans => k_is)
    (case xd_Leans => k_is)
    (case xga_Leans => k_is)
    (case xgg_Leans => k_is)
    (case xca_Leans => k_is)
    (case xf_Leans => k_is)
    (case xa_NoAnswer => k_is)
    (case xk_NoAnswer => k_is)
    (case xl_NoAnswer => k_is)
    (case xi_NoAnswer => k_is)
    (case xj_NoAnswer => k_is)
    (case xm_NoAnswer => k_is)
    (case xn_NoAnswer => k_is)
    (case xo_NoAnswer => k_is)
    (case xs_NoAnswer => k_is)
    (case xc_NoAnswer => k_is)
    (case xm0_NoAnswer => rfl)
    (case xt_NoAnswer => k_is)
    (case xd_NoAnswer => k_is)
    (case xga_NoAnswer => k_is)
    (case xgg_NoAnswer => k_is)
    (case xca_NoAnswer => k_is)
    (case xf_NoAnswer => k_is)
    (case xa_NoText => k_is)
    (case xk_NoText => k_is)
    (case xl_NoText => k_is)
    (case xi_NoText => k_is)
    (case xj_NoText => k_is)
    (case xm_NoText => k_is)
    (case xn_NoText => k_is)
    (case xo_NoText => k_is)
    (case xs_NoText => k_is)
    (case xc_NoText => k_is)
    (case xm0_NoText => rfl)
    (case xt_NoText => k_is)
    (case xd_NoText => k_is)
    (case xga_NoText => k_is)
    (case xgg_NoText => k_is)
    (case xca_NoText => k_is)
    (case xf_NoText => k_is)
    (case xnd => decide)
    (case yk_Turning => k_is)
    (case yp_Turning => k_is)
    (case yd_Turning => k_is)
    (case yo_Turning => k_is)
    (case ys_Turning => k_is)
    (case ym_Turning => k_is)
    (case yn_Turning_many => k_is)
    (case yn_Turning_rows => k_is)
    (case yn_Turning_joins => k_is)
    (case yf_0 => k_is)
    (case yf_1 => k_is)
