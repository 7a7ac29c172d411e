import PyProof.Rows.All
import Wide.All
import OpenK.AllK
import Wide.FinOn
import KE.KStateDown
import HandS.ForMost
import HandS.ForExc
import HandS.Defaults
import HandS.HeadHook1
import HandS.Wide
import HandS.TupAny
import HandS.TupLe
import HandS.IsInst
import HandS.FStr
import HandS.StrMore
import HandS.ExcInit
import HandS.ExcField
import HandS.ExcIs
import HandS.TryOnly
import HandS.RaiseMore
import HandS.WrittenGet
import KE.KExcIs
import HandS.HeadHook4
import PySem.Challenge.RW_liveclaims_k77_forms_that_are_not_read
import KE.IntTextLaws
import HandS.Text
import HandS.Head0
import HandS.Head1
import HandS.Head2
import HandS.HeadEnd
set_option Elab.async false
set_option linter.all false
set_option maxRecDepth 100000
set_option maxHeartbeats 2000000
/-! Mi0: values, stores, results of the mirrors; how they stand to HandS' heaps. -/
namespace Mi
open PySem PySem.Spec PyProof.Rows
open L2

/-- a value of the mirror: texts, ints and the like by themselves, tuples and lists (not changed any more) by their items, changeable things by number -/
inductive A where
  | non | bl (b : Bool) | int (i : Int) | str (s : Str)
  | tup (xs : List A) | lst (xs : List A) | loc (n : Nat) | fn (x : Str)
  | dct (kvs : List (A × A)) | obj (c : Str) (fs : List (Str × A)) | scr (ns : List Int)
/-- what stands at a number -/
inductive AO where
  | lst (xs : List A) | ins (c : Str) (fs : List (Str × A)) | dct (kvs : List (A × A))
abbrev Sto := List AO
/-- how a part of the program ends -/
inductive R (α : Type) where
  | ok (a : α) (S : Sto) | exn (c : Str) (fs : List (Str × A)) (S : Sto) | bad
namespace R
def bind {α β : Type} (r : R α) (k : α → Sto → R β) : R β := match r with
  | ok a S => k a S
  | exn c fs S => exn c fs S
  | bad => bad
@[simp] theorem bind_ok {α β : Type} (a : α) (S : Sto) (k : α → Sto → R β) : (R.ok a S).bind k = k a S := rfl
@[simp] theorem bind_exn {α β : Type} (c : Str) (fs : List (Str × A)) (S : Sto) (k : α → Sto → R β) : (R.exn c fs S).bind k = R.exn c fs S := rfl
@[simp] theorem bind_bad {α β : Type} (k : α → Sto → R β) : (R.bad : R α).bind k = R.bad := rfl
end R
abbrev Env := List (Option A)
abbrev EM := Env → Sto → R A
abbrev TM := Env → Sto → R Bool
abbrev AM := Env → Sto → R (List A)
/-- how a statement ends -/
inductive SR where
  | nx (e : Env) (S : Sto) | rt (a : A) (S : Sto) | bk (e : Env) (S : Sto) | ct (e : Env) (S : Sto)
  | exn (c : Str) (fs : List (Str × A)) (e : Env) (S : Sto) | bad
abbrev SM := Env → Sto → SR

/-! ### the relation -/
/-- the addresses of the numbered things, and those that nobody speaks of for a while -/
structure Rho where
  nu : List Addr
  hi : List Addr
instance : Membership Addr Rho := ⟨fun ρ p => p ∈ ρ.nu ∨ p ∈ ρ.hi⟩
def Rho.get? (ρ : Rho) (n : Nat) : Option Addr := ρ.nu[n]?
def Rho.add (ρ : Rho) (l : List Addr) : Rho := ⟨ρ.nu ++ l, ρ.hi⟩
def Rho.hide (ρ : Rho) (p : Addr) : Rho := ⟨ρ.nu, p :: ρ.hi⟩
theorem Rho.mem {ρ : Rho} {p : Addr} : p ∈ ρ ↔ p ∈ ρ.nu ∨ p ∈ ρ.hi := Iff.rfl
abbrev KTup (K : PySem.W.Frag) (p : Addr) (vs : List V) : Prop := SqT K (fun _ => none) p vs
abbrev KLst (K : PySem.W.Frag) (p : Addr) (vs : List V) : Prop := SqL K (fun _ => none) p vs
theorem Rd.none_no {p : Addr} {u : HO} (h : Rd (fun _ => none) p u) : False := by
  rcases h with h | ⟨o, h⟩ <;> cases h
def TupAt (K : PySem.W.Frag) (ρ : Rho) (H : Hp) (p : Addr) (vs : List V) : Prop := (Rd H p (.tup vs) ∧ p ∉ ρ) ∨ KTup K p vs
def ScrAt (K : PySem.W.Frag) (ρ : Rho) (H : Hp) (p : Addr) (vs : List V) : Prop := (Rd H p (.lst vs) ∧ p ∉ ρ) ∨ KLst K p vs
theorem KTup.sq {K : PySem.W.Frag} {H : Hp} {p : Addr} {vs : List V} (h : KTup K p vs) : SqT K H p vs := h.elim (fun z => (Rd.none_no z).elim) .inr
theorem KLst.sq {K : PySem.W.Frag} {H : Hp} {p : Addr} {vs : List V} (h : KLst K p vs) : SqL K H p vs := h.elim (fun z => (Rd.none_no z).elim) .inr
theorem TupAt.sq {K : PySem.W.Frag} {ρ : Rho} {H : Hp} {p : Addr} {vs : List V} (h : TupAt K ρ H p vs) : SqT K H p vs := h.elim (fun z => .inl z.1) KTup.sq
theorem ScrAt.sq {K : PySem.W.Frag} {ρ : Rho} {H : Hp} {p : Addr} {vs : List V} (h : ScrAt K ρ H p vs) : SqL K H p vs := h.elim (fun z => .inl z.1) KLst.sq
/-- a dict's keys as the heap has them -/
inductive KeyR : A → Key → Prop
  | int (i : Int) : KeyR (.int i) (Sum.inl i)
  | str (s : Str) : KeyR (.str s) (Sum.inr s)
mutual
inductive RA (K : PySem.W.Frag) (ρ : Rho) (H : Hp) : A → V → Prop
  | non : RA K ρ H .non .non
  | bl (b : Bool) : RA K ρ H (.bl b) (.bl b)
  | int (i : Int) : RA K ρ H (.int i) (.int i)
  | str (s : Str) : RA K ρ H (.str s) (.str s)
  | tup {p : Addr} {xs : List A} {vs : List V} : TupAt K ρ H p vs → RAs K ρ H xs vs → RA K ρ H (.tup xs) (.ref p)
  | lst {p : Addr} {xs : List A} {vs : List V} : H p = some (.lst vs) → p ∉ ρ → RAs K ρ H xs vs → RA K ρ H (.lst xs) (.ref p)
  | scr {p : Addr} {ns : List Int} : ScrAt K ρ H p (ns.map V.int) → RA K ρ H (.scr ns) (.ref p)
  | loc {n : Nat} {p : Addr} : ρ.get? n = some p → RA K ρ H (.loc n) (.ref p)
  | fn (x : Str) : RA K ρ H (.fn x) (.ref (He.ga K x))
  | dct {p : Addr} {kvs : List (A × A)} {ws : List (Key × V)} : Rd H p (.dK ws) → p ∉ ρ → RAd K ρ H kvs ws → RA K ρ H (.dct kvs) (.ref p)
  | obj {p dx : Addr} {c : Str} {fs : List (Str × A)} {gs : List (Str × V)} : H p = some (.ins (He.ga K c) dx gs) → p ∉ ρ → RAf K ρ H fs gs → RA K ρ H (.obj c fs) (.ref p)
inductive RAs (K : PySem.W.Frag) (ρ : Rho) (H : Hp) : List A → List V → Prop
  | nil : RAs K ρ H [] []
  | cons {a : A} {as : List A} {v : V} {vs : List V} : RA K ρ H a v → RAs K ρ H as vs → RAs K ρ H (a :: as) (v :: vs)
inductive RAf (K : PySem.W.Frag) (ρ : Rho) (H : Hp) : List (Str × A) → List (Str × V) → Prop
  | nil : RAf K ρ H [] []
  | cons {f : Str} {a : A} {as : List (Str × A)} {v : V} {vs : List (Str × V)} : RA K ρ H a v → RAf K ρ H as vs → RAf K ρ H ((f, a) :: as) ((f, v) :: vs)
inductive RAd (K : PySem.W.Frag) (ρ : Rho) (H : Hp) : List (A × A) → List (Key × V) → Prop
  | nil : RAd K ρ H [] []
  | cons {k : A} {k' : Key} {a : A} {as : List (A × A)} {v : V} {vs : List (Key × V)} : KeyR k k' → RA K ρ H a v → RAd K ρ H as vs → RAd K ρ H ((k, a) :: as) ((k', v) :: vs)
end
/-- dicts may be locked and let go while a loop walks them; all else stays -/
def Ro : HO → Bool
  | .dK _ => false
  | .dT _ => false
  | .frz _ (.dK _) => false
  | .frz _ (.dT _) => false
  | _ => true
/-- from a heap to a later one: new numbers stand at new addresses, what has no number stays -/
structure Stp (ρ : Rho) (H : Hp) (ρ' : Rho) (H' : Hp) : Prop where
  ext : ∃ l, ρ' = ρ.add l ∧ ∀ p ∈ l, p ∈ ρ.nu ∨ H p = none
  keep : ∀ p o, p ∉ ρ.nu → H p = some o → Ro o = true → H' p = some o
  read : ∀ p u, p ∉ ρ.nu → Rd H p u → Rd H' p u
section
variable {K : PySem.W.Frag} {ρ ρ' ρ1 ρ2 : Rho} {H H' H1 H2 : Hp}
theorem Rho.add_nil (ρ : Rho) : ρ.add [] = ρ := by cases ρ; simp [Rho.add]
theorem Stp.refl : Stp ρ H ρ H := ⟨⟨[], ρ.add_nil.symm, fun _ h => nomatch h⟩, fun _ _ _ h _ => h, fun _ _ _ h => h⟩
theorem rd_some {H : Hp} {p : Addr} {u : HO} (h : Rd H p u) : H p ≠ none := by
  rcases h with h | ⟨o, h⟩ <;> (rw [h]; simp)
theorem Stp.ninN (s : Stp ρ H ρ' H') {p : Addr} (h : p ∉ ρ.nu) (e : H p ≠ none) : p ∉ ρ'.nu := by
  obtain ⟨l, rfl, hl⟩ := s.ext
  intro hm
  rcases List.mem_append.mp hm with z | z
  · exact h z
  · rcases hl p z with y | y
    · exact h y
    · exact e y
theorem Stp.nin (s : Stp ρ H ρ' H') {p : Addr} (h : p ∉ ρ) (e : H p ≠ none) : p ∉ ρ' := by
  have h1 := s.ninN (fun z => h (.inl z)) e
  obtain ⟨l, rfl, hl⟩ := s.ext
  intro hm
  exact hm.elim h1 fun z => h (.inr z)
theorem Stp.there (s : Stp ρ H ρ' H') {p : Addr} (h : p ∉ ρ.nu) (e : H p ≠ none) : H' p ≠ none := by
  cases q : H p with
  | none => exact absurd q e
  | some o => exact rd_some (s.read p o h (.inl q))
theorem Stp.trans (a : Stp ρ H ρ1 H1) (b : Stp ρ1 H1 ρ2 H2) : Stp ρ H ρ2 H2 where
  ext := by
    have hth := fun p => @Stp.there ρ ρ1 H H1 a p
    obtain ⟨l, rfl, hl⟩ := a.ext
    obtain ⟨m, rfl, hm⟩ := b.ext
    refine ⟨l ++ m, by simp [Rho.add, List.append_assoc], fun p hp => ?_⟩
    rcases List.mem_append.mp hp with z | z
    · exact hl p z
    · rcases hm p z with y | y
      · rcases List.mem_append.mp y with x | x
        · exact .inl x
        · exact hl p x
      · by_cases hr : p ∈ ρ.nu
        · exact .inl hr
        · refine .inr ?_
          cases e : H p with
          | none => rfl
          | some o => exact absurd y (hth p hr (by rw [e]; simp))
  keep := fun p o hp h r => b.keep p o (a.ninN hp (by rw [h]; simp)) (a.keep p o hp h r) r
  read := fun p u hp h => b.read p u (a.ninN hp (rd_some h)) (a.read p u hp h)
theorem Stp.num (s : Stp ρ H ρ' H') {n : Nat} {p : Addr} (h : ρ.get? n = some p) : ρ'.get? n = some p := by
  obtain ⟨l, rfl, _⟩ := s.ext
  unfold Rho.get? Rho.add at *
  dsimp only
  rw [List.getElem?_append_left (List.getElem?_eq_some_iff.mp h).1]
  exact h
/-- a new thing that has no number -/
theorem Stp.new {p : Addr} {o : HO} (h : H p = none) : Stp ρ H ρ (upd H p o) where
  ext := ⟨[], ρ.add_nil.symm, fun _ z => nomatch z⟩
  keep := fun q u _ e _ => by rw [upd_ne (ne_of_none e h)]; exact e
  read := fun q u _ e => by
    rcases e with e | ⟨z, e⟩
    · exact .inl (by rw [upd_ne (ne_of_none e h)]; exact e)
    · exact .inr ⟨z, by rw [upd_ne (ne_of_none e h)]; exact e⟩
/-- a new thing that takes the next number -/
theorem Stp.newN {p : Addr} {o : HO} (h : H p = none) : Stp ρ H (ρ.add [p]) (upd H p o) where
  ext := ⟨[p], rfl, fun q z => by rw [List.mem_singleton.mp z]; exact .inr h⟩
  keep := (Stp.new (ρ := ρ) h).keep
  read := (Stp.new (ρ := ρ) h).read
/-- a numbered thing changes -/
theorem Stp.wr {p : Addr} {o : HO} (h : p ∈ ρ.nu) : Stp ρ H ρ (upd H p o) where
  ext := ⟨[], ρ.add_nil.symm, fun _ z => nomatch z⟩
  keep := fun q u hq e _ => by rw [upd_ne (fun z => hq (by rw [z]; exact h))]; exact e
  read := fun q u hq e => by
    rcases e with e | ⟨z, e⟩
    · exact .inl (by rw [upd_ne (fun z => hq (by rw [z]; exact h))]; exact e)
    · exact .inr ⟨z, by rw [upd_ne (fun z => hq (by rw [z]; exact h))]; exact e⟩
/-- a thing that was not there at the start changes -/
theorem Stp.mutNew {p : Addr} {o : HO} (s : Stp ρ H ρ' H') (n : H p = none) : Stp ρ H ρ' (upd H' p o) where
  ext := s.ext
  keep := fun q u hq e r => by rw [upd_ne (ne_of_none e n)]; exact s.keep q u hq e r
  read := fun q u hq e => by
    have hqp : q ≠ p := fun z => rd_some e (z ▸ n)
    rcases s.read q u hq e with e | ⟨z, e⟩
    · exact .inl (by rw [upd_ne hqp]; exact e)
    · exact .inr ⟨z, by rw [upd_ne hqp]; exact e⟩
/-- what values lean on, from a heap to a later one -/
structure Stq (ρ : Rho) (H : Hp) (ρ' : Rho) (H' : Hp) : Prop where
  num : ∀ {n : Nat} {p : Addr}, ρ.get? n = some p → ρ'.get? n = some p
  nin : ∀ {p : Addr}, p ∉ ρ → H p ≠ none → p ∉ ρ'
  keep : ∀ p o, p ∉ ρ → H p = some o → Ro o = true → H' p = some o
  read : ∀ p u, p ∉ ρ → Rd H p u → Rd H' p u
theorem Stp.q (s : Stp ρ H ρ' H') : Stq ρ H ρ' H' := ⟨s.num, s.nin, fun p o h => s.keep p o fun z => h (.inl z), fun p u h => s.read p u fun z => h (.inl z)⟩
theorem Stq.trans (a : Stq ρ H ρ1 H1) (b : Stq ρ1 H1 ρ2 H2) : Stq ρ H ρ2 H2 where
  num := fun h => b.num (a.num h)
  nin := fun {p} h e => b.nin (a.nin h e) (by
    cases q : H p with
    | none => exact absurd q e
    | some o => exact rd_some (a.read p o h (.inl q)))
  keep := fun p o hp h r => b.keep p o (a.nin hp (by rw [h]; simp)) (a.keep p o hp h r) r
  read := fun p u hp h => b.read p u (a.nin hp (rd_some h)) (a.read p u hp h)
theorem TupAt.upq {p : Addr} {vs : List V} (s : Stq ρ H ρ' H') (h : TupAt K ρ H p vs) : TupAt K ρ' H' p vs := h.imp (fun z => ⟨s.read p _ z.2 z.1, s.nin z.2 (rd_some z.1)⟩) id
theorem ScrAt.upq {p : Addr} {vs : List V} (s : Stq ρ H ρ' H') (h : ScrAt K ρ H p vs) : ScrAt K ρ' H' p vs := h.imp (fun z => ⟨s.read p _ z.2 z.1, s.nin z.2 (rd_some z.1)⟩) id
mutual
theorem RA.upq (s : Stq ρ H ρ' H') : ∀ {a : A} {v : V}, RA K ρ H a v → RA K ρ' H' a v
  | _, _, .non => .non
  | _, _, .bl b => .bl b
  | _, _, .int i => .int i
  | _, _, .str x => .str x
  | _, _, .tup h r => .tup (h.upq s) (RAs.upq s r)
  | _, _, .lst h n r => .lst (s.keep _ _ n h rfl) (s.nin n (by rw [h]; simp)) (RAs.upq s r)
  | _, _, .scr h => .scr (h.upq s)
  | _, _, .loc h => .loc (s.num h)
  | _, _, .fn x => .fn x
  | _, _, .dct h n r => .dct (s.read _ _ n h) (s.nin n (rd_some h)) (RAd.upq s r)
  | _, _, .obj h n r => .obj (s.keep _ _ n h rfl) (s.nin n (by rw [h]; simp)) (RAf.upq s r)
theorem RAs.upq (s : Stq ρ H ρ' H') : ∀ {as : List A} {vs : List V}, RAs K ρ H as vs → RAs K ρ' H' as vs
  | _, _, .nil => .nil
  | _, _, .cons h r => .cons (RA.upq s h) (RAs.upq s r)
theorem RAf.upq (s : Stq ρ H ρ' H') : ∀ {as : List (Str × A)} {vs : List (Str × V)}, RAf K ρ H as vs → RAf K ρ' H' as vs
  | _, _, .nil => .nil
  | _, _, .cons h r => .cons (RA.upq s h) (RAf.upq s r)
theorem RAd.upq (s : Stq ρ H ρ' H') : ∀ {as : List (A × A)} {vs : List (Key × V)}, RAd K ρ H as vs → RAd K ρ' H' as vs
  | _, _, .nil => .nil
  | _, _, .cons k h r => .cons k (RA.upq s h) (RAd.upq s r)
end
theorem RA.up (s : Stp ρ H ρ' H') {a : A} {v : V} (h : RA K ρ H a v) : RA K ρ' H' a v := h.upq s.q
theorem RAs.up (s : Stp ρ H ρ' H') {as : List A} {vs : List V} (h : RAs K ρ H as vs) : RAs K ρ' H' as vs := h.upq s.q
theorem RAf.up (s : Stp ρ H ρ' H') {as : List (Str × A)} {vs : List (Str × V)} (h : RAf K ρ H as vs) : RAf K ρ' H' as vs := h.upq s.q
theorem RAd.up (s : Stp ρ H ρ' H') {as : List (A × A)} {vs : List (Key × V)} (h : RAd K ρ H as vs) : RAd K ρ' H' as vs := h.upq s.q
end
/-! ### lists of related values -/
section
variable {K : PySem.W.Frag} {ρ : Rho} {H : Hp}
theorem RAs.length : ∀ {as : List A} {vs : List V}, RAs K ρ H as vs → as.length = vs.length
  | _, _, .nil => rfl
  | _, _, .cons _ r => congrArg (· + 1) (RAs.length r)
theorem RAs.get : ∀ {as : List A} {vs : List V} {i : Nat} {a : A}, RAs K ρ H as vs → as[i]? = some a → ∃ v, vs[i]? = some v ∧ RA K ρ H a v
  | _, _, _, _, .nil, e => by simp at e
  | _, _, 0, _, .cons h _, e => by simp at e; subst e; exact ⟨_, rfl, h⟩
  | _, _, i + 1, a, .cons _ r, e => by
    obtain ⟨v, h1, h2⟩ := RAs.get (i := i) (a := a) r (by simpa using e)
    exact ⟨v, by simpa using h1, h2⟩
theorem RAs.append : ∀ {as bs : List A} {vs ws : List V}, RAs K ρ H as vs → RAs K ρ H bs ws → RAs K ρ H (as ++ bs) (vs ++ ws)
  | _, _, _, _, .nil, s => s
  | _, _, _, _, .cons h r, s => .cons h (RAs.append r s)
theorem RAs.set : ∀ {as : List A} {vs : List V} {a : A} {v : V} (i : Nat), RAs K ρ H as vs → RA K ρ H a v → RAs K ρ H (as.set i a) (vs.set i v)
  | _, _, _, _, _, .nil, _ => .nil
  | _, _, _, _, 0, .cons _ r, h => .cons h r
  | _, _, _, _, i + 1, .cons q r, h => .cons q (RAs.set i r h)
theorem RAs.take : ∀ {as : List A} {vs : List V} (n : Nat), RAs K ρ H as vs → RAs K ρ H (as.take n) (vs.take n)
  | _, _, 0, _ => .nil
  | _, _, _ + 1, .nil => .nil
  | _, _, n + 1, .cons h r => .cons h (RAs.take n r)
theorem RAs.drop : ∀ {as : List A} {vs : List V} (n : Nat), RAs K ρ H as vs → RAs K ρ H (as.drop n) (vs.drop n)
  | _, _, 0, r => r
  | _, _, _ + 1, .nil => .nil
  | _, _, n + 1, .cons _ r => RAs.drop n r
theorem RAs.back : ∀ {as : List A} {vs : List V} {i : Nat} {v : V}, RAs K ρ H as vs → vs[i]? = some v → ∃ a, as[i]? = some a ∧ RA K ρ H a v
  | _, _, _, _, .nil, e => by simp at e
  | _, _, 0, _, .cons h _, e => by simp at e; subst e; exact ⟨_, rfl, h⟩
  | _, _, i + 1, v, .cons _ r, e => by
    obtain ⟨a, h1, h2⟩ := RAs.back (i := i) (v := v) r (by simpa using e)
    exact ⟨a, by simpa using h1, h2⟩
theorem RAf.look : ∀ {as : List (Str × A)} {vs : List (Str × V)} {f : Str} {a : A}, RAf K ρ H as vs → as.lookup f = some a → ∃ v, vs.lookup f = some v ∧ RA K ρ H a v
  | _, _, _, _, .nil, e => by simp at e
  | (g, b) :: _, _, f, a, .cons h r, e => by
    cases q : f == g with
    | true =>
      simp only [List.lookup, q] at e ⊢
      cases e
      exact ⟨_, rfl, h⟩
    | false =>
      simp only [List.lookup, q] at e ⊢
      exact RAf.look r e
theorem RAf.length : ∀ {as : List (Str × A)} {vs : List (Str × V)}, RAf K ρ H as vs → as.length = vs.length
  | _, _, .nil => rfl
  | _, _, .cons _ r => congrArg (· + 1) (RAf.length r)
/-- a field stored (putF's twin) -/
def putA (f : Str) (v : A) : List (Str × A) → List (Str × A)
  | [] => [(f, v)]
  | (g, w) :: r => if g = f then (g, v) :: r else (g, w) :: putA f v r
end

/-! ### numbered things -/
inductive OA (K : PySem.W.Frag) (ρ : Rho) (H : Hp) : AO → Addr → Prop
  | lst {p : Addr} {xs : List A} {vs : List V} : H p = some (.lst vs) → RAs K ρ H xs vs → OA K ρ H (.lst xs) p
  | ins {p dx : Addr} {c : Str} {fs : List (Str × A)} {gs : List (Str × V)} : H p = some (.ins (He.ga K c) dx gs) → RAf K ρ H fs gs → OA K ρ H (.ins c fs) p
  | dct {p : Addr} {kvs : List (A × A)} {ws : List (Key × V)} : H p = some (.dK ws) → RAd K ρ H kvs ws → OA K ρ H (.dct kvs) p
structure RS (K : PySem.W.Frag) (ρ : Rho) (H : Hp) (S : Sto) : Prop where
  len : ρ.nu.length = S.length
  nd : ρ.nu.Nodup
  hid : ∀ p ∈ ρ.hi, H p ≠ none ∧ p ∉ ρ.nu
  at_ : ∀ (n : Nat) (p : Addr) (o : AO), ρ.get? n = some p → S[n]? = some o → OA K ρ H o p
structure RE (K : PySem.W.Frag) (ρ : Rho) (H : Hp) (env : Env) (σ : L2.St) : Prop where
  len : env.length = σ.length
  at_ : ∀ (i : Nat) (a : A), env[i]? = some (some a) → ∃ v, σ[i]? = some (some v) ∧ RA K ρ H a v
section
variable {K : PySem.W.Frag} {ρ ρ' : Rho} {H H' : Hp} {S : Sto} {env : Env} {σ : L2.St}
theorem RE.up (s : Stp ρ H ρ' H') (h : RE K ρ H env σ) : RE K ρ' H' env σ := ⟨h.len, fun i a e => by
  obtain ⟨v, h1, h2⟩ := h.at_ i a e
  exact ⟨v, h1, h2.up s⟩⟩
theorem RE.set {a : A} {v : V} (i : Nat) (h : RE K ρ H env σ) (r : RA K ρ H a v) : RE K ρ H (env.set i (some a)) (σ.set i (some v)) := ⟨by rw [List.length_set, List.length_set, h.len], fun j b e => by
  by_cases hj : i = j
  · subst hj
    rw [List.getElem?_set] at e
    by_cases hl : i < env.length
    · simp [hl] at e
      subst e
      exact ⟨v, by rw [List.getElem?_set]; simp [h.len ▸ hl], r⟩
    · simp [hl] at e
  · rw [List.getElem?_set_ne hj] at e
    obtain ⟨w, h1, h2⟩ := h.at_ j b e
    exact ⟨w, by rw [List.getElem?_set_ne hj]; exact h1, h2⟩⟩
/-- slots forgotten -/
theorem RE.drop1 (i : Nat) (h : RE K ρ H env σ) : RE K ρ H (env.set i none) (σ.set i none) := ⟨by rw [List.length_set, List.length_set, h.len], fun j b e => by
  by_cases hj : i = j
  · subst hj
    rw [List.getElem?_set] at e
    by_cases hl : i < env.length <;> simp [hl] at e
  · rw [List.getElem?_set_ne hj] at e
    obtain ⟨w, h1, h2⟩ := h.at_ j b e
    exact ⟨w, by rw [List.getElem?_set_ne hj]; exact h1, h2⟩⟩
theorem RS.lt (h : RS K ρ H S) {n : Nat} {p : Addr} (e : ρ.get? n = some p) : ∃ o, S[n]? = some o := by
  have z := (List.getElem?_eq_some_iff.mp (show ρ.nu[n]? = some p from e)).1
  rw [h.len] at z
  exact ⟨_, List.getElem?_eq_getElem z⟩
theorem OA.ne {o : AO} {p : Addr} (h : OA K ρ H o p) : H p ≠ none := by
  cases h with
  | lst h _ => rw [h]; simp
  | ins h _ => rw [h]; simp
  | dct h _ => rw [h]; simp
theorem RS.ne (h : RS K ρ H S) {p : Addr} (e : p ∈ ρ) : H p ≠ none := by
  rcases e with e | e
  · obtain ⟨n, hn, e2⟩ := List.mem_iff_getElem.mp e
    have e3 : ρ.get? n = some p := by unfold Rho.get?; rw [List.getElem?_eq_getElem hn, e2]
    obtain ⟨o, ho⟩ := h.lt e3
    exact (h.at_ n p o e3 ho).ne
  · exact (h.hid p e).1
theorem RS.free (h : RS K ρ H S) {p : Addr} (e : H p = none) : p ∉ ρ := fun z => h.ne z e
theorem RS.inj (h : RS K ρ H S) {n m : Nat} {p : Addr} (e1 : ρ.get? n = some p) (e2 : ρ.get? m = some p) : n = m := nd_ix h.nd e1 e2
theorem Rho.get_nu {ρ : Rho} {n : Nat} {p : Addr} (h : ρ.get? n = some p) : p ∈ ρ.nu := List.mem_of_getElem? h
theorem Rho.get_mem {ρ : Rho} {n : Nat} {p : Addr} (h : ρ.get? n = some p) : p ∈ ρ := .inl (List.mem_of_getElem? h)
/-- the numbered things behind a step that leaves them -/
theorem OA.up {o : AO} {p : Addr} (s : Stp ρ H ρ' H') (e : ∀ u, H p = some u → H' p = some u) (h : OA K ρ H o p) : OA K ρ' H' o p := by
  cases h with
  | lst h r => exact .lst (e _ h) (r.up s)
  | ins h r => exact .ins (e _ h) (r.up s)
  | dct h r => exact .dct (e _ h) (r.up s)
/-- a new thing without a number -/
theorem RS.new {p : Addr} {o : HO} (h : RS K ρ H S) (n : H p = none) : RS K ρ (upd H p o) S where
  len := h.len
  nd := h.nd
  hid := fun q hq => ⟨by
    cases e : H q with
    | none => exact absurd e (h.hid q hq).1
    | some u => rw [upd_ne (ne_of_none e n), e]; simp, (h.hid q hq).2⟩
  at_ := fun i q u e1 e2 => (h.at_ i q u e1 e2).up (Stp.new n) fun w z => by
    rw [upd_ne (ne_of_none z n)]
    exact z
/-- a new thing with the next number -/
theorem RS.newN {p : Addr} {o : HO} {u : AO} (h : RS K ρ H S) (n : H p = none) (ho : OA K (ρ.add [p]) (upd H p o) u p) : RS K (ρ.add [p]) (upd H p o) (S ++ [u]) where
  len := by
    show (ρ.nu ++ [p]).length = _
    rw [List.length_append, List.length_append, h.len]; rfl
  nd := by
    show (ρ.nu ++ [p]).Nodup
    rw [List.nodup_append]
    exact ⟨h.nd, by simp, fun a ha b hb => by
      rw [List.mem_singleton.mp hb]
      exact fun z => h.free n (.inl (z ▸ ha))⟩
  hid := fun q hq => by
    have h1 := h.hid q hq
    have h2 : q ≠ p := fun e => h1.1 (e ▸ n)
    refine ⟨by rw [upd_ne h2]; exact h1.1, fun hm => ?_⟩
    rcases List.mem_append.mp hm with z | z
    · exact h1.2 z
    · exact h2 (List.mem_singleton.mp z)
  at_ := fun i q w e1 e2 => by
    have e1 : (ρ.nu ++ [p])[i]? = some q := e1
    by_cases hi : i < ρ.nu.length
    · rw [List.getElem?_append_left hi] at e1
      rw [List.getElem?_append_left (by rw [← h.len]; exact hi)] at e2
      exact (h.at_ i q w e1 e2).up (Stp.newN n) fun y z => by
        rw [upd_ne (ne_of_none z n)]
        exact z
    · have hlt := (List.getElem?_eq_some_iff.mp e1).1
      rw [List.length_append, List.length_singleton] at hlt
      have ei : i = ρ.nu.length := by omega
      subst ei
      simp at e1
      rw [h.len] at e2
      simp at e2
      subst e1 e2
      exact ho
/-- a numbered thing changed -/
theorem RS.wr {n : Nat} {p : Addr} {o : HO} {u : AO} (h : RS K ρ H S) (hp : ρ.get? n = some p) (ho : OA K ρ (upd H p o) u p) : RS K ρ (upd H p o) (S.set n u) where
  len := by rw [List.length_set]; exact h.len
  nd := h.nd
  hid := fun q hq => by
    have h1 := h.hid q hq
    have h2 : q ≠ p := fun e => h1.2 (e ▸ List.mem_of_getElem? (show ρ.nu[n]? = some p from hp))
    exact ⟨by rw [upd_ne h2]; exact h1.1, h1.2⟩
  at_ := fun i q w e1 e2 => by
    by_cases hi : n = i
    · subst hi
      rw [hp] at e1
      have e3 : p = q := Option.some.inj e1
      have hl : n < S.length := by
        rw [← h.len]
        exact (List.getElem?_eq_some_iff.mp (show ρ.nu[n]? = some p from hp)).1
      rw [List.getElem?_set] at e2
      simp [hl] at e2
      subst e2 e3
      exact ho
    · rw [List.getElem?_set_ne hi] at e2
      refine (h.at_ i q w e1 e2).up (Stp.wr (Rho.get_nu hp)) fun y z => ?_
      rw [upd_ne (fun e => hi (h.inj hp (by rw [← e]; exact e1)))]
      exact z
/-! ### a thing that nobody speaks of for a while -/
theorem hide_mem {p q : Addr} : q ∈ ρ.hide p ↔ q = p ∨ q ∈ ρ := by
  rw [Rho.mem, Rho.mem]
  show q ∈ ρ.nu ∨ q ∈ p :: ρ.hi ↔ _
  rw [List.mem_cons]
  constructor
  · rintro (h | h | h)
    · exact .inr (.inl h)
    · exact .inl h
    · exact .inr (.inr h)
  · rintro (h | h | h)
    · exact .inr (.inl h)
    · exact .inl h
    · exact .inr (.inr h)
/-- ahead of the hiding, behind it -/
theorem Stq.lay {p : Addr} {o : HO} (n : H p = none) : Stq ρ H (ρ.hide p) (upd H p o) where
  num := id
  nin := fun {q} h e z => (hide_mem.mp z).elim (fun y => e (y ▸ n)) h
  keep := fun q u h => (Stp.new (ρ := ρ) n).keep q u fun z => h (.inl z)
  read := fun q u h => (Stp.new (ρ := ρ) n).read q u fun z => h (.inl z)
theorem Stq.lays {p : Addr} (s : Stp ρ H ρ' H') (n : H p = none) : Stq ρ H (ρ'.hide p) H' where
  num := s.num
  nin := fun {q} h e z => (hide_mem.mp z).elim (fun y => e (y ▸ n)) (s.nin h e)
  keep := s.q.keep
  read := s.q.read
/-- shown again -/
theorem Stq.show {p : Addr} : Stq (ρ.hide p) H ρ H where
  num := id
  nin := fun {q} h _ z => h (hide_mem.mpr (.inr z))
  keep := fun _ _ _ h _ => h
  read := fun _ _ _ h => h
/-- the hidden thing changes -/
theorem Stq.hid {p : Addr} {o : HO} : Stq (ρ.hide p) H (ρ.hide p) (upd H p o) where
  num := id
  nin := fun {q} h _ => h
  keep := fun q u hq e _ => by rw [upd_ne (fun z => hq (hide_mem.mpr (.inl z)))]; exact e
  read := fun q u hq e => by
    rcases e with e | ⟨z, e⟩
    · exact .inl (by rw [upd_ne (fun z => hq (hide_mem.mpr (.inl z)))]; exact e)
    · exact .inr ⟨z, by rw [upd_ne (fun z => hq (hide_mem.mpr (.inl z)))]; exact e⟩
theorem RE.upq (s : Stq ρ H ρ' H') (h : RE K ρ H env σ) : RE K ρ' H' env σ := ⟨h.len, fun i a e => by
  obtain ⟨v, h1, h2⟩ := h.at_ i a e
  exact ⟨v, h1, h2.upq s⟩⟩
theorem OA.upq {o : AO} {p : Addr} (s : Stq ρ H ρ' H') (e : ∀ u, H p = some u → H' p = some u) (h : OA K ρ H o p) : OA K ρ' H' o p := by
  cases h with
  | lst h r => exact .lst (e _ h) (r.upq s)
  | ins h r => exact .ins (e _ h) (r.upq s)
  | dct h r => exact .dct (e _ h) (r.upq s)
/-- a new thing is laid and hidden -/
theorem RS.lay {p : Addr} {o : HO} (h : RS K ρ H S) (n : H p = none) : RS K (ρ.hide p) (upd H p o) S where
  len := h.len
  nd := h.nd
  hid := fun q hq => by
    rcases List.mem_cons.mp hq with e | hq
    · subst e
      exact ⟨by rw [upd_same]; simp, fun z => h.free n (.inl z)⟩
    · exact (h.new (o := o) n).hid q hq
  at_ := fun i q u e1 e2 => (h.at_ i q u e1 e2).upq (Stq.lay n) fun w z => by
    rw [upd_ne (ne_of_none z n)]
    exact z
theorem RS.hidW {p : Addr} {o : HO} (h : RS K (ρ.hide p) H S) : RS K (ρ.hide p) (upd H p o) S where
  len := h.len
  nd := h.nd
  hid := fun q hq => ⟨by
    by_cases e : q = p
    · subst e
      rw [upd_same]
      simp
    · rw [upd_ne e]
      exact (h.hid q hq).1, (h.hid q hq).2⟩
  at_ := fun i q u e1 e2 => (h.at_ i q u e1 e2).upq Stq.hid fun w z => by
    have hq : q ≠ p := fun e => (h.hid p List.mem_cons_self).2 (e ▸ List.mem_of_getElem? (show ρ.nu[i]? = some q from e1))
    rw [upd_ne hq]
    exact z
theorem RS.show {p : Addr} (h : RS K (ρ.hide p) H S) : RS K ρ H S := ⟨h.len, h.nd, fun q hq => h.hid q (List.mem_cons_of_mem _ hq), fun i q u e1 e2 => (h.at_ i q u e1 e2).upq Stq.show fun _ z => z⟩
theorem Stp.hideEq {p : Addr} (s : Stp (ρ.hide p) H ρ' H') : ∃ ρ2 : Rho, ρ' = ρ2.hide p ∧ Stp ρ H ρ2 H' := by
  obtain ⟨l, e, hl⟩ := s.ext
  exact ⟨ρ.add l, e, ⟨l, rfl, hl⟩, s.keep, s.read⟩
theorem Stp.hi_eq (s : Stp ρ H ρ' H') : ρ'.hi = ρ.hi := by
  obtain ⟨l, rfl, _⟩ := s.ext
  rfl
/-- what is hidden stays -/
theorem Stp.keepHid {p : Addr} {o : HO} (s : Stp (ρ.hide p) H ρ' H') (rs : RS K (ρ.hide p) H S) (e : H p = some o) (r : Ro o = true) : H' p = some o := s.keep p o (rs.hid p List.mem_cons_self).2 e r
/-- the hidden thing takes the next number -/
theorem in_add {p q : Addr} : q ∈ ρ.add [p] → q ∈ ρ.hide p := fun h => by
  rcases h with h | h
  · rcases List.mem_append.mp h with h | h
    · exact .inl h
    · exact .inr (by rw [List.mem_singleton.mp h]; exact List.mem_cons_self)
  · exact .inr (List.mem_cons_of_mem _ h)
theorem Stq.num1 {p : Addr} : Stq (ρ.hide p) H (ρ.add [p]) H where
  num := fun {n q} h => by
    have h : ρ.nu[n]? = some q := h
    show (ρ.nu ++ [p])[n]? = some q
    rw [List.getElem?_append_left (List.getElem?_eq_some_iff.mp h).1]
    exact h
  nin := fun {q} h _ z => h (in_add z)
  keep := fun _ _ _ h _ => h
  read := fun _ _ _ h => h
theorem RS.num1 {p : Addr} {o : AO} (h : RS K (ρ.hide p) H S) (hp : p ∉ ρ.hi) (ho : OA K (ρ.add [p]) H o p) : RS K (ρ.add [p]) H (S ++ [o]) where
  len := by
    show (ρ.nu ++ [p]).length = _
    rw [List.length_append, List.length_append]
    have z : ρ.nu.length = S.length := h.len
    rw [z]
    rfl
  nd := by
    show (ρ.nu ++ [p]).Nodup
    have z : ρ.nu.Nodup := h.nd
    rw [List.nodup_append]
    exact ⟨z, by simp, fun a ha b hb => by
      rw [List.mem_singleton.mp hb]
      exact fun e => (h.hid p List.mem_cons_self).2 (e ▸ ha)⟩
  hid := fun q hq => by
    have z := h.hid q (List.mem_cons_of_mem _ hq)
    refine ⟨z.1, fun hm => ?_⟩
    rcases List.mem_append.mp hm with y | y
    · exact z.2 y
    · exact hp (List.mem_singleton.mp y ▸ hq)
  at_ := fun i q w e1 e2 => by
    have e1 : (ρ.nu ++ [p])[i]? = some q := e1
    have z : ρ.nu.length = S.length := h.len
    by_cases hi : i < ρ.nu.length
    · rw [List.getElem?_append_left hi] at e1
      rw [List.getElem?_append_left (by rw [← z]; exact hi)] at e2
      exact (h.at_ i q w e1 e2).upq Stq.num1 fun _ y => y
    · have hlt := (List.getElem?_eq_some_iff.mp e1).1
      rw [List.length_append, List.length_singleton] at hlt
      have ei : i = ρ.nu.length := by omega
      subst ei
      simp at e1
      rw [z] at e2
      simp at e2
      subst e1 e2
      exact ho
theorem Stp.addN {p : Addr} (s : Stp ρ H ρ' H') (n : H p = none) : Stp ρ H (ρ'.add [p]) H' where
  ext := by
    obtain ⟨l, rfl, hl⟩ := s.ext
    refine ⟨l ++ [p], by simp [Rho.add, List.append_assoc], fun q hq => ?_⟩
    rcases List.mem_append.mp hq with z | z
    · exact hl q z
    · exact .inr (List.mem_singleton.mp z ▸ n)
  keep := s.keep
  read := s.read
end

/-! ### what a part of the program promises, by its mirror -/
/-- an exception's own dict -/
def DOk (K : PySem.W.Frag) (ρ : Rho) (H : Hp) (fs : List (Str × A)) : Option Addr → Prop
  | none => fs = []
  | some d => fs ≠ [] ∧ ∃ gs, H d = some (.xd gs) ∧ RAf K ρ H fs gs
def Gd {α β : Type} (Rl : Rho → Hp → α → β → Prop) (K : PySem.W.Frag) (W : WX) (σ : L2.St) (ρ : Rho) (H : Hp) (Q : β → Hp → Prop) : R α → Prop
  | .ok a S' => ∀ ρ' H' b, Stp ρ H ρ' H' → RS K ρ' H' S' → Rl ρ' H' a b → Q b H'
  | .exn c fs S' => ∀ ρ' H' d, Stp ρ H ρ' H' → RS K ρ' H' S' → DOk K ρ' H' fs d → W (.ref (He.ga K c)) d σ H'
  | .bad => False
def tX {α β : Type} (Rl : Rho → Hp → α → β → Prop) (K : PySem.W.Frag) (W : WX) (m : Env → Sto → R α) : L2.St → Hp → (β → Hp → Prop) → Prop := fun σ H Q =>
  ∃ ρ env S, RS K ρ H S ∧ RE K ρ H env σ ∧ Gd Rl K W σ ρ H Q (m env S)
abbrev tE (K : PySem.W.Frag) (W : WX) (m : EM) : TE := tX (RA K) K W m
abbrev tT (K : PySem.W.Frag) (W : WX) (m : TM) : TT := tX (fun _ _ a b => a = b) K W m
abbrev tA (K : PySem.W.Frag) (W : WX) (m : AM) : TA := tX (RAs K) K W m
section
variable {α β γ δ : Type} {Rl : Rho → Hp → α → β → Prop} {Rm : Rho → Hp → γ → δ → Prop} {K : PySem.W.Frag} {W : WX} {σ : L2.St} {ρ ρ1 : Rho} {H H1 : Hp} {Q : δ → Hp → Prop} {Q1 Q2 : β → Hp → Prop} {S : Sto} {env : Env} {m : Env → Sto → R α}
theorem Gd.up {r : R α} (s : Stp ρ H ρ1 H1) (h : Gd Rl K W σ ρ H Q1 r) : Gd Rl K W σ ρ1 H1 Q1 r := by
  cases r with
  | ok a S' => exact fun ρ' H' b t => h ρ' H' b (s.trans t)
  | exn c fs S' => exact fun ρ' H' d t => h ρ' H' d (s.trans t)
  | bad => exact h
theorem Gd.imp {r : R α} (h : Gd Rl K W σ ρ H Q1 r) (k : ∀ b H', Q1 b H' → Q2 b H') : Gd Rl K W σ ρ H Q2 r := by
  cases r with
  | ok a S' => exact fun ρ' H' b t1 t2 t3 => k _ _ (h ρ' H' b t1 t2 t3)
  | exn c fs S' => exact h
  | bad => exact h
/-- at a value's end: what is known -/
def At (Rl : Rho → Hp → α → β → Prop) (K : PySem.W.Frag) (ρ : Rho) (H : Hp) (P : Rho → Hp → α → β → Sto → Prop) : β → Hp → Prop := fun b H1 => ∃ ρ1 a S1, Stp ρ H ρ1 H1 ∧ RS K ρ1 H1 S1 ∧ Rl ρ1 H1 a b ∧ P ρ1 H1 a b S1
theorem Gd.bind {r : R α} {k : α → Sto → R γ} (h : Gd Rm K W σ ρ H Q (r.bind k)) : Gd Rl K W σ ρ H (At Rl K ρ H fun ρ1 H1 a _ S1 => Gd Rm K W σ ρ1 H1 Q (k a S1)) r := by
  cases r with
  | ok a S' => exact fun ρ' H' b t1 t2 t3 => ⟨ρ', a, S', t1, t2, t3, Gd.up t1 h⟩
  | exn c fs S' => exact h
  | bad => exact h
theorem tX.mk (rs : RS K ρ H S) (re : RE K ρ H env σ) (h : Gd Rl K W σ ρ H Q1 (m env S)) : tX Rl K W m σ H Q1 := ⟨ρ, env, S, rs, re, h⟩
/-- first m, then what hangs on its value -/
theorem tX.bind {k : α → Sto → R γ} (rs : RS K ρ H S) (re : RE K ρ H env σ) (h : Gd Rm K W σ ρ H Q ((m env S).bind k))
    (q : ∀ ρ1 H1 a b S1, Stp ρ H ρ1 H1 → RS K ρ1 H1 S1 → RE K ρ1 H1 env σ → Rl ρ1 H1 a b → Gd Rm K W σ ρ1 H1 Q (k a S1) → Q1 b H1) : tX Rl K W m σ H Q1 :=
  ⟨ρ, env, S, rs, re, (Gd.bind (Rl := Rl) h).imp fun b H1 ⟨ρ1, a, S1, t1, t2, t3, t4⟩ => q ρ1 H1 a b S1 t1 t2 (re.up t1) t3 t4⟩
/-- at a result -/
theorem Gd.fin {a : α} {b : β} (h : Gd Rl K W σ ρ H Q1 (.ok a S)) (rs : RS K ρ H S) (r : Rl ρ H a b) : Q1 b H := h ρ H b Stp.refl rs r
theorem Gd.fin1 {a : α} {b : β} (h : Gd Rl K W σ ρ H Q1 (.ok a S)) (s : Stp ρ H ρ1 H1) (rs : RS K ρ1 H1 S) (r : Rl ρ1 H1 a b) : Q1 b H1 := h ρ1 H1 b s rs r
end
end Mi
set_option Elab.async false
set_option linter.all false
set_option maxRecDepth 100000
set_option maxHeartbeats 2000000
/-! Mi1: expressions. -/
namespace Mi
open PySem PySem.Spec PyProof.Rows
open L2
section
variable {X : Cx} {W : WX}
theorem wkE {e : Expr} {t t' : TE} (h : PE X e t) (k : ∀ σ H Q, t' σ H Q → t σ H Q) : PE X e t' := ⟨fun pins s σ H Q I q => h.run pins s σ H Q I (k _ _ _ q)⟩
theorem wkT {e : Expr} {t t' : TT} (h : PT X e t) (k : ∀ σ H Q, t' σ H Q → t σ H Q) : PT X e t' := ⟨fun pins s σ H Q I q => h.run pins s σ H Q I (k _ _ _ q)⟩
theorem wkA {e : List Expr} {t t' : TA} (h : PA X e t) (k : ∀ σ H Q, t' σ H Q → t σ H Q) : PA X e t' := ⟨fun pos pins s σ H Q I q => h.run pos pins s σ H Q I (k _ _ _ q)⟩
theorem wkO {e : Option Expr} {t t' : TO} (h : PO X e t) (k : ∀ σ H Q, t' σ H Q → t σ H Q) : PO X e t' := ⟨fun pins s σ H Q I q => h.run pins s σ H Q I (k _ _ _ q)⟩
/-- expression, test, arguments: their mirrors -/
abbrev SE (X : Cx) (W : WX) (e : Expr) (m : EM) : Prop := PE X e (tE X.K W m)
abbrev ST (X : Cx) (W : WX) (e : Expr) (m : TM) : Prop := PT X e (tT X.K W m)
abbrev SA (X : Cx) (W : WX) (es : List Expr) (m : AM) : Prop := PA X es (tA X.K W m)
end
theorem Gd.ite {α β : Type} {Rl : Rho → Hp → α → β → Prop} {K : PySem.W.Frag} {W : WX} {σ : L2.St} {ρ : Rho} {H : Hp} {Q : β → Hp → Prop} {c : Prop} [Decidable c] {r : R α} (g : Gd Rl K W σ ρ H Q (if c then r else .bad)) : c ∧ Gd Rl K W σ ρ H Q r := by
  by_cases h : c
  · rw [if_pos h] at g
    exact ⟨h, g⟩
  · rw [if_neg h] at g
    exact g.elim
/-! ### names, constants -/
def eVar (i : Nat) : EM := fun env S => match env[i]? with
  | some (some a) => .ok a S
  | _ => .bad
def eC (a : A) : EM := fun _ S => .ok a S
section
variable {X : Cx} {W : WX}
theorem se_var (i : Nat) {x : Str} {pos : Pos} (h : PE X (.Name x pos) (tVar i)) : SE X W (.Name x pos) (eVar i) := wkE h fun σ H Q ⟨ρ, env, S, rs, re, g⟩ => by
  unfold eVar at g
  split at g
  · rename_i a e
    obtain ⟨v, h1, h2⟩ := re.at_ i a e
    exact ⟨v, h1, g.fin rs h2⟩
  · exact g.elim
theorem se_c {e : Expr} {a : A} {v : V} (h : PE X e (tC v)) (r : ∀ ρ H, RA X.K ρ H a v) : SE X W e (eC a) := wkE h fun σ H Q ⟨ρ, env, S, rs, re, g⟩ => g.fin rs (r ρ H)
theorem se_int {i : Int} {j : Nat} {pos : Pos} : SE X W (.Constant (.int i) j pos) (eC (.int i)) := se_c pe_int fun _ _ => .int i
theorem se_str {x : Str} {j : Nat} {pos : Pos} : SE X W (.Constant (.str x) j pos) (eC (.str x)) := se_c pe_str fun _ _ => .str x
theorem se_bl {b : Bool} {j : Nat} {pos : Pos} : SE X W (.Constant (.bool b) j pos) (eC (.bl b)) := se_c pe_bl fun _ _ => .bl b
theorem se_non {j : Nat} {pos : Pos} : SE X W (.Constant .none j pos) (eC .non) := se_c pe_non fun _ _ => .non
end
/-! ### arguments, displays -/
def aNil : AM := fun _ S => .ok [] S
def aCons (m : EM) (r : AM) : AM := fun env S => (m env S).bind fun a S1 => (r env S1).bind fun as S2 => .ok (a :: as) S2
def eTup (m : AM) : EM := fun env S => (m env S).bind fun xs S1 => if xs.length ≤ 10000 then .ok (.tup xs) S1 else .bad
def eLst (m : AM) : EM := fun env S => (m env S).bind fun xs S1 => if xs.length ≤ 10000 then .ok (.lst xs) S1 else .bad
def eNew (m : AM) : EM := fun env S => (m env S).bind fun xs S1 => if xs.length ≤ 10000 then .ok (.loc S1.length) (S1 ++ [.lst xs]) else .bad
theorem le_line {n : Nat} (h : n ≤ 10000) : n ≤ sizeLine := Nat.le_trans h (by rw [sizeLine_eq]; decide)
section
variable {X : Cx} {W : WX} {e : Expr} {es : List Expr} {m : EM} {r : AM} {pos : Pos}
theorem sa_nil : SA X W [] aNil := wkA pa_nil fun σ H Q ⟨ρ, env, S, rs, re, g⟩ => g.fin rs .nil
theorem sa_cons (ha : SE X W e m) (hr : SA X W es r) (hs : starEach (e :: es) X.env = (false, eval e X.env) :: starEach es X.env := by rfl) : SA X W (e :: es) (aCons m r) := wkA (pa_cons ha hr hs) fun σ H Q ⟨ρ, env, S, rs, re, g⟩ =>
  tX.bind rs re g fun ρ1 H1 a v S1 s1 rs1 re1 ra g1 => tX.bind rs1 re1 g1 fun ρ2 H2 as vs S2 s2 rs2 re2 ras g2 => g2.fin rs2 (.cons (ra.up s2) ras)
theorem se_tup {x1 : Nat} (h : SA X W es r) : SE X W (.Tuple es x1 pos) (eTup r) := wkE (pe_tup h) fun σ H Q ⟨ρ, env, S, rs, re, g⟩ =>
  tX.bind rs re g fun ρ1 H1 as vs S1 s1 rs1 re1 ras g1 => by
    split at g1
    · rename_i hl
      refine ⟨by rw [← ras.length]; exact le_line hl, fun p hp => ?_⟩
      exact g1.fin1 (Stp.new hp) (rs1.new hp) (.tup (.inl ⟨.inl upd_same, rs1.free hp⟩) (ras.up (Stp.new hp)))
    · exact g1.elim
theorem se_lst (h : SA X W es r) : SE X W (.List es pos) (eLst r) := wkE (pe_lst h) fun σ H Q ⟨ρ, env, S, rs, re, g⟩ =>
  tX.bind rs re g fun ρ1 H1 as vs S1 s1 rs1 re1 ras g1 => by
    split at g1
    · rename_i hl
      refine ⟨by rw [← ras.length]; exact le_line hl, fun p hp => ?_⟩
      exact g1.fin1 (Stp.new hp) (rs1.new hp) (.lst upd_same (rs1.free hp) (ras.up (Stp.new hp)))
    · exact g1.elim
theorem se_new (h : SA X W es r) : SE X W (.List es pos) (eNew r) := wkE (pe_lst h) fun σ H Q ⟨ρ, env, S, rs, re, g⟩ =>
  tX.bind rs re g fun ρ1 H1 as vs S1 s1 rs1 re1 ras g1 => by
    split at g1
    · rename_i hl
      refine ⟨by rw [← ras.length]; exact le_line hl, fun p hp => ?_⟩
      have s2 := Stp.newN (ρ := ρ1) (o := .lst vs) hp
      refine g1.fin1 s2 (rs1.newN hp (.lst upd_same (ras.up s2))) (.loc ?_)
      show (ρ1.nu ++ [p])[S1.length]? = some p
      rw [List.getElem?_append_right (by rw [rs1.len]; exact Nat.le_refl _), rs1.len]
      simp
    · exact g1.elim
end
/-! ### operators -/
abbrev OM := A → A → Sto → R A
/-- an operator on values has this mirror -/
def OpS (X : Cx) (W : WX) (f : Value → Value → Sem Value) (g : OM) : Prop := ∃ r : R2, OpR X f r ∧ ∀ σ ρ H S a b v w Q, RS X.K ρ H S → RA X.K ρ H a v → RA X.K ρ H b w → Gd (RA X.K) X.K W σ ρ H Q (g a b S) → r v w H Q
theorem opr_or {X : Cx} {f : Value → Value → Sem Value} {r r' : R2} (h : OpR X f r) (h' : OpR X f r') : OpR X f (fun x y H Q => r x y H Q ∨ r' x y H Q) := fun pins s σ H x y v u Q I rx ry q => q.elim (h pins s σ H x y v u Q I rx ry) (h' pins s σ H x y v u Q I rx ry)
def eOp (g : OM) (a b : EM) : EM := fun env S => (a env S).bind fun x S1 => (b env S1).bind fun y S2 => g x y S2
/-- a comparison's answer as a test -/
def asB (r : R A) : R Bool := r.bind fun a S => match a with
  | .bl b => .ok b S
  | _ => .bad
section
variable {X : Cx} {W : WX} {a b c : Expr} {ma mb mc : EM} {g g' : OM} {pos : Pos}
theorem se_op {op : Operator} (ho : OpS X W (binaryOp op) g) (ha : SE X W a ma) (hb : SE X W b mb) : SE X W (.BinOp a op b pos) (eOp g ma mb) := by
  obtain ⟨r, h1, h2⟩ := ho
  exact wkE (pe_op h1 ha hb) fun σ H Q ⟨ρ, env, S, rs, re, q⟩ => tX.bind rs re q fun ρ1 H1 x v S1 s1 rs1 re1 rx q1 => tX.bind rs1 re1 q1 fun ρ2 H2 y w S2 s2 rs2 re2 ry q2 => h2 σ ρ2 H2 S2 x y v w Q rs2 (rx.up s2) ry q2
theorem se_cmp {op : CmpOp} (ho : OpS X W (compareOp op) g) (ha : SE X W a ma) (hb : SE X W b mb) (hm : behindInMarks op b = false) : SE X W (.Compare a [op] [b] pos) (eOp g ma mb) := by
  obtain ⟨r, h1, h2⟩ := ho
  exact wkE (pe_cmpR h1 ha hb hm) fun σ H Q ⟨ρ, env, S, rs, re, q⟩ => tX.bind rs re q fun ρ1 H1 x v S1 s1 rs1 re1 rx q1 => tX.bind rs1 re1 q1 fun ρ2 H2 y w S2 s2 rs2 re2 ry q2 => h2 σ ρ2 H2 S2 x y v w Q rs2 (rx.up s2) ry q2
def tOf (m : EM) : TM := fun env S => asB (m env S)
theorem Gd.asB {K : PySem.W.Frag} {σ : L2.St} {ρ : Rho} {H : Hp} {Q : Bool → Hp → Prop} {r : R A} (h : Gd (fun _ _ (a b : Bool) => a = b) K W σ ρ H Q (Mi.asB r)) : Gd (RA K) K W σ ρ H (fun v H1 => ∃ k, v = .bl k ∧ Q k H1) r := by
  cases r with
  | ok x S' =>
    cases x with
    | bl k =>
      intro ρ' H' v s rs ra
      cases ra
      exact ⟨k, rfl, h ρ' H' k s rs rfl⟩
    | _ => exact h.elim
  | exn => exact h
  | bad => exact h
theorem st_val (h : SE X W a ma) (he : ∀ whole, isTrue a X.env whole = (do let v ← whole; standAt a.pos; holding [v] (truthy v)) := by intro _; rfl) : ST X W a (tOf ma) := wkT (pt_val h he) fun σ H Q ⟨ρ, env, S, rs, re, q⟩ => ⟨ρ, env, S, rs, re, q.asB⟩
theorem st_cmp {op : CmpOp} (ho : OpS X W (compareOp op) g) (ha : SE X W a ma) (hb : SE X W b mb) (hm : behindInMarks op b = false) : ST X W (.Compare a [op] [b] pos) (tOf (eOp g ma mb)) := by
  obtain ⟨r, h1, h2⟩ := ho
  refine wkT (pt_cmpR h1 ha hb hm) fun σ H Q ⟨ρ, env, S, rs, re, q⟩ => ?_
  have q' := q.asB
  exact tX.bind rs re q' fun ρ1 H1 x v S1 s1 rs1 re1 rx q1 => tX.bind rs1 re1 q1 fun ρ2 H2 y w S2 s2 rs2 re2 ry q2 => h2 σ ρ2 H2 S2 x y v w _ rs2 (rx.up s2) ry q2
/-- and, or, not in tests -/
def tAndM (a b : TM) : TM := fun env S => (a env S).bind fun k S1 => match k with
  | true => b env S1
  | false => .ok false S1
def tOrM (a b : TM) : TM := fun env S => (a env S).bind fun k S1 => match k with
  | true => .ok true S1
  | false => b env S1
def tNotM (a : TM) : TM := fun env S => (a env S).bind fun k S1 => .ok (!k) S1
end
section
variable {X : Cx} {W : WX} {a b c : Expr} {ma mb mc : EM} {ta tb : TM} {pos : Pos} {rest : List Expr}
abbrev SW (X : Cx) (W : WX) (e : Expr) (m : TM) : Prop := PW X e (tT X.K W m)
theorem wkW {e : Expr} {t t' : TT} (h : PW X e t) (k : ∀ σ H Q, t' σ H Q → t σ H Q) : PW X e t' := ⟨fun wh pins s σ H Q I q => h.run wh pins s σ H Q I (k _ _ _ q)⟩
theorem sw_and1 (h : ST X W a ta) : SW X W (.BoolOp .And [a] pos) ta := pw_and1 h
theorem sw_or1 (h : ST X W a ta) : SW X W (.BoolOp .Or [a] pos) ta := pw_or1 h
theorem sw_and (ha : ST X W a ta) (hb : SW X W (.BoolOp .And (b :: rest) pos) tb) : SW X W (.BoolOp .And (a :: b :: rest) pos) (tAndM ta tb) := wkW (pw_and ha hb) fun σ H Q ⟨ρ, env, S, rs, re, q⟩ =>
  tX.bind rs re q fun ρ1 H1 k k' S1 s1 rs1 re1 hk q1 => by
    subst hk
    cases k with
    | true => exact ⟨ρ1, env, S1, rs1, re1, q1⟩
    | false => exact q1.fin rs1 rfl
theorem sw_or (ha : ST X W a ta) (hb : SW X W (.BoolOp .Or (b :: rest) pos) tb) : SW X W (.BoolOp .Or (a :: b :: rest) pos) (tOrM ta tb) := wkW (pw_or ha hb) fun σ H Q ⟨ρ, env, S, rs, re, q⟩ =>
  tX.bind rs re q fun ρ1 H1 k k' S1 s1 rs1 re1 hk q1 => by
    subst hk
    cases k with
    | true => exact q1.fin rs1 rfl
    | false => exact ⟨ρ1, env, S1, rs1, re1, q1⟩
theorem st_w {e : Expr} (h : SW X W e ta) : ST X W e ta := h.pt
theorem st_not (ha : ST X W a ta) : ST X W (.UnaryOp .Not a pos) (tNotM ta) := wkT (pt_not ha) fun σ H Q ⟨ρ, env, S, rs, re, q⟩ => tX.bind rs re q fun ρ1 H1 k k' S1 s1 rs1 re1 hk q1 => by
  subst hk
  exact q1.fin rs1 rfl
/-- as values -/
def eAnd (a b : EM) : EM := fun env S => (a env S).bind fun x S1 => match x with
  | .bl true => b env S1
  | .bl false => .ok (.bl false) S1
  | _ => .bad
def eOr (a b : EM) : EM := fun env S => (a env S).bind fun x S1 => match x with
  | .bl true => .ok (.bl true) S1
  | .bl false => b env S1
  | _ => .bad
def eNot (a : EM) : EM := fun env S => (a env S).bind fun x S1 => match x with
  | .bl k => .ok (.bl (!k)) S1
  | _ => .bad
def eIf (t : TM) (a b : EM) : EM := fun env S => (t env S).bind fun k S1 => match k with
  | true => a env S1
  | false => b env S1
theorem se_one {op : BoolOp} (h : SE X W a ma) : SE X W (.BoolOp op [a] pos) ma := pe_one h
theorem se_and (ha : SE X W a ma) (hb : SE X W (.BoolOp .And (b :: rest) pos) mb) : SE X W (.BoolOp .And (a :: b :: rest) pos) (eAnd ma mb) := wkE (pe_and ha hb) fun σ H Q ⟨ρ, env, S, rs, re, q⟩ =>
  tX.bind rs re q fun ρ1 H1 x v S1 s1 rs1 re1 rx q1 => by
    cases rx with
    | bl k =>
      refine ⟨k, rfl, ?_⟩
      cases k with
      | true => exact ⟨ρ1, env, S1, rs1, re1, q1⟩
      | false => exact q1.fin rs1 (.bl false)
    | _ => exact q1.elim
theorem se_or (ha : SE X W a ma) (hb : SE X W (.BoolOp .Or (b :: rest) pos) mb) : SE X W (.BoolOp .Or (a :: b :: rest) pos) (eOr ma mb) := wkE (pe_or ha hb) fun σ H Q ⟨ρ, env, S, rs, re, q⟩ =>
  tX.bind rs re q fun ρ1 H1 x v S1 s1 rs1 re1 rx q1 => by
    cases rx with
    | bl k =>
      refine ⟨k, rfl, ?_⟩
      cases k with
      | true => exact q1.fin rs1 (.bl true)
      | false => exact ⟨ρ1, env, S1, rs1, re1, q1⟩
    | _ => exact q1.elim
theorem se_not (ha : SE X W a ma) : SE X W (.UnaryOp .Not a pos) (eNot ma) := wkE (pe_not ha) fun σ H Q ⟨ρ, env, S, rs, re, q⟩ =>
  tX.bind rs re q fun ρ1 H1 x v S1 s1 rs1 re1 rx q1 => by
    cases rx with
    | bl k => exact ⟨k, rfl, q1.fin rs1 (.bl _)⟩
    | _ => exact q1.elim
theorem se_if (hc : ST X W c ta) (ha : SE X W a ma) (hb : SE X W b mb) : SE X W (.IfExp c a b pos) (eIf ta ma mb) := wkE (pe_ifExp hc ha hb) fun σ H Q ⟨ρ, env, S, rs, re, q⟩ =>
  tX.bind rs re q fun ρ1 H1 k k' S1 s1 rs1 re1 hk q1 => by
    subst hk
    cases k with
    | true => exact ⟨ρ1, env, S1, rs1, re1, q1⟩
    | false => exact ⟨ρ1, env, S1, rs1, re1, q1⟩
/-- a < b < c -/
def eChain (g g' : OM) (a b c : EM) : EM := fun env S => (a env S).bind fun x S1 => (b env S1).bind fun y S2 => (g x y S2).bind fun z S3 => match z with
  | .bl true => (c env S3).bind fun w S4 => g' y w S4
  | .bl false => .ok (.bl false) S3
  | _ => .bad
theorem chain_up {g g' : OM} {f f' : Value → Value → Sem Value} {r r' : R2} {σ : L2.St} {ρ : Rho} {H : Hp} {S : Sto} {env : Env} {Q : VK} (rs : RS X.K ρ H S) (re : RE X.K ρ H env σ)
    (h : ∀ σ ρ H S a b v w Q, RS X.K ρ H S → RA X.K ρ H a v → RA X.K ρ H b w → Gd (RA X.K) X.K W σ ρ H Q (g a b S) → r v w H Q)
    (h' : ∀ σ ρ H S a b v w Q, RS X.K ρ H S → RA X.K ρ H a v → RA X.K ρ H b w → Gd (RA X.K) X.K W σ ρ H Q (g' a b S) → r' v w H Q)
    (q : Gd (RA X.K) X.K W σ ρ H Q (eChain g g' ma mb mc env S)) : tChain r r' (tE X.K W ma) (tE X.K W mb) (tE X.K W mc) σ H Q :=
  tX.bind rs re q fun ρ1 H1 x v S1 s1 rs1 re1 rx q1 => tX.bind rs1 re1 q1 fun ρ2 H2 y w S2 s2 rs2 re2 ry q2 =>
    h σ ρ2 H2 S2 x y v w _ rs2 (rx.up s2) ry ((Gd.bind (Rl := RA X.K) q2).imp fun z H3 ⟨ρ3, d, S3, s3, rs3, rd, q3⟩ => by
      cases rd with
      | bl k =>
        refine ⟨k, rfl, ?_⟩
        cases k with
        | true => exact tX.bind rs3 (re2.up s3) q3 fun ρ4 H4 e u S4 s4 rs4 re4 ru q4 => h' σ ρ4 H4 S4 y e w u Q rs4 (ry.up (s3.trans s4)) ru q4
        | false => exact q3.fin rs3 (.bl false)
      | _ => exact q3.elim)
theorem se_chain {g g' : OM} {op op' : CmpOp} (ho : OpS X W (compareOp op) g) (ho' : OpS X W (compareOp op') g') (ha : SE X W a ma) (hb : SE X W b mb) (hc : SE X W c mc)
    (hm : lastMarks [op, op'] [b, c] = false := by with_unfolding_all rfl) : SE X W (.Compare a [op, op'] [b, c] pos) (eChain g g' ma mb mc) := by
  obtain ⟨r, h1, h2⟩ := ho
  obtain ⟨r', h1', h2'⟩ := ho'
  exact wkE (pe_chain h1 h1' ha hb hc hm) fun σ H Q ⟨ρ, env, S, rs, re, q⟩ => chain_up (f := compareOp op) (f' := compareOp op') rs re h2 h2' q
theorem st_chain {g g' : OM} {op op' : CmpOp} (ho : OpS X W (compareOp op) g) (ho' : OpS X W (compareOp op') g') (ha : SE X W a ma) (hb : SE X W b mb) (hc : SE X W c mc)
    (hm : lastMarks [op, op'] [b, c] = false := by with_unfolding_all rfl) : ST X W (.Compare a [op, op'] [b, c] pos) (tOf (eChain g g' ma mb mc)) := by
  obtain ⟨r, h1, h2⟩ := ho
  obtain ⟨r', h1', h2'⟩ := ho'
  exact wkT (pt_chain h1 h1' ha hb hc hm) fun σ H Q ⟨ρ, env, S, rs, re, q⟩ => chain_up (f := compareOp op) (f' := compareOp op') rs re h2 h2' q.asB
end
end Mi
set_option Elab.async false
set_option linter.all false
set_option maxRecDepth 100000
set_option maxHeartbeats 2000000
/-! Mi2: operators by their mirrors. -/
namespace Mi
open PySem PySem.Spec PyProof.Rows
open L2
/-! ### a value as plain data -/
mutual
def toD0 (lk : Nat → Option PyData) : A → Option PyData
  | .non => some .none
  | .bl b => some (.bool b)
  | .int i => some (.int i)
  | .str s => some (.str s)
  | .tup xs => (toD0s lk xs).map .tuple
  | .lst xs => (toD0s lk xs).map .list
  | .loc n => lk n
  | .fn _ => none
  | .dct _ => none
  | .obj _ _ => none
  | .scr _ => none
def toD0s (lk : Nat → Option PyData) : List A → Option (List PyData)
  | [] => some []
  | a :: as => (toD0 lk a).bind fun d => (toD0s lk as).map fun ds => d :: ds
end
def lkD (S : Sto) (lk : Nat → Option PyData) (n : Nat) : Option PyData := match S[n]? with
  | some (.lst xs) => (toD0s lk xs).map .list
  | _ => none
def toD (S : Sto) (a : A) : Option PyData := toD0 (lkD S (lkD S fun _ => none)) a
section
variable {K : PySem.W.Frag} {ρ : Rho} {H : Hp}
mutual
theorem dp0 {lk : Nat → Option PyData} (hl : ∀ n p d, lk n = some d → ρ.get? n = some p → Dp K H (.ref p) d) : ∀ {a : A} {v : V} {d : PyData}, RA K ρ H a v → toD0 lk a = some d → Dp K H v d
  | _, _, _, .non, e => by cases e; exact .non
  | _, _, _, .bl b, e => by cases e; exact .bl b
  | _, _, _, .int i, e => by cases e; exact .int i
  | _, _, _, .str s, e => by cases e; exact .str s
  | _, _, _, .tup h r, e => by
    simp only [toD0, Option.map_eq_some_iff] at e
    obtain ⟨ds, e1, rfl⟩ := e
    exact .tup h.sq (dp0s hl r e1)
  | _, _, _, .lst h n r, e => by
    simp only [toD0, Option.map_eq_some_iff] at e
    obtain ⟨ds, e1, rfl⟩ := e
    exact .lst (.of h) (dp0s hl r e1)
  | _, _, _, .loc h, e => hl _ _ _ e h
  | _, _, _, .scr h, e => by cases e
  | _, _, _, .fn x, e => by cases e
  | _, _, _, .dct _ _ _, e => by cases e
  | _, _, _, .obj _ _ _, e => by cases e
theorem dp0s {lk : Nat → Option PyData} (hl : ∀ n p d, lk n = some d → ρ.get? n = some p → Dp K H (.ref p) d) : ∀ {as : List A} {vs : List V} {ds : List PyData}, RAs K ρ H as vs → toD0s lk as = some ds → DpAll K H vs ds
  | _, _, _, .nil, e => by cases e; exact .nil
  | _, _, _, .cons h r, e => by
    simp only [toD0s, Option.bind_eq_some_iff, Option.map_eq_some_iff] at e
    obtain ⟨d, e1, ds, e2, rfl⟩ := e
    exact .cons (dp0 hl h e1) (dp0s hl r e2)
end
theorem lk_ok {S : Sto} (rs : RS K ρ H S) {lk : Nat → Option PyData} (hl : ∀ n p d, lk n = some d → ρ.get? n = some p → Dp K H (.ref p) d) (n : Nat) (p : Addr) (d : PyData) (e : lkD S lk n = some d) (hp : ρ.get? n = some p) : Dp K H (.ref p) d := by
  unfold lkD at e
  split at e
  · rename_i xs es
    simp only [Option.map_eq_some_iff] at e
    obtain ⟨ds, e1, rfl⟩ := e
    cases rs.at_ n p _ hp es with
    | lst h r => exact .lst (.of h) (dp0s hl r e1)
  · cases e
theorem dp_of {S : Sto} (rs : RS K ρ H S) {a : A} {v : V} {d : PyData} (r : RA K ρ H a v) (e : toD S a = some d) : Dp K H v d := dp0 (lk_ok rs (lk_ok rs fun _ _ _ z _ => by cases z)) r e
end
/-! ### arithmetic -/
def opAdd : OM
  | .int i, .int j, S => .ok (.int (i + j)) S
  | .str x, .str y, S => if x.length + y.length ≤ 10000000 then .ok (.str (x ++ y)) S else .bad
  | .tup x, .tup y, S => if x.length + y.length ≤ 100000 then .ok (.tup (x ++ y)) S else .bad
  | .lst x, .lst y, S => if x.length + y.length ≤ 100000 then .ok (.lst (x ++ y)) S else .bad
  | _, _, _ => .bad
def opSub : OM
  | .int i, .int j, S => .ok (.int (i - j)) S
  | _, _, _ => .bad
def opMul : OM
  | .int i, .int j, S => if i.natAbs.log2 + j.natAbs.log2 < 1000000 then .ok (.int (i * j)) S else .bad
  | .str x, .int n, S => if n.natAbs ≤ 1000000 ∧ x.length * n.toNat ≤ 10000000 then .ok (.str (Txt.mul x n)) S else .bad
  | _, _, _ => .bad
def opDiv : OM
  | .int i, .int j, S => if 0 < j ∧ j.natAbs.log2 < 9000 then .ok (.int (i / j)) S else .bad
  | _, _, _ => .bad
def opMod : OM
  | .int i, .int j, S => if 0 < j then .ok (.int (i % j)) S else .bad
  | _, _, _ => .bad
def opPow : OM
  | .int i, .int j, S => if 0 ≤ j ∧ j ≤ 1000000 ∧ i.natAbs < 2 ^ 64 then .ok (.int (i ^ j.toNat)) S else .bad
  | _, _, _ => .bad
section
variable {X : Cx} {W : WX}
theorem line7 : (10000000 : Nat) ≤ sizeLine := by rw [sizeLine_eq]; decide
theorem line5 : (100000 : Nat) ≤ sizeLine := by rw [sizeLine_eq]; decide
theorem s_add : OpS X W (binaryOp .Add) opAdd := ⟨_, opr_or op_add (opr_or op_add_str (opr_or op_catA op_cat)), fun σ ρ H S a b v w Q rs ra rb g => by
  cases ra with
  | int i => cases rb with
    | int j => exact .inl ⟨i, j, rfl, rfl, g.fin rs (.int _)⟩
    | _ => exact g.elim
  | str x => cases rb with
    | str y =>
      obtain ⟨h, g1⟩ := Gd.ite g
      exact .inr (.inl ⟨x, y, rfl, rfl, Nat.le_trans h line7, g1.fin rs (.str _)⟩)
    | _ => exact g.elim
  | tup h1 r1 => cases rb with
    | tup h2 r2 =>
      obtain ⟨h, g1⟩ := Gd.ite g
      refine .inr (.inr (.inl ⟨_, _, _, _, rfl, rfl, h1.sq, h2.sq, by rw [← r1.length, ← r2.length]; exact Nat.le_trans h line5, fun e => ?_, fun _ e => ?_, fun e1 e2 p hp => ?_⟩))
      · subst e
        cases r1
        exact g1.fin rs (.tup h2 r2)
      · subst e
        cases r2
        exact g1.fin rs (.tup h1 (by rw [List.append_nil]; exact r1))
      · exact g1.fin1 (Stp.new hp) (rs.new hp) (.tup (.inl ⟨.inl upd_same, rs.free hp⟩) ((r1.append r2).up (Stp.new hp)))
    | _ => exact g.elim
  | lst h1 n1 r1 => cases rb with
    | lst h2 n2 r2 =>
      obtain ⟨h, g1⟩ := Gd.ite g
      refine .inr (.inr (.inr ⟨_, _, _, _, rfl, rfl, h1, h2, by rw [← r1.length, ← r2.length]; exact Nat.le_trans h line5, fun p hp => ?_⟩))
      exact g1.fin1 (Stp.new hp) (rs.new hp) (.lst upd_same (rs.free hp) ((r1.append r2).up (Stp.new hp)))
    | _ => exact g.elim
  | _ => cases rb <;> exact g.elim⟩
theorem s_sub : OpS X W (binaryOp .Sub) opSub := ⟨_, op_sub, fun σ ρ H S a b v w Q rs ra rb g => by
  cases ra with
  | int i => cases rb with
    | int j => exact ⟨i, j, rfl, rfl, g.fin rs (.int _)⟩
    | _ => exact g.elim
  | _ => cases rb <;> exact g.elim⟩
/-- a text by a number -/
theorem op_mul_str : OpR X (binaryOp .Mult) (fun x y H Q => ∃ (z : Str) (n : Int), x = .str z ∧ y = .int n ∧ (n.natAbs ≤ 1000000 ∧ z.length * n.toNat ≤ 10000000) ∧ Q (.str (Txt.mul z n)) H) := by
  intro pins s σ H x y v u Q I rx ry h
  obtain ⟨z, n, rfl, rfl, ⟨h1, h2⟩, q⟩ := h
  obtain ⟨t, rfl⟩ := rx
  obtain ⟨t', rfl⟩ := ry
  refine SB.mul ⟨?_, fun h3 h4 => ?_, fun h3 h4 => ?_⟩ fun t2 k => ⟨.str _, H, I.tok k, ⟨t2, rfl⟩, q⟩
  · have h5 : ¬ n < -(2 ^ 63 : Int) := by omega
    have h6 : ¬ n ≥ (2 ^ 63 : Int) := by omega
    rw [decide_eq_false h5, decide_eq_false h6] <;> rfl
  · have hn : 1 ≤ n := by omega
    have h5 : n ≤ 1000000 := by omega
    have h7 : ((2 : Int) ^ 63 - 1) / 1000000 ≤ ((2 : Int) ^ 63 - 1) / n := by
      rw [Int.le_ediv_iff_mul_le (by omega)]
      have h8 : ((2 : Int) ^ 63 - 1) / 1000000 * n ≤ ((2 : Int) ^ 63 - 1) / 1000000 * 1000000 := Int.mul_le_mul_of_nonneg_left h5 (by decide)
      exact Int.le_trans h8 (by decide)
    have h9 : (z.length : Int) ≤ 10000000 := by
      have h10 : z.length * 1 ≤ z.length * n.toNat := Nat.mul_le_mul_left _ (by omega)
      omega
    have h11 : (10000000 : Int) < ((2 : Int) ^ 63 - 1) / 1000000 := by decide
    omega
  · have h5 := line7
    show decide (z.length * n.toNat > sizeLine) = false
    exact decide_eq_false (by omega)
theorem s_mul : OpS X W (binaryOp .Mult) opMul := ⟨_, opr_or op_mulW op_mul_str, fun σ ρ H S a b v w Q rs ra rb g => by
  cases ra with
  | int i => cases rb with
    | int j =>
      obtain ⟨h, g1⟩ := Gd.ite g
      exact .inl ⟨i, j, rfl, rfl, h, g1.fin rs (.int _)⟩
    | _ => exact g.elim
  | str x => cases rb with
    | int j =>
      obtain ⟨h, g1⟩ := Gd.ite g
      exact .inr ⟨x, j, rfl, rfl, h, g1.fin rs (.str _)⟩
    | _ => exact g.elim
  | _ => cases rb <;> exact g.elim⟩
theorem s_div : OpS X W (binaryOp .FloorDiv) opDiv := ⟨_, op_fdivW, fun σ ρ H S a b v w Q rs ra rb g => by
  cases ra with
  | int i => cases rb with
    | int j =>
      obtain ⟨h, g1⟩ := Gd.ite g
      exact ⟨i, j, rfl, rfl, h, g1.fin rs (.int _)⟩
    | _ => exact g.elim
  | _ => cases rb <;> exact g.elim⟩
theorem s_mod : OpS X W (binaryOp .Mod) opMod := ⟨_, op_mod, fun σ ρ H S a b v w Q rs ra rb g => by
  cases ra with
  | int i => cases rb with
    | int j =>
      obtain ⟨h, g1⟩ := Gd.ite g
      exact ⟨i, j, rfl, rfl, h, g1.fin rs (.int _)⟩
    | _ => exact g.elim
  | _ => cases rb <;> exact g.elim⟩
theorem s_pow : OpS X W (binaryOp .Pow) opPow := ⟨_, op_pow, fun σ ρ H S a b v w Q rs ra rb g => by
  cases ra with
  | int i => cases rb with
    | int j =>
      obtain ⟨h, g1⟩ := Gd.ite g
      exact ⟨i, j, rfl, rfl, h, g1.fin rs (.int _)⟩
    | _ => exact g.elim
  | _ => cases rb <;> exact g.elim⟩
end
/-! ### comparisons -/
/-- two values as data, compared -/
def eqD (S : Sto) (a b : A) : Option Bool := match toD S a, toD S b with
  | some d, some e => if SeqAt.shaped d = true ∧ SeqAt.shaped e = true then some (PyData.eqv d e) else none
  | _, _ => none
def ansB (o : Option Bool) (S : Sto) : R A := match o with
  | some b => .ok (.bl b) S
  | none => .bad
def eqG (S : Sto) : A → A → Option Bool
  | .int i, .int j => some (decide (i = j))
  | .str x, .str y => some (decide (x = y))
  | .bl x, .bl y => some (decide (x = y))
  | .non, .non => some true
  | .non, .int _ => some false
  | .int _, .non => some false
  | .non, .bl _ => some false
  | .bl _, .non => some false
  | .non, .str _ => some false
  | .str _, .non => some false
  | .int _, .str _ => some false
  | .str _, .int _ => some false
  | .bl _, .str _ => some false
  | .str _, .bl _ => some false
  | a, b => eqD S a b
def opEq : OM := fun a b S => ansB (eqG S a b) S
def opNe : OM := fun a b S => ansB ((eqG S a b).map (!·)) S
section
variable {X : Cx} {W : WX} {K : PySem.W.Frag} {ρ : Rho} {H : Hp} {S : Sto} {σ : L2.St} {Q : VK}
theorem eq_of {a b : A} {v w : V} {k : Bool} (rs : RS K ρ H S) (ra : RA K ρ H a v) (rb : RA K ρ H b w) (h : eqG S a b = some k) : (scal v w = true ∧ decide (v = w) = k) ∨ ∃ d e, Dp K H v d ∧ Dp K H w e ∧ SeqAt.shaped d = true ∧ SeqAt.shaped e = true ∧ PyData.eqv d e = k := by
  have main : eqD S a b = some k → ∃ d e, Dp K H v d ∧ Dp K H w e ∧ SeqAt.shaped d = true ∧ SeqAt.shaped e = true ∧ PyData.eqv d e = k := fun z => by
    unfold eqD at z
    split at z
    · rename_i d e h1 h2
      split at z
      · rename_i h3
        exact ⟨d, e, dp_of rs ra h1, dp_of rs rb h2, h3.1, h3.2, Option.some.inj z⟩
      · cases z
    · cases z
  unfold eqG at h
  split at h <;> first
    | exact .inr (main h)
    | (cases ra; cases rb; exact .inl ⟨rfl, by rw [← Option.some.inj h]; simp⟩)
theorem ansB_ok {K : PySem.W.Frag} {o : Option Bool} (g : Gd (RA K) K W σ ρ H Q (ansB o S)) : ∃ k, o = some k ∧ Gd (RA K) K W σ ρ H Q (.ok (.bl k) S) := by
  cases o with
  | none => exact g.elim
  | some k => exact ⟨k, rfl, g⟩
theorem s_eq (hu : X.A.units + 64 < cLine) : OpS X W (compareOp .Eq) opEq := ⟨_, opr_or op_eq (op_eqD hu), fun σ ρ H S a b v w Q rs ra rb g => by
  obtain ⟨k, e, g1⟩ := ansB_ok g
  rcases eq_of rs ra rb e with ⟨h1, h2⟩ | ⟨d, e2, h1, h2, h3, h4, h5⟩
  · exact .inl ⟨h1, by rw [h2]; exact g1.fin rs (.bl k)⟩
  · exact .inr ⟨d, e2, h1, h2, h3, h4, by rw [h5]; exact g1.fin rs (.bl k)⟩⟩
theorem s_ne (hu : X.A.units + 64 < cLine) : OpS X W (compareOp .NotEq) opNe := ⟨_, opr_or op_ne (op_neD hu), fun σ ρ H S a b v w Q rs ra rb g => by
  obtain ⟨k, e, g1⟩ := ansB_ok g
  obtain ⟨k2, e3, rfl⟩ := Option.map_eq_some_iff.mp e
  rcases eq_of rs ra rb e3 with ⟨h1, h2⟩ | ⟨d, e2, h1, h2, h3, h4, h5⟩
  · exact .inl ⟨h1, by rw [h2]; exact g1.fin rs (.bl _)⟩
  · exact .inr ⟨d, e2, h1, h2, h3, h4, by rw [h5]; exact g1.fin rs (.bl _)⟩⟩
/-- the order of ints, of texts -/
def opLt : OM
  | .int i, .int j, S => .ok (.bl (decide (i < j))) S
  | .str x, .str y, S => .ok (.bl (decide (x.cps.toList < y.cps.toList))) S
  | _, _, _ => .bad
def opLe : OM
  | .int i, .int j, S => .ok (.bl (decide (i ≤ j))) S
  | .str x, .str y, S => .ok (.bl (!decide (y.cps.toList < x.cps.toList))) S
  | _, _, _ => .bad
def opGt : OM
  | .int i, .int j, S => .ok (.bl (decide (j < i))) S
  | .str x, .str y, S => .ok (.bl (decide (y.cps.toList < x.cps.toList))) S
  | _, _, _ => .bad
def opGe : OM
  | .int i, .int j, S => .ok (.bl (decide (j ≤ i))) S
  | .str x, .str y, S => .ok (.bl (!decide (x.cps.toList < y.cps.toList))) S
  | _, _, _ => .bad
theorem s_lt : OpS X W (compareOp .Lt) opLt := ⟨_, opr_or op_lt op_lt_str, fun σ ρ H S a b v w Q rs ra rb g => by
  cases ra with
  | int i => cases rb with
    | int j => exact .inl ⟨i, j, rfl, rfl, g.fin rs (.bl _)⟩
    | _ => exact g.elim
  | str x => cases rb with
    | str y => exact .inr ⟨x, y, rfl, rfl, g.fin rs (.bl _)⟩
    | _ => exact g.elim
  | _ => cases rb <;> exact g.elim⟩
theorem s_le : OpS X W (compareOp .LtE) opLe := ⟨_, opr_or op_le op_le_str, fun σ ρ H S a b v w Q rs ra rb g => by
  cases ra with
  | int i => cases rb with
    | int j => exact .inl ⟨i, j, rfl, rfl, g.fin rs (.bl _)⟩
    | _ => exact g.elim
  | str x => cases rb with
    | str y => exact .inr ⟨x, y, rfl, rfl, g.fin rs (.bl _)⟩
    | _ => exact g.elim
  | _ => cases rb <;> exact g.elim⟩
theorem s_gt : OpS X W (compareOp .Gt) opGt := ⟨_, opr_or op_gt op_gt_str, fun σ ρ H S a b v w Q rs ra rb g => by
  cases ra with
  | int i => cases rb with
    | int j => exact .inl ⟨i, j, rfl, rfl, g.fin rs (.bl _)⟩
    | _ => exact g.elim
  | str x => cases rb with
    | str y => exact .inr ⟨x, y, rfl, rfl, g.fin rs (.bl _)⟩
    | _ => exact g.elim
  | _ => cases rb <;> exact g.elim⟩
theorem s_ge : OpS X W (compareOp .GtE) opGe := ⟨_, opr_or op_ge op_ge_str, fun σ ρ H S a b v w Q rs ra rb g => by
  cases ra with
  | int i => cases rb with
    | int j => exact .inl ⟨i, j, rfl, rfl, g.fin rs (.bl _)⟩
    | _ => exact g.elim
  | str x => cases rb with
    | str y => exact .inr ⟨x, y, rfl, rfl, g.fin rs (.bl _)⟩
    | _ => exact g.elim
  | _ => cases rb <;> exact g.elim⟩
end
/-- is None, is True, is False (the right side written) -/
def opIs : OM
  | a, .non, S => .ok (.bl (match a with | .non => true | _ => false)) S
  | a, .bl b, S => .ok (.bl (match a with | .bl k => k == b | _ => false)) S
  | _, _, _ => .bad
def opIsNot : OM
  | a, .non, S => .ok (.bl (match a with | .non => false | _ => true)) S
  | a, .bl b, S => .ok (.bl (match a with | .bl k => k != b | _ => true)) S
  | _, _, _ => .bad
section
variable {X : Cx} {W : WX}
/-- is True, is False of anything -/
theorem op_isBA : OpR X (compareOp .Is) (fun x y H Q => ∃ b, y = .bl b ∧ Q (.bl (decide (x = .bl b))) H) := by
  intro pins s σ H x y v u Q I rx ry h
  obtain ⟨b, rfl, q⟩ := h
  cases ry
  cases x with
  | bl k =>
    cases rx
    by_cases e : k = b
    · subst e
      exact wpAny_is_self rfl ⟨.bl true, H, I, rfl, by simpa using q⟩
    · exact wpAny_is_other rfl (fun z => e (Value.bool.inj z)) ⟨.bl false, H, I, rfl, by simpa [e] using q⟩
  | non => cases rx; exact wpAny_is_other rfl (fun z => nomatch z) ⟨.bl false, H, I, rfl, by simpa using q⟩
  | ref a => cases rx; exact wpAny_is_other rfl (fun z => nomatch z) ⟨.bl false, H, I, rfl, by simpa using q⟩
  | ty a => cases rx; exact wpAny_is_other rfl (fun z => nomatch z) ⟨.bl false, H, I, rfl, by simpa using q⟩
  | int i => obtain ⟨t, rfl⟩ := rx; exact wpAny_is_other rfl (fun z => nomatch z) ⟨.bl false, H, I, rfl, by simpa using q⟩
  | str i => obtain ⟨t, rfl⟩ := rx; exact wpAny_is_other rfl (fun z => nomatch z) ⟨.bl false, H, I, rfl, by simpa using q⟩
  | byt i => obtain ⟨t, rfl⟩ := rx; exact wpAny_is_other rfl (fun z => nomatch z) ⟨.bl false, H, I, rfl, by simpa using q⟩
  | flt i => obtain ⟨t, rfl⟩ := rx; exact wpAny_is_other rfl (fun z => nomatch z) ⟨.bl false, H, I, rfl, by simpa using q⟩
theorem op_isnBA : OpR X (compareOp .IsNot) (fun x y H Q => ∃ b, y = .bl b ∧ Q (.bl (!decide (x = .bl b))) H) := by
  intro pins s σ H x y v u Q I rx ry h
  obtain ⟨b, rfl, q⟩ := h
  cases ry
  cases x with
  | bl k =>
    cases rx
    by_cases e : k = b
    · subst e
      exact wpAny_isNot_self rfl ⟨.bl false, H, I, rfl, by simpa using q⟩
    · exact wpAny_isNot_other rfl (fun z => e (Value.bool.inj z)) ⟨.bl true, H, I, rfl, by simpa [e] using q⟩
  | non => cases rx; exact wpAny_isNot_other rfl (fun z => nomatch z) ⟨.bl true, H, I, rfl, by simpa using q⟩
  | ref a => cases rx; exact wpAny_isNot_other rfl (fun z => nomatch z) ⟨.bl true, H, I, rfl, by simpa using q⟩
  | ty a => cases rx; exact wpAny_isNot_other rfl (fun z => nomatch z) ⟨.bl true, H, I, rfl, by simpa using q⟩
  | int i => obtain ⟨t, rfl⟩ := rx; exact wpAny_isNot_other rfl (fun z => nomatch z) ⟨.bl true, H, I, rfl, by simpa using q⟩
  | str i => obtain ⟨t, rfl⟩ := rx; exact wpAny_isNot_other rfl (fun z => nomatch z) ⟨.bl true, H, I, rfl, by simpa using q⟩
  | byt i => obtain ⟨t, rfl⟩ := rx; exact wpAny_isNot_other rfl (fun z => nomatch z) ⟨.bl true, H, I, rfl, by simpa using q⟩
  | flt i => obtain ⟨t, rfl⟩ := rx; exact wpAny_isNot_other rfl (fun z => nomatch z) ⟨.bl true, H, I, rfl, by simpa using q⟩
theorem s_is : OpS X W (compareOp .Is) opIs := ⟨_, opr_or op_isN op_isBA, fun σ ρ H S a b v w Q rs ra rb g => by
  cases rb with
  | non =>
    refine .inl ⟨rfl, ?_⟩
    cases ra <;> exact g.fin rs (.bl _)
  | bl k =>
    refine .inr ⟨k, rfl, ?_⟩
    cases ra with
    | bl j =>
      have e : decide (V.bl j = V.bl k) = (j == k) := by cases j <;> cases k <;> rfl
      rw [e]
      exact g.fin rs (.bl _)
    | _ => exact g.fin rs (.bl _)
  | _ => cases ra <;> exact g.elim⟩
theorem s_isnot : OpS X W (compareOp .IsNot) opIsNot := ⟨_, opr_or op_notN op_isnBA, fun σ ρ H S a b v w Q rs ra rb g => by
  cases rb with
  | non =>
    refine .inl ⟨rfl, ?_⟩
    cases ra <;> exact g.fin rs (.bl _)
  | bl k =>
    refine .inr ⟨k, rfl, ?_⟩
    cases ra with
    | bl j =>
      have e : (!decide (V.bl j = V.bl k)) = (j != k) := by cases j <;> cases k <;> rfl
      rw [e]
      exact g.fin rs (.bl _)
    | _ => exact g.fin rs (.bl _)
  | _ => cases ra <;> exact g.elim⟩
end
end Mi
set_option Elab.async false
set_option linter.all false
set_option maxRecDepth 100000
set_option maxHeartbeats 2000000
/-! Mi3: subscripts, slices, in, built-ins, methods of built-in types. -/
namespace Mi
open PySem PySem.Spec PyProof.Rows
open L2
/-- the items of a list, of a tuple -/
def lstOf (S : Sto) : A → Option (List A)
  | .lst xs => some xs
  | .loc n => match S[n]? with
    | some (.lst xs) => some xs
    | _ => none
  | .scr ns => some (ns.map .int)
  | _ => none
def tupOf : A → Option (List A)
  | .tup xs => some xs
  | _ => none
section
variable {K : PySem.W.Frag} {ρ : Rho} {H : Hp} {S : Sto}
theorem ras_ints : ∀ ns : List Int, RAs K ρ H (ns.map .int) (ns.map V.int)
  | [] => .nil
  | n :: ns => .cons (.int n) (ras_ints ns)
theorem lst_of {a : A} {v : V} {xs : List A} (rs : RS K ρ H S) (r : RA K ρ H a v) (e : lstOf S a = some xs) : ∃ p vs, v = .ref p ∧ SqL K H p vs ∧ RAs K ρ H xs vs := by
  cases r with
  | lst h n r => cases e; exact ⟨_, _, rfl, .of h, r⟩
  | scr h => cases e; exact ⟨_, _, rfl, h.sq, ras_ints _⟩
  | loc hp =>
    simp only [lstOf] at e
    split at e
    · rename_i xs' es
      cases e
      cases rs.at_ _ _ _ hp es with
      | lst h r => exact ⟨_, _, rfl, .of h, r⟩
    · cases e
  | _ => cases e
theorem tup_of {a : A} {v : V} {xs : List A} (r : RA K ρ H a v) (e : tupOf a = some xs) : ∃ p vs, v = .ref p ∧ SqT K H p vs ∧ RAs K ρ H xs vs := by
  cases r with
  | tup h r => cases e; exact ⟨_, _, rfl, h.sq, r⟩
  | _ => cases e
theorem at_rel {xs : List A} {vs : List V} {i : Int} {a : A} (r : RAs K ρ H xs vs) (e : atI xs i = some a) : ∃ v, atI vs i = some v ∧ RA K ρ H a v := by
  unfold atI at e ⊢
  rw [← r.length]
  cases q : ixN xs.length i with
  | none => rw [q] at e; cases e
  | some j =>
    rw [q] at e
    exact r.get (i := j) e
end
/-- what of an option, or nothing -/
def orBad {α β : Type} (o : Option α) (k : α → R β) : R β := match o with
  | some a => k a
  | none => .bad
@[simp] theorem orBad_some {α β : Type} (a : α) (k : α → R β) : orBad (some a) k = k a := rfl
@[simp] theorem orBad_none {α β : Type} (k : α → R β) : orBad (none : Option α) k = .bad := rfl
theorem Gd.orBad {α β γ : Type} {Rl : Rho → Hp → α → β → Prop} {K : PySem.W.Frag} {W : WX} {σ : L2.St} {ρ : Rho} {H : Hp} {Q : β → Hp → Prop} {o : Option γ} {k : γ → R α} (g : Gd Rl K W σ ρ H Q (Mi.orBad o k)) : ∃ a, o = some a ∧ Gd Rl K W σ ρ H Q (k a) := by
  cases o with
  | none => exact g.elim
  | some a => exact ⟨a, rfl, g⟩
/-! ### a[i] -/
def opIx : OM
  | .str z, .int i, S => if z.length ≤ 10000000 then orBad (atI z.cps.toList i) fun c => .ok (.str ⟨#[c]⟩) S else .bad
  | .tup xs, .int i, S => orBad (atI xs i) fun a => .ok a S
  | a, .int i, S => orBad (lstOf S a) fun xs => orBad (atI xs i) fun a => .ok a S
  | _, _, _ => .bad
def IxS (X : Cx) (W : WX) (g : OM) : Prop := ∃ r : R2, IxR X r ∧ ∀ σ ρ H S a b v w Q, RS X.K ρ H S → RA X.K ρ H a v → RA X.K ρ H b w → Gd (RA X.K) X.K W σ ρ H Q (g a b S) → r v w H Q
section
variable {X : Cx} {W : WX} {a b : Expr} {ma mb : EM} {g : OM} {pos : Pos}
theorem se_ixG (ho : IxS X W g) (ha : SE X W a ma) (hb : SE X W b mb) (hs : PlainIx b := by exact fun _ _ => rfl) : SE X W (.Subscript a b pos) (eOp g ma mb) := by
  obtain ⟨r, h1, h2⟩ := ho
  exact wkE (pe_ix h1 ha hb hs) fun σ H Q ⟨ρ, env, S, rs, re, q⟩ => tX.bind rs re q fun ρ1 H1 x v S1 s1 rs1 re1 rx q1 => tX.bind rs1 re1 q1 fun ρ2 H2 y w S2 s2 rs2 re2 ry q2 => h2 σ ρ2 H2 S2 x y v w Q rs2 (rx.up s2) ry q2
theorem s_ix : IxS X W opIx := ⟨_, ix_seq, fun σ ρ H S a b v w Q rs ra rb g => by
  have lists : ∀ i, (lstOf S a).isSome = true → w = .int i → Gd (RA X.K) X.K W σ ρ H Q (orBad (lstOf S a) fun xs => orBad (atI xs i) fun a => .ok a S) → rIx X.K v w H Q := fun i _ e g => by
    subst e
    obtain ⟨xs, e1, g1⟩ := g.orBad
    obtain ⟨z, e2, g2⟩ := g1.orBad
    obtain ⟨p, vs, rfl, h, r⟩ := lst_of rs ra e1
    obtain ⟨u, e3, ru⟩ := at_rel r e2
    exact .inl ⟨p, vs, i, u, rfl, rfl, h, e3, g2.fin rs ru⟩
  have lists' : ∀ i, w = .int i → Gd (RA X.K) X.K W σ ρ H Q (orBad (lstOf S a) fun xs => orBad (atI xs i) fun a => .ok a S) → rIx X.K v w H Q := fun i e g => by
    obtain ⟨xs, e1, _⟩ := g.orBad
    exact lists i (by rw [e1]; rfl) e g
  cases rb with
  | int i =>
    cases ra with
    | str z =>
      obtain ⟨hz, g1⟩ := Gd.ite g
      obtain ⟨c, e, g2⟩ := g1.orBad
      exact .inr (.inr ⟨z, i, c, rfl, rfl, Nat.le_trans hz line7, e, g2.fin rs (.str _)⟩)
    | tup h r =>
      obtain ⟨z, e, g1⟩ := Gd.orBad g
      obtain ⟨u, e3, ru⟩ := at_rel r e
      exact .inr (.inl ⟨_, _, i, u, rfl, rfl, h.sq, e3, g1.fin rs ru⟩)
    | lst h n r => exact lists' i rfl g
    | loc h => exact lists' i rfl g
    | scr h => exact lists' i rfl g
    | _ => exact g.elim
  | _ => cases ra <;> exact g.elim⟩
theorem se_ix (ha : SE X W a ma) (hb : SE X W b mb) (hs : PlainIx b := by exact fun _ _ => rfl) : SE X W (.Subscript a b pos) (eOp opIx ma mb) := se_ixG s_ix ha hb hs
end
/-! ### slices -/
abbrev OMm := Env → Sto → R (Option Int)
def oNone : OMm := fun _ S => .ok none S
def oSome (m : EM) : OMm := fun env S => (m env S).bind fun a S1 => match a with
  | .int i => .ok (some i) S1
  | _ => .bad
def cutG {α : Type} (xs : List α) (lo hi : Option Int) : List α := (xs.drop (HT.sIx xs.length 0 lo)).take (HT.sIx xs.length xs.length hi - HT.sIx xs.length 0 lo)
/-- a new list: to be changed (a number), or not -/
def newL (fresh : Bool) (xs : List A) (S : Sto) : R A := match fresh with
  | true => .ok (.loc S.length) (S ++ [.lst xs])
  | false => .ok (.lst xs) S
/-- a slice of a value; fresh: a list's slice will be changed -/
def opSl (fresh : Bool) (a : A) (lo hi : Option Int) (S : Sto) : R A := match a with
  | .str z => if z.length ≤ 10000000 then .ok (.str (cutS z lo hi)) S else .bad
  | .tup xs => .ok (.tup (cutG xs lo hi)) S
  | a => orBad (lstOf S a) fun xs => newL fresh (cutG xs lo hi) S
def eSl (fresh : Bool) (m : EM) (lo hi : OMm) : EM := fun env S => (m env S).bind fun a S1 => (lo env S1).bind fun l S2 => (hi env S2).bind fun u S3 => opSl fresh a l u S3
section
variable {X : Cx} {W : WX} {e : Expr} {m : EM} {lo hi : Option Expr} {ml mh : OMm} {pos p2 : Pos}
abbrev tO (K : PySem.W.Frag) (W : WX) (m : OMm) : TO := tX (fun _ _ a b => a = b) K W m
abbrev SO (X : Cx) (W : WX) (e : Option Expr) (m : OMm) : Prop := PO X e (tO X.K W m)
theorem so_none : SO X W none oNone := wkO po_none fun σ H Q ⟨ρ, env, S, rs, re, g⟩ => g.fin rs rfl
theorem so_some (h : SE X W e m) : SO X W (some e) (oSome m) := wkO (po_some h) fun σ H Q ⟨ρ, env, S, rs, re, g⟩ => tX.bind rs re g fun ρ1 H1 a v S1 s1 rs1 re1 ra g1 => by
  cases ra with
  | int i => exact ⟨i, rfl, g1.fin rs1 rfl⟩
  | _ => exact g1.elim
theorem cut_rel {K : PySem.W.Frag} {ρ : Rho} {H : Hp} {xs : List A} {vs : List V} (lo hi : Option Int) (r : RAs K ρ H xs vs) : RAs K ρ H (cutG xs lo hi) (cutV vs lo hi) := by
  unfold cutG cutV
  rw [r.length]
  exact (r.drop _).take _
theorem newNum {ρ : Rho} {p : Addr} {S : Sto} (h : ρ.nu.length = S.length) : (ρ.add [p]).get? S.length = some p := by
  show (ρ.nu ++ [p])[S.length]? = some p
  rw [List.getElem?_append_right (by rw [h]; exact Nat.le_refl _), h]
  simp
theorem whole_cut {K : PySem.W.Frag} {ρ : Rho} {H : Hp} {xs : List A} {vs : List V} {l u : Option Int} (r : RAs K ρ H xs vs) (hw : HT.sIx vs.length 0 l = 0 ∧ HT.sIx vs.length vs.length u = vs.length) : cutG xs l u = xs := by
  unfold cutG
  rw [r.length, hw.1, hw.2, List.drop_zero, Nat.sub_zero, ← r.length, List.take_length]
theorem _root_.Mi.Gd.newL {K : PySem.W.Frag} {W : WX} {σ : L2.St} {ρ : Rho} {H : Hp} {S : Sto} {Q : VK} {fresh : Bool} {xs : List A} {vs : List V} {q : Addr} (g : Gd (RA K) K W σ ρ H Q (Mi.newL fresh xs S)) (rs : RS K ρ H S) (r : RAs K ρ H xs vs) (hq : H q = none) : Q (.ref q) (upd H q (.lst vs)) := by
  cases fresh with
  | true =>
    have s4 := Stp.newN (ρ := ρ) (o := .lst vs) hq
    exact Gd.fin1 g s4 (rs.newN hq (.lst upd_same (r.up s4))) (.loc (newNum rs.len))
  | false => exact Gd.fin1 g (Stp.new hq) (rs.new hq) (.lst upd_same (rs.free hq) (r.up (Stp.new hq)))
theorem se_sl (fresh : Bool) (he : SE X W e m) (hl : SO X W lo ml) (hh : SO X W hi mh) : SE X W (.Subscript e (.Slice lo hi none p2) pos) (eSl fresh m ml mh) :=
  wkE (pe_slice (sl_list.or (sl_tupA.or sl_str)) he hl hh) fun σ H Q ⟨ρ, env, S, rs, re, g⟩ =>
    tX.bind rs re g fun ρ1 H1 a v S1 s1 rs1 re1 ra g1 => tX.bind rs1 re1 g1 fun ρ2 H2 l l' S2 s2 rs2 re2 hl g2 => tX.bind rs2 re2 g2 fun ρ3 H3 u u' S3 s3 rs3 re3 hu g3 => by
      subst hl hu
      have ra3 := (ra.up s2).up s3
      have lists : Gd (RA X.K) X.K W σ ρ3 H3 Q (orBad (lstOf S3 a) fun xs => newL fresh (cutG xs l u) S3) → rSlL X.K v l u H3 Q := fun g => by
        obtain ⟨xs, e1, g1⟩ := g.orBad
        obtain ⟨p, vs, rfl, h, r⟩ := lst_of rs3 ra3 e1
        exact ⟨p, vs, rfl, h, fun q hq => g1.newL rs3 (cut_rel l u r) hq⟩
      cases ra3 with
      | str z =>
        obtain ⟨hz, g4⟩ := Gd.ite g3
        exact .inr (.inr ⟨z, rfl, Nat.le_trans hz line7, g4.fin rs3 (.str _)⟩)
      | tup h r =>
        refine .inr (.inl ⟨_, _, rfl, h.sq, fun hw => ?_, fun hw p hp => ?_⟩)
        · exact Gd.fin (a := A.tup (cutG _ l u)) g3 rs3 (by rw [whole_cut r hw]; exact RA.tup h r)
        · exact Gd.fin1 g3 (Stp.new hp) (rs3.new hp) (.tup (.inl ⟨.inl upd_same, rs3.free hp⟩) ((cut_rel l u r).up (Stp.new hp)))
      | lst h n r => exact .inl (lists g3)
      | loc h => exact .inl (lists g3)
      | scr h => exact .inl (lists g3)
      | _ => exact g3.elim
end
/-! ### in, not in -/
def flatA : A → Bool
  | .non => true
  | .bl _ => true
  | .int _ => true
  | .str _ => true
  | _ => false
def eqF : A → A → Bool
  | .non, .non => true
  | .bl a, .bl b => a == b
  | .bl a, .int b => (if a then 1 else 0) == b
  | .int a, .bl b => a == (if b then 1 else 0)
  | .int a, .int b => a == b
  | .str a, .str b => a == b
  | _, _ => false
def inF (a : A) (xs : List A) : Bool := xs.any fun y => eqF y a
def inS (x y : Str) : Bool := match x.cps.toList with
  | [c] => decide (c ∈ y.cps.toList)
  | _ => !(Builtin.Str.occurrences y x 0 y.length 1).isEmpty
/-- in of a text, of a list or tuple of flat things -/
def inG (S : Sto) : A → A → Option Bool
  | .str x, .str y => some (inS x y)
  | a, .tup xs => if flatA a = true ∧ xs.all flatA = true then some (inF a xs) else none
  | a, b => match lstOf S b with
    | some xs => if flatA a = true ∧ xs.all flatA = true then some (inF a xs) else none
    | none => none
def opIn : OM := fun a b S => ansB (inG S a b) S
def opNotIn : OM := fun a b S => ansB ((inG S a b).map (!·)) S
section
variable {K : PySem.W.Frag} {ρ : Rho} {H : Hp} {S : Sto}
theorem flat_rel {a : A} {v : V} (r : RA K ρ H a v) (h : flatA a = true) : flatV v = true := by
  cases r <;> first | rfl | cases h
theorem flats_rel : ∀ {xs : List A} {vs : List V}, RAs K ρ H xs vs → xs.all flatA = true → vs.all flatV = true
  | _, _, .nil, _ => rfl
  | _, _, .cons r rr, h => by
    rw [List.all_cons, Bool.and_eq_true] at h ⊢
    exact ⟨flat_rel r h.1, flats_rel rr h.2⟩
theorem eqF_rel {a b : A} {v w : V} (ra : RA K ρ H a v) (rb : RA K ρ H b w) (ha : flatA a = true) (hb : flatA b = true) : eqV v w = eqF a b := by
  cases ra <;> first | exact Bool.noConfusion ha | (cases rb <;> first | exact Bool.noConfusion hb | rfl)
theorem inF_rel {a : A} {v : V} (ra : RA K ρ H a v) (ha : flatA a = true) : ∀ {xs : List A} {vs : List V}, RAs K ρ H xs vs → xs.all flatA = true → inV v vs = inF a xs
  | _, _, .nil, _ => rfl
  | _, _, .cons r rr, h => by
    rw [List.all_cons, Bool.and_eq_true] at h
    unfold inV inF
    rw [List.any_cons, List.any_cons, eqF_rel r ra h.1 ha]
    have ih := inF_rel ra ha rr h.2
    unfold inV inF at ih
    rw [ih]
theorem in_of {a b : A} {v w : V} {k : Bool} (rs : RS K ρ H S) (ra : RA K ρ H a v) (rb : RA K ρ H b w) (h : inG S a b = some k) :
    (∃ x y, v = .str x ∧ w = .str y ∧ k = inS x y) ∨ ∃ p vs, w = .ref p ∧ (SqL K H p vs ∨ SqT K H p vs) ∧ flatV v = true ∧ vs.all flatV = true ∧ inV v vs = k := by
  unfold inG at h
  split at h
  · cases ra; cases rb
    exact .inl ⟨_, _, rfl, rfl, (Option.some.inj h).symm⟩
  · split at h
    · rename_i hf
      obtain ⟨p, vs, rfl, hq, r⟩ := tup_of rb rfl
      exact .inr ⟨p, vs, rfl, .inr hq, flat_rel ra hf.1, flats_rel r hf.2, by rw [inF_rel ra hf.1 r hf.2]; exact Option.some.inj h⟩
    · cases h
  · split at h
    · rename_i xs e
      split at h
      · rename_i hf
        obtain ⟨p, vs, rfl, hq, r⟩ := lst_of rs rb e
        exact .inr ⟨p, vs, rfl, .inl hq, flat_rel ra hf.1, flats_rel r hf.2, by rw [inF_rel ra hf.1 r hf.2]; exact Option.some.inj h⟩
      · cases h
    · cases h
end
section
variable {X : Cx} {W : WX}
theorem op_inS1 : OpR X (compareOp .In) (fun x y H Q => ∃ i j, x = .str i ∧ y = .str j ∧ Q (.bl (inS i j)) H) := by
  intro pins s σ H x y v u Q I rx ry h
  obtain ⟨i, j, rfl, rfl, q⟩ := h
  unfold inS at q
  split at q
  · rename_i c e
    have ei : i = ⟨#[c]⟩ := by
      obtain ⟨l⟩ := i
      exact congrArg Str.mk (Array.toList_inj.mp e)
    subst ei
    exact op_in_sign pins s σ H _ _ v u Q I rx ry ⟨c, j, rfl, rfl, q⟩
  · exact op_in_str pins s σ H _ _ v u Q I rx ry ⟨i, j, rfl, rfl, q⟩
theorem op_notInS1 : OpR X (compareOp .NotIn) (fun x y H Q => ∃ i j, x = .str i ∧ y = .str j ∧ Q (.bl (!inS i j)) H) := by
  intro pins s σ H x y v u Q I rx ry h
  obtain ⟨i, j, rfl, rfl, q⟩ := h
  unfold inS at q
  split at q
  · rename_i c e
    have ei : i = ⟨#[c]⟩ := by
      obtain ⟨l⟩ := i
      exact congrArg Str.mk (Array.toList_inj.mp e)
    subst ei
    exact op_notIn_sign pins s σ H _ _ v u Q I rx ry ⟨c, j, rfl, rfl, q⟩
  · exact op_notIn_str pins s σ H _ _ v u Q I rx ry ⟨i, j, rfl, rfl, q⟩
theorem s_in : OpS X W (compareOp .In) opIn := ⟨_, opr_or op_inS1 op_in_seq, fun σ ρ H S a b v w Q rs ra rb g => by
  obtain ⟨k, e, g1⟩ := ansB_ok g
  rcases in_of rs ra rb e with ⟨x, y, rfl, rfl, rfl⟩ | ⟨p, vs, rfl, h1, h2, h3, h4⟩
  · exact .inl ⟨x, y, rfl, rfl, g1.fin rs (.bl _)⟩
  · exact .inr ⟨p, vs, rfl, h1, h2, h3, by rw [if_neg Bool.false_ne_true, h4]; exact g1.fin rs (.bl _)⟩⟩
theorem s_notin : OpS X W (compareOp .NotIn) opNotIn := ⟨_, opr_or op_notInS1 op_notIn_seq, fun σ ρ H S a b v w Q rs ra rb g => by
  obtain ⟨k, e, g1⟩ := ansB_ok g
  obtain ⟨k2, e2, rfl⟩ := Option.map_eq_some_iff.mp e
  rcases in_of rs ra rb e2 with ⟨x, y, rfl, rfl, rfl⟩ | ⟨p, vs, rfl, h1, h2, h3, h4⟩
  · exact .inl ⟨x, y, rfl, rfl, g1.fin rs (.bl _)⟩
  · exact .inr ⟨p, vs, rfl, h1, h2, h3, by rw [if_pos rfl, h4]; exact g1.fin rs (.bl _)⟩⟩
end
/-! ### built-ins by name -/
abbrev FM := List A → Sto → R A
def CallS (X : Cx) (W : WX) (f : Value) (g : FM) : Prop := ∃ r : List V → Hp → VK → Prop, CallR X f r ∧ ∀ σ ρ H S as vs Q, RS X.K ρ H S → RAs X.K ρ H as vs → Gd (RA X.K) X.K W σ ρ H Q (g as S) → r vs H Q
def eCall (g : FM) (m : AM) : EM := fun env S => (m env S).bind fun as S1 => g as S1
theorem callr_or {X : Cx} {f : Value} {r r' : List V → Hp → VK → Prop} (h : CallR X f r) (h' : CallR X f r') : CallR X f (fun xs H Q => r xs H Q ∨ r' xs H Q) := fun pins s σ H xs us Q I rx q => q.elim (h pins s σ H xs us Q I rx) (h' pins s σ H xs us Q I rx)
section
variable {X : Cx} {W : WX} {x : Str} {p pos : Pos} {e : Expr} {es : List Expr} {m : AM} {id T : String} {g : FM}
theorem se_blt (hc : CallS X W (.builtin id) g) (hg : Gl X x) (hm : X.mg x = none) (hv : bootBuiltins x = some (.builtin id)) (ha : SA X W (e :: es) m) (hn : x ≠ "__name__" := by decide) (hdb : (x == ("__debug__" : Str)) = false := by decide)
    (he : starEach (e :: es) X.env = (false, eval e X.env) :: starEach es X.env := by rfl) (hpl : (backTo pos (starEach es X.env)).any (·.1) = false := by rfl) : SE X W (.Call (.Name x p) (e :: es) [] pos) (eCall g m) := by
  obtain ⟨r, h1, h2⟩ := hc
  exact wkE (pe_callB h1 hg hm hv ha hn hdb he hpl) fun σ H Q ⟨ρ, env, S, rs, re, q⟩ => tX.bind rs re q fun ρ1 H1 as vs S1 s1 rs1 re1 ras q1 => h2 σ ρ1 H1 S1 as vs Q rs1 ras q1
theorem se_bty (hc : CallS X W (.type T) g) (hg : Gl X x) (hm : X.mg x = none) (hv : bootBuiltins x = some (.type T)) (ha : SA X W (e :: es) m) (hn : x ≠ "__name__" := by decide) (hdb : (x == ("__debug__" : Str)) = false := by decide)
    (he : starEach (e :: es) X.env = (false, eval e X.env) :: starEach es X.env := by rfl) (hpl : (backTo pos (starEach es X.env)).any (·.1) = false := by rfl) : SE X W (.Call (.Name x p) (e :: es) [] pos) (eCall g m) := by
  obtain ⟨r, h1, h2⟩ := hc
  exact wkE (pe_callTy h1 hg hm hv ha hn hdb he hpl) fun σ H Q ⟨ρ, env, S, rs, re, q⟩ => tX.bind rs re q fun ρ1 H1 as vs S1 s1 rs1 re1 ras q1 => h2 σ ρ1 H1 S1 as vs Q rs1 ras q1
end
def bLen : FM
  | [.str z], S => if z.length ≤ 10000000 then .ok (.int z.length) S else .bad
  | [.tup xs], S => .ok (.int xs.length) S
  | [a], S => orBad (lstOf S a) fun xs => .ok (.int xs.length) S
  | _, _ => .bad
def bAbs : FM
  | [.int i], S => .ok (.int (if i < 0 then -i else i)) S
  | _, _ => .bad
def bInt : FM
  | [.int i], S => .ok (.int i) S
  | [.bl k], S => .ok (.int (if k then 1 else 0)) S
  | [.str a], S => if a.length ≤ 640 then orBad (PySem.intText? a) fun n => .ok (.int n) S else .bad
  | _, _ => .bad
def bStr : FM
  | [.int i], S => if i.natAbs.log2 < 1920 then .ok (.str (toString i)) S else .bad
  | _, _ => .bad
def bList (fresh : Bool) : FM
  | [.tup xs], S => newL fresh xs S
  | [a], S => orBad (lstOf S a) fun xs => newL fresh xs S
  | _, _ => .bad
def bTuple : FM
  | [.tup xs], S => .ok (.tup xs) S
  | [a], S => orBad (lstOf S a) fun xs => .ok (.tup xs) S
  | _, _ => .bad
/-- the truth values of a list of them -/
def blsOf : List A → Option (List Bool)
  | [] => some []
  | .bl b :: as => (blsOf as).map fun bs => b :: bs
  | _ :: _ => none
def bAll : FM
  | [a], S => orBad (lstOf S a) fun xs => orBad (blsOf xs) fun bs => .ok (.bl (bs.all id)) S
  | _, _ => .bad
def bAny : FM
  | [a], S => orBad (lstOf S a) fun xs => orBad (blsOf xs) fun bs => .ok (.bl (bs.any id)) S
  | _, _ => .bad
section
variable {X : Cx} {W : WX}
theorem bls_rel {K : PySem.W.Frag} {ρ : Rho} {H : Hp} : ∀ {xs : List A} {vs : List V} {bs : List Bool}, RAs K ρ H xs vs → blsOf xs = some bs → vs = bs.map V.bl
  | _, _, _, .nil, e => by cases e; rfl
  | _, _, _, .cons r rr, e => by
    cases r with
    | bl b =>
      simp only [blsOf, Option.map_eq_some_iff] at e
      obtain ⟨bs, e1, rfl⟩ := e
      rw [bls_rel rr e1]
      rfl
    | _ => cases e
theorem s_len : CallS X W (.builtin "len") bLen := ⟨_, callr_or call_len_str call_len_seq, fun σ ρ H S as vs Q rs ra g => by
  unfold bLen at g
  split at g
  · cases ra with
    | cons r rr =>
      cases rr
      cases r
      obtain ⟨h, g1⟩ := Gd.ite g
      exact .inl ⟨_, rfl, Nat.le_trans h line7, g1.fin rs (.int _)⟩
  · cases ra with
    | cons r rr =>
      cases rr
      obtain ⟨p, vs, rfl, h, r2⟩ := tup_of r rfl
      exact .inr ⟨p, vs, rfl, .inr h, by rw [← r2.length]; exact g.fin rs (.int _)⟩
  · cases ra with
    | cons r rr =>
      cases rr
      obtain ⟨xs, e, g1⟩ := g.orBad
      obtain ⟨p, vs, rfl, h, r2⟩ := lst_of rs r e
      exact .inr ⟨p, vs, rfl, .inl h, by rw [← r2.length]; exact g1.fin rs (.int _)⟩
  · exact g.elim⟩
theorem s_abs : CallS X W (.builtin "abs") bAbs := ⟨_, call_abs, fun σ ρ H S as vs Q rs ra g => by
  unfold bAbs at g
  split at g
  · cases ra with
    | cons r rr =>
      cases rr
      cases r
      exact ⟨_, rfl, g.fin rs (.int _)⟩
  · exact g.elim⟩
theorem s_int : CallS X W (.type "int") bInt := ⟨_, callr_or call_int1 call_int_str, fun σ ρ H S as vs Q rs ra g => by
  unfold bInt at g
  split at g
  · cases ra with
    | cons r rr =>
      cases rr
      cases r
      exact .inl (.inl ⟨_, rfl, g.fin rs (.int _)⟩)
  · cases ra with
    | cons r rr =>
      cases rr
      cases r
      exact .inl (.inr ⟨_, rfl, g.fin rs (.int _)⟩)
  · cases ra with
    | cons r rr =>
      cases rr
      cases r
      obtain ⟨h, g1⟩ := Gd.ite g
      obtain ⟨n, e, g2⟩ := g1.orBad
      exact .inr ⟨_, n, rfl, e, h, g2.fin rs (.int _)⟩
  · exact g.elim⟩
theorem s_str : CallS X W (.type "str") bStr := ⟨_, call_str_int, fun σ ρ H S as vs Q rs ra g => by
  unfold bStr at g
  split at g
  · cases ra with
    | cons r rr =>
      cases rr
      cases r
      obtain ⟨h, g1⟩ := Gd.ite g
      exact ⟨_, rfl, h, g1.fin rs (.str _)⟩
  · exact g.elim⟩
theorem s_list (fresh : Bool) : CallS X W (.type "list") (bList fresh) := ⟨_, call_list_of, fun σ ρ H S as vs Q rs ra g => by
  unfold bList at g
  split at g
  · cases ra with
    | cons r rr =>
      cases rr
      obtain ⟨p, vs, rfl, h, r2⟩ := tup_of r rfl
      exact ⟨p, vs, rfl, .inr h, fun l hl => g.newL rs r2 hl⟩
  · cases ra with
    | cons r rr =>
      cases rr
      obtain ⟨xs, e, g1⟩ := g.orBad
      obtain ⟨p, vs, rfl, h, r2⟩ := lst_of rs r e
      exact ⟨p, vs, rfl, .inl h, fun l hl => g1.newL rs r2 hl⟩
  · exact g.elim⟩
theorem s_tuple : CallS X W (.type "tuple") bTuple := ⟨_, call_tuple_of, fun σ ρ H S as vs Q rs ra g => by
  unfold bTuple at g
  split at g
  · cases ra with
    | cons r rr =>
      cases rr
      obtain ⟨p, vs, rfl, h, r2⟩ := tup_of r rfl
      exact ⟨p, vs, rfl, .inr ⟨h, g.fin rs r⟩⟩
  · cases ra with
    | cons r rr =>
      cases rr
      obtain ⟨xs, e, g1⟩ := g.orBad
      obtain ⟨p, vs, rfl, h, r2⟩ := lst_of rs r e
      exact ⟨p, vs, rfl, .inl ⟨h, fun l hl => g1.fin1 (Stp.new hl) (rs.new hl) (.tup (.inl ⟨.inl upd_same, rs.free hl⟩) (r2.up (Stp.new hl)))⟩⟩
  · exact g.elim⟩
theorem s_all (hc : X.calm = true) : CallS X W (.builtin "all") bAll := ⟨_, cr_all hc, fun σ ρ H S as vs Q rs ra g => by
  unfold bAll at g
  split at g
  · cases ra with
    | cons r rr =>
      cases rr
      obtain ⟨xs, e, g1⟩ := g.orBad
      obtain ⟨bs, e2, g2⟩ := g1.orBad
      obtain ⟨p, vs, rfl, h, r2⟩ := lst_of rs r e
      have e3 := bls_rel r2 e2
      subst e3
      exact ⟨p, bs, rfl, h, g2.fin rs (.bl _)⟩
  · exact g.elim⟩
theorem s_any (hc : X.calm = true) : CallS X W (.builtin "any") bAny := ⟨_, cr_any hc, fun σ ρ H S as vs Q rs ra g => by
  unfold bAny at g
  split at g
  · cases ra with
    | cons r rr =>
      cases rr
      obtain ⟨xs, e, g1⟩ := g.orBad
      obtain ⟨bs, e2, g2⟩ := g1.orBad
      obtain ⟨p, vs, rfl, h, r2⟩ := lst_of rs r e
      have e3 := bls_rel r2 e2
      subst e3
      exact ⟨p, bs, rfl, h, g2.fin rs (.bl _)⟩
  · exact g.elim⟩
end
/-! ### isinstance with a built-in type -/
/-- the built-in type of a value -/
def tyN (S : Sto) : A → Option String
  | .non => some "NoneType"
  | .bl _ => some "bool"
  | .int _ => some "int"
  | .str _ => some "str"
  | .tup _ => some "tuple"
  | .lst _ => some "list"
  | .loc n => match S[n]? with
    | some (.lst _) => some "list"
    | some (.dct _) => some "dict"
    | _ => none
  | .dct _ => some "dict"
  | _ => none
/-- isinstance(e, T) -/
def eIs (T : String) (m : EM) : EM := fun env S => (m env S).bind fun a S1 => orBad (tyN S1 a) fun t => orBad (kitB t T) fun b => .ok (.bl b) S1
section
variable {X : Cx} {W : WX} {p1 p2 pos : Pos} {e : Expr} {m : EM} {T : String} {x : Str}
theorem tyN_rel {K : PySem.W.Frag} {ρ : Rho} {H : Hp} {S : Sto} {a : A} {v : V} {t : String} (rs : RS K ρ H S) (r : RA K ρ H a v) (h : tyN S a = some t) : TyX K H v (.type t) := by
  cases r with
  | non => cases h; exact .base .non
  | bl b => cases h; exact .base (.bl b)
  | int i => cases h; exact .base (.int i)
  | str s => cases h; exact .base (.str s)
  | tup hp r =>
    cases h
    rcases hp with ⟨hp | ⟨o, hp⟩, _⟩ | hp
    · exact .base (.tup hp)
    · exact .fTuple hp
    · rcases hp with hp | ⟨o, its, n, hk, hc, _⟩
      · exact (Rd.none_no hp).elim
      · exact .kTuple hk hc
  | lst hp n r => cases h; exact .base (.lst hp)
  | loc hp =>
    simp only [tyN] at h
    split at h
    · rename_i xs es
      cases h
      cases rs.at_ _ _ _ hp es with
      | lst h r => exact .base (.lst h)
    · rename_i kvs es
      cases h
      cases rs.at_ _ _ _ hp es with
      | dct h r => exact .base (.dK h)
    · cases h
  | dct hp n r =>
    cases h
    rcases hp with hp | ⟨o, hp⟩
    · exact .base (.dK hp)
    · exact .fDict hp
  | _ => cases h
theorem se_is (T : String) (hg : Gl X "isinstance") (hm : X.mg "isinstance" = none) (hx : Gl X x) (hmx : X.mg x = none) (hv : bootBuiltins x = some (.type T)) (he : SE X W e m)
    (hn : x ≠ "__name__" := by decide) (hd : (x == ("__debug__" : Str)) = false := by decide)
    (hs : starEach (e :: [.Name x p2]) X.env = (false, eval e X.env) :: starEach [.Name x p2] X.env := by rfl) (hs2 : starEach [.Name x p2] X.env = (false, eval (.Name x p2) X.env) :: starEach [] X.env := by rfl)
    (hpl : (backTo pos (starEach [.Name x p2] X.env)).any (·.1) = false := by rfl) : SE X W (.Call (.Name "isinstance" p1) [e, .Name x p2] [] pos) (eIs T m) :=
  wkE (pe_callB call_isi hg hm (by decide +kernel) (pa_cons he (pa_cons (pe_bltn (v := .ty T) hx hmx hv rfl hn hd) pa_nil hs2) hs) (by decide) (by decide) hs hpl) fun σ H Q ⟨ρ, env, S, rs, re, g⟩ =>
    tX.bind rs re g fun ρ1 H1 a v S1 s1 rs1 re1 ra g1 => by
      obtain ⟨t, e1, g2⟩ := g1.orBad
      obtain ⟨b, e2, g3⟩ := g2.orBad
      exact ⟨v, .ty T, .type t, .type T, b, rfl, .ty T, tyN_rel rs1 ra e1, kit_ty e2, g3.fin rs1 (.bl b)⟩
end
/-! ### methods of built-in types -/
abbrev MM := A → List A → Sto → R A
def MtS (X : Cx) (W : WX) (id : String) (g : MM) : Prop := ∃ r : V → List V → Hp → VK → Prop, MtR X id r ∧ ∀ σ ρ H S a v as vs Q, RS X.K ρ H S → RA X.K ρ H a v → RAs X.K ρ H as vs → Gd (RA X.K) X.K W σ ρ H Q (g a as S) → r v vs H Q
/-- of which built-in type a method's receiver is -/
def tyM (T : String) (S : Sto) (a : A) : Bool := match a with
  | .str _ => T == "str"
  | .lst _ => T == "list"
  | .loc n => match S[n]? with
    | some (.lst _) => T == "list"
    | some (.dct _) => T == "dict"
    | _ => false
  | _ => false
def eMt (T : String) (g : MM) (o : EM) (m : AM) : EM := fun env S => (o env S).bind fun a S1 => match tyM T S1 a with
  | true => (m env S1).bind fun as S2 => g a as S2
  | false => .bad
section
variable {X : Cx} {W : WX} {o e : Expr} {es : List Expr} {mo : EM} {m : AM} {name : Str} {apos cpos : Pos} {T id : String} {g : MM}
theorem tyM_rel {K : PySem.W.Frag} {ρ : Rho} {H : Hp} {S : Sto} {a : A} {v : V} (rs : RS K ρ H S) (r : RA K ρ H a v) (h : tyM T S a = true) : tyV K T v H := by
  cases r with
  | str s => exact beq_iff_eq.mp h
  | lst hp n r => exact .inl ⟨beq_iff_eq.mp h, _, .of hp⟩
  | loc hp =>
    simp only [tyM] at h
    split at h
    · rename_i xs es
      cases rs.at_ _ _ _ hp es with
      | lst h1 r => exact .inl ⟨beq_iff_eq.mp h, _, .of h1⟩
    · rename_i kvs es
      cases rs.at_ _ _ _ hp es with
      | dct h1 r => exact .inr (.inr (.inl ⟨beq_iff_eq.mp h, .inl ⟨_, h1⟩⟩))
    · cases h
  | _ => cases h
theorem mt_up {r : V → List V → Hp → VK → Prop} {σ : L2.St} {H : Hp} {Q : VK} (h2 : ∀ σ ρ H S a v as vs Q, RS X.K ρ H S → RA X.K ρ H a v → RAs X.K ρ H as vs → Gd (RA X.K) X.K W σ ρ H Q (g a as S) → r v vs H Q)
    (h : tE X.K W (eMt T g mo m) σ H Q) : tE X.K W mo σ H fun x H1 => tyV X.K T x H1 ∧ tA X.K W m σ H1 fun xs H2 => r x xs H2 Q := by
  obtain ⟨ρ, env, S, rs, re, q⟩ := h
  refine tX.bind rs re q fun ρ1 H1 a v S1 s1 rs1 re1 ra q1 => ?_
  split at q1
  · rename_i ht
    exact ⟨tyM_rel rs1 ra ht, tX.bind rs1 re1 q1 fun ρ2 H2 as vs S2 s2 rs2 re2 ras q2 => h2 σ ρ2 H2 S2 a v as vs Q rs2 (ra.up s2) ras q2⟩
  · exact q1.elim
theorem se_mt (pa : PlainAttrs T) (slot : Slot T name id) (hty : typeOf (.builtin id) = pure (.type "method_descriptor")) (hm : MtS X W id g) (ho : SE X W o mo) (ha : SA X W (e :: es) m)
    (hbase : attributeBase o name X.env (eval o X.env) = eval o X.env := by rfl)
    (hfew : ((backTo cpos (starEach (e :: es) X.env)).all (fun x => !x.1) && (backToKw cpos (keywordEach [] X.env)).all (fun x => x.1.isSome)
      && decide ((e :: es).length + ([] : List Keyword).length + (if ([] : List Keyword).isEmpty then 0 else 1) < 30)) = true := by rfl)
    (hline : (apos.endLine == cpos.line) = true := by rfl) (hs : starEach (e :: es) X.env = (false, eval e X.env) :: starEach es X.env := by rfl) (hplain : (backTo cpos (starEach es X.env)).any (·.1) = false := by rfl) :
    SE X W (.Call (.Attribute o name apos) (e :: es) [] cpos) (eMt T g mo m) := by
  obtain ⟨r, h1, h2⟩ := hm
  exact wkE (pe_bm pa slot hty h1 ho ha hbase hfew hline hs hplain) fun σ H Q h => mt_up h2 h
theorem se_mt0 (pa : PlainAttrs T) (slot : Slot T name id) (hty : typeOf (.builtin id) = pure (.type "method_descriptor")) (hm : MtS X W id g) (ho : SE X W o mo)
    (hbase : attributeBase o name X.env (eval o X.env) = eval o X.env := by rfl) (hline : (apos.endLine == cpos.line) = true := by rfl) : SE X W (.Call (.Attribute o name apos) [] [] cpos) (eMt T g mo aNil) := by
  obtain ⟨r, h1, h2⟩ := hm
  refine wkE (pe_bm0 pa slot hty h1 ho hbase hline) fun σ H Q ⟨ρ, env, S, rs, re, q⟩ => ?_
  refine tX.bind rs re q fun ρ1 H1 a v S1 s1 rs1 re1 ra q1 => ?_
  split at q1
  · rename_i ht
    exact ⟨tyM_rel rs1 ra ht, h2 σ ρ1 H1 S1 a v [] [] Q rs1 ra .nil q1⟩
  · exact q1.elim
end
/-! ### texts' methods -/
def strsOf : List A → Option (List Str)
  | [] => some []
  | .str b :: as => (strsOf as).map fun bs => b :: bs
  | _ :: _ => none
def mPartition : MM
  | .str a, [.str b], S => if (b.length == 0) = false ∧ a.length ≤ 10000000 then .ok (.tup [.str (Txt.partition a b).1, .str (Txt.partition a b).2.1, .str (Txt.partition a b).2.2]) S else .bad
  | _, _, _ => .bad
def mStarts : MM
  | .str a, [.str b], S => .ok (.bl (Txt.startswith a b)) S
  | _, _, _ => .bad
def mSplit (fresh : Bool) : MM
  | .str a, [.str b], S => if (b.length == 0) = false ∧ a.length ≤ 10000000 then newL fresh ((Txt.split a b).map .str) S else .bad
  | _, _, _ => .bad
def itemsOf (S : Sto) (a : A) : Option (List A) := match a with
  | .tup xs => some xs
  | a => lstOf S a
def mJoin : MM
  | .str a, [b], S => orBad (itemsOf S b) fun xs => orBad (strsOf xs) fun ys => if (ys.map (·.length)).sum + ys.length * a.length ≤ 16777216 then .ok (.str (Txt.join a ys)) S else .bad
  | _, _, _ => .bad
def mAppend : MM
  | .loc n, [a], S => match S[n]? with
    | some (.lst xs) => if xs.length < 10000000 then .ok .non (S.set n (.lst (xs ++ [a]))) else .bad
    | _ => .bad
  | _, _, _ => .bad
section
variable {X : Cx} {W : WX}
theorem items_of {K : PySem.W.Frag} {ρ : Rho} {H : Hp} {S : Sto} {a : A} {v : V} {xs : List A} (rs : RS K ρ H S) (r : RA K ρ H a v) (e : itemsOf S a = some xs) : ∃ p vs, v = .ref p ∧ (SqL K H p vs ∨ SqT K H p vs) ∧ RAs K ρ H xs vs := by
  unfold itemsOf at e
  split at e
  · obtain ⟨p, vs, h1, h2, h3⟩ := tup_of r e
    exact ⟨p, vs, h1, .inr h2, h3⟩
  · obtain ⟨p, vs, h1, h2, h3⟩ := lst_of rs r e
    exact ⟨p, vs, h1, .inl h2, h3⟩
theorem strs_rel {K : PySem.W.Frag} {ρ : Rho} {H : Hp} : ∀ {xs : List A} {vs : List V} {ys : List Str}, RAs K ρ H xs vs → strsOf xs = some ys → vs = ys.map V.str
  | _, _, _, .nil, e => by cases e; rfl
  | _, _, _, .cons r rr, e => by
    cases r with
    | str b =>
      simp only [strsOf, Option.map_eq_some_iff] at e
      obtain ⟨bs, e1, rfl⟩ := e
      rw [strs_rel rr e1]
      rfl
    | _ => cases e
theorem strs_ras {K : PySem.W.Frag} {ρ : Rho} {H : Hp} : ∀ ys : List Str, RAs K ρ H (ys.map .str) (ys.map V.str)
  | [] => .nil
  | y :: ys => .cons (.str y) (strs_ras ys)
theorem s_partition : MtS X W "str.partition" mPartition := ⟨_, mt_partition, fun σ ρ H S a v as vs Q rs ra ras g => by
  unfold mPartition at g
  split at g
  · cases ra
    cases ras with
    | cons r rr =>
      cases rr
      cases r
      obtain ⟨h, g1⟩ := Gd.ite g
      exact ⟨_, _, rfl, rfl, h.1, Nat.le_trans h.2 line7, fun p hp => g1.fin1 (Stp.new hp) (rs.new hp) (.tup (.inl ⟨.inl upd_same, rs.free hp⟩) (.cons (.str _) (.cons (.str _) (.cons (.str _) .nil))))⟩
  · exact g.elim⟩
theorem s_starts : MtS X W "str.startswith" mStarts := ⟨_, mt_startswith, fun σ ρ H S a v as vs Q rs ra ras g => by
  unfold mStarts at g
  split at g
  · cases ra
    cases ras with
    | cons r rr =>
      cases rr
      cases r
      exact ⟨_, _, rfl, rfl, g.fin rs (.bl _)⟩
  · exact g.elim⟩
theorem s_split (fresh : Bool) : MtS X W "str.split" (mSplit fresh) := ⟨_, mt_split, fun σ ρ H S a v as vs Q rs ra ras g => by
  unfold mSplit at g
  split at g
  · cases ra
    cases ras with
    | cons r rr =>
      cases rr
      cases r
      obtain ⟨h, g1⟩ := Gd.ite g
      refine ⟨_, _, rfl, rfl, h.1, ?_, fun p hp => g1.newL rs (strs_ras _) hp⟩
      have z := h.2
      rw [sizeLine_eq]
      omega
  · exact g.elim⟩
theorem s_join : MtS X W "str.join" mJoin := ⟨_, mt_join, fun σ ρ H S a v as vs Q rs ra ras g => by
  unfold mJoin at g
  split at g
  · cases ra
    cases ras with
    | cons r rr =>
      cases rr
      obtain ⟨xs, e, g1⟩ := g.orBad
      obtain ⟨ys, e2, g2⟩ := g1.orBad
      obtain ⟨h, g3⟩ := Gd.ite g2
      obtain ⟨p, vs, rfl, hq, r2⟩ := items_of rs r e
      have e3 := strs_rel r2 e2
      subst e3
      exact ⟨_, p, ys, rfl, rfl, hq, h, g3.fin rs (.str _)⟩
  · exact g.elim⟩
theorem s_append : MtS X W "list.append" mAppend := ⟨_, mt_append, fun σ ρ H S a v as vs Q rs ra ras g => by
  unfold mAppend at g
  split at g
  · cases ras with
    | cons r rr =>
      cases rr
      cases ra with
      | loc hp =>
        split at g
        · rename_i xs es
          obtain ⟨h, g1⟩ := Gd.ite g
          cases rs.at_ _ _ _ hp es with
          | lst hh r2 =>
            have hm := Rho.get_nu hp
            exact ⟨_, _, _, rfl, rfl, hh, by rw [← r2.length]; exact Nat.lt_of_lt_of_le h line7, g1.fin1 (Stp.wr hm) (rs.wr hp (.lst upd_same ((r2.append (.cons r .nil)).up (Stp.wr hm)))) .non⟩
        · exact g.elim
  · exact g.elim⟩
end
end Mi
set_option Elab.async false
set_option linter.all false
set_option maxRecDepth 100000
set_option maxHeartbeats 2000000
/-! Mi4: statements, loops, comprehensions. -/
namespace Mi
open PySem PySem.Spec PyProof.Rows
open L2
/-- behind an expression in a statement -/
def R.thenS {α : Type} (r : R α) (env : Env) (k : α → Sto → SR) : SR := match r with
  | .ok a S => k a S
  | .exn c fs S => .exn c fs env S
  | .bad => .bad
@[simp] theorem R.thenS_ok {α : Type} (a : α) (S : Sto) (env : Env) (k : α → Sto → SR) : (R.ok a S).thenS env k = k a S := rfl
@[simp] theorem R.thenS_exn {α : Type} (c : Str) (fs : List (Str × A)) (S : Sto) (env : Env) (k : α → Sto → SR) : (R.exn c fs S : R α).thenS env k = .exn c fs env S := rfl
@[simp] theorem R.thenS_bad {α : Type} (env : Env) (k : α → Sto → SR) : (R.bad : R α).thenS env k = .bad := rfl
def SR.seq (r : SR) (k : Env → Sto → SR) : SR := match r with
  | .nx e S => k e S
  | r => r
@[simp] theorem SR.seq_nx (e : Env) (S : Sto) (k : Env → Sto → SR) : (SR.nx e S).seq k = k e S := rfl
@[simp] theorem SR.seq_rt (a : A) (S : Sto) (k : Env → Sto → SR) : (SR.rt a S).seq k = .rt a S := rfl
@[simp] theorem SR.seq_bk (e : Env) (S : Sto) (k : Env → Sto → SR) : (SR.bk e S).seq k = .bk e S := rfl
@[simp] theorem SR.seq_ct (e : Env) (S : Sto) (k : Env → Sto → SR) : (SR.ct e S).seq k = .ct e S := rfl
@[simp] theorem SR.seq_exn (c : Str) (fs : List (Str × A)) (e : Env) (S : Sto) (k : Env → Sto → SR) : (SR.exn c fs e S).seq k = .exn c fs e S := rfl
@[simp] theorem SR.seq_bad (k : Env → Sto → SR) : SR.bad.seq k = .bad := rfl
/-- a loop's turn -/
def SR.lp (r : SR) (k : Env → Sto → SR) : SR := match r with
  | .nx e S => k e S
  | .ct e S => k e S
  | .bk e S => .nx e S
  | r => r
@[simp] theorem SR.lp_nx (e : Env) (S : Sto) (k : Env → Sto → SR) : (SR.nx e S).lp k = k e S := rfl
@[simp] theorem SR.lp_rt (a : A) (S : Sto) (k : Env → Sto → SR) : (SR.rt a S).lp k = .rt a S := rfl
@[simp] theorem SR.lp_bk (e : Env) (S : Sto) (k : Env → Sto → SR) : (SR.bk e S).lp k = .nx e S := rfl
@[simp] theorem SR.lp_ct (e : Env) (S : Sto) (k : Env → Sto → SR) : (SR.ct e S).lp k = k e S := rfl
@[simp] theorem SR.lp_exn (c : Str) (fs : List (Str × A)) (e : Env) (S : Sto) (k : Env → Sto → SR) : (SR.exn c fs e S).lp k = .exn c fs e S := rfl
@[simp] theorem SR.lp_bad (k : Env → Sto → SR) : SR.bad.lp k = .bad := rfl
/-! ### targets -/
inductive Tg where
  | nm (i : Nat) | tp (ts : List Tg)
mutual
def tgG (K : PySem.W.Frag) : Tg → TG
  | .nm i => gName i
  | .tp ts => gTup K ts.length (tgGs K ts)
def tgGs (K : PySem.W.Frag) : List Tg → TGs
  | [] => gNil
  | t :: ts => gCons (tgG K t) (tgGs K ts)
end
mutual
def asg : Tg → A → Env → Option Env
  | .nm i, a, env => some (env.set i (some a))
  | .tp ts, a, env => match tupOf a with
    | some xs => asgs ts xs env
    | none => none
def asgs : List Tg → List A → Env → Option Env
  | [], [], env => some env
  | t :: ts, a :: as, env => match asg t a env with
    | some env1 => asgs ts as env1
    | none => none
  | _, _, _ => none
end
mutual
def tgIx : Tg → List Nat
  | .nm i => [i]
  | .tp ts => tgIxs ts
def tgIxs : List Tg → List Nat
  | [] => []
  | t :: ts => tgIx t ++ tgIxs ts
end
theorem wipe_set {σ : L2.St} {i : Nat} {x : Option V} : ∀ {vs : List Nat}, i ∈ vs → wipe (σ.set i x) vs = wipe σ vs
  | v :: vs, h => by
    unfold wipe
    by_cases hm : i ∈ vs
    · rw [wipe_set hm]
    · have e : i = v := by
        rcases List.mem_cons.mp h with h | h
        · exact h
        · exact absurd h hm
      subst e
      have key : ∀ ws : List Nat, i ∉ ws → wipe (σ.set i x) ws = (wipe σ ws).set i x := fun ws => by
        induction ws with
        | nil => intro _; rfl
        | cons w ws ih =>
          intro hn
          simp only [List.mem_cons, not_or] at hn
          unfold wipe
          rw [ih hn.2, List.set_comm _ _ hn.1]
      rw [key vs hm, List.set_set]
section
variable {K : PySem.W.Frag} {ρ : Rho} {H : Hp}
mutual
theorem tg_ok : ∀ {T : Tg} {a : A} {v : V} {env env' : Env} {σ : L2.St} {Q : L2.St → Hp → Prop}, RE K ρ H env σ → RA K ρ H a v → asg T a env = some env' →
    (∀ σ', RE K ρ H env' σ' → (∀ vs : List Nat, (∀ i ∈ tgIx T, i ∈ vs) → wipe σ' vs = wipe σ vs) → Q σ' H) → tgG K T v σ H Q
  | .nm i, a, v, env, env', σ, Q, re, ra, e, k => by
    simp only [asg, Option.some.injEq] at e
    subst e
    exact k _ (re.set i ra) fun vs h => wipe_set (h i (by simp [tgIx]))
  | .tp ts, a, v, env, env', σ, Q, re, ra, e, k => by
    simp only [asg] at e
    split at e
    · rename_i xs ex
      obtain ⟨p, vs, rfl, h, r⟩ := tup_of ra ex
      exact ⟨p, vs, rfl, h, by rw [← r.length]; exact (asgs_len e).symm, tgs_ok re r e fun σ' re' hw => k σ' re' hw⟩
    · cases e
theorem tgs_ok : ∀ {ts : List Tg} {as : List A} {vs : List V} {env env' : Env} {σ : L2.St} {Q : L2.St → Hp → Prop}, RE K ρ H env σ → RAs K ρ H as vs → asgs ts as env = some env' →
    (∀ σ', RE K ρ H env' σ' → (∀ vs : List Nat, (∀ i ∈ tgIxs ts, i ∈ vs) → wipe σ' vs = wipe σ vs) → Q σ' H) → tgGs K ts vs σ H Q
  | [], as, vs, env, env', σ, Q, re, ra, e, k => by
    cases ra with
    | nil =>
      simp only [asgs, Option.some.injEq] at e
      subst e
      exact ⟨rfl, k σ re fun _ _ => rfl⟩
    | cons r rr => simp [asgs] at e
  | t :: ts, as, vs, env, env', σ, Q, re, ra, e, k => by
    cases ra with
    | nil => simp [asgs] at e
    | cons r rr =>
      simp only [asgs] at e
      split at e
      · rename_i env1 e1
        exact ⟨_, _, rfl, tg_ok re r e1 fun σ1 re1 hw1 => tgs_ok re1 rr e fun σ' re' hw => k σ' re' fun ws hi =>
          (hw ws fun i h => hi i (by simp only [tgIxs, List.mem_append]; exact .inr h)).trans (hw1 ws fun i h => hi i (by simp only [tgIxs, List.mem_append]; exact .inl h))⟩
      · cases e
theorem asgs_len : ∀ {ts : List Tg} {as : List A} {env env' : Env}, asgs ts as env = some env' → ts.length = as.length
  | [], [], _, _, _ => rfl
  | [], _ :: _, _, _, e => by simp [asgs] at e
  | _ :: _, [], _, _, e => by simp [asgs] at e
  | t :: ts, a :: as, env, env', e => by
    simp only [asgs] at e
    split at e
    · exact congrArg (· + 1) (asgs_len e)
    · cases e
end
end
/-! ### statements -/
def GS (K : PySem.W.Frag) (W : WX) (D : Ends) (ρ : Rho) (H : Hp) : SR → Prop
  | .nx env S => ∀ ρ' H' σ', Stp ρ H ρ' H' → RS K ρ' H' S → RE K ρ' H' env σ' → D.nx σ' H'
  | .bk env S => ∀ ρ' H' σ', Stp ρ H ρ' H' → RS K ρ' H' S → RE K ρ' H' env σ' → D.bk σ' H'
  | .ct env S => ∀ ρ' H' σ', Stp ρ H ρ' H' → RS K ρ' H' S → RE K ρ' H' env σ' → D.ct σ' H'
  | .rt a S => ∀ ρ' H' v, Stp ρ H ρ' H' → RS K ρ' H' S → RA K ρ' H' a v → D.rt v H'
  | .exn c fs env S => ∀ ρ' H' σ' d, Stp ρ H ρ' H' → RS K ρ' H' S → RE K ρ' H' env σ' → DOk K ρ' H' fs d → W (.ref (He.ga K c)) d σ' H'
  | .bad => False
def tS (K : PySem.W.Frag) (W : WX) (m : SM) : TS := fun D σ H => ∃ ρ env S, RS K ρ H S ∧ RE K ρ H env σ ∧ GS K W D ρ H (m env S)
section
variable {α β : Type} {Rl : Rho → Hp → α → β → Prop} {K : PySem.W.Frag} {W : WX} {σ : L2.St} {ρ ρ1 : Rho} {H H1 : Hp} {D : Ends} {S : Sto} {env : Env} {Q1 : β → Hp → Prop} {m : Env → Sto → R α}
theorem GS.up {r : SR} (s : Stp ρ H ρ1 H1) (h : GS K W D ρ H r) : GS K W D ρ1 H1 r := by
  cases r with
  | nx => exact fun ρ' H' σ' t => h ρ' H' σ' (s.trans t)
  | bk => exact fun ρ' H' σ' t => h ρ' H' σ' (s.trans t)
  | ct => exact fun ρ' H' σ' t => h ρ' H' σ' (s.trans t)
  | rt => exact fun ρ' H' σ' t => h ρ' H' σ' (s.trans t)
  | exn => exact fun ρ' H' σ' d t => h ρ' H' σ' d (s.trans t)
  | bad => exact h
theorem GS.bind {r : R α} {k : α → Sto → SR} (re : RE K ρ H env σ) (h : GS K W D ρ H (r.thenS env k)) : Gd Rl K W σ ρ H (At Rl K ρ H fun ρ1 H1 a _ S1 => GS K W D ρ1 H1 (k a S1)) r := by
  cases r with
  | ok a S' => exact fun ρ' H' b t1 t2 t3 => ⟨ρ', a, S', t1, t2, t3, GS.up t1 h⟩
  | exn c fs S' => exact fun ρ' H' d t1 t2 t3 => h ρ' H' σ d t1 t2 (re.up t1) t3
  | bad => exact h
theorem tX.bindS {k : α → Sto → SR} (rs : RS K ρ H S) (re : RE K ρ H env σ) (h : GS K W D ρ H ((m env S).thenS env k))
    (q : ∀ ρ1 H1 a b S1, Stp ρ H ρ1 H1 → RS K ρ1 H1 S1 → RE K ρ1 H1 env σ → Rl ρ1 H1 a b → GS K W D ρ1 H1 (k a S1) → Q1 b H1) : tX Rl K W m σ H Q1 :=
  ⟨ρ, env, S, rs, re, (GS.bind (Rl := Rl) re h).imp fun b H1 ⟨ρ1, a, S1, t1, t2, t3, t4⟩ => q ρ1 H1 a b S1 t1 t2 (re.up t1) t3 t4⟩
theorem GS.seq {r : SR} {k : Env → Sto → SR} (h : GS K W D ρ H (r.seq k)) : GS K W { D with nx := fun σ' H' => ∃ ρ' env' S', Stp ρ H ρ' H' ∧ RS K ρ' H' S' ∧ RE K ρ' H' env' σ' ∧ GS K W D ρ' H' (k env' S') } ρ H r := by
  cases r with
  | nx env S => exact fun ρ' H' σ' t1 t2 t3 => ⟨ρ', env, S, t1, t2, t3, GS.up t1 h⟩
  | bk => exact h
  | ct => exact h
  | rt => exact h
  | exn => exact h
  | bad => exact h
theorem GS.lp {r : SR} {k : Env → Sto → SR} {N : L2.St → Hp → Prop} (h : GS K W D ρ H (r.lp k)) (hN : ∀ σ' H' ρ' env' S', Stp ρ H ρ' H' → RS K ρ' H' S' → RE K ρ' H' env' σ' → GS K W D ρ' H' (k env' S') → N σ' H') : GS K W { D with nx := N, ct := N, bk := D.nx } ρ H r := by
  cases r with
  | nx env S => exact fun ρ' H' σ' t1 t2 t3 => hN σ' H' ρ' env S t1 t2 t3 (GS.up t1 h)
  | bk env S => exact h
  | ct env S => exact fun ρ' H' σ' t1 t2 t3 => hN σ' H' ρ' env S t1 t2 t3 (GS.up t1 h)
  | rt => exact h
  | exn => exact h
  | bad => exact h
end
def sNx : SM := fun env S => .nx env S
def sBk : SM := fun env S => .bk env S
def sCt : SM := fun env S => .ct env S
def sSeq (a b : SM) : SM := fun env S => (a env S).seq b
def sExpr (m : EM) : SM := fun env S => (m env S).thenS env fun _ S1 => .nx env S1
def sRet (m : EM) : SM := fun env S => (m env S).thenS env fun a S1 => .rt a S1
def sRetN : SM := fun _ S => .rt .non S
def sIf (t : TM) (a b : SM) : SM := fun env S => (t env S).thenS env fun k S1 => match k with
  | true => a env S1
  | false => b env S1
def orBadS {α : Type} (o : Option α) (k : α → SR) : SR := match o with
  | some a => k a
  | none => .bad
@[simp] theorem orBadS_some {α : Type} (a : α) (k : α → SR) : orBadS (some a) k = k a := rfl
@[simp] theorem orBadS_none {α : Type} (k : α → SR) : orBadS (none : Option α) k = .bad := rfl
theorem GS.orBad {α : Type} {K : PySem.W.Frag} {W : WX} {D : Ends} {ρ : Rho} {H : Hp} {o : Option α} {k : α → SR} (g : GS K W D ρ H (orBadS o k)) : ∃ a, o = some a ∧ GS K W D ρ H (k a) := by
  cases o with
  | none => exact g.elim
  | some a => exact ⟨a, rfl, g⟩
def sAsg (T : Tg) (m : EM) : SM := fun env S => (m env S).thenS env fun a S1 => orBadS (asg T a env) fun env1 => .nx env1 S1
def sPar (i j : Nat) (m : AM) : SM := fun env S => (m env S).thenS env fun as S1 => match as with
  | [x, y] => .nx ((env.set i (some x)).set j (some y)) S1
  | _ => .bad
/-- x op= e -/
def sAug (i : Nat) (g : OM) (m : EM) : SM := fun env S => match env[i]? with
  | some (some a) => (m env S).thenS env fun b S1 => (g a b S1).thenS env fun c S2 => .nx (env.set i (some c)) S2
  | _ => .bad
section
variable {X : Cx} {W : WX}
theorem wkS {st : Stmt} {t t' : TS} (h : PS X st t) (k : ∀ D σ H, t' D σ H → t D σ H) : PS X st t' := ⟨fun pins s σ H D I q => h.run pins s σ H D I (k _ _ _ q)⟩
theorem wkSs {st : List Stmt} {t t' : TS} (h : PSs X st t) (k : ∀ D σ H, t' D σ H → t D σ H) : PSs X st t' := ⟨fun pins s σ H D I q => h.run pins s σ H D I (k _ _ _ q)⟩
abbrev SS (X : Cx) (W : WX) (st : Stmt) (m : SM) : Prop := PS X st (tS X.K W m)
abbrev SSs (X : Cx) (W : WX) (st : List Stmt) (m : SM) : Prop := PSs X st (tS X.K W m)
variable {st : Stmt} {rest body body2 : List Stmt} {m m1 m2 : SM} {e c : Expr} {me : EM} {mt : TM} {pos pos' : Pos}
theorem ss_nil : SSs X W [] sNx := wkSs pss_nil fun D σ H ⟨ρ, env, S, rs, re, g⟩ => g ρ H σ Stp.refl rs re
theorem ss_cons (h1 : SS X W st m1) (h2 : SSs X W rest m2) : SSs X W (st :: rest) (sSeq m1 m2) := wkSs (pss_cons h1 h2) fun D σ H ⟨ρ, env, S, rs, re, g⟩ => by
  refine ⟨ρ, env, S, rs, re, ?_⟩
  have q := GS.seq g
  cases e : m1 env S with
  | nx env1 S1 =>
    rw [e] at q
    exact fun ρ' H' σ' t1 t2 t3 => by
      obtain ⟨ρ2, env2, S2, _, r2, r3, g2⟩ := q ρ' H' σ' t1 t2 t3
      exact ⟨ρ2, env2, S2, r2, r3, g2⟩
  | bk => rw [e] at q; exact q
  | ct => rw [e] at q; exact q
  | rt => rw [e] at q; exact q
  | exn => rw [e] at q; exact q
  | bad => rw [e] at q; exact q
theorem ss_one (h1 : SS X W st m1) : SSs X W [st] m1 := pss_one h1
theorem ss_pass : SS X W (.Pass pos) sNx := wkS ps_pass fun D σ H ⟨ρ, env, S, rs, re, g⟩ => g ρ H σ Stp.refl rs re
theorem ss_break : SS X W (.Break pos) sBk := wkS ps_break fun D σ H ⟨ρ, env, S, rs, re, g⟩ => g ρ H σ Stp.refl rs re
theorem ss_continue : SS X W (.Continue pos) sCt := wkS ps_continue fun D σ H ⟨ρ, env, S, rs, re, g⟩ => g ρ H σ Stp.refl rs re
theorem ss_doc {x : Str} {j : Nat} {p p' : Pos} : SS X W (.Expr (.Constant (.str x) j p) p') sNx := wkS ps_doc fun D σ H ⟨ρ, env, S, rs, re, g⟩ => g ρ H σ Stp.refl rs re
theorem ss_expr (he : SE X W e me) (hs : swapsWith e none pos.line X.env = pure false := by rfl) : SS X W (.Expr e pos) (sExpr me) := wkS (ps_expr he hs) fun D σ H ⟨ρ, env, S, rs, re, g⟩ =>
  tX.bindS rs re g fun ρ1 H1 a v S1 s1 rs1 re1 ra g1 => g1 ρ1 H1 σ Stp.refl rs1 re1
theorem ss_ret (he : SE X W e me) : SS X W (.Return (some e) pos) (sRet me) := wkS (ps_ret he) fun D σ H ⟨ρ, env, S, rs, re, g⟩ =>
  tX.bindS rs re g fun ρ1 H1 a v S1 s1 rs1 re1 ra g1 => g1 ρ1 H1 v Stp.refl rs1 ra
theorem ss_retN : SS X W (.Return none pos) sRetN := wkS ps_retN fun D σ H ⟨ρ, env, S, rs, re, g⟩ => g ρ H .non Stp.refl rs .non
theorem ss_if (hc : ST X W c mt) (ha : SSs X W body m1) (hb : SSs X W body2 m2) : SS X W (.If c body body2 pos) (sIf mt m1 m2) := wkS (ps_if hc ha hb) fun D σ H ⟨ρ, env, S, rs, re, g⟩ =>
  tX.bindS rs re g fun ρ1 H1 k k' S1 s1 rs1 re1 hk g1 => by
    subst hk
    cases k with
    | true => exact ⟨ρ1, env, S1, rs1, re1, g1⟩
    | false => exact ⟨ρ1, env, S1, rs1, re1, g1⟩
theorem asg_up {T : Tg} {D : Ends} {σ : L2.St} {H : Hp} (h : tS X.K W (sAsg T me) D σ H) : tAsg (tE X.K W me) (tgG X.K T) D σ H := by
  obtain ⟨ρ, env, S, rs, re, g⟩ := h
  refine tX.bindS rs re g fun ρ1 H1 a v S1 s1 rs1 re1 ra g1 => ?_
  obtain ⟨env1, e1, g2⟩ := g1.orBad
  exact tg_ok re1 ra e1 fun σ' re' _ => g2 ρ1 H1 σ' Stp.refl rs1 re'
/-- x = e -/
theorem ss_set (i : Nat) {x : Str} (hN : X.N.Nodup) (hi : X.N[i]? = some x) (hx : Loc X.env.scope x) (he : SE X W e me) (hs : swapsWith e (some (.Name x pos')) pos.line X.env = pure false := by rfl) (hf : X.fn x = true ∨ X.env.scope.names.lookup x = some .local := by first | exact .inl rfl | exact .inr rfl | assumption) :
    SS X W (.Assign [.Name x pos'] e pos) (sAsg (.nm i) me) := wkS (ps_set hN hi hx he hs hf) fun D σ H h => asg_up h
/-- target = e -/
theorem ss_asg (T : Tg) {tg : Expr} (he : SE X W e me) (hg : PG X tg (tgG X.K T)) (hs : swapsWithSole [tg] e pos.line X.env = pure false := by rfl) (hw : swappedStores [tg] e X.env = pure none := by rfl)
    (h1 : (assignEach [tg] X.env).map (·.2) = [assign tg X.env] := by rfl) : SS X W (.Assign [tg] e pos) (sAsg T me) := wkS (ps_asg he hg hs hw h1) fun D σ H h => asg_up h
end
/-! ### while, for -/
def whileM (t : TM) (b : SM) : Nat → SM
  | 0 => fun _ _ => .bad
  | k + 1 => fun env S => (t env S).thenS env fun c S1 => match c with
    | true => (b env S1).lp (whileM t b k)
    | false => .nx env S1
def sWhile (n : Nat) (t : TM) (b : SM) : SM := whileM t b n
def forL (T : Tg) (b : SM) : List A → SM
  | [] => fun env S => .nx env S
  | a :: as => fun env S => orBadS (asg T a env) fun env1 => (b env1 S).lp (forL T b as)
def sFor (T : Tg) (mi : AM) (b : SM) : SM := fun env S => (mi env S).thenS env fun xs S1 => forL T b xs env S1
/-- over the list with the number n, as it stands at each turn -/
def forN (T : Tg) (b : SM) (n : Nat) : Nat → Nat → SM
  | 0, _ => fun _ _ => .bad
  | k + 1, i => fun env S => match S[n]? with
    | some (.lst xs) => match xs[i]? with
      | some a => orBadS (asg T a env) fun env1 => (b env1 S).lp (forN T b n k (i + 1))
      | none => .nx env S
    | _ => .bad
def sForN (k : Nat) (T : Tg) (me : EM) (b : SM) : SM := fun env S => (me env S).thenS env fun a S1 => match a with
  | .loc n => forN T b n k 0 env S1
  | _ => .bad
/-- an iterator goes through these items, whatever happens between -/
def Walk (K : PySem.W.Frag) (ρ : Rho) (H : Hp) (xs : List A) (J : It) : Prop := ∀ ρ' H' S' (i : Nat), Stq ρ H ρ' H' → RS K ρ' H' S' →
  (∀ a, xs[i]? = some a → J.go i H' ∧ ∀ x H'', J.yld i H' x H'' → Stp ρ' H' ρ' H'' ∧ RS K ρ' H'' S' ∧ RA K ρ' H'' a x) ∧ (xs[i]? = none → J.stop i H')
abbrev tI (K : PySem.W.Frag) (W : WX) (m : AM) : TI := tX (Walk K) K W m
abbrev SI (X : Cx) (W : WX) (tg e : Expr) (m : AM) : Prop := PI X tg e (tI X.K W m)
section
variable {X : Cx} {W : WX} {tg c iter e : Expr} {body : List Stmt} {mt : TM} {mb : SM} {mi : AM} {me : EM} {pos : Pos}
theorem ss_while (n : Nat) (hp : PassesOwn (model X.prog X.w) X.A X.env X.xe) (hc : ST X W c mt) (hb : SSs X W body mb) : SS X W (.While c body [] pos) (sWhile n mt mb) := wkS (ps_while hp hc hb) fun D σ H ⟨ρ, env, S, rs, re, g⟩ => by
  refine ⟨fun m σ' H' => ∃ ρ' env' S', Stp ρ H ρ' H' ∧ RS X.K ρ' H' S' ∧ RE X.K ρ' H' env' σ' ∧ GS X.K W D ρ' H' (whileM mt mb m env' S'), ⟨n, ρ, env, S, Stp.refl, rs, re, g⟩, ?_⟩
  rintro m σ1 H1 ⟨ρ1, env1, S1, s1, rs1, re1, g1⟩
  cases m with
  | zero => exact g1.elim
  | succ m =>
    refine tX.bindS rs1 re1 g1 fun ρ2 H2 k k' S2 s2 rs2 re2 hk g2 => ?_
    subst hk
    cases k with
    | true =>
      refine ⟨fun σ' H' => ∃ ρ' env' S', Stp ρ H ρ' H' ∧ RS X.K ρ' H' S' ∧ RE X.K ρ' H' env' σ' ∧ GS X.K W D ρ' H' (whileM mt mb m env' S'), fun σ' H' h => ⟨m, Nat.lt_succ_self m, h⟩, ?_⟩
      exact ⟨ρ2, env1, S2, rs2, re2, GS.lp g2 fun σ' H' ρ' env' S' t1 t2 t3 t4 => ⟨ρ', env', S', (s1.trans s2).trans t1, t2, t3, t4⟩⟩
    | false => exact g2 ρ2 H2 σ1 Stp.refl rs2 re2
theorem for_up {T : Tg} {D : Ends} {σ : L2.St} {H : Hp} (h : tS X.K W (sFor T mi mb) D σ H) : tFor (tI X.K W mi) (tgG X.K T) (tS X.K W mb) D σ H := by
  obtain ⟨ρ, env, S, rs, re, g⟩ := h
  refine tX.bindS rs re g fun ρ1 H1 xs J S1 s1 rs1 re1 wk g1 => ?_
  refine ⟨fun i m σ' H' => m = xs.length - i ∧ i ≤ xs.length ∧ ∃ ρ' env' S', Stp ρ1 H1 ρ' H' ∧ RS X.K ρ' H' S' ∧ RE X.K ρ' H' env' σ' ∧ GS X.K W D ρ' H' (forL T mb (xs.drop i) env' S'),
    ⟨xs.length, rfl, Nat.zero_le _, ρ1, env, S1, Stp.refl, rs1, re1, g1⟩, ?_⟩
  rintro i m σ2 H2 ⟨rfl, hi, ρ2, env2, S2, s2, rs2, re2, g2⟩
  obtain ⟨w1, w2⟩ := wk ρ2 H2 S2 i s2.q rs2
  by_cases hlt : i < xs.length
  · have e : xs[i]? = some xs[i] := List.getElem?_eq_getElem hlt
    obtain ⟨hgo, hy⟩ := w1 _ e
    rw [List.drop_eq_getElem_cons hlt] at g2
    refine .inr ⟨hgo, fun σ' H' => i + 1 ≤ xs.length ∧ ∃ ρ' env' S', Stp ρ1 H1 ρ' H' ∧ RS X.K ρ' H' S' ∧ RE X.K ρ' H' env' σ' ∧ GS X.K W D ρ' H' (forL T mb (xs.drop (i + 1)) env' S'), fun σ' H' h => ⟨xs.length - (i + 1), by omega, rfl, h⟩, fun x H3 y => ?_⟩
    obtain ⟨s3, rs3, ra⟩ := hy x H3 y
    obtain ⟨env3, e3, g3⟩ := GS.orBad g2
    refine tg_ok (re2.up s3) ra e3 fun σ' re' _ => ⟨ρ2, env3, S2, rs3, re', GS.lp (GS.up s3 g3) fun σ4 H4 ρ4 env4 S4 t1 t2 t3 t4 => ⟨hlt, ρ4, env4, S4, (s2.trans s3).trans t1, t2, t3, t4⟩⟩
  · have e : i = xs.length := by omega
    subst e
    rw [List.drop_length] at g2
    exact .inl ⟨w2 (by simp), g2 ρ2 H2 σ2 Stp.refl rs2 re2⟩
theorem ss_for (T : Tg) (hp : PassesOwn (model X.prog X.w) X.A X.env X.xe) (hc : X.calm = true) (hi : SI X W tg iter mi) (hg : PG X tg (tgG X.K T)) (hb : SSs X W body mb)
    (hs : ∀ x, foldedSetIterable iter X.env x = pure x := by intro _; rfl) : SS X W (.For tg iter body [] pos) (sFor T mi mb) := wkS (ps_for hp hc hi hg hb hs) fun D σ H h => for_up h
/-- over a list with a number -/
theorem ss_forN (k : Nat) (T : Tg) (hp : PassesOwn (model X.prog X.w) X.A X.env X.xe) (hc : X.calm = true) (hi : SE X W iter me) (hg : PG X tg (tgG X.K T)) (hb : SSs X W body mb)
    (hs : ∀ x, foldedSetIterable iter X.env x = pure x := by intro _; rfl) : SS X W (.For tg iter body [] pos) (sForN k T me mb) := wkS (ps_for hp hc (pi_list hi) hg hb hs) fun D σ H ⟨ρ, env, S, rs, re, g⟩ => by
  refine tX.bindS rs re g fun ρ1 H1 a v S1 s1 rs1 re1 ra g1 => ?_
  cases ra with
  | @loc n p hp =>
    obtain ⟨o, ho⟩ := rs1.lt hp
    have oa := rs1.at_ n p o hp ho
    have hl : ∃ vs, H1 p = some (.lst vs) := by
      cases k with
      | zero => exact g1.elim
      | succ k =>
        have g2 : GS X.K W D ρ1 H1 (match S1[n]? with
          | some (.lst xs) => match xs[0]? with
            | some a => orBadS (asg T a env) fun env1 => (mb env1 S1).lp (forN T mb n k (0 + 1))
            | none => .nx env S1
          | _ => .bad) := g1
        rw [ho] at g2
        cases oa with
        | lst h r => exact ⟨_, h⟩
        | ins h r => exact g2.elim
        | dct h r => exact g2.elim
    obtain ⟨vs0, h0⟩ := hl
    refine ⟨p, rfl, ⟨vs0, .of h0⟩, ?_⟩
    refine ⟨fun i m σ' H' => ∃ ρ' env' S', Stp ρ1 H1 ρ' H' ∧ RS X.K ρ' H' S' ∧ RE X.K ρ' H' env' σ' ∧ GS X.K W D ρ' H' (forN T mb n m i env' S'), ⟨k, ρ1, env, S1, Stp.refl, rs1, re1, g1⟩, ?_⟩
    rintro i m σ2 H2 ⟨ρ2, env2, S2, s2, rs2, re2, g2⟩
    cases m with
    | zero => exact g2.elim
    | succ m =>
      have hp2 := s2.num hp
      obtain ⟨o2, ho2⟩ := rs2.lt hp2
      have oa2 := rs2.at_ n p o2 hp2 ho2
      have g3 : GS X.K W D ρ2 H2 (match S2[n]? with
          | some (.lst xs) => match xs[i]? with
            | some a => orBadS (asg T a env2) fun env1 => (mb env1 S2).lp (forN T mb n m (i + 1))
            | none => .nx env2 S2
          | _ => .bad) := g2
      rw [ho2] at g3
      cases oa2 with
      | @lst _ xs vs h r =>
        cases e : xs[i]? with
        | some a =>
          simp only [e] at g3
          obtain ⟨x0, ex, rx⟩ := r.get e
          refine .inr ⟨⟨vs, x0, .of h, ex⟩, fun σ' H' => ∃ ρ' env' S', Stp ρ1 H1 ρ' H' ∧ RS X.K ρ' H' S' ∧ RE X.K ρ' H' env' σ' ∧ GS X.K W D ρ' H' (forN T mb n m (i + 1) env' S'), fun σ' H' q => ⟨m, Nat.lt_succ_self m, q⟩, fun x H3 y => ?_⟩
          obtain ⟨rfl, y2⟩ := y
          have ex2 := y2 vs (.of h)
          rw [ex] at ex2
          cases ex2
          obtain ⟨env3, e3, g4⟩ := GS.orBad g3
          exact tg_ok re2 rx e3 fun σ' re' _ => ⟨ρ2, env3, S2, rs2, re', GS.lp g4 fun σ4 H4 ρ4 env4 S4 t1 t2 t3 t4 => ⟨ρ4, env4, S4, s2.trans t1, t2, t3, t4⟩⟩
        | none =>
          simp only [e] at g3
          exact .inl ⟨⟨vs, .of h, by
            have := List.getElem?_eq_none_iff.mp e
            rw [← r.length]; exact this⟩, g3 ρ2 H2 σ2 Stp.refl rs2 re2⟩
      | ins h r => exact g3.elim
      | dct h r => exact g3.elim
  | _ => exact g1.elim
end
end Mi
set_option Elab.async false
set_option linter.all false
set_option maxRecDepth 100000
set_option maxHeartbeats 2000000
/-! Mi5: what loops walk, comprehensions. -/
namespace Mi
open PySem PySem.Spec PyProof.Rows
open L2
section
variable {X : Cx} {W : WX} {tg e : Expr} {es : List Expr} {me : EM} {ma : AM} {p pos : Pos}
theorem wkI {wi wi' : TI} (h : PI X tg e wi) (k : ∀ σ H Q, wi' σ H Q → wi σ H Q) : PI X tg e wi' := ⟨fun pins s σ H R I q => h.run pins s σ H R I (k _ _ _ q)⟩
theorem pi_or {wi wi' : TI} (h : PI X tg e wi) (h' : PI X tg e wi') : PI X tg e (fun σ H R => wi σ H R ∨ wi' σ H R) := ⟨fun pins s σ H R I q => q.elim (h.run pins s σ H R I) (h'.run pins s σ H R I)⟩
/-- a list's or tuple's items -/
def seqV : A → Option (List A)
  | .lst xs => some xs
  | .tup xs => some xs
  | .scr ns => some (ns.map .int)
  | _ => none
def iSeq (m : EM) : AM := fun env S => (m env S).bind fun a S1 => orBad (seqV a) fun xs => .ok xs S1
theorem walk_l {K : PySem.W.Frag} {ρ : Rho} {H : Hp} {p : Addr} {xs : List A} {vs : List V} (hq : ∀ ρ' H', Stq ρ H ρ' H' → SqL K H' p vs) (r : RAs K ρ H xs vs) : Walk K ρ H xs (Itl K p) := fun ρ' H' S' i s rs => by
  have h2 := hq ρ' H' s
  have r2 := r.upq s
  refine ⟨fun a e => ?_, fun e => ⟨vs, h2, by rw [← r2.length]; exact List.getElem?_eq_none_iff.mp e⟩⟩
  obtain ⟨v, e2, ra⟩ := r2.get e
  refine ⟨⟨vs, v, h2, e2⟩, fun x H'' y => ?_⟩
  obtain ⟨rfl, y2⟩ := y
  have e3 := y2 vs h2
  rw [e2] at e3
  cases e3
  exact ⟨Stp.refl, rs, ra⟩
theorem walk_t {K : PySem.W.Frag} {ρ : Rho} {H : Hp} {p : Addr} {xs : List A} {vs : List V} (hq : ∀ ρ' H', Stq ρ H ρ' H' → SqT K H' p vs) (r : RAs K ρ H xs vs) : Walk K ρ H xs (Itt K p) := fun ρ' H' S' i s rs => by
  have h2 := hq ρ' H' s
  have r2 := r.upq s
  refine ⟨fun a e => ?_, fun e => ⟨vs, h2, by rw [← r2.length]; exact List.getElem?_eq_none_iff.mp e⟩⟩
  obtain ⟨v, e2, ra⟩ := r2.get e
  refine ⟨⟨vs, v, h2, e2⟩, fun x H'' y => ?_⟩
  obtain ⟨rfl, y2⟩ := y
  have e3 := y2 vs h2
  rw [e2] at e3
  cases e3
  exact ⟨Stp.refl, rs, ra⟩
theorem si_seq (h : SE X W e me) : SI X W tg e (iSeq me) := wkI (pi_or (pi_list h) (pi_tup h)) fun σ H R ⟨ρ, env, S, rs, re, g⟩ => by
  have g' : Gd (Walk X.K) X.K W σ ρ H R ((me env S).bind fun a S1 => orBad (seqV a) fun xs => .ok xs S1) := g
  have fin : ∀ {a : A} {xs : List A} {S1 : Sto} {ρ1 : Rho} {H1 : Hp}, seqV a = some xs → Gd (Walk X.K) X.K W σ ρ1 H1 R (orBad (seqV a) fun xs => .ok xs S1) → Gd (Walk X.K) X.K W σ ρ1 H1 R (.ok xs S1) := fun e g => by
    rw [e] at g
    exact g
  cases em : me env S with
  | bad => rw [em] at g'; exact g'.elim
  | exn c fs S' => rw [em] at g'; exact .inl ⟨ρ, env, S, rs, re, by rw [em]; exact g'⟩
  | ok a S' =>
    rw [em] at g'
    have left : ∀ xs, seqV a = some xs → (∀ ρ1 H1 v, RA X.K ρ1 H1 a v → ∃ p vs, v = .ref p ∧ (∀ ρ' H', Stq ρ1 H1 ρ' H' → SqL X.K H' p vs) ∧ RAs X.K ρ1 H1 xs vs) → iList X.K (tE X.K W me) σ H R := fun xs e k => ⟨ρ, env, S, rs, re, by
      rw [em]
      intro ρ1 H1 v s1 rs1 ra
      obtain ⟨p, vs, rfl, hq, r⟩ := k ρ1 H1 v ra
      exact ⟨p, rfl, ⟨vs, hq ρ1 H1 Stp.refl.q⟩, (fin e (Gd.up s1 g')).fin rs1 (walk_l hq r)⟩⟩
    cases a with
    | lst xs =>
      refine .inl (left xs rfl fun ρ1 H1 v ra => ?_)
      cases ra with
      | lst h n r => exact ⟨_, _, rfl, fun ρ' H' s => .of (s.keep _ _ n h rfl), r⟩
    | scr ns =>
      refine .inl (left _ rfl fun ρ1 H1 v ra => ?_)
      cases ra with
      | scr h => exact ⟨_, _, rfl, fun ρ' H' s => (h.upq s).sq, ras_ints ns⟩
    | tup xs =>
      refine .inr ⟨ρ, env, S, rs, re, ?_⟩
      rw [em]
      intro ρ1 H1 v s1 rs1 ra
      have g2 : Gd (Walk X.K) X.K W σ ρ H R (.ok xs S') := g'
      cases ra with
      | tup h r => exact ⟨_, rfl, ⟨_, h.sq⟩, (Gd.up s1 g2).fin rs1 (walk_t (fun ρ' H' s => (h.upq s).sq) r)⟩
    | _ => exact g'.elim
/-- a text's signs -/
def signs (z : Str) : List A := z.cps.toList.map fun c => .str ⟨#[c]⟩
def iTxt (m : EM) : AM := fun env S => (m env S).bind fun a S1 => match a with
  | .str z => .ok (signs z) S1
  | _ => .bad
theorem si_str (h : SE X W e me) : SI X W tg e (iTxt me) := wkI (pi_str h) fun σ H R ⟨ρ, env, S, rs, re, g⟩ => tX.bind rs re g fun ρ1 H1 a v S1 s1 rs1 re1 ra g1 => by
  cases ra with
  | str z =>
    refine ⟨z, rfl, g1.fin rs1 fun ρ' H' S' i s rs' => ⟨fun a e => ?_, fun e => ?_⟩⟩
    · simp only [signs, List.getElem?_map, Option.map_eq_some_iff, Array.getElem?_toList] at e
      obtain ⟨c, e1, rfl⟩ := e
      refine ⟨(Array.getElem?_eq_some_iff.mp e1).1, fun x H'' y => ?_⟩
      obtain ⟨rfl, c', e2, rfl⟩ := y
      rw [e1] at e2
      cases e2
      exact ⟨Stp.refl, rs', .str _⟩
    · simp only [signs, List.getElem?_map, Option.map_eq_none_iff, Array.getElem?_toList] at e
      exact Array.getElem?_eq_none_iff.mp e
  | _ => exact g1.elim
def intsA (lo : Int) (n : Nat) : List A := (List.range n).map fun (k : Nat) => .int (lo + k)
theorem walk_r {K : PySem.W.Frag} {ρ : Rho} {H : Hp} (lo : Int) (n : Nat) : Walk K ρ H (intsA lo n) (Itr lo n) := fun ρ' H' S' i s rs' => ⟨fun a e => by
  simp only [intsA, List.getElem?_map, Option.map_eq_some_iff] at e
  obtain ⟨k, e1, rfl⟩ := e
  obtain ⟨h1, h2⟩ := List.getElem?_eq_some_iff.mp e1
  rw [List.length_range] at h1
  rw [List.getElem_range] at h2
  subst h2
  refine ⟨h1, fun x H'' y => ?_⟩
  obtain ⟨rfl, rfl⟩ := y
  exact ⟨Stp.refl, rs', .int _⟩, fun e => by
  simp only [intsA, List.getElem?_map, Option.map_eq_none_iff, List.getElem?_eq_none_iff, List.length_range] at e
  exact e⟩
/-- range(n), range(a, b) -/
def iRg (m : AM) : AM := fun env S => (m env S).bind fun as S1 => match as with
  | [.int n] => if -1000000000 ≤ n ∧ n ≤ 1000000000 then .ok (intsA 0 n.toNat) S1 else .bad
  | _ => .bad
def iRg2 (m : AM) : AM := fun env S => (m env S).bind fun as S1 => match as with
  | [.int a, .int b] => if -1000000000 ≤ a ∧ a ≤ 1000000000 ∧ -1000000000 ≤ b ∧ b ≤ 1000000000 then .ok (intsA a (b - a).toNat) S1 else .bad
  | _ => .bad
theorem si_range {a : Expr} (hg : Gl X "range") (hm : X.mg "range" = none) (h : SA X W [a] ma) (hs : starEach [a] X.env = [(false, eval a X.env)] := by rfl) : SI X W tg (.Call (.Name "range" p) [a] [] pos) (iRg ma) :=
  wkI (pi_range1 hg hm h hs) fun σ H R ⟨ρ, env, S, rs, re, g⟩ => tX.bind rs re g fun ρ1 H1 as vs S1 s1 rs1 re1 ras g1 => by
    split at g1
    · cases ras with
      | cons r rr =>
        cases rr
        cases r
        obtain ⟨h, g2⟩ := Gd.ite g1
        exact ⟨_, rfl, by omega, by omega, g2.fin rs1 (walk_r 0 _)⟩
    · exact g1.elim
theorem si_range2 {a b : Expr} (hg : Gl X "range") (hm : X.mg "range" = none) (h : SA X W [a, b] ma) (hs : starEach [a, b] X.env = [(false, eval a X.env), (false, eval b X.env)] := by rfl) (hs2 : starEach [b] X.env = [(false, eval b X.env)] := by rfl) :
    SI X W tg (.Call (.Name "range" p) [a, b] [] pos) (iRg2 ma) :=
  wkI (pi_range2 hg hm h hs hs2) fun σ H R ⟨ρ, env, S, rs, re, g⟩ => tX.bind rs re g fun ρ1 H1 as vs S1 s1 rs1 re1 ras g1 => by
    split at g1
    · cases ras with
      | cons r rr =>
        cases rr with
        | cons r' rr =>
          cases rr
          cases r
          cases r'
          obtain ⟨h, g2⟩ := Gd.ite g1
          exact ⟨_, _, rfl, by omega, g2.fin rs1 (walk_r _ _)⟩
    · exact g1.elim
end
/-! ### comprehensions -/
/-- within a comprehension no exception is told -/
abbrev W0 : WX := fun _ _ _ _ => False
def noX {α : Type} (r : R α) : R α := match r with
  | .exn _ _ _ => .bad
  | r => r
@[simp] theorem noX_ok {α : Type} (a : α) (S : Sto) : noX (.ok a S) = .ok a S := rfl
@[simp] theorem noX_bad {α : Type} : noX (.bad : R α) = .bad := rfl
@[simp] theorem noX_exn {α : Type} (c : Str) (fs : List (Str × A)) (S : Sto) : noX (.exn c fs S : R α) = .bad := rfl
def lcM (T : Tg) (tt : TM) (me : EM) (env0 : Env) : List A → List A → Sto → R (List A)
  | [], acc, S => .ok acc S
  | a :: as, acc, S => orBad (asg T a env0) fun env1 => (noX (tt env1 S)).bind fun k S1 => match k with
    | true => (noX (me env1 S1)).bind fun y S2 => lcM T tt me env0 as (acc ++ [y]) S2
    | false => lcM T tt me env0 as acc S1
def wipeE (env : Env) : List Nat → Env
  | [] => env
  | v :: vs => (wipeE env vs).set v none
def tYesM : TM := fun _ S => .ok true S
def eLc (fresh : Bool) (vs : List Nat) (T : Tg) (mi : AM) (tt : TM) (me : EM) : EM := fun env S => (mi env S).bind fun xs S1 => if xs.length ≤ 10000000 then (lcM T tt me (wipeE env vs) xs [] S1).bind fun ys S2 => newL fresh ys S2 else .bad
section
variable {K : PySem.W.Frag} {ρ ρ' ρ1 : Rho} {H H' H1 : Hp} {S S' : Sto} {env : Env} {σ : L2.St}
theorem RE.wipe (h : RE K ρ H env σ) : ∀ vs : List Nat, RE K ρ H (wipeE env vs) (L2.wipe σ vs)
  | [] => h
  | v :: vs => (RE.wipe h vs).drop1 v
theorem wipe_wipe : ∀ (σ : L2.St) (vs : List Nat), L2.wipe (L2.wipe σ vs) vs = L2.wipe σ vs := fun σ vs => by
  have key : ∀ (ws : List Nat) (τ : L2.St), (∀ w ∈ ws, ∀ x, τ[w]? = some x → x = none) → L2.wipe τ ws = τ := fun ws => by
    induction ws with
    | nil => intro τ _; rfl
    | cons w ws ih =>
      intro τ h
      unfold L2.wipe
      rw [ih τ fun v hv => h v (List.mem_cons_of_mem _ hv)]
      apply List.ext_getElem?
      intro k
      by_cases hk : w = k
      · subst hk
        rw [List.getElem?_set]
        by_cases hl : w < τ.length
        · have e := h w List.mem_cons_self _ (List.getElem?_eq_getElem hl)
          simp [hl, e]
        · simp [hl]
      · rw [List.getElem?_set_ne hk]
  refine key vs _ fun w hw x e => ?_
  cases x with
  | none => rfl
  | some v => exact absurd hw (wipe_some e).2
end
section
variable {X : Cx} {W : WX} {elt tg iter : Expr} {ifs : List Expr} {scope : Scope} {mi : AM} {tt : TM} {me : EM} {pos : Pos}
theorem Gd.noX {α β γ δ : Type} {Rl : Rho → Hp → α → β → Prop} {Rm : Rho → Hp → γ → δ → Prop} {K : PySem.W.Frag} {σ σ' : L2.St} {ρ ρ1 : Rho} {H H1 : Hp} {Q : δ → Hp → Prop} {r : R α} {k : α → Sto → R γ} (h : Gd Rm K W σ ρ H Q ((Mi.noX r).bind k)) :
    Gd Rl K W0 σ' ρ1 H1 (At Rl K ρ1 H1 fun _ _ a _ S1 => Gd Rm K W σ ρ H Q (k a S1)) r := by
  cases r with
  | ok a S' => exact fun ρ' H' b t1 t2 t3 => ⟨ρ', a, S', t1, t2, t3, h⟩
  | exn c fs S' => exact h.elim
  | bad => exact h.elim
theorem lc_up (fresh : Bool) {own : List (Str × Nat)} {T : Tg} (hix : ∀ i ∈ tgIx T, i ∈ own.map fun (q : Str × Nat) => q.2) {σ : L2.St} {H : Hp} {Q : VK} (h : tE X.K W (eLc fresh (own.map fun (q : Str × Nat) => q.2) T mi tt me) σ H Q) :
    tLc (tI X.K W mi) (tgG X.K T) (tT X.K W0 tt) (tE X.K W0 me) (own.map fun (q : Str × Nat) => q.2) σ H Q := by
  obtain ⟨ρ, env, S, rs, re, g⟩ := h
  refine tX.bind rs re g fun ρ1 H1 xs J S1 s1 rs1 re1 wk g1 => ?_
  obtain ⟨hsz, g1⟩ := Gd.ite g1
  intro D hD
  have rw1 : RE X.K ρ1 H1 (wipeE env (own.map fun (q : Str × Nat) => q.2)) (L2.wipe σ (own.map fun (q : Str × Nat) => q.2)) := re1.wipe _
  refine ⟨fun i m H' => m = xs.length - i ∧ i ≤ xs.length ∧ ∃ (ρ' : Rho) (S' : Sto) (acc : List A) (vs : List V), Stp ρ1 H1 ρ' H' ∧ RS X.K (ρ'.hide D) H' S' ∧ H' D = some (.lst vs) ∧ RAs X.K (ρ'.hide D) H' acc vs ∧ acc.length ≤ i ∧
    Gd (RA X.K) X.K W σ ρ1 H1 Q ((lcM T tt me (wipeE env (own.map fun (q : Str × Nat) => q.2)) (xs.drop i) acc S').bind fun ys S2 => newL fresh ys S2), ⟨xs.length, rfl, Nat.zero_le _, ρ1, S1, [], [], Stp.new hD, rs1.lay hD, upd_same, .nil, Nat.zero_le _, g1⟩, ?_⟩
  rintro i m H2 ⟨rfl, hle, ρ2, S2, acc, vs, s2, rs2, hD2, racc, hacc, g2⟩
  have q12 : Stq ρ1 H1 (ρ2.hide D) H2 := Stq.lays s2 hD
  obtain ⟨w1, w2⟩ := wk (ρ2.hide D) H2 S2 i q12 rs2
  by_cases hlt : i < xs.length
  · have e : xs[i]? = some xs[i] := List.getElem?_eq_getElem hlt
    obtain ⟨hgo, hy⟩ := w1 _ e
    rw [List.drop_eq_getElem_cons hlt] at g2
    refine .inr ⟨hgo, fun H' => i + 1 ≤ xs.length ∧ ∃ (ρ' : Rho) (S' : Sto) (acc : List A) (vs : List V), Stp ρ1 H1 ρ' H' ∧ RS X.K (ρ'.hide D) H' S' ∧ H' D = some (.lst vs) ∧ RAs X.K (ρ'.hide D) H' acc vs ∧ acc.length ≤ i + 1 ∧
      Gd (RA X.K) X.K W σ ρ1 H1 Q ((lcM T tt me (wipeE env (own.map fun (q : Str × Nat) => q.2)) (xs.drop (i + 1)) acc S').bind fun ys S2 => newL fresh ys S2), fun H' h => ⟨xs.length - (i + 1), by omega, rfl, h⟩, fun x H3 y => ?_⟩
    obtain ⟨s3, rs3, ra⟩ := hy x H3 y
    have q13 : Stq ρ1 H1 (ρ2.hide D) H3 := q12.trans s3.q
    have hD3 : H3 D = some (.lst vs) := s3.keepHid rs2 hD2 rfl
    have racc3 := racc.upq s3.q
    have s13 : Stp ρ1 H1 ρ2 H3 := s2.trans ⟨⟨[], (Rho.add_nil _).symm, fun _ z => nomatch z⟩, s3.keep, s3.read⟩
    have g3 : Gd (RA X.K) X.K W σ ρ1 H1 Q ((orBad (asg T xs[i] (wipeE env (own.map fun (q : Str × Nat) => q.2))) fun env1 => (Mi.noX (tt env1 S2)).bind fun k S1 => match k with
      | true => (Mi.noX (me env1 S1)).bind fun y S2 => lcM T tt me (wipeE env (own.map fun (q : Str × Nat) => q.2)) (xs.drop (i + 1)) (acc ++ [y]) S2
      | false => lcM T tt me (wipeE env (own.map fun (q : Str × Nat) => q.2)) (xs.drop (i + 1)) acc S1).bind fun ys S2 => newL fresh ys S2) := g2
    cases e3 : asg T xs[i] (wipeE env (own.map fun (q : Str × Nat) => q.2)) with
    | none => rw [e3] at g3; exact g3.elim
    | some env3 =>
      rw [e3] at g3
      refine tg_ok (rw1.upq q13) ra e3 fun σ3 re3 hw3 => ⟨(hw3 _ hix).trans (wipe_wipe σ _), ?_⟩
      have assoc : ∀ {α β γ : Type} (r : R α) (k : α → Sto → R β) (l : β → Sto → R γ), (r.bind k).bind l = r.bind fun a S => (k a S).bind l := fun r k l => by cases r <;> rfl
      have g4 : Gd (RA X.K) X.K W σ ρ1 H1 Q ((Mi.noX (tt env3 S2)).bind fun k S1 => (match k with
        | true => (Mi.noX (me env3 S1)).bind fun y S2 => lcM T tt me (wipeE env (own.map fun (q : Str × Nat) => q.2)) (xs.drop (i + 1)) (acc ++ [y]) S2
        | false => lcM T tt me (wipeE env (own.map fun (q : Str × Nat) => q.2)) (xs.drop (i + 1)) acc S1).bind fun ys S2 => newL fresh ys S2) := by
        rw [← assoc]
        exact g3
      refine ⟨ρ2.hide D, env3, S2, rs3, re3, (Gd.noX (Rl := fun _ _ a b => a = b) g4).imp fun k' H4 h4 => ?_⟩
      obtain ⟨ρ4, k, S4, s4, rs4, hk, g5⟩ := h4
      subst hk
      obtain ⟨ρ4, rfl, s4'⟩ := s4.hideEq
      have hD4 : H4 D = some (.lst vs) := s4.keepHid rs3 hD3 rfl
      have racc4 := racc3.upq s4.q
      have s14 := s13.trans s4'
      cases k with
      | false => exact ⟨hlt, ρ4, S4, acc, vs, s14, rs4, hD4, racc4, Nat.le_succ_of_le hacc, g5⟩
      | true =>
        have g6 : Gd (RA X.K) X.K W σ ρ1 H1 Q ((Mi.noX (me env3 S4)).bind fun y S2 => (lcM T tt me (wipeE env (own.map fun (q : Str × Nat) => q.2)) (xs.drop (i + 1)) (acc ++ [y]) S2).bind fun ys S2 => newL fresh ys S2) := by
          rw [← assoc]
          exact g5
        refine ⟨ρ4.hide D, env3, S4, rs4, re3.upq s4.q, (Gd.noX (Rl := RA X.K) g6).imp fun yv H5 h5 => ?_⟩
        obtain ⟨ρ5, b, S5, s5, rs5, rb, g7⟩ := h5
        obtain ⟨ρ5, rfl, s5'⟩ := s5.hideEq
        have hD5 : H5 D = some (.lst vs) := s5.keepHid rs4 hD4 rfl
        have racc5 := racc4.upq s5.q
        refine ⟨vs, hD5, ?_, hlt, ρ5, S5, acc ++ [b], vs ++ [yv], (s14.trans s5').mutNew hD, rs5.hidW, upd_same, (racc5.append (.cons rb .nil)).upq Stq.hid, by rw [List.length_append]; show acc.length + 1 ≤ i + 1; omega, g7⟩
        rw [← racc5.length]
        exact Nat.lt_of_lt_of_le (show acc.length < 10000000 by omega) line7
  · have ei : i = xs.length := by omega
    subst ei
    rw [List.drop_length] at g2
    refine .inl ⟨w2 (by simp), ?_⟩
    have nhi : D ∉ ρ2.hi := by
      rw [s2.hi_eq]
      exact fun z => rs1.free hD (.inr z)
    cases fresh with
    | true => exact Gd.fin1 g2 (s2.addN hD) (rs2.num1 nhi (.lst hD2 (racc.upq Stq.num1))) (.loc (newNum rs2.len))
    | false => exact Gd.fin1 g2 s2 rs2.show (.lst hD2 (fun z => z.elim (rs2.hid D List.mem_cons_self).2 nhi) (racc.upq Stq.show))
theorem se_lc (fresh : Bool) (own : List (Str × Nat)) (T : Tg) (hc : X.calm = true) (hN : X.N.Nodup) (hi : SI X W tg iter mi) (ok : BlkOk X.N X.env.scope scope own)
    (hg : ∀ (s : Shared) (H : Hp) (C : Addr) (cl : List (Str × Addr)) (fp : List Addr), PG (X.blk s H scope (compEnvC scope cl C X.env) fp) tg (tgG X.K T))
    (ht : ∀ (s : Shared) (H : Hp) (C : Addr) (cl : List (Str × Addr)) (fp : List Addr), PTs (X.blk s H scope (compEnvC scope cl C X.env) fp) ifs (tT X.K W0 tt))
    (he : ∀ (s : Shared) (H : Hp) (C : Addr) (cl : List (Str × Addr)) (fp : List Addr), PE (X.blk s H scope (compEnvC scope cl C X.env) fp) elt (tE X.K W0 me))
    (hix : ∀ i ∈ tgIx T, i ∈ own.map fun (q : Str × Nat) => q.2 := by decide) (hs : ∀ x, foldedSetIterable iter X.env x = pure x := by intro _; rfl) :
    SE X W (.ListComp elt [⟨tg, iter, ifs, 0⟩] scope pos) (eLc fresh (own.map fun (q : Str × Nat) => q.2) T mi tt me) := wkE (pe_lc hc hN hi ok hg ht he hs) fun σ H Q h => lc_up fresh hix h
/-- y = [.. for ..], y a local, on one line -/
theorem ss_setLc (i : Nat) (fresh : Bool) (own : List (Str × Nat)) (T : Tg) {y : Str} {py spos : Pos} (hc : X.calm = true) (hN : X.N.Nodup) (hy : X.N[i]? = some y) (hyl : X.env.scope.names.lookup y = some .local)
    (hsw : swapsWith (.ListComp elt [⟨tg, iter, ifs, 0⟩] scope pos) (some (.Name y py)) spos.line X.env = pure true) (hi : SI X W tg iter mi) (ok : BlkOk X.N X.env.scope scope own)
    (hg : ∀ (s : Shared) (H : Hp) (C : Addr) (cl : List (Str × Addr)) (fp : List Addr), PG (X.blk s H scope (compEnvC scope cl C X.env) fp) tg (tgG X.K T))
    (ht : ∀ (s : Shared) (H : Hp) (C : Addr) (cl : List (Str × Addr)) (fp : List Addr), PTs (X.blk s H scope (compEnvC scope cl C X.env) fp) ifs (tT X.K W0 tt))
    (he : ∀ (s : Shared) (H : Hp) (C : Addr) (cl : List (Str × Addr)) (fp : List Addr), PE (X.blk s H scope (compEnvC scope cl C X.env) fp) elt (tE X.K W0 me))
    (hix : ∀ i ∈ tgIx T, i ∈ own.map fun (q : Str × Nat) => q.2 := by decide) (hs : ∀ x, foldedSetIterable iter X.env x = pure x := by intro _; rfl) :
    SS X W (.Assign [.Name y py] (.ListComp elt [⟨tg, iter, ifs, 0⟩] scope pos) spos) (sAsg (.nm i) (eLc fresh (own.map fun (q : Str × Nat) => q.2) T mi tt me)) :=
  wkS (ps_setLc hc hN hy hyl hsw hi ok hg ht he hs) fun D σ H h => lc_up fresh hix (asg_up h)
end
end Mi
set_option Elab.async false
set_option linter.all false
set_option maxRecDepth 100000
set_option maxHeartbeats 2000000
/-! Mi6: pairs, fields, stores, globals, calls of own defs. -/
namespace Mi
open PySem PySem.Spec PyProof.Rows
open L2
section
variable {X : Cx} {W : WX} {e o ix : Expr} {m mo mi mv : EM} {pos pos' tpos : Pos} {g : OM} {f c : Str}
theorem ss_par (i j : Nat) {x y : Str} {a b : Expr} {m : AM} {px py pt : Pos} {kt k2 pt2} (hc : X.calm = true) (hN : X.N.Nodup) (hi : X.N[i]? = some x) (hj : X.N[j]? = some y) (hij : i ≠ j)
    (hx : X.env.scope.names.lookup x = some .local) (hy : X.env.scope.names.lookup y = some .local) (ha : SA X W [a, b] m)
    (hw : swappedStores [.Tuple [.Name x px, .Name y py] kt pt] (.Tuple [a, b] k2 pt2) X.env = pure (some [x, y]))
    (hs : swapsWithSole [.Tuple [.Name x px, .Name y py] kt pt] (.Tuple [a, b] k2 pt2) pos.line X.env = pure false := by rfl) :
    SS X W (.Assign [.Tuple [.Name x px, .Name y py] kt pt] (.Tuple [a, b] k2 pt2) pos) (sPar i j m) :=
  wkS (ps_par hc hN hi hj hij hx hy ha hw hs) fun D σ H ⟨ρ, env, S, rs, re, g⟩ => tX.bindS rs re g fun ρ1 H1 as vs S1 s1 rs1 re1 ras g1 => by
    split at g1
    · cases ras with
      | cons r1 rr =>
        cases rr with
        | cons r2 rr =>
          cases rr
          exact ⟨_, _, rfl, g1 ρ1 H1 _ Stp.refl rs1 ((re1.set i r1).set j r2)⟩
    · exact g1.elim
/-- x op= e -/
def IpS (X : Cx) (W : WX) (op : Operator) (g : OM) : Prop := ∃ t : TIp, PIp X op t ∧ ∀ σ ρ H S a b v w Q, RS X.K ρ H S → RA X.K ρ H a v → RA X.K ρ H b w → Gd (RA X.K) X.K W σ ρ H Q (g a b S) → t v w H Q
def iAdd : OM
  | .int i, .int j, S => .ok (.int (i + j)) S
  | .str a, .str b, S => if a.length + b.length ≤ 10000000 then .ok (.str (a ++ b)) S else .bad
  | _, _, _ => .bad
def iSub : OM
  | .int i, .int j, S => .ok (.int (i - j)) S
  | _, _, _ => .bad
theorem i_add : IpS X W .Add iAdd := ⟨fun x y H Q => (ipI (fun i j => i + j) x y H Q) ∨ (∃ i j, x = .str i ∧ y = .str j ∧ i.length + j.length ≤ sizeLine ∧ Q (.str (i ++ j)) H),
  fun pins s σ H x y v u Q I rx ry q => q.elim (ip_add pins s σ H x y v u Q I rx ry) (iop_add_str pins s σ H x y v u Q I rx ry), fun σ ρ H S a b v w Q rs ra rb g => by
  unfold iAdd at g
  split at g
  · cases ra
    cases rb
    exact .inl ⟨_, _, rfl, rfl, g.fin rs (.int _)⟩
  · cases ra
    cases rb
    obtain ⟨h, g1⟩ := Gd.ite g
    exact .inr ⟨_, _, rfl, rfl, Nat.le_trans h line7, g1.fin rs (.str _)⟩
  · exact g.elim⟩
theorem i_sub : IpS X W .Sub iSub := ⟨_, ip_sub, fun σ ρ H S a b v w Q rs ra rb g => by
  unfold iSub at g
  split at g
  · cases ra
    cases rb
    exact ⟨_, _, rfl, rfl, g.fin rs (.int _)⟩
  · exact g.elim⟩
theorem ss_aug (i : Nat) {x : Str} {op : Operator} (hN : X.N.Nodup) (hi : X.N[i]? = some x) (hx : Loc X.env.scope x) (he : SE X W e m) (ho : IpS X W op g)
    (hf : X.fn x = true ∨ X.env.scope.names.lookup x = some .local := by first | exact .inl rfl | exact .inr rfl | assumption) : SS X W (.AugAssign (.Name x pos') op e pos) (sAug i g m) := by
  obtain ⟨t, h1, h2⟩ := ho
  refine wkS (ps_aug hN hi hx he h1 hf) fun D σ H ⟨ρ, env, S, rs, re, q⟩ => ?_
  unfold sAug at q
  split at q
  · rename_i a ea
    obtain ⟨v, ev, ra⟩ := re.at_ i a ea
    refine ⟨v, ev, tX.bindS rs re q fun ρ1 H1 b w S1 s1 rs1 re1 rb q1 => h2 σ ρ1 H1 S1 a b v w _ rs1 (ra.up s1) rb ((GS.bind (Rl := RA X.K) re1 q1).imp fun z H2 ⟨ρ2, d, S2, s2, rs2, rd, q2⟩ => ?_)⟩
    exact q2 ρ2 H2 _ Stp.refl rs2 ((re1.up s2).set i rd)
  · exact q.elim
/-! ### fields -/
def fldV (S : Sto) (c f : Str) : A → Option A
  | .obj c' fs => if c' = c then fs.lookup f else none
  | .loc n => match S[n]? with
    | some (.ins c' fs) => if c' = c then fs.lookup f else none
    | _ => none
  | _ => none
def eFld (c f : Str) (m : EM) : EM := fun env S => (m env S).bind fun a S1 => orBad (fldV S1 c f a) fun v => .ok v S1
theorem RAf.put {K : PySem.W.Frag} {ρ : Rho} {H : Hp} {a : A} {v : V} (r : RA K ρ H a v) : ∀ {fs : List (Str × A)} {gs : List (Str × V)}, RAf K ρ H fs gs → RAf K ρ H (putA f a fs) (putF f v gs)
  | _, _, .nil => .cons r .nil
  | _, _, .cons (f := g) h t => by
    unfold putA putF
    by_cases hg : g = f
    · rw [if_pos hg, if_pos hg]
      exact .cons r t
    · rw [if_neg hg, if_neg hg]
      exact .cons h (RAf.put r t)
theorem fld_of {K : PySem.W.Frag} {ρ : Rho} {H : Hp} {S : Sto} {a b : A} {v : V} (rs : RS K ρ H S) (r : RA K ρ H a v) (e : fldV S c f a = some b) : ∃ p dx gs w, v = .ref p ∧ H p = some (.ins (He.ga K c) dx gs) ∧ gs.lookup f = some w ∧ RA K ρ H b w := by
  cases r with
  | obj h n rf =>
    simp only [fldV] at e
    split at e
    · rename_i ec
      subst ec
      obtain ⟨w, h1, h2⟩ := rf.look e
      exact ⟨_, _, _, w, rfl, h, h1, h2⟩
    · cases e
  | loc hp =>
    simp only [fldV] at e
    split at e
    · rename_i c' fs es
      split at e
      · rename_i ec
        subst ec
        cases rs.at_ _ _ _ hp es with
        | ins h rf =>
          obtain ⟨w, h1, h2⟩ := rf.look e
          exact ⟨_, _, _, w, rfl, h, h1, h2⟩
      · cases e
    · cases e
  | _ => cases e
theorem se_fld (c f : Str) (hcl : Cls X.K (He.ga X.K c)) (hno : NoAttr X.K (He.ga X.K c) f) (he : SE X W e m) (hb : attributeBase e f X.env (eval e X.env) = eval e X.env := by rfl) : SE X W (.Attribute e f pos) (eFld c f m) :=
  wkE (pe_fld he hb) fun σ H Q ⟨ρ, env, S, rs, re, q⟩ => tX.bind rs re q fun ρ1 H1 a v S1 s1 rs1 re1 ra q1 => by
    obtain ⟨b, eb, q2⟩ := q1.orBad
    obtain ⟨p, dx, gs, w, rfl, h1, h2, rb⟩ := fld_of rs1 ra eb
    exact ⟨p, _, dx, gs, w, rfl, h1, hcl, hno, h2, q2.fin rs1 rb⟩
/-- o.f = e -/
def sSetF (c f : Str) (mo mv : EM) : SM := fun env S => (mv env S).thenS env fun b S1 => (mo env S1).thenS env fun a S2 => match a with
  | .loc n => match S2[n]? with
    | some (.ins c' fs) => if c' = c ∧ fs.length < 1000 then .nx env (S2.set n (.ins c (putA f b fs))) else .bad
    | _ => .bad
  | _ => .bad
theorem GS.ite {K : PySem.W.Frag} {D : Ends} {ρ : Rho} {H : Hp} {C : Prop} [Decidable C] {r : SR} (g : GS K W D ρ H (if C then r else .bad)) : C ∧ GS K W D ρ H r := by
  by_cases h : C
  · rw [if_pos h] at g
    exact ⟨h, g⟩
  · rw [if_neg h] at g
    exact g.elim
theorem ss_setF (c f : Str) (hcl : Cls X.K (He.ga X.K c)) (hno : NoAttr X.K (He.ga X.K c) f) (ho : SE X W o mo) (hv : SE X W e mv)
    (hs : swapsWith e (some (.Attribute o f pos')) pos.line X.env = pure false := by rfl) : SS X W (.Assign [.Attribute o f pos'] e pos) (sSetF c f mo mv) :=
  wkS (ps_fld ho hv hs) fun D σ H ⟨ρ, env, S, rs, re, q⟩ => tX.bindS rs re q fun ρ1 H1 b w S1 s1 rs1 re1 rb q1 => tX.bindS rs1 re1 q1 fun ρ2 H2 a v S2 s2 rs2 re2 ra q2 => by
    split at q2
    · rename_i n
      split at q2
      · rename_i c' fs es
        obtain ⟨⟨rfl, hl⟩, q3⟩ := GS.ite q2
        cases ra with
        | loc hp =>
          cases rs2.at_ _ _ _ hp es with
          | ins h rf =>
            have hm := Rho.get_nu hp
            have r2 := RAf.put (f := f) (rb.up s2) rf
            exact ⟨_, _, _, _, rfl, h, hcl, hno, by rw [← rf.length]; exact hl, q3 ρ2 _ σ (Stp.wr hm) (rs2.wr hp (.ins upd_same (r2.up (Stp.wr hm)))) (re2.up (Stp.wr hm))⟩
      · exact q2.elim
    · exact q2.elim
/-- o.f op= e -/
def sAugF (c f : Str) (g : OM) (mo mv : EM) : SM := fun env S => (mo env S).thenS env fun a S1 => match a with
  | .loc n => orBadS (fldV S1 c f (.loc n)) fun x => (mv env S1).thenS env fun b S2 => (g x b S2).thenS env fun y S3 => match S3[n]? with
    | some (.ins c' fs) => if c' = c ∧ fs.length < 1000 then .nx env (S3.set n (.ins c (putA f y fs))) else .bad
    | _ => .bad
  | _ => .bad
theorem ss_augF (c f : Str) {op : Operator} (hcl : Cls X.K (He.ga X.K c)) (hno : NoAttr X.K (He.ga X.K c) f) (ho : SE X W o mo) (hv : SE X W e mv) (hop : IpS X W op g) : SS X W (.AugAssign (.Attribute o f tpos) op e pos) (sAugF c f g mo mv) := by
  obtain ⟨t, h1, h2⟩ := hop
  refine wkS (ps_fldaug (rd := t) ho hv fun pins s σ H x y u v Q I rx ry q => h1 pins s σ H x y u v Q I rx ry q) fun D σ H ⟨ρ, env, S, rs, re, q⟩ => tX.bindS rs re q fun ρ1 H1 a v S1 s1 rs1 re1 ra q1 => ?_
  split at q1
  · rename_i n
    obtain ⟨x, ex, q2⟩ := GS.orBad q1
    obtain ⟨p, dx, gs, w, rfl, e1, e2, rx⟩ := fld_of rs1 ra ex
    cases ra with
    | loc hp =>
      refine ⟨p, _, dx, gs, w, rfl, e1, hcl, hno, e2, tX.bindS rs1 re1 q2 fun ρ2 H2 b u S2 s2 rs2 re2 rb q3 => h2 σ ρ2 H2 S2 x b w u _ rs2 (rx.up s2) rb ((GS.bind (Rl := RA X.K) re2 q3).imp fun z H3 ⟨ρ3, y, S3, s3, rs3, ry, q4⟩ => ?_)⟩
      dsimp only at q4
      split at q4
      · rename_i c' fs es
        obtain ⟨⟨rfl, hl⟩, q5⟩ := GS.ite q4
        have hp3 := s3.num (s2.num hp)
        cases rs3.at_ _ _ _ hp3 es with
        | ins h rf =>
          have hm := Rho.get_nu hp3
          have r2 := RAf.put (f := f) ry rf
          have re3 := re2.up s3
          exact ⟨_, _, h, by rw [← rf.length]; exact hl, q5 ρ3 _ σ (Stp.wr hm) (rs3.wr hp3 (.ins upd_same (r2.up (Stp.wr hm)))) (re3.up (Stp.wr hm))⟩
      · exact q4.elim
  · exact q1.elim
/-- o[i] = e, a list with a number -/
def sSetI (mo mi mv : EM) : SM := fun env S => (mv env S).thenS env fun b S1 => (mo env S1).thenS env fun a S2 => (mi env S2).thenS env fun i S3 => match a, i with
  | .loc n, .int k => match S3[n]? with
    | some (.lst xs) => orBadS (ixN xs.length k) fun j => .nx env (S3.set n (.lst (xs.set j b)))
    | _ => .bad
  | _, _ => .bad
theorem ss_setI (ho : SE X W o mo) (hi : SE X W ix mi) (hv : SE X W e mv)
    (ha : ∀ v, assign (.Subscript o ix pos') X.env v = (do
      let ov ← holding [v] (eval o X.env)
      let iv ← holding [v, ov] (eval ix X.env)
      standAt pos'
      holding [v, ov, iv] (setItem ov iv v)
      release [v, ov, iv] []) := by intro _; rfl)
    (hs : swapsWithSole [.Subscript o ix pos'] e pos.line X.env = pure false := by rfl) (hw : swappedStores [.Subscript o ix pos'] e X.env = pure none := by rfl)
    (h1 : (assignEach [.Subscript o ix pos'] X.env).map (·.2) = [assign (.Subscript o ix pos') X.env] := by rfl) : SS X W (.Assign [.Subscript o ix pos'] e pos) (sSetI mo mi mv) :=
  wkS (ps_asg hv (pg_sub ho hi set_list ha) hs hw h1) fun D σ H ⟨ρ, env, S, rs, re, q⟩ => tX.bindS rs re q fun ρ1 H1 b w S1 s1 rs1 re1 rb q1 => tX.bindS rs1 re1 q1 fun ρ2 H2 a v S2 s2 rs2 re2 ra q2 => tX.bindS rs2 re2 q2 fun ρ3 H3 i u S3 s3 rs3 re3 ri q3 => by
    split at q3
    · rename_i n k
      split at q3
      · rename_i xs es
        obtain ⟨j, ej, q4⟩ := GS.orBad q3
        cases ra with
        | loc hp =>
          cases ri with
          | int i =>
            have hp3 := s3.num hp
            cases rs3.at_ _ _ _ hp3 es with
            | lst h rl =>
              have hm := Rho.get_nu hp3
              have r2 := RAs.set j rl ((rb.up s2).up s3)
              exact ⟨_, _, _, j, rfl, rfl, h, by rw [← rl.length]; exact ej, q4 ρ3 _ σ (Stp.wr hm) (rs3.wr hp3 (.lst upd_same (r2.up (Stp.wr hm)))) (re3.up (Stp.wr hm))⟩
      · exact q3.elim
    · exact q3.elim
/-! ### globals, texts in braces, truth -/
theorem se_glob {x : Str} {a : A} {v : V} {u : Value} (hg : Gl X x) (hm : X.mg x = some u) (r : RelV v u) (ra : ∀ ρ H, RA X.K ρ H a v) (hd : (x == ("__debug__" : Str)) = false := by decide) : SE X W (.Name x pos) (eC a) := se_c (pe_glob hg hm r hd) ra
def eFmt (m : EM) : EM := fun env S => (m env S).bind fun a S1 => match a with
  | .str y => if y.length ≤ 10000000 then .ok (.str y) S1 else .bad
  | .int i => if i.natAbs.log2 < 1920 then .ok (.str (toString i)) S1 else .bad
  | _ => .bad
theorem se_fmt (he : SE X W e m) : SE X W (.FormattedValue e (-1) none pos) (eFmt m) := wkE (pe_fmt he) fun σ H Q ⟨ρ, env, S, rs, re, q⟩ => tX.bind rs re q fun ρ1 H1 a v S1 s1 rs1 re1 ra q1 => by
  cases ra with
  | str y =>
    obtain ⟨h, q2⟩ := Gd.ite q1
    exact .inl ⟨y, rfl, Nat.le_trans h line7, q2.fin rs1 (.str _)⟩
  | int i =>
    obtain ⟨h, q2⟩ := Gd.ite q1
    exact .inr ⟨i, rfl, h, q2.fin rs1 (.str _)⟩
  | _ => exact q1.elim
def jsM : List EM → Str → EM
  | [], acc => fun _ S => .ok (.str acc) S
  | m :: ms, acc => fun env S => (m env S).bind fun a S1 => match a with
    | .str y => if (acc ++ y).length ≤ 10000000 then jsM ms (acc ++ y) env S1 else .bad
    | _ => .bad
abbrev SJ (X : Cx) (W : WX) (es : List Expr) (ms : List EM) : Prop := PJ X es (ms.map (tE X.K W))
theorem js_up : ∀ (ms : List EM) (acc : Str) {σ : L2.St} {ρ : Rho} {H : Hp} {S : Sto} {env : Mi.Env} {Q : VK}, RS X.K ρ H S → RE X.K ρ H env σ → Gd (RA X.K) X.K W σ ρ H Q (jsM ms acc env S) → tJs (ms.map (tE X.K W)) acc σ H fun out H1 => Q (.str out) H1
  | [], acc, σ, ρ, H, S, env, Q, rs, re, q => q.fin rs (.str _)
  | m :: ms, acc, σ, ρ, H, S, env, Q, rs, re, q => tX.bind rs re q fun ρ1 H1 a v S1 s1 rs1 re1 ra q1 => by
    cases ra with
    | str y =>
      obtain ⟨h, q2⟩ := Gd.ite q1
      exact ⟨y, rfl, Nat.le_trans h line7, js_up ms _ rs1 re1 q2⟩
    | _ => exact q1.elim
theorem se_joined {v1 v2 : Expr} {rest : List Expr} {ms : List EM} (h : SJ X W (v1 :: v2 :: rest) ms) : SE X W (.JoinedStr (v1 :: v2 :: rest) pos) (jsM ms Str.empty) := wkE (pe_joined h) fun σ H Q ⟨ρ, env, S, rs, re, q⟩ => js_up ms _ rs re q
/-- a value's truth -/
def truA (S : Sto) : A → Option Bool
  | .non => some false
  | .bl b => some b
  | .int i => some (i != 0)
  | .str y => if y.length ≤ 10000000 then some ((y.length : Int) != 0) else none
  | .tup xs => some (!xs.isEmpty)
  | a => (lstOf S a).map fun xs => !xs.isEmpty
def tTru (m : EM) : TM := fun env S => (m env S).bind fun a S1 => orBad (truA S1 a) fun b => .ok b S1
theorem ras_empty {K : PySem.W.Frag} {ρ : Rho} {H : Hp} {xs : List A} {vs : List V} (r : RAs K ρ H xs vs) : xs.isEmpty = vs.isEmpty := by
  cases r <;> rfl
theorem st_tru (ha : SE X W e m) (he : ∀ whole, isTrue e X.env whole = (do let v ← whole; standAt e.pos; holding [v] (truthy v)) := by intro _; rfl) : ST X W e (tTru m) := wkT (pt_truth ha he) fun σ H Q ⟨ρ, env, S, rs, re, q⟩ => tX.bind rs re q fun ρ1 H1 a v S1 s1 rs1 re1 ra q1 => by
  obtain ⟨b, eb, q2⟩ := q1.orBad
  refine ⟨b, ?_, q2.fin rs1 rfl⟩
  have lists : (lstOf S1 a).map (fun xs => !xs.isEmpty) = some b → TruV X.K v H1 b := fun eb => by
    obtain ⟨xs, ex, rfl⟩ := Option.map_eq_some_iff.mp eb
    obtain ⟨p, vs, rfl, h, r⟩ := lst_of rs1 ra ex
    exact .inl ⟨vs, h, by rw [ras_empty r]⟩
  cases ra with
  | non => exact (Option.some.inj eb).symm
  | bl b => exact (Option.some.inj eb).symm
  | int i => exact (Option.some.inj eb).symm
  | str y =>
    simp only [truA] at eb
    split at eb
    · rename_i h
      exact ⟨Nat.le_trans h line7, (Option.some.inj eb).symm⟩
    · cases eb
  | tup h r => exact .inr (.inl ⟨_, h.sq, by rw [← ras_empty r]; exact (Option.some.inj eb).symm⟩)
  | lst h n r => exact lists eb
  | scr h => exact lists eb
  | loc h => exact lists eb
  | _ => cases eb
/-- the tests of a comprehension -/
abbrev STs (X : Cx) (W : WX) (es : List Expr) (m : TM) : Prop := PTs X es (tT X.K W m)
theorem sts_nil : STs X W [] tYesM := ⟨fun pins s σ H Q I ⟨ρ, env, S, rs, re, q⟩ => pts_nil.run pins s σ H Q I (q.fin rs rfl)⟩
theorem sts_one {mt : TM} (h : ST X W e mt) : STs X W [e] mt := pts_one h
end
theorem sj_nil {X : Cx} {W : WX} : SJ X W [] [] := .nil
theorem sj_cons {X : Cx} {W : WX} {e : Expr} {es : List Expr} {m : EM} {ms : List EM} (h : SE X W e m) (r : SJ X W es ms) : SJ X W (e :: es) (m :: ms) := .cons h r
/-! ### own defs -/
/-- the def at f does what fm says -/
structure FnG (P : Program) (w : World) (K : PySem.W.Frag) (mg : Str → Option Value) (base : Heap) (k : Nat) (f : Addr) (fd : FuncData) (ps : List Str) (fm : FM) : Prop where
  len : ∀ as S, as.length ≠ ps.length → fm as S = .bad
  run : ∀ (A : Around) (outer : List PySem.Env) (s : Shared) (H : Hp) (args : Args) (us : List Value) (vs : List V) (Q : VK) (E : XK), Room k A → A.guards = some [] → Env0 P w K mg base A outer s H → BindsTo s fd args (ps.zip us) → Vals vs us →
    (∃ ρ as S, RS K ρ H S ∧ RAs K ρ H as vs ∧ Gd (RA K) K (fun c d _ H' => E c d H') [] ρ H Q (fm as S)) → codeAny (model P w) A (.call (.ref f) args) (CR (L2.CX P w) outer P w H s Q E) s
def fnM (np n : Nat) (m : SM) : FM := fun as S => if as.length = np then match m (as.map some ++ List.replicate (n - as.length) none) S with
  | .nx _ S1 => .ok .non S1
  | .rt a S1 => .ok a S1
  | .exn c fs _ S1 => .exn c fs S1
  | _ => .bad else .bad
theorem RE.start {K : PySem.W.Frag} {ρ : Rho} {H : Hp} {as : List A} {vs : List V} (r : RAs K ρ H as vs) (n : Nat) : RE K ρ H (as.map some ++ List.replicate n none) (vs.map some ++ List.replicate n none) := ⟨by simp [r.length], fun i a e => by
  by_cases hi : i < as.length
  · rw [List.getElem?_append_left (by simpa using hi), List.getElem?_map] at e
    cases q : as[i]? with
    | none => rw [q] at e; cases e
    | some b =>
      rw [q] at e
      cases e
      obtain ⟨v, h1, h2⟩ := r.get q
      exact ⟨v, by rw [List.getElem?_append_left (by rw [List.length_map, ← r.length]; exact hi), List.getElem?_map, h1]; rfl, h2⟩
  · rw [List.getElem?_append_right (by simpa using hi), List.getElem?_replicate] at e
    split at e <;> cases e⟩
section
variable {P : Program} {w : World} {K : PySem.W.Frag} {mg : Str → Option Value} {base : Heap} {j k : Nat} {f : Addr} {fd : FuncData} {ps N : List Str} {fm : FM} {x qual : Str} {params : Arguments} {body : List Stmt} {scope : Scope} {dvs : List V} {kws : List (Str × V)} {m : SM}
theorem FnG.mono (F : FnG P w K mg base j f fd ps fm) (h : j ≤ k) : FnG P w K mg base k f fd ps fm := ⟨F.len, fun A outer s H args us vs Q E hr => F.run A outer s H args us vs Q E (hr.mono h)⟩
theorem fnG_bad : FnG P w K mg base k f fd ps (fun _ _ => .bad) := ⟨fun _ _ _ => rfl, fun A outer s H args us vs Q E _ _ _ _ _ ⟨ρ, as, S, _, _, q⟩ => q.elim⟩
/-- the context of a def's body -/
abbrev BX (P : Program) (w : World) (K : PySem.W.Frag) (mg : Str → Option Value) (base : Heap) (N : List Str) (qual : Str) (scope : Scope) (f : Addr) (cdv : Value) (A : Around) (outer : List PySem.Env) (s : Shared) (H : Hp) (E : XK) : Cx := cxOf (L2.CX P w) P w K mg base N qual scope f cdv A outer s H E
abbrev WE (E : XK) : WX := fun c d _ H => E c d H
theorem fnG_of (F : FunD K x qual params body scope dvs kws f fd) (sc : FnScope N ps scope)
    (hbody : ∀ (cdv : Value) (A : Around) (outer : List PySem.Env) (s : Shared) (H : Hp) (E : XK), Room k (A.deeper (envOfC qual scope s.heap.objs.size f cdv)) → A.guards = some [] → SSs (BX P w K mg base N qual scope f cdv A outer s H E) (WE E) body m) :
    FnG P w K mg base (k + 1) f fd ps (fnM ps.length N.length m) := by
  refine ⟨fun as S h => if_neg h, fun A outer s H args us vs Q E hr hgd e0 hb rv q => ?_⟩
  obtain ⟨ρ, as, S, rs, ras, q⟩ := q
  have hl : as.length = ps.length := by
    by_cases h : as.length = ps.length
    · exact h
    · have e : fnM ps.length N.length m as S = .bad := if_neg h
      rw [e] at q
      exact q.elim
  have hv : vs.length = ps.length := by rw [← ras.length]; exact hl
  obtain ⟨oc, od, dV, kV, doc, pm, an, cdv, ct, osl, rfl, lk, hcd, _, _⟩ := F.ex
  have KX : K.In s.heap := e0.mod.kin.keeps fun b o e => (e0.bs b o e).1
  have lim : s.heap.NoLimit := e0.mod.nolimit.keeps fun b o e => (e0.bs b o e).1
  have kinds : ∀ y ∈ ps.zip us, scope.names.lookup y.1 = some .local ∨ (scope.names.lookup y.1 = some .cell ∧ ((cellsFrom (s.heap.objs.size + 1) scope.names []).lookup y.1).isSome = true) := fun y hy =>
    (sc.par y.1 (List.of_mem_zip (a := y.1) (b := y.2) hy).1).imp id fun z => ⟨z, PySem.W.cellsFrom_some _ _ _ (.inl z)⟩
  refine codeAny_call_function hr.depth (KX _ _ lk) rfl sc.co sc.gen rfl (PySem.W.codeRec_of KX hcd) (hb _ _ _ _ ?_)
  refine wpAny_newFunctionEnv_cells sc.kind kinds fun env he s1 y => ?_
  subst he
  refine ⟨lim.keeps y.toInCall.keep, codeAny_func ?_⟩
  have I : Inv (BX P w K mg base N qual scope f cdv A outer s H E) [] (L2.start N vs) H s1 := inv_start sc hr.hd e0 hv rv y
  have q2 : GS K (WE E) { nx := fun _ H' => Q .non H', rt := Q } ρ H (m (as.map some ++ List.replicate (N.length - as.length) none) S) := by
    have e : fnM ps.length N.length m as S = match m (as.map some ++ List.replicate (N.length - as.length) none) S with
      | .nx _ S1 => .ok .non S1
      | .rt a S1 => .ok a S1
      | .exn c fs _ S1 => .exn c fs S1
      | _ => .bad := if_pos hl
    rw [e] at q
    cases em : m (as.map some ++ List.replicate (N.length - as.length) none) S with
    | nx e1 S1 =>
      rw [em] at q
      exact fun ρ' H' σ' t1 t2 _ => q ρ' H' .non t1 t2 .non
    | rt a S1 =>
      rw [em] at q
      exact q
    | exn c fs e1 S1 =>
      rw [em] at q
      exact fun ρ' H' σ' d t1 t2 _ t4 => q ρ' H' d t1 t2 t4
    | _ => rw [em] at q; exact q.elim
  have hn : N.length - vs.length = N.length - as.length := by rw [ras.length]
  have hrun := (hbody cdv A outer s H E (hr.deeper _) hgd).run [] s1 (L2.start N vs) H { nx := fun _ H' => Q .non H', rt := Q } I ⟨ρ, _, S, rs, by
    unfold L2.start
    rw [hn]
    exact RE.start ras _, q2⟩
  refine wpAny_mono hrun (fun fl s' hs => ?_) fun e s' hs => hs
  have fin : ∀ {σ' : L2.St} {H' : Hp} {v : V} {u : Value}, Inv (BX P w K mg base N qual scope f cdv A outer s H E) [] σ' H' s' → RelV v u → Q v H' → CE outer P w H s Q u s' :=
    fun {σ' H' v u} J rv q => ⟨v, H', J.os, J.bare, J.base, J.hok, rv, q⟩
  cases fl with
  | ret u => exact let ⟨v, σ', H', J, r, q⟩ := hs; fin J r q
  | next => exact let ⟨σ', H', J, q⟩ := hs; fin (v := V.non) (u := Value.none) J rfl q
  | brk => exact let ⟨_, _, _, q⟩ := hs; False.elim q
  | cont => exact let ⟨_, _, _, q⟩ := hs; False.elim q
end
/-! ### what a callee may let out -/
def PassG (X : Cx) (W : WX) : Prop := ∀ (pins : List (Addr × Obj)) (σ : L2.St) (H : Hp) (s : Shared) (e : Value) (s' : Shared), Inv X pins σ H s → L2.CX X.prog X.w X.stack H s (fun c d H' => W c d σ H') e s' → X.xe e s'
theorem passG_of {X : Cx} {W : WX} (tk : Takes X W) : PassG X W := fun pins σ H s e s' I c => tk e s' (XE.of_call I (fun _ _ _ h => h) c)
theorem passG_0 {X : Cx} : PassG X W0 := fun pins σ H s e s' I ⟨_, _, _, _, _, _, _, _, _, _, _, _, z⟩ => z.elim
section
variable {X : Cx} {W : WX} {k : Nat} {f : Addr} {fd : FuncData} {ps : List Str} {fm : FM} {dvs : List V} {ds : List Value} {das : List A}
/-- a default's value -/
def Das (K : PySem.W.Frag) (das : List A) (dvs : List V) (ds : List Value) : Prop := Vals dvs ds ∧ ∀ ρ H, RAs K ρ H das dvs
theorem das_nil {K : PySem.W.Frag} : Das K [] [] [] := ⟨.nil, fun _ _ => .nil⟩
theorem runG {pins : List (Addr × Obj)} {σ : L2.St} {ρ : Rho} {H : Hp} {s : Shared} {Q : VK} {us : List Value} {vs : List V} {as : List A} {S : Sto} (F : FnG X.prog X.w X.K X.mg X.base k f fd ps fm) (hr : Room k X.A) (hgd : X.A.guards = some []) (hb : Binds X.K fd ps ds)
    (hd : Das X.K das dvs ds) (hx : PassG X W) (I : Inv X pins σ H s) (r : Vals vs us) (rs : RS X.K ρ H S) (ras : RAs X.K ρ H as vs) (g : Gd (RA X.K) X.K W σ ρ H Q (fm (as ++ das) S)) :
    wpAny (model X.prog X.w) X.A (call (.ref f) us) (EP X pins σ Q) X.xe s := by
  have r2 : Vals (vs ++ dvs) (us ++ ds) := r.append hd.1
  have ras2 := ras.append (hd.2 ρ H)
  have hl : (us ++ ds).length = ps.length := by
    rw [← r2.length, ← ras2.length]
    by_cases h : (as ++ das).length = ps.length
    · exact h
    · rw [F.len _ S h] at g
      exact g.elim
  refine wpAny_call (codeAny_mono (F.run X.A X.stack s H ⟨us, []⟩ (us ++ ds) (vs ++ dvs) Q (fun c d H' => W c d σ H') hr hgd I.env0 (hb s us I.kIn hl) r2 ⟨ρ, as ++ das, S, rs, ras2, ?_⟩) fun r s' hq => ?_)
  · cases e : fm (as ++ das) S with
    | ok a S1 => rw [e] at g; exact g
    | exn c fs S1 => rw [e] at g; exact g
    | bad => rw [e] at g; exact g
  · cases r with
    | error e => exact hx pins σ H s e s' I hq
    | ok fl =>
      cases fl with
      | ret u => exact I.after hq
      | next => exact False.elim hq
      | brk => exact False.elim hq
      | cont => exact False.elim hq
end
/-- a global def that can be called with positional arguments -/
structure Cal (P : Program) (w : World) (K : PySem.W.Frag) (mg : Str → Option Value) (base : Heap) (k : Nat) (x : Str) (das : List A) (fm : FM) : Prop where
  ex : ∃ f fd ps dvs ds, mg x = some (.ref f) ∧ PySem.W.keepIn K (.ref f) = true ∧ Binds K fd ps ds ∧ Das K das dvs ds ∧ FnG P w K mg base k f fd ps fm
/-- a method of a class -/
structure Met (P : Program) (w : World) (K : PySem.W.Frag) (mg : Str → Option Value) (base : Heap) (k : Nat) (c x : Str) (das : List A) (fm : FM) : Prop where
  cls : Cls K (He.ga K c)
  ex : ∃ f fd ps dvs ds, Meth K (He.ga K c) x f ∧ Binds K fd ps ds ∧ Das K das dvs ds ∧ FnG P w K mg base k f fd ps fm
/-- a class that is made by its own __init__ -/
structure Mak (P : Program) (w : World) (K : PySem.W.Frag) (mg : Str → Option Value) (base : Heap) (k : Nat) (c : Str) (das : List A) (fm : FM) : Prop where
  glob : mg c = some (.ref (He.ga K c))
  ex : ∃ f fd ps dvs ds, Mk K (He.ga K c) f ∧ Binds K fd ps ds ∧ Das K das dvs ds ∧ FnG P w K mg base k f fd ps fm
def eFn (fm : FM) (das : List A) (m : AM) : EM := fun env S => (m env S).bind fun as S1 => fm (as ++ das) S1
/-- the receiver of a method: an instance of the class c without a field of that name -/
def rcv (S : Sto) (c x : Str) : A → Bool
  | .obj c' fs => decide (c' = c) && (fs.lookup x).isNone
  | .loc n => match S[n]? with
    | some (.ins c' fs) => decide (c' = c) && (fs.lookup x).isNone
    | _ => false
  | _ => false
def eMth (c x : Str) (fm : FM) (das : List A) (mo : EM) (m : AM) : EM := fun env S => (mo env S).bind fun a S1 => match rcv S1 c x a with
  | true => (m env S1).bind fun as S2 => fm (a :: (as ++ das)) S2
  | false => .bad
def eMk (c : Str) (fm : FM) (das : List A) (m : AM) : EM := fun env S => (m env S).bind fun as S1 => (fm (.loc S1.length :: (as ++ das)) (S1 ++ [.ins c []])).bind fun r S2 => match r with
  | .non => .ok (.loc S1.length) S2
  | _ => .bad
section
variable {X : Cx} {W : WX} {k k' : Nat} {x c : Str} {das : List A} {fm : FM} {e o : Expr} {es : List Expr} {m : AM} {mo : EM} {p pos apos : Pos}
theorem Cal.mono {P : Program} {w : World} {K : PySem.W.Frag} {mg : Str → Option Value} {base : Heap} (C : Cal P w K mg base k x das fm) (h : k ≤ k') : Cal P w K mg base k' x das fm := let ⟨f, fd, ps, dvs, ds, h1, h2, h3, h4, F⟩ := C.ex; ⟨f, fd, ps, dvs, ds, h1, h2, h3, h4, F.mono h⟩
theorem Met.mono {P : Program} {w : World} {K : PySem.W.Frag} {mg : Str → Option Value} {base : Heap} (C : Met P w K mg base k c x das fm) (h : k ≤ k') : Met P w K mg base k' c x das fm := let ⟨f, fd, ps, dvs, ds, h1, h3, h4, F⟩ := C.ex; ⟨C.cls, f, fd, ps, dvs, ds, h1, h3, h4, F.mono h⟩
theorem Mak.mono {P : Program} {w : World} {K : PySem.W.Frag} {mg : Str → Option Value} {base : Heap} (C : Mak P w K mg base k c das fm) (h : k ≤ k') : Mak P w K mg base k' c das fm := let ⟨f, fd, ps, dvs, ds, h1, h3, h4, F⟩ := C.ex; ⟨C.glob, f, fd, ps, dvs, ds, h1, h3, h4, F.mono h⟩
theorem se_fn (C : Cal X.prog X.w X.K X.mg X.base k x das fm) (hr : Room k X.A) (hgd : X.A.guards = some []) (hx : PassG X W) (hg : Gl X x) (ha : SA X W (e :: es) m) (hdb : (x == ("__debug__" : Str)) = false := by decide)
    (he : starEach (e :: es) X.env = (false, eval e X.env) :: starEach es X.env := by rfl) (hpl : (backTo pos (starEach es X.env)).any (·.1) = false := by rfl) : SE X W (.Call (.Name x p) (e :: es) [] pos) (eFn fm das m) := by
  obtain ⟨f, fd, ps, dvs, ds, hm, hk, hb, hd, F⟩ := C.ex
  refine ⟨fun pins s σ H Q I ⟨ρ, env, S, rs, re, g⟩ => ?_⟩
  refine wpAny_Call_Name_kw (ld_glob I hg hm ?_ hdb)
  refine PySem.W.callWith_K (h₀ := X.base) I.ok.mod.kin hk (thn (ha.run pos pins s σ H (At (RAs X.K) X.K ρ H fun ρ1 H1 as _ S1 => Gd (RA X.K) X.K W σ ρ1 H1 Q (fm (as ++ das) S1)) I ⟨ρ, env, S, rs, re, Gd.bind g⟩) fun us s1 ⟨vs, H1, I1, r, ρ1, as, S1, t1, rs1, ras, g1⟩ => ⟨I1.kIn, ?_⟩) he hpl
  exact runG F hr hgd hb hd hx I1 r rs1 ras g1
theorem se_fn0 (C : Cal X.prog X.w X.K X.mg X.base k x das fm) (hr : Room k X.A) (hgd : X.A.guards = some []) (hx : PassG X W) (hg : Gl X x) (hdb : (x == ("__debug__" : Str)) = false := by decide) : SE X W (.Call (.Name x p) [] [] pos) (eFn fm das aNil) := by
  obtain ⟨f, fd, ps, dvs, ds, hm, hk, hb, hd, F⟩ := C.ex
  refine ⟨fun pins s σ H Q I ⟨ρ, env, S, rs, re, g⟩ => ?_⟩
  refine wpAny_Call_Name_kw (ld_glob I hg hm ?_ hdb)
  exact PySem.W.callWith_K0 I.kIn hk (runG (us := []) (vs := []) (as := []) F hr hgd hb hd hx I .nil rs .nil g)
theorem RAf.lookN {K : PySem.W.Frag} {ρ : Rho} {H : Hp} {x : Str} : ∀ {fs : List (Str × A)} {gs : List (Str × V)}, RAf K ρ H fs gs → fs.lookup x = none → gs.lookup x = none
  | _, _, .nil, _ => rfl
  | _, _, .cons (f := f) _ t, h => by
    cases q : x == f with
    | true => simp only [List.lookup, q] at h; cases h
    | false =>
      simp only [List.lookup, q] at h ⊢
      exact RAf.lookN t h
theorem rcv_of {K : PySem.W.Frag} {ρ : Rho} {H : Hp} {S : Sto} {a : A} {v : V} (rs : RS K ρ H S) (r : RA K ρ H a v) (h : rcv S c x a = true) : ∃ q dx gs, v = .ref q ∧ H q = some (.ins (He.ga K c) dx gs) ∧ gs.lookup x = none := by
  cases r with
  | obj hh n rf =>
    simp only [rcv, Bool.and_eq_true, decide_eq_true_eq, Option.isNone_iff_eq_none] at h
    obtain ⟨rfl, h2⟩ := h
    exact ⟨_, _, _, rfl, hh, rf.lookN h2⟩
  | loc hp =>
    simp only [rcv] at h
    split at h
    · rename_i c' fs es
      simp only [Bool.and_eq_true, decide_eq_true_eq, Option.isNone_iff_eq_none] at h
      obtain ⟨rfl, h2⟩ := h
      cases rs.at_ _ _ _ hp es with
      | ins hh rf => exact ⟨_, _, _, rfl, hh, rf.lookN h2⟩
    · cases h
  | _ => cases h
theorem se_mth {pl : Sem Bool} (C : Met X.prog X.w X.K X.mg X.base k c x das fm) (hr : Room k X.A) (hgd : X.A.guards = some []) (hx : PassG X W) (ho : SE X W o mo) (ha : SA X W (e :: es) m)
    (hst : starEach (e :: es) X.env = (false, eval e X.env) :: starEach es X.env := by rfl) (hpl : (backTo pos (starEach es X.env)).any (·.1) = false := by rfl)
    (ht : eval (.Call (.Attribute o x apos) (e :: es) [] pos) X.env = (do
      let ov ← eval o X.env
      standAt apos.atName
      let (f, first) ← holding [ov] (getMethod ov x pl)
      callWith pos f first (backTo pos (starEach (e :: es) X.env)) (backToKw pos (keywordEach [] X.env))) := by rfl) : SE X W (.Call (.Attribute o x apos) (e :: es) [] pos) (eMth c x fm das mo m) := by
  obtain ⟨f, fd, ps, dvs, ds, hm, hb, hd, F⟩ := C.ex
  refine ⟨fun pins s σ H Q I ⟨ρ, env, S, rs, re, g⟩ => ?_⟩
  refine PySem.W.methodCall_KW (pl := pl) (thn (ho.run pins s σ H (At (RA X.K) X.K ρ H fun ρ1 H1 a _ S1 => Gd (RA X.K) X.K W σ ρ1 H1 Q (match rcv S1 c x a with
    | true => (m env S1).bind fun as S2 => fm (a :: (as ++ das)) S2
    | false => .bad)) I ⟨ρ, env, S, rs, re, Gd.bind g⟩) fun u s1 ⟨v, H1, I1, rv, ρ1, a, S1, t1, rs1, ra, g1⟩ => ?_) ht
  cases er : rcv S1 c x a with
  | false => simp only [er] at g1; exact g1.elim
  | true =>
    simp only [er] at g1
    obtain ⟨q, dx, gs, rfl, ea, l⟩ := rcv_of rs1 ra er
    obtain rfl : u = Value.ref q := rv
    refine getmeth_ok I1 ea C.cls hm l ?_
    refine PySem.W.callWith_K (first := [.ref q]) (h₀ := X.base) I.ok.mod.kin hm.kp (thn (ha.run pos pins s1 σ H1 (At (RAs X.K) X.K ρ1 H1 fun ρ2 H2 as _ S2 => Gd (RA X.K) X.K W σ ρ2 H2 Q (fm (a :: (as ++ das)) S2)) I1 ⟨ρ1, env, S1, rs1, re.up t1, Gd.bind g1⟩) fun us s2 ⟨vs, H2, I2, r, ρ2, as, S2, t2, rs2, ras, g2⟩ => ⟨I2.kIn, ?_⟩) hst hpl
    exact runG (us := .ref q :: us) (vs := .ref q :: vs) (as := a :: as) F hr hgd hb hd hx I2 (.cons rfl r) rs2 (.cons (ra.up t2) ras) g2
theorem se_mth0 {pl : Sem Bool} (C : Met X.prog X.w X.K X.mg X.base k c x das fm) (hr : Room k X.A) (hgd : X.A.guards = some []) (hx : PassG X W) (ho : SE X W o mo)
    (ht : eval (.Call (.Attribute o x apos) [] [] pos) X.env = (do
      let ov ← eval o X.env
      standAt apos.atName
      let (f, first) ← holding [ov] (getMethod ov x pl)
      callWith pos f first (backTo pos (starEach [] X.env)) (backToKw pos (keywordEach [] X.env))) := by rfl) : SE X W (.Call (.Attribute o x apos) [] [] pos) (eMth c x fm das mo aNil) := by
  obtain ⟨f, fd, ps, dvs, ds, hm, hb, hd, F⟩ := C.ex
  refine ⟨fun pins s σ H Q I ⟨ρ, env, S, rs, re, g⟩ => ?_⟩
  refine PySem.W.methodCall_KW (pl := pl) (thn (ho.run pins s σ H (At (RA X.K) X.K ρ H fun ρ1 H1 a _ S1 => Gd (RA X.K) X.K W σ ρ1 H1 Q (match rcv S1 c x a with
    | true => (aNil env S1).bind fun as S2 => fm (a :: (as ++ das)) S2
    | false => .bad)) I ⟨ρ, env, S, rs, re, Gd.bind g⟩) fun u s1 ⟨v, H1, I1, rv, ρ1, a, S1, t1, rs1, ra, g1⟩ => ?_) ht
  cases er : rcv S1 c x a with
  | false => simp only [er] at g1; exact g1.elim
  | true =>
    simp only [er] at g1
    obtain ⟨q, dx, gs, rfl, ea, l⟩ := rcv_of rs1 ra er
    obtain rfl : u = Value.ref q := rv
    refine getmeth_ok I1 ea C.cls hm l ?_
    exact PySem.W.callWith_K0 (first := [.ref q]) I1.kIn hm.kp (runG (us := [.ref q]) (vs := [.ref q]) (as := [a]) F hr hgd hb hd hx I1 (.cons rfl .nil) rs1 (.cons ra .nil) g1)
theorem run_mk {pins : List (Addr × Obj)} {σ : L2.St} {ρ : Rho} {H : Hp} {s : Shared} {Q : VK} {us : List Value} {vs : List V} {as : List A} {S : Sto} (C : Mak X.prog X.w X.K X.mg X.base k c das fm) (hr : Room (k + 1) X.A) (hgd : X.A.guards = some []) (hx : PassG X W) (I : Inv X pins σ H s) (r : Vals vs us) (rs : RS X.K ρ H S) (ras : RAs X.K ρ H as vs)
    (g : Gd (RA X.K) X.K W σ ρ H Q ((fm (.loc S.length :: (as ++ das)) (S ++ [.ins c []])).bind fun r S2 => match r with
      | .non => .ok (.loc S.length) S2
      | _ => .bad)) : wpAny (model X.prog X.w) X.A (call (.ref (He.ga X.K c)) us) (EP X pins σ Q) X.xe s := by
  obtain ⟨f, fd, ps, dvs, ds, M, hb, hd, F⟩ := C.ex
  have h1 : H (s.heap.objs.size + 1) = none := I.hok.fresh (Nat.le_succ _)
  have h2 : H s.heap.objs.size = none := I.hok.fresh (Nat.le_refl _)
  have I2 := Inv.made (C := He.ga X.K c) I
  have h3 : (upd H s.heap.objs.size (.own (s.heap.objs.size + 1))) (s.heap.objs.size + 1) = none := by rw [upd_ne (Nat.ne_of_gt (Nat.lt_succ_self _)), h1]
  have st1 : Stp ρ H ρ (upd H s.heap.objs.size (.own (s.heap.objs.size + 1))) := Stp.new h2
  have st2 := st1.trans (Stp.newN (ρ := ρ) (o := .ins (He.ga X.K c) s.heap.objs.size []) h3)
  have rs2 : RS X.K (ρ.add [s.heap.objs.size + 1]) (upd (upd H s.heap.objs.size (.own (s.heap.objs.size + 1))) (s.heap.objs.size + 1) (.ins (He.ga X.K c) s.heap.objs.size [])) (S ++ [.ins c []]) := (rs.new (o := .own (s.heap.objs.size + 1)) h2).newN h3 (.ins upd_same .nil)
  have rself : RA X.K (ρ.add [s.heap.objs.size + 1]) (upd (upd H s.heap.objs.size (.own (s.heap.objs.size + 1))) (s.heap.objs.size + 1) (.ins (He.ga X.K c) s.heap.objs.size [])) (.loc S.length) (.ref (s.heap.objs.size + 1)) := .loc (newNum rs.len)
  have r2 : Vals (V.ref (s.heap.objs.size + 1) :: (vs ++ dvs)) (Value.ref (s.heap.objs.size + 1) :: (us ++ ds)) := .cons rfl (r.append hd.1)
  have ras2 : RAs X.K (ρ.add [s.heap.objs.size + 1]) (upd (upd H s.heap.objs.size (.own (s.heap.objs.size + 1))) (s.heap.objs.size + 1) (.ins (He.ga X.K c) s.heap.objs.size [])) (.loc S.length :: (as ++ das)) (V.ref (s.heap.objs.size + 1) :: (vs ++ dvs)) := .cons rself ((ras.up st2).append (hd.2 _ _))
  have hl : (Value.ref (s.heap.objs.size + 1) :: us ++ ds).length = ps.length := by
    have e := r2.length
    rw [← ras2.length] at e
    by_cases h : (A.loc S.length :: (as ++ das)).length = ps.length
    · exact e.symm.trans h
    · rw [F.len _ _ h] at g
      exact g.elim
  have g2 := Gd.up st2 g
  have g3 : Gd (RA X.K) X.K (fun c d _ H' => W c d σ H') [] (ρ.add [s.heap.objs.size + 1]) (upd (upd H s.heap.objs.size (.own (s.heap.objs.size + 1))) (s.heap.objs.size + 1) (.ins (He.ga X.K c) s.heap.objs.size [])) (fun v H' => v = .non ∧ Q (.ref (s.heap.objs.size + 1)) H') (fm (.loc S.length :: (as ++ das)) (S ++ [.ins c []])) := by
    cases e : fm (.loc S.length :: (as ++ das)) (S ++ [.ins c []]) with
    | ok a S1 =>
      rw [e] at g2
      cases a with
      | non =>
        intro ρ' H' v t1 t2 t3
        cases t3
        exact ⟨rfl, g2 ρ' H' _ t1 t2 (rself.up t1)⟩
      | _ => exact g2.elim
    | exn c' fs S1 => rw [e] at g2; exact g2
    | bad => rw [e] at g2; exact g2.elim
  refine wpAny_call (make_map (f := f) I.kIn M.makes M.init (beq_iff_eq.mp M.fn) (codeAny_mono (F.run _ X.stack _ _ ⟨Value.ref (s.heap.objs.size + 1) :: us, []⟩ (Value.ref (s.heap.objs.size + 1) :: (us ++ ds)) _ _ (fun c d H' => W c d σ H') (hr.make _ us []) ?_
    (I2.env0.make _ us []) (hb _ (Value.ref (s.heap.objs.size + 1) :: us) I2.kIn hl) r2 ⟨_, _, _, rs2, ras2, g3⟩) fun r s' hq' => ?_))
  · have z : ∀ (us : List Value), (X.A.under (.builtin "type.__call__" ⟨.ref (He.ga X.K c) :: us, []⟩)).guards = X.A.guards := fun us => by
      unfold Around.under
      rfl
    rw [z]
    exact hgd
  · cases r with
    | error e => exact hx pins σ _ _ e s' I2 hq'
    | ok fl =>
      cases fl with
      | ret u =>
        obtain ⟨v, H', I3, rw3, ev, q3⟩ := I2.after hq'
        subst ev
        exact ⟨rw3, ⟨V.ref (s.heap.objs.size + 1), H', I3, rfl, q3⟩⟩
      | next => exact False.elim hq'
      | brk => exact False.elim hq'
      | cont => exact False.elim hq'
theorem se_mk (C : Mak X.prog X.w X.K X.mg X.base k c das fm) (hr : Room (k + 1) X.A) (hgd : X.A.guards = some []) (hx : PassG X W) (hk : PySem.W.keepIn X.K (.ref (He.ga X.K c)) = true) (hg : Gl X c) (ha : SA X W (e :: es) m) (hdb : (c == ("__debug__" : Str)) = false := by decide)
    (he : starEach (e :: es) X.env = (false, eval e X.env) :: starEach es X.env := by rfl) (hpl : (backTo pos (starEach es X.env)).any (·.1) = false := by rfl) : SE X W (.Call (.Name c p) (e :: es) [] pos) (eMk c fm das m) := by
  refine ⟨fun pins s σ H Q I ⟨ρ, env, S, rs, re, g⟩ => ?_⟩
  refine wpAny_Call_Name_kw (ld_glob I hg C.glob ?_ hdb)
  refine PySem.W.callWith_K (h₀ := X.base) I.ok.mod.kin hk (thn (ha.run pos pins s σ H (At (RAs X.K) X.K ρ H fun ρ1 H1 as _ S1 => Gd (RA X.K) X.K W σ ρ1 H1 Q ((fm (.loc S1.length :: (as ++ das)) (S1 ++ [.ins c []])).bind fun r S2 => match r with
    | .non => .ok (.loc S1.length) S2
    | _ => .bad)) I ⟨ρ, env, S, rs, re, Gd.bind g⟩) fun us s1 ⟨vs, H1, I1, r, ρ1, as, S1, t1, rs1, ras, g1⟩ => ⟨I1.kIn, ?_⟩) he hpl
  exact run_mk C hr hgd hx I1 r rs1 ras g1
end
end Mi
set_option Elab.async false
set_option linter.all false
set_option maxRecDepth 100000
set_option maxHeartbeats 2000000
/-! Mi7: exceptions of own classes, repr, written tables, a law's end. -/
namespace Mi
open PySem PySem.Spec PyProof.Rows
open L2
/-! ### nothing changes but what was not there -/
section
variable {K : PySem.W.Frag} {ρ : Rho} {H H' : Hp} {S : Sto}
theorem Stp.same (h : ∀ p o, H p = some o → H' p = some o) : Stp ρ H ρ H' where
  ext := ⟨[], ρ.add_nil.symm, fun _ z => nomatch z⟩
  keep := fun p o _ e _ => h p o e
  read := fun p u _ e => e.elim (fun z => .inl (h p _ z)) fun ⟨o, z⟩ => .inr ⟨o, h p _ z⟩
theorem RS.same (rs : RS K ρ H S) (h : ∀ p o, H p = some o → H' p = some o) : RS K ρ H' S where
  len := rs.len
  nd := rs.nd
  hid := fun q hq => ⟨by
    cases e : H q with
    | none => exact absurd e (rs.hid q hq).1
    | some o => rw [h q o e]; simp, (rs.hid q hq).2⟩
  at_ := fun i q u e1 e2 => (rs.at_ i q u e1 e2).up (Stp.same h) fun w z => h q w z
end
/-! ### raise -/
/-- what the written part says of an own exception class -/
structure ExK (K : PySem.W.Frag) (c : Str) : Prop where
  oex : OexC K (He.ga K c)
  xf : XfC K (He.ga K c)
  exc : ExcC K (He.ga K c)
def oexB (K : PySem.W.Frag) (C : Addr) : Bool := match K.lookup C with
  | some ⟨.type t, dd, .cls cd, sl⟩ => decide (t = "type") && (match cd.mro, sl.toList with
    | .ref C' :: bm, [_, _, _, _, some (.builtin n), _] => decide (C' = C) && (decide (n = "ValueError.__new__") && (!cd.hasDel && (cd.hasDict && PySem.HandSPX.refsVE bm)))
    | _, _ => false)
  | _ => false
def exkB (K : PySem.W.Frag) (c : Str) : Bool := oexB K (He.ga K c) && (He.eqO (PySem.W.findIn K (.ref (He.ga K c)) "__setattr__") (some (some (.builtin "object.__setattr__"))) && (decide (PySem.W.subIn K (.ref (He.ga K c)) (.type "BaseException") = some true) &&
  (decide (PySem.W.typeIn K (.ref (He.ga K c)) = some (.type "type")) && (PySem.W.keepIn K (.ref (He.ga K c)) && (xfB K (He.ga K c) && (He.eqO (PySem.W.findIn K (.ref (He.ga K c)) "__class__") (some (some (.builtin "object.__class__"))) &&
  (He.eqO (PySem.W.specialIn K (.builtin "object.__class__") "__get__") (some (some (.builtin "getset_descriptor.__get__"))) && (decide (PySem.W.takesIn K (.builtin "object.__class__") = some true) && decide (PySem.W.mroIn K (He.ga K c) (.type "object") = some true)))))))))
theorem oexB_ok {K : PySem.W.Frag} {C : Addr} (h : oexB K C = true) : ∃ nm q N bs bm sn sub ab col dd k0 k1 k2 k3 k5, K.lookup C = some (excClassObj nm q C N bs bm true sn sub ab col dd k0 k1 k2 k3 k5 "ValueError.__new__") ∧ PySem.HandSPX.refsVE bm = true := by
  unfold oexB at h
  split at h
  · rename_i t dd cd sl ho
    obtain ⟨ht, h⟩ := Bool.and_eq_true_iff.mp h
    split at h
    · rename_i C' bm k0 k1 k2 k3 n k5 hm hs
      obtain ⟨h1, h⟩ := Bool.and_eq_true_iff.mp h
      obtain ⟨h2, h⟩ := Bool.and_eq_true_iff.mp h
      obtain ⟨h3, h⟩ := Bool.and_eq_true_iff.mp h
      obtain ⟨h4, h5⟩ := Bool.and_eq_true_iff.mp h
      have e0 := of_decide_eq_true ht
      have e1 := of_decide_eq_true h1
      have e2 := of_decide_eq_true h2
      obtain ⟨nm, bs, mro, ns, qn, hd, sn, sub, ab, col, del⟩ := cd
      dsimp only at hm h3 h4
      have e3 : del = false := by simpa using h3
      obtain ⟨l⟩ := sl
      simp only at hs
      subst e0 e1 e2 e3 h4 hm hs
      exact ⟨_, _, _, _, _, _, _, _, _, _, _, _, _, _, _, ho, h5⟩
    · cases h
  · cases h
theorem exkB_ok {K : PySem.W.Frag} {c : Str} (h : exkB K c = true) : ExK K c := by
  obtain ⟨h1, h⟩ := Bool.and_eq_true_iff.mp h
  obtain ⟨h2, h⟩ := Bool.and_eq_true_iff.mp h
  obtain ⟨h3, h⟩ := Bool.and_eq_true_iff.mp h
  obtain ⟨h4, h⟩ := Bool.and_eq_true_iff.mp h
  obtain ⟨h5, h⟩ := Bool.and_eq_true_iff.mp h
  obtain ⟨h6, h⟩ := Bool.and_eq_true_iff.mp h
  obtain ⟨h7, h⟩ := Bool.and_eq_true_iff.mp h
  obtain ⟨h8, h⟩ := Bool.and_eq_true_iff.mp h
  obtain ⟨h9, h10⟩ := Bool.and_eq_true_iff.mp h
  have x := xfB_ok h6
  exact ⟨⟨oexB_ok h1, He.eqO_ok h2, of_decide_eq_true h3, of_decide_eq_true h4, h5⟩, x, ⟨x.ga, x.gg, x.exC, x.hdC, He.eqO_ok h7, He.eqO_ok h8, of_decide_eq_true h9, of_decide_eq_true h10⟩⟩
/-- what the __init__ of such a class does: the fields, in order -/
def spI (C : Addr) (fl : List Str) : Sp := fun vs H Q _ => ∃ a ws, vs = .ref a :: ws ∧ ws.length = fl.length ∧ H a = some (exo a C none) ∧
  ∀ dx H', H dx = none → dx ≠ a → H' dx = some (exd dx (fl.zip ws).reverse) → H' a = some (exo a C (some dx)) → (∀ p, p ≠ a → p ≠ dx → H' p = H p) → Q .non H'
structure Exi (P : Program) (w : World) (K : PySem.W.Frag) (mg : Str → Option Value) (base : Heap) (k : Nat) (c : Str) (fl : List Str) : Prop where
  glob : mg c = some (.ref (He.ga K c))
  cls : ExK K c
  ex : ∃ fI fd ps, PySem.W.findIn K (.ref (He.ga K c)) "__init__" = some (some (.ref fI)) ∧ PySem.W.typeIn K (.ref fI) = some (.type "function") ∧ Binds K fd ps [] ∧ FnOk P w K mg base (L2.CX P w) k fI fd ps (spI (He.ga K c) fl)
/-- def __init__(self, f): self.f = f -/
theorem exi1 {P : Program} {w : World} {K : PySem.W.Frag} {mg : Str → Option Value} {base : Heap} {c f : Str} {fd : FuncData} {fI : Addr} {qual : Str} {params : Arguments} {scope : Scope} {p1 p2 p3 p4 : Pos} {kws : List (Str × V)}
    (X : ExK K c) (gl : mg c = some (.ref (He.ga K c))) (hi : PySem.W.findIn K (.ref (He.ga K c)) "__init__" = some (some (.ref fI))) (ht : PySem.W.typeIn K (.ref fI) = some (.type "function")) (hno : PySem.W.findIn K (.ref (He.ga K c)) f = some none)
    (F : FunD K "__init__" qual params [.Assign [.Attribute (.Name "self" p1) f p2] (.Name f p3) p4] scope [] kws fI fd) (sc : FnScope ["self", f] ["self", f] scope) (hb : Binds K fd ["self", f] [])
    (l0 : scope.names.lookup ("self" : Str) = some .local) (l1 : scope.names.lookup f = some .local) (hd1 : (f == ("__debug__" : Str)) = false := by decide) (hd2 : (f == ("__classdict__" : Str)) = false := by decide) : Exi P w K mg base 1 c [f] := by
  refine ⟨gl, X, fI, fd, _, hi, ht, hb, F.ok sc (fun vs H Q E h => ?_) fun cdv A outer s H vs Q E hr h => ⟨tOst K f (tVar 0) (tVar 1), ?_, ?_⟩⟩
  · obtain ⟨a, ws, rfl, hl, _⟩ := h
    simp [hl]
  · exact pss_one (ps_ost (pe_var (i := 0) rfl (.inl l0)) (pe_var (i := 1) rfl (.inl l1) hd1 hd2))
  · obtain ⟨a, ws, rfl, hl, ha, hq⟩ := h
    obtain ⟨y, rfl⟩ : ∃ y, ws = [y] := by
      cases ws with
      | nil => cases hl
      | cons y ws =>
        cases ws with
        | nil => exact ⟨y, rfl⟩
        | cons _ _ => cases hl
    refine ⟨y, rfl, .ref a, rfl, a, _, rfl, X.oex, hno, .inl ⟨ha, fun dx hdx hne => ?_⟩⟩
    exact hq dx _ hdx hne (by rw [upd_ne hne, upd_same]; rfl) upd_same fun p hp hp2 => by rw [upd_ne hp, upd_ne hp2]
def sRaise (c : Str) (fl : List Str) (m : AM) : SM := fun env S => (m env S).thenS env fun as S1 => if as.length = fl.length then .exn c (fl.zip as).reverse env S1 else .bad
theorem RAf.zip {K : PySem.W.Frag} {ρ : Rho} {H : Hp} : ∀ {fl : List Str} {as : List A} {vs : List V}, RAs K ρ H as vs → RAf K ρ H (fl.zip as) (fl.zip vs)
  | [], _, _, _ => .nil
  | _ :: _, _, _, .nil => .nil
  | f :: fl, _, _, .cons r rr => .cons r (RAf.zip rr)
theorem RAf.append {K : PySem.W.Frag} {ρ : Rho} {H : Hp} : ∀ {as bs : List (Str × A)} {vs ws : List (Str × V)}, RAf K ρ H as vs → RAf K ρ H bs ws → RAf K ρ H (as ++ bs) (vs ++ ws)
  | _, _, _, _, .nil, r => r
  | _, _, _, _, .cons h t, r => .cons h (RAf.append t r)
theorem RAf.reverse {K : PySem.W.Frag} {ρ : Rho} {H : Hp} : ∀ {as : List (Str × A)} {vs : List (Str × V)}, RAf K ρ H as vs → RAf K ρ H as.reverse vs.reverse
  | _, _, .nil => .nil
  | _, _, .cons h t => by
    rw [List.reverse_cons, List.reverse_cons]
    exact (RAf.reverse t).append (.cons h .nil)
section
variable {X : Cx} {W : WX} {k : Nat} {c : Str} {fl : List Str} {e : Expr} {es : List Expr} {m : AM} {p cpos pos : Pos}
theorem ss_raise (C : Exi X.prog X.w X.K X.mg X.base k c fl) (hne : fl ≠ []) (hc : X.calm = true) (tk : Takes X W) (hr : Room (k + 1) X.A) (hg : Gl X c) (ha : SA X W (e :: es) m) (hlen : (e :: es).length ≤ 900) (hdb : (c == ("__debug__" : Str)) = false := by decide)
    (he : starEach (e :: es) X.env = (false, eval e X.env) :: starEach es X.env := by rfl) (hpl : (backTo cpos (starEach es X.env)).any (·.1) = false := by rfl) (hfl : fl.length ≤ 900 := by decide) :
    SS X W (.Raise (some (.Call (.Name c p) (e :: es) [] cpos)) none pos) (sRaise c fl m) := by
  obtain ⟨fI, fd, ps, hi, ht, hb, F⟩ := C.ex
  refine wkS (ps_raise hc tk (pmk_oex (dvs := []) C.cls.oex hi ht F hr hb .nil (passes_call tk fun _ _ _ _ z => z.elim) hg C.glob ha hdb he hpl)) fun D σ H ⟨ρ, env, S, rs, re, g⟩ => tX.bindS rs re g fun ρ1 H1 as vs S1 s1 rs1 re1 ras g1 => ?_
  obtain ⟨hl, g2⟩ := GS.ite g1
  have hv : vs.length = fl.length := by rw [← ras.length]; exact hl
  refine ⟨by omega, fun a ha => ⟨a, vs, by rw [List.append_nil], hv, upd_same, fun dx H' n1 n2 e1 e2 e3 => ⟨rfl, dx, _, e2, e1, ?_, ?_⟩⟩⟩
  · rw [upd_ne n2] at n1
    exact n1
  · rw [upd_ne n2] at n1
    have sm : ∀ q o, H1 q = some o → (upd (del H' a) dx (.xd (fl.zip vs).reverse)) q = some o := fun q o eq => by
      have q1 : q ≠ a := ne_of_none eq ha
      have q2 : q ≠ dx := ne_of_none eq n1
      rw [upd_ne q2, del_ne q1, e3 q q1 q2, upd_ne q1]
      exact eq
    have s2 : Stp ρ1 H1 ρ1 (upd (del H' a) dx (.xd (fl.zip vs).reverse)) := Stp.same sm
    refine g2 ρ1 _ σ (some dx) s2 (rs1.same sm) (re1.up s2) ⟨fun z => ?_, _, upd_same, ((RAf.zip ras).reverse).up s2⟩
    have z2 := congrArg List.length z
    rw [List.length_reverse, List.length_zip, hl, Nat.min_self] at z2
    exact hne (List.eq_nil_of_length_eq_zero z2)
end
/-! ### try: .. except C as e: return .. -/
/-- what is known in the suite: the name's value, the exception's fields -/
def YE (K : PySem.W.Frag) (i : Nat) (a : Addr) (d : Option Addr) (fs : List (Str × A)) (ρ : Rho) (H : Hp) (σ : L2.St) : Prop := σ[i]? = some (some (.ref a)) ∧ ∃ dd gs, d = some dd ∧ H dd = some (.xd gs) ∧ dd ∉ ρ.nu ∧ RAf K ρ H fs gs
theorem YE.up {K : PySem.W.Frag} {i : Nat} {a : Addr} {d : Option Addr} {fs : List (Str × A)} {ρ ρ' : Rho} {H H' : Hp} {σ : L2.St} (y : YE K i a d fs ρ H σ) (s : Stp ρ H ρ' H') : YE K i a d fs ρ' H' σ := by
  obtain ⟨h1, dd, gs, rfl, h2, h3, h4⟩ := y
  exact ⟨h1, dd, gs, rfl, s.keep _ _ h3 h2 rfl, s.ninN h3 (by rw [h2]; simp), h4.up s⟩
def tY {α β : Type} (Y : Rho → Hp → L2.St → Prop) (Rl : Rho → Hp → α → β → Prop) (K : PySem.W.Frag) (m : Env → Sto → R α) : L2.St → Hp → (β → Hp → Prop) → Prop := fun σ H Q =>
  ∃ ρ env S, RS K ρ H S ∧ RE K ρ H env σ ∧ Y ρ H σ ∧ Gd Rl K W0 σ ρ H Q (m env S)
/-- an expression, arguments in the suite of 'except C as e', of an exception of the class c with the fields fs -/
def SY (X : Cx) (a : Addr) (i : Nat) (c : Str) (fs : List (Str × A)) (e : Expr) (m : EM) : Prop := ∀ (oe : Obj) (d : Option Addr) (pn : List (Addr × Obj)), Zc (.ref (He.ga X.K c)) d oe → (∃ vs, oe.data = .fields vs) → PE (X.suite a ((a, oe) :: pn)) e (tY (YE X.K i a d fs) (RA X.K) X.K m)
def SYA (X : Cx) (a : Addr) (i : Nat) (c : Str) (fs : List (Str × A)) (e : List Expr) (m : AM) : Prop := ∀ (oe : Obj) (d : Option Addr) (pn : List (Addr × Obj)), Zc (.ref (He.ga X.K c)) d oe → (∃ vs, oe.data = .fields vs) → PA (X.suite a ((a, oe) :: pn)) e (tY (YE X.K i a d fs) (RAs X.K) X.K m)
def eXf (fs : List (Str × A)) (f : Str) : EM := fun _ S => orBad (fs.lookup f) fun v => .ok v S
section
variable {X : Cx} {a : Addr} {i : Nat} {c f x : Str} {fs : List (Str × A)} {e : Expr} {es : List Expr} {m : EM} {ms : AM} {p p1 p2 pos : Pos} {b : Bool}
theorem sy_c {A' : A} {v : V} (h : ∀ (oe : Obj) (pn : List (Addr × Obj)), PE (X.suite a ((a, oe) :: pn)) e (tC v)) (r : ∀ ρ H, RA X.K ρ H A' v) : SY X a i c fs e (eC A') := fun oe d pn _ _ => wkE (h oe pn) fun σ H Q ⟨ρ, env, S, rs, re, y, g⟩ => g.fin rs (r ρ H)
theorem sy_str {z : Str} {j : Nat} : SY X a i c fs (.Constant (.str z) j pos) (eC (.str z)) := sy_c (fun _ _ => pe_str) fun _ _ => .str z
theorem sy_bl {z : Bool} {j : Nat} : SY X a i c fs (.Constant (.bool z) j pos) (eC (.bl z)) := sy_c (fun _ _ => pe_bl) fun _ _ => .bl z
theorem sy_int {z : Int} {j : Nat} : SY X a i c fs (.Constant (.int z) j pos) (eC (.int z)) := sy_c (fun _ _ => pe_int) fun _ _ => .int z
theorem sy_non {j : Nat} : SY X a i c fs (.Constant .none j pos) (eC .non) := sy_c (fun _ _ => pe_non) fun _ _ => .non
theorem sy_fld (T : XfC X.K (He.ga X.K c)) (hno : PySem.W.findIn X.K (.ref (He.ga X.K c)) f = some none) (hv : ∀ (oe : Obj) (pn : List (Addr × Obj)), PE (X.suite a ((a, oe) :: pn)) (.Name x p1) (tVar i))
    (hb : attributeBase (.Name x p1) f X.env (eval (.Name x p1) X.env) = eval (.Name x p1) X.env := by rfl) : SY X a i c fs (.Attribute (.Name x p1) f pos) (eXf fs f) := fun oe d pn hz hf =>
  wkE (pe_xf T hno hz hf (hv oe pn) hb) fun σ H Q ⟨ρ, env, S, rs, re, ⟨y1, dd, gs, ed, y2, y3, y4⟩, g⟩ => by
    obtain ⟨v, ev, g1⟩ := g.orBad
    obtain ⟨u, eu, ru⟩ := y4.look ev
    exact ⟨.ref a, y1, rfl, rfl, dd, gs, u, ed, y2, eu, g1.fin rs ru⟩
/-- isinstance(e, T) -/
theorem call_isD {D : Addr} {oe : Obj} {d : Option Addr} {pn : List (Addr × Obj)} (C : ExcC X.K D) (hz : Zc (.ref D) d oe) (hf : ∃ vs, oe.data = .fields vs) :
    CallR (X.suite a ((a, oe) :: pn)) (.builtin "isinstance") (fun xs H Q => ∃ (u : V) (cv : Value) (b : Bool) (dd : Addr) (gs : List (Str × V)), xs = [.ref a, u] ∧ (∀ z, RelV u z → z = cv) ∧ PySem.W.kitOne X.K (.ref D) cv = some b ∧ d = some dd ∧ H dd = some (.xd gs) ∧ Q (.bl b) H) := by
  rintro pins s σ H xs us Q I r ⟨u, cv, b, dd, gs, rfl, hcv, ek, rfl, ed, q⟩
  cases r with
  | cons rx rr =>
    cases rr with
    | cons rt rr =>
      cases rr
      cases rx
      have ec := hcv _ rt
      subst ec
      obtain ⟨hget, _⟩ := I.pin (a, oe) (List.mem_append.mpr (.inl List.mem_cons_self))
      obtain ⟨vs, hv⟩ := hf
      have hx : ObjOk X.prog X.w H s.heap dd (.xd gs) := I.hok dd _ ed
      obtain ⟨mA, hns, hr⟩ := hx
      obtain ⟨od, ho, _⟩ := lookIn_ns hns
      have J : PySem.W.InstAt s.heap a oe D (some od) := ⟨hget, hz.1, by unfold PySem.W.notCls; rw [hv] <;> rfl, by rw [hz.2]; exact ho⟩
      have hcl : (PySem.W.clsIn X.K D).isSome = true := by
        obtain ⟨cd, h1, _⟩ := PySem.W.any_some C.hd
        rw [h1]
        rfl
      exact PySem.W.kia_one (PySem.W.kitx_exc (od := some od) hcl C.hg C.hk C.hs C.ha C.hn C.ht C.hm) I.kIn J ek (fun z => nomatch z) fun tk => ⟨.bl b, H, I.kept (t' := tk) fun _ _ z => z, rfl, q⟩
theorem sy_is {y : Str} {u : V} {cv : Value} (C : ExcC X.K (He.ga X.K c)) (hk : PySem.W.kitOne X.K (.ref (He.ga X.K c)) cv = some b) (hu : ∀ z, RelV u z → z = cv) (hg : Gl X "isinstance") (hm : X.mg "isinstance" = none)
    (hv : ∀ (oe : Obj) (pn : List (Addr × Obj)), PE (X.suite a ((a, oe) :: pn)) (.Name x p1) (tVar i)) (hy : ∀ (oe : Obj) (pn : List (Addr × Obj)), PE (X.suite a ((a, oe) :: pn)) (.Name y p2) (tC u))
    (hs : starEach [.Name x p1, .Name y p2] X.env = (false, eval (.Name x p1) X.env) :: starEach [.Name y p2] X.env := by rfl) (hs2 : starEach [.Name y p2] X.env = (false, eval (.Name y p2) X.env) :: starEach [] X.env := by rfl)
    (hpl : (backTo pos (starEach [.Name y p2] X.env)).any (·.1) = false := by rfl) : SY X a i c fs (.Call (.Name "isinstance" p) [.Name x p1, .Name y p2] [] pos) (eC (.bl b)) := fun oe d pn hz hf =>
  wkE (pe_callB (X := X.suite a ((a, oe) :: pn)) (call_isD C hz hf) hg hm (by decide +kernel) (pa_cons (hv oe pn) (pa_cons (hy oe pn) pa_nil hs2) hs) (by decide) (by decide) hs hpl) fun σ H Q ⟨ρ, env, S, rs, re, ⟨y1, dd, gs, ed, y2, y3, y4⟩, g⟩ =>
    ⟨.ref a, y1, u, cv, b, dd, gs, rfl, hu, hk, ed, y2, g.fin rs (.bl b)⟩
theorem sya_nil : SYA X a i c fs [] aNil := fun oe d pn _ _ => wkA pa_nil fun σ H Q ⟨ρ, env, S, rs, re, y, g⟩ => g.fin rs .nil
theorem sya_cons (ha : SY X a i c fs e m) (hr : SYA X a i c fs es ms) (hs : starEach (e :: es) X.env = (false, eval e X.env) :: starEach es X.env := by rfl) : SYA X a i c fs (e :: es) (aCons m ms) := fun oe d pn hz hf =>
  wkA (pa_cons (ha oe d pn hz hf) (hr oe d pn hz hf) hs) fun σ H Q ⟨ρ, env, S, rs, re, y, g⟩ => by
    refine ⟨ρ, env, S, rs, re, y, (Gd.bind (Rl := RA X.K) g).imp fun v H1 ⟨ρ1, b, S1, s1, rs1, rb, g1⟩ => ⟨ρ1, env, S1, rs1, re.up s1, y.up s1, (Gd.bind (Rl := RAs X.K) g1).imp fun vs H2 ⟨ρ2, bs, S2, s2, rs2, rbs, g2⟩ => g2.fin rs2 (.cons (rb.up s2) rbs)⟩⟩
theorem sy_lst (h : SYA X a i c fs es ms) : SY X a i c fs (.List es pos) (eLst ms) := fun oe d pn hz hf => wkE (pe_lst (h oe d pn hz hf)) fun σ H Q ⟨ρ, env, S, rs, re, y, g⟩ => by
  refine ⟨ρ, env, S, rs, re, y, (Gd.bind (Rl := RAs X.K) g).imp fun vs H1 ⟨ρ1, bs, S1, s1, rs1, rbs, g1⟩ => ?_⟩
  obtain ⟨hl, g2⟩ := Gd.ite g1
  exact ⟨by rw [← rbs.length]; exact le_line hl, fun q hq => g2.fin1 (Stp.new hq) (rs1.new hq) (.lst upd_same (rs1.free hq) (rbs.up (Stp.new hq)))⟩
theorem sy_tup {x1 : Nat} (h : SYA X a i c fs es ms) : SY X a i c fs (.Tuple es x1 pos) (eTup ms) := fun oe d pn hz hf => wkE (pe_tup (h oe d pn hz hf)) fun σ H Q ⟨ρ, env, S, rs, re, y, g⟩ => by
  refine ⟨ρ, env, S, rs, re, y, (Gd.bind (Rl := RAs X.K) g).imp fun vs H1 ⟨ρ1, bs, S1, s1, rs1, rbs, g1⟩ => ?_⟩
  obtain ⟨hl, g2⟩ := Gd.ite g1
  exact ⟨by rw [← rbs.length]; exact le_line hl, fun q hq => g2.fin1 (Stp.new hq) (rs1.new hq) (.tup (.inl ⟨.inl upd_same, rs1.free hq⟩) (rbs.up (Stp.new hq)))⟩
end
/-- try: mb except C as e: return mr -/
def sTryAs (hs : Str → Option Bool) (i : Nat) (mr : Str → List (Str × A) → EM) (mb : SM) : SM := fun env S => match mb env S with
  | .exn c fs env1 S1 => match hs c with
    | some true => if i < env1.length ∧ fs ≠ [] then (match mr c fs (env1.set i none) S1 with
      | .ok b S2 => .rt b S2
      | _ => .bad) else .bad
    | some false => .exn c fs env1 S1
    | none => .bad
  | r => r
theorem dok_nin {K : PySem.W.Frag} {ρ : Rho} {H : Hp} {S : Sto} {dd : Addr} {gs : List (Str × V)} (rs : RS K ρ H S) (e : H dd = some (.xd gs)) : dd ∉ ρ.nu := fun h => by
  obtain ⟨n, hn, e2⟩ := List.mem_iff_getElem.mp h
  have e3 : ρ.get? n = some dd := by unfold Rho.get?; rw [List.getElem?_eq_getElem hn, e2]
  obtain ⟨o, ho⟩ := rs.lt e3
  cases rs.at_ n dd o e3 ho with
  | lst h _ => rw [h] at e; cases e
  | ins h _ => rw [h] at e; cases e
  | dct h _ => rw [h] at e; cases e
section
variable {X : Cx} {W : WX} {x n : Str} {cv : Value} {i : Nat} {body : List Stmt} {e : Expr} {hs : Str → Option Bool} {mr : Str → List (Str × A) → EM} {mb : SM} {np rp pos pos' : Pos}
theorem ss_try (hst : X.stack = X.env :: X.outer) (hf : X.env.frame = some X.env.locals) (hN : X.N.Nodup) (hi : X.N[i]? = some n) (hln : X.env.kindOf n = some .local) (hc : Names X x cv) (tk : Takes X W)
    (hh : ∀ c b, hs c = some b → PySem.W.exmOne X.K (.ref (He.ga X.K c)) cv = some b)
    (hb : ∀ (W' : WX) (pn : List (Addr × Obj)) (xe : Value → Shared → Prop), Takes (X.tr pn xe) W' → PassesOwn (model X.prog X.w) X.A X.env xe → SSs (X.tr pn xe) W' body mb)
    (hr : ∀ (a : Addr) (c : Str) (fs : List (Str × A)), hs c = some true → SY X a i c fs e (mr c fs)) :
    SS X W (.Try body [.ExceptHandler (some (.Name x np)) (some n) [.Return (some e) rp] pos'] [] [] pos) (sTryAs hs i mr mb) := by
  refine wkS (ps_try_as (tb := fun W' => tS X.K W' mb) (Wout := W) (ts := fun a cls d D σ H => ∃ c fs, cls = .ref (He.ga X.K c) ∧ hs c = some true ∧ tY (YE X.K i a d fs) (RA X.K) X.K (mr c fs) σ H D.rt) hst hf hN hi hln hc tk hb fun a oe cls d pn hz hfl => ⟨fun pins s σ H D I h => ?_⟩) fun D σ H ⟨ρ, env, S, rs, re, g⟩ => ⟨ρ, env, S, rs, re, ?_⟩
  · obtain ⟨c, fs, rfl, h1, h2⟩ := h
    exact (pss_one (ps_ret (hr a c fs h1 oe d pn hz hfl))).run pins s σ H D I h2
  · unfold sTryAs at g
    cases em : mb env S with
    | exn c fs env1 S1 =>
      rw [em] at g
      intro ρ' H' σ' d t1 t2 t3 t4
      cases eh : hs c with
      | none => simp only [eh] at g; exact g.elim
      | some b =>
        refine ⟨b, hh c b eh, fun hb => ?_, fun hb => ?_⟩
        · subst hb
          intro a na
          simp only [eh] at g
          obtain ⟨⟨hlt, hne⟩, g⟩ := GS.ite g
          have g' := GS.up t1 g
          refine ⟨c, fs, rfl, eh, ρ', env1.set i none, S1, t2, ⟨by rw [List.length_set, List.length_set, t3.len], fun j z ez => ?_⟩, ⟨?_, ?_⟩, ?_⟩
          · by_cases hj : i = j
            · subst hj
              rw [List.getElem?_set] at ez
              by_cases hl : i < env1.length <;> simp [hl] at ez
            · rw [List.getElem?_set_ne hj] at ez
              obtain ⟨v, z1, z2⟩ := t3.at_ j z ez
              exact ⟨v, by rw [List.getElem?_set_ne hj]; exact z1, z2⟩
          · rw [List.getElem?_set_self (by rw [← t3.len]; exact hlt)]
          · cases d with
            | none => exact absurd t4 hne
            | some dd =>
              obtain ⟨_, gs, z1, z2⟩ := t4
              exact ⟨dd, gs, rfl, z1, dok_nin t2 z1, z2⟩
          · cases er : mr c fs (env1.set i none) S1 with
            | ok b S2 =>
              rw [er] at g'
              exact g'
            | exn => rw [er] at g'; exact g'.elim
            | bad => rw [er] at g'; exact g'.elim
        · subst hb
          simp only [eh] at g
          exact g ρ' H' σ' d t1 t2 t3 t4
    | nx => rw [em] at g; exact g
    | rt => rw [em] at g; exact g
    | bk => rw [em] at g; exact g
    | ct => rw [em] at g; exact g
    | bad => rw [em] at g; exact g.elim
end
end Mi
set_option Elab.async false
set_option linter.all false
set_option maxRecDepth 100000
set_option maxHeartbeats 2000000
/-! Mi8: repr, written tables, a law's end. -/
namespace Mi
open PySem PySem.Spec PyProof.Rows
open L2
/-! ### repr of lists and tuples -/
def isSeqA : A → Bool
  | .tup _ => true
  | .lst _ => true
  | .loc _ => true
  | _ => false
def bRepr : FM
  | [a], S => orBad (toD S a) fun d => if isSeqA a = true ∧ d.showable = true ∧ d.hasDict = false ∧ d.depth ≤ 60 ∧ d.shown.length ≤ 10000000 then .ok (.str d.shown) S else .bad
  | _, _ => .bad
theorem call_reprD {X : Cx} (hgd : X.A.guards = some []) (hu : X.A.units + 64 < cLine) : CallR X (.builtin "repr") (fun xs H Q => ∃ p d, xs = [.ref p] ∧ Dp X.K H (.ref p) d ∧ d.showable = true ∧ d.hasDict = false ∧ d.depth ≤ 60 ∧ d.shown.length ≤ sizeLine ∧ Q (.str d.shown) H) := by
  rintro pins s σ H xs us Q I r ⟨p, d, rfl, hd, h1, h2, h3, h4, q⟩
  obtain ⟨u, rfl, rx⟩ := vals1 r
  cases rx
  obtain ⟨as, rd⟩ := Dp.reads I d (.ref p) (.ref p) hd rfl
  exact repr_of_reads' rd h1 (fun z => absurd (h2.symm.trans z) Bool.false_ne_true) hgd (by omega) (fun _ _ e => e) (fun h' u tk k => ⟨.str d.shown, H, I.kept (t' := tk) k, ⟨u, rfl⟩, q⟩) h4
section
variable {X : Cx} {W : WX}
theorem s_repr (hgd : X.A.guards = some []) (hu : X.A.units + 64 < cLine) : CallS X W (.builtin "repr") bRepr := ⟨_, call_reprD hgd hu, fun σ ρ H S as vs Q rs ra g => by
  unfold bRepr at g
  split at g
  · rename_i a S'
    cases ra with
    | cons r rr =>
      cases rr
      obtain ⟨d, ed, g1⟩ := g.orBad
      obtain ⟨⟨h1, h2, h3, h4, h5⟩, g2⟩ := Gd.ite g1
      have dp := dp_of rs r ed
      cases r with
      | tup h r2 => exact ⟨_, d, rfl, dp, h2, h3, h4, Nat.le_trans h5 line7, g2.fin rs (.str _)⟩
      | lst h n r2 => exact ⟨_, d, rfl, dp, h2, h3, h4, Nat.le_trans h5 line7, g2.fin rs (.str _)⟩
      | loc h => exact ⟨_, d, rfl, dp, h2, h3, h4, Nat.le_trans h5 line7, g2.fin rs (.str _)⟩
      | _ => exact absurd h1 Bool.false_ne_true
  · exact g.elim⟩
end
/-! ### a written table of tuples of texts -/
def tupsB (K : PySem.W.Frag) (T : Addr) (ss : List Str) : Bool := match K.lookup T with
  | some ⟨.type c, _, .seq its _, _⟩ => decide (c = "tuple") && (decide (its.size ≤ sizeLine) && He.relAll (ss.map V.str) its.toList)
  | _ => false
theorem tupsB_ok {K : PySem.W.Frag} {T : Addr} {ss : List Str} (h : tupsB K T ss = true) : KTup K T (ss.map V.str) := by
  unfold tupsB at h
  split at h
  · rename_i c od its n sl q
    obtain ⟨h1, h⟩ := Bool.and_eq_true_iff.mp h
    obtain ⟨h3, h4⟩ := Bool.and_eq_true_iff.mp h
    exact .inr ⟨_, its, n, q, congrArg Value.type (of_decide_eq_true h1), rfl, of_decide_eq_true h3, He.relAll_ok h4⟩
  · cases h
def entB (K : PySem.W.Frag) : List DictEntry → List (Str × List Str) → Bool
  | [], [] => true
  | e :: es, q :: qs => (match e.key, e.val with
    | .str y _, .ref T => decide (y = q.1) && tupsB K T q.2
    | _, _ => false) && entB K es qs
  | _, _ => false
def tabB (K : PySem.W.Frag) (x : Str) (tbl : List (Str × List Str)) : Bool := match K.lookup (He.ga K x) with
  | some ⟨_, _, .dict es _, _⟩ => entB K es.toList tbl
  | _ => false
theorem entB_find {K : PySem.W.Frag} (z : Str) : ∀ {es : List DictEntry} {tbl : List (Str × List Str)}, entB K es tbl = true →
    es.any (·.refKey) = false ∧ (match tbl.lookup z with
      | none => es.find? (·.key.isStr z) = none
      | some ss => ∃ e T, es.find? (·.key.isStr z) = some e ∧ e.val = .ref T ∧ KTup K T (ss.map V.str))
  | [], [], _ => ⟨rfl, rfl⟩
  | [], _ :: _, h => by cases h
  | _ :: _, [], h => by cases h
  | e :: es, q :: qs, h => by
    obtain ⟨h1, h2⟩ := Bool.and_eq_true_iff.mp (show ((match e.key, e.val with
      | .str y _, .ref T => decide (y = q.1) && tupsB K T q.2
      | _, _ => false) && entB K es qs) = true from h)
    obtain ⟨i1, i2⟩ := entB_find z h2
    split at h1
    · rename_i y t T ek ev
      obtain ⟨h3, h4⟩ := Bool.and_eq_true_iff.mp h1
      have e1 : y = q.1 := of_decide_eq_true h3
      have rk : e.refKey = false := by unfold DictEntry.refKey; rw [ek]
      have ks : e.key.isStr z = (y == z) := by rw [ek]; rfl
      refine ⟨by rw [List.any_cons, rk, i1]; rfl, ?_⟩
      obtain ⟨k, ss⟩ := q
      dsimp only at e1 h4
      subst e1
      cases hz : z == y with
      | true =>
        have ez : z = y := beq_iff_eq.mp hz
        have lk : List.lookup z ((y, ss) :: qs) = some ss := by simp only [List.lookup, hz]
        rw [lk]
        refine ⟨e, T, ?_, ev, tupsB_ok h4⟩
        rw [List.find?_cons, ks, ez]
        simp
      | false =>
        have nz : (y == z) = false := by
          rw [beq_eq_false_iff_ne] at hz ⊢
          exact fun q => hz q.symm
        have lk : List.lookup z ((y, ss) :: qs) = qs.lookup z := by simp only [List.lookup, hz]
        rw [lk, List.find?_cons, ks, nz]
        exact i2
    · cases h1
structure TabK (K : PySem.W.Frag) (w : World) (x : Str) (tbl : List (Str × List Str)) : Prop where
  kd : ∃ es n, KDict K w (He.ga K x) es n
  ok : tabB K x tbl = true
theorem TabK.none_ {K : PySem.W.Frag} {w : World} {x : Str} {tbl : List (Str × List Str)} (T : TabK K w x tbl) {z : Str} (h : tbl.lookup z = none) : PySem.W.nsIn K (He.ga K x) z = some none := by
  have h1 := T.ok
  unfold tabB at h1
  unfold PySem.W.nsIn
  split at h1
  · rename_i es n sl q
    rw [q]
    obtain ⟨i1, i2⟩ := entB_find z h1
    rw [h] at i2
    dsimp only
    rw [i2]
    dsimp only
    rw [i1]
    rfl
  · cases h1
theorem TabK.some_ {K : PySem.W.Frag} {w : World} {x : Str} {tbl : List (Str × List Str)} (T : TabK K w x tbl) {z : Str} {ss : List Str} (h : tbl.lookup z = some ss) : ∃ p, PySem.W.nsIn K (He.ga K x) z = some (some (.ref p)) ∧ KTup K p (ss.map V.str) := by
  have h1 := T.ok
  unfold tabB at h1
  unfold PySem.W.nsIn
  split at h1
  · rename_i es n sl q
    rw [q]
    obtain ⟨i1, i2⟩ := entB_find z h1
    rw [h] at i2
    obtain ⟨e, p, e1, e2, e3⟩ := i2
    dsimp only
    rw [e1]
    exact ⟨p, by dsimp only; rw [e2], e3⟩
  · cases h1
/-- word in TABLE, TABLE[word] -/
def opInT (x : Str) (tbl : List (Str × List Str)) : OM
  | .str z, .fn y, S => if y = x then .ok (.bl (tbl.lookup z).isSome) S else .bad
  | _, _, _ => .bad
def opNotInT (x : Str) (tbl : List (Str × List Str)) : OM
  | .str z, .fn y, S => if y = x then .ok (.bl (!(tbl.lookup z).isSome)) S else .bad
  | _, _, _ => .bad
def opIxT (x : Str) (tbl : List (Str × List Str)) : OM
  | .fn y, .str z, S => if y = x then orBad (tbl.lookup z) fun ss => .ok (.tup (ss.map .str)) S else .bad
  | _, _, _ => .bad
section
variable {X : Cx} {W : WX} {x : Str} {tbl : List (Str × List Str)}
theorem TabK.is {K : PySem.W.Frag} {w : World} (T : TabK K w x tbl) (z : Str) : ∃ r, PySem.W.nsIn K (He.ga K x) z = some r ∧ r.isSome = (tbl.lookup z).isSome := by
  cases h : tbl.lookup z with
  | none => exact ⟨none, T.none_ h, rfl⟩
  | some ss =>
    obtain ⟨p, e, _⟩ := T.some_ h
    exact ⟨_, e, rfl⟩
theorem s_inT (T : TabK X.K X.w x tbl) : OpS X W (compareOp .In) (opInT x tbl) := by
  obtain ⟨es, n, D⟩ := T.kd
  refine ⟨_, op_in_kd D, fun σ ρ H S a b v w Q rs ra rb g => ?_⟩
  unfold opInT at g
  split at g
  · obtain ⟨rfl, g1⟩ := Gd.ite g
    cases ra
    cases rb
    obtain ⟨r, e1, e2⟩ := T.is _
    exact ⟨_, r, rfl, rfl, e1, by rw [e2]; exact g1.fin rs (.bl _)⟩
  · exact g.elim
theorem s_notinT (T : TabK X.K X.w x tbl) : OpS X W (compareOp .NotIn) (opNotInT x tbl) := by
  obtain ⟨es, n, D⟩ := T.kd
  refine ⟨_, op_notIn_kd D, fun σ ρ H S a b v w Q rs ra rb g => ?_⟩
  unfold opNotInT at g
  split at g
  · obtain ⟨rfl, g1⟩ := Gd.ite g
    cases ra
    cases rb
    obtain ⟨r, e1, e2⟩ := T.is _
    exact ⟨_, r, rfl, rfl, e1, by rw [e2]; exact g1.fin rs (.bl _)⟩
  · exact g.elim
theorem ras_strs {K : PySem.W.Frag} {ρ : Rho} {H : Hp} : ∀ ss : List Str, RAs K ρ H (ss.map .str) (ss.map V.str)
  | [] => .nil
  | s :: ss => .cons (.str s) (ras_strs ss)
theorem s_ixT (T : TabK X.K X.w x tbl) : IxS X W (opIxT x tbl) := by
  obtain ⟨es, n, D⟩ := T.kd
  refine ⟨_, ix_kdict, fun σ ρ H S a b v w Q rs ra rb g => ?_⟩
  unfold opIxT at g
  split at g
  · obtain ⟨rfl, g1⟩ := Gd.ite g
    obtain ⟨ss, es2, g2⟩ := g1.orBad
    cases ra
    cases rb
    obtain ⟨p, e1, e2⟩ := T.some_ es2
    exact ⟨_, _, .ref p, rfl, rfl, ⟨es, n, .ref p, D.at_, D.lit, e1, rfl⟩, g2.fin rs (.tup (.inr e2) (ras_strs ss))⟩
  · exact g.elim
end
/-! ### the end of a law -/
/-- from the law's mirror: true at each script -/
theorem law_end {l : PySem.W.OpenLaw} {n k : Nat} {q : Program} {loose : List Str} {XP : (Str → Option Value) → Heap → Prop} {YP : World → Heap → Prop} {d : DefRec} {x : Str}
    (hn : l.most = some n) (hn2 : n ≤ sizeLine) (hdf : d.params.defaults = []) (hr : Room k callerA)
    (F : ∀ (w : World) (mg : Str → Option Value) (fa : Addr) (h : Heap), YP w h → h.Ns mainGlobals mg → mg d.name = some (.ref fa) →
      ∃ (K : PySem.W.Frag) (fd : FuncData) (fm : FM), K.In h ∧ (∀ (s : Shared) (u : Value), BindsTo s fd ⟨[u], []⟩ [(x, u)]) ∧
        (∀ ns : List Int, ns.length ≤ n → ∃ S, fm [.scr ns] [] = .ok (.bl true) S) ∧ ∀ base : Heap, K.In base → base.Ns mainGlobals mg → FnG l.prog w K mg base k fa fd [x] fm) :
    PySem.W.WalkO q loose XP YP l.row.toRowW d [] (fun f vs => PySem.call f vs) := by
  refine Att.attach_call hn hdf fun w s₀ s₁ mg mb fa o pm cd doc a vs ns G Y ho hd hcd hmg hobj hints hlen hg => ?_
  obtain ⟨K, fd, fm, KX, hbind, hfm, hF⟩ := F w mg fa _ Y G.T.g hmg
  have rv := vals_ints hints
  have lenV := hints.length
  have hl : ns.length ≤ sizeLine := Nat.le_trans hlen hn2
  obtain ⟨Sf, ef⟩ := hfm ns hlen
  -- one heap of ours: at most the script is told in it
  have main : ∀ H : Hp, (∀ b u, H b = some u → b = a ∧ K.lookup a = none ∧ ∃ ob xs, u = .frz ob (.lst xs)) → HOk l.prog w H s₁.heap → (∃ ρ : Rho, ρ.nu = [] ∧ ρ.hi = [] ∧ ScrAt K ρ H a (ns.map V.int)) →
      codeAny (model l.prog w) callerA (.call (.ref fa) ⟨[.ref a], []⟩) (fun r s' => r = .ok (.ret (.bool true)) ∧ OldK s₁.heap s'.heap ∧ s'.os = s₁.os ∧ AllBare s'.gens) s₁ := by
    rintro H hH hok ⟨ρ, hρ1, hρ2, hscr⟩
    have notA : ∀ {b : Addr} {u : Obj}, s₁.heap.get? b = some u → (∀ its m, u.data = .seq its m → False) → H b = none := fun {b u} e hne => by
      cases z : H b with
      | none => rfl
      | some v =>
        obtain ⟨rfl, _⟩ := hH b v z
        rw [hobj] at e
        cases e
        exact (hne _ _ rfl).elim
    have toNs : ∀ {b : Addr} {m : Str → Option Value}, s₁.heap.Ns b m → (hidT s₁.heap H).Ns b m := fun {b m} ⟨u, es, ep, e, dt, r⟩ =>
      ⟨u, es, ep, hidT_get e (notA e fun its m z => by rw [dt] at z; cases z), dt, r⟩
    have inK : K.In (hidT s₁.heap H) := fun b u e => hidT_get (KX b u e) (by
      cases z : H b with
      | none => rfl
      | some v =>
        obtain ⟨rfl, h2, _⟩ := hH b v z
        rw [h2] at e
        cases e)
    have hM : Mod K mg (hidT s₁.heap H) := ⟨inK, toNs G.T.g, ⟨mb, toNs G.T.b, G.T.builtins⟩, let ⟨mc, h1, h2⟩ := G.T.nolimit; ⟨mc, toNs h1, h2⟩⟩
    have e0 : Env0 l.prog w K mg (hidT s₁.heap H) callerA [] s₁ H := { frames := rfl, mod := hM, bs := fun b u e => of_hidT e, bsz := Nat.le_of_eq (hidT_size _ _), funs := trivial, frf := (fun b hb => by cases hb), hok := hok, bare := .of_eq hg }
    have rs : RS K ρ H [] := {
      len := by rw [hρ1]; rfl
      nd := by rw [hρ1]; exact List.nodup_nil
      hid := fun p hp => by rw [hρ2] at hp; cases hp
      at_ := fun i p u e1 e2 => by cases e2 }
    have gd : Gd (RA K) K (fun _ _ _ _ => False) [] ρ H (fun v _ => v = .bl true) (fm [.scr ns] []) := by
      rw [ef]
      intro ρ' H' v _ _ r
      cases r
      rfl
    refine codeAny_mono ((hF _ inK (toNs G.T.g)).run callerA [] s₁ H ⟨[.ref a], []⟩ [.ref a] [.ref a] (fun v _ => v = .bl true) (fun _ _ _ => False) hr rfl e0 (hbind s₁ (.ref a)) (.cons rfl .nil) ⟨ρ, _, _, rs, .cons (.scr hscr) .nil, gd⟩) fun r s' hq => ?_
    cases r with
    | error e =>
      obtain ⟨_, _, _, _, _, _, _, _, _, _, _, _, z⟩ := hq
      exact z.elim
    | ok fl =>
      cases fl with
      | next => exact hq.elim
      | brk => exact hq.elim
      | cont => exact hq.elim
      | ret u =>
        obtain ⟨v, H', os, bare, un, hok', rvu, qv⟩ := hq
        have qv : v = .bl true := qv
        subst qv
        cases rvu
        refine ⟨rfl, OldK.of_keep fun b ob e => ?_, os, bare⟩
        cases z : H b with
        | none => exact un.keep b ob e z (fun hm => nomatch hm) (fun hm => nomatch hm)
        | some y =>
          obtain ⟨rfl, _, o2, xs, rfl⟩ := hH b y z
          have e1 := (hok _ _ z).1
          have e2 := (hok' _ _ (un.frzs _ _ _ z)).1
          rw [e] at e1
          cases e1
          exact e2
  cases hk : K.lookup a with
  | some ob =>
    have e := KX a ob hk
    rw [hobj] at e
    cases e
    exact main (fun _ => none) (fun _ _ z => nomatch z) (fun _ _ z => nomatch z) ⟨⟨[], []⟩, rfl, rfl, .inr (.inr ⟨_, vs.toArray, _, hk, rfl, rfl, rfl, by rw [List.size_toArray, lenV]; exact hl, by simpa using rv⟩)⟩
  | none =>
    have hyes : ∀ b u, (fun b => if b = a then some (HO.frz { cls := .type "list", data := .seq vs.toArray } (.lst (ns.map V.int))) else none) b = some u → b = a ∧ u = .frz { cls := .type "list", data := .seq vs.toArray } (.lst (ns.map V.int)) := fun b u z => by
      by_cases hb : b = a
      · exact ⟨hb, (Option.some.inj ((if_pos hb).symm.trans z)).symm⟩
      · cases (if_neg hb).symm.trans z
    refine main _ (fun b u z => ⟨(hyes b u z).1, hk, _, _, (hyes b u z).2⟩) (fun b u z => ?_) ⟨⟨[], []⟩, rfl, rfl, .inl ⟨.inr ⟨_, if_pos rfl⟩, fun z => z.elim (fun z => nomatch z) fun z => nomatch z⟩⟩
    obtain ⟨rfl, rfl⟩ := hyes b u z
    exact ⟨hobj, by rw [List.length_map]; exact hl, vs, _, rv, hobj⟩
end Mi
set_option Elab.async false
set_option linter.all false
set_option maxRecDepth 100000
set_option maxHeartbeats 2000000
/-! Mi9: what the printed proofs lean on. -/
namespace Mi
open PySem PySem.Spec PyProof.Rows
open L2
def eNeg (m : EM) : EM := fun env S => (m env S).bind fun a S1 => match a with
  | .int i => .ok (.int (-i)) S1
  | _ => .bad
/-- a text's signs, a list's or a tuple's items -/
def itemsW (S : Sto) : A → Option (List A)
  | .str z => some (signs z)
  | a => seqV a
def iAny (m : EM) : AM := fun env S => (m env S).bind fun a S1 => orBad (itemsW S1 a) fun xs => .ok xs S1
section
variable {X : Cx} {W : WX} {e tg : Expr} {m : EM} {pos : Pos}
theorem se_neg (ha : SE X W e m) : SE X W (.UnaryOp .USub e pos) (eNeg m) := wkE (pe_un un_neg ha) fun σ H Q ⟨ρ, env, S, rs, re, q⟩ => tX.bind rs re q fun ρ1 H1 a v S1 s1 rs1 re1 ra q1 => by
  cases ra with
  | int i => exact ⟨i, rfl, q1.fin rs1 (.int _)⟩
  | _ => exact q1.elim
theorem si_any (h : SE X W e m) : SI X W tg e (iAny m) := wkI (pi_or (si_seq h) (si_str h)) fun σ H R ⟨ρ, env, S, rs, re, g⟩ => by
  unfold iAny at g
  cases em : m env S with
  | bad => rw [em] at g; exact g.elim
  | exn c fs S' =>
    rw [em] at g
    exact .inl ⟨ρ, env, S, rs, re, by unfold iSeq; rw [em]; exact g⟩
  | ok a S' =>
    rw [em] at g
    cases a with
    | str z => exact .inr ⟨ρ, env, S, rs, re, by unfold iTxt; rw [em]; exact g⟩
    | _ => exact .inl ⟨ρ, env, S, rs, re, by unfold iSeq; rw [em]; exact g⟩
end
/-! ### contexts -/
section
variable {P : Program} {w : World} {K : PySem.W.Frag} {mg : Str → Option Value} {base : Heap} {N : List Str} {qual : Str} {scope : Scope} {f : Addr} {cdv : Value} {A : Around} {outer : List PySem.Env} {s : Shared} {H : Hp} {E : XK}
theorem bx_takes : Takes (BX P w K mg base N qual scope f cdv A outer s H E) (WE E) := takes_of rfl rfl rfl rfl
theorem bx_pass : PassG (BX P w K mg base N qual scope f cdv A outer s H E) (WE E) := passG_of bx_takes
theorem bx_po : PassesOwn (model P w) (BX P w K mg base N qual scope f cdv A outer s H E).A (BX P w K mg base N qual scope f cdv A outer s H E).env (BX P w K mg base N qual scope f cdv A outer s H E).xe := passes_of (X := BX P w K mg base N qual scope f cdv A outer s H E) rfl
end
/-! ### facts -/
structure Fc (fa : List He.Fa) (fn : List He.DefD) (ts : List He.Tab) (ex : PySem.W.Frag → Bool) (w : World) (K : PySem.W.Frag) (mg : Str → Option Value) : Prop where
  at_ : ∃ h, K.In h ∧ h.Ns mainGlobals mg
  t : He.SaysT fa fn ts w K
  more : ex K = true
section
variable {fa : List He.Fa} {fn : List He.DefD} {ts : List He.Tab} {ex : PySem.W.Frag → Bool} {w : World} {K : PySem.W.Frag} {mg : Str → Option Value}
theorem Fc.glo (F : Fc fa fn ts ex w K mg) (i : Nat) {x : Str} (e : fa[i]? = some (.glo x) := by rfl) : mg x = some (.ref (He.ga K x)) := let ⟨_, h1, h2⟩ := F.at_; He.glo_ok h1 h2 (F.t.d.fact i e)
theorem Fc.free (F : Fc fa fn ts ex w K mg) (i : Nat) {x : Str} (e : fa[i]? = some (.free x) := by rfl) : mg x = none := let ⟨_, h1, h2⟩ := F.at_; He.free_ok h1 h2 (F.t.d.fact i e)
theorem Fc.int (F : Fc fa fn ts ex w K mg) (i : Nat) {x : Str} {n : Int} (e : fa[i]? = some (.int x n) := by rfl) : ∃ u, mg x = some u ∧ RelV (.int n) u := let ⟨_, h1, h2⟩ := F.at_; let ⟨t, h⟩ := He.int_ok h1 h2 (F.t.d.fact i e); ⟨_, h, t, rfl⟩
theorem Fc.str (F : Fc fa fn ts ex w K mg) (i : Nat) {x z : Str} (e : fa[i]? = some (.str x z) := by rfl) : ∃ u, mg x = some u ∧ RelV (.str z) u := let ⟨_, h1, h2⟩ := F.at_; let ⟨t, h⟩ := He.str_ok h1 h2 (F.t.d.fact i e); ⟨_, h, t, rfl⟩
theorem Fc.cls (F : Fc fa fn ts ex w K mg) (i : Nat) {x : Str} (e : fa[i]? = some (.cls x) := by rfl) : Cls K (He.ga K x) := He.cls_ok (F.t.d.fact i e)
theorem Fc.noat (F : Fc fa fn ts ex w K mg) (i : Nat) {x f : Str} (e : fa[i]? = some (.noat x f) := by rfl) : NoAttr K (He.ga K x) f := He.noat_ok (F.t.d.fact i e)
theorem Fc.meth (F : Fc fa fn ts ex w K mg) (i : Nat) {x m : Str} (e : fa[i]? = some (.meth x m) := by rfl) : Meth K (He.ga K x) m (He.ma K (He.ga K x) m) := He.meth_ok (F.t.d.fact i e)
theorem Fc.mkr (F : Fc fa fn ts ex w K mg) (i : Nat) {x : Str} (e : fa[i]? = some (.mkr x) := by rfl) : Mk K (He.ga K x) (He.ma K (He.ga K x) "__init__") := He.mkr_ok (F.t.d.fact i e)
theorem Fc.exm (F : Fc fa fn ts ex w K mg) (i : Nat) {x y : Str} {b : Bool} (e : fa[i]? = some (.exm x y b) := by rfl) : PySem.W.exmOne K (.ref (He.ga K x)) (.ref (He.ga K y)) = some b := He.exm_ok (F.t.d.fact i e)
theorem Fc.keep (F : Fc fa fn ts ex w K mg) (i : Nat) {x : Str} (e : fa[i]? = some (.keep x) := by rfl) : PySem.W.keepIn K (.ref (He.ga K x)) = true := He.keep_ok (F.t.d.fact i e)
theorem Fc.def_ (F : Fc fa fn ts ex w K mg) (i : Nat) {d : He.DefD} (e : fn[i]? = some d := by rfl) : ∃ fd, FunD K d.name d.qual d.params d.body d.scope (d.dvs K) (d.kws K) (He.fAd K d.at_) fd := F.t.d.def_ i e
/-- a written constant's value in an expression -/
theorem se_gl {X : Cx} {W : WX} {x : Str} {a : A} {v : V} {pos : Pos} (h : ∃ u, X.mg x = some u ∧ RelV v u) (hg : Gl X x) (ra : ∀ ρ H, RA X.K ρ H a v) (hd : (x == ("__debug__" : Str)) = false := by decide) : SE X W (.Name x pos) (eC a) := let ⟨_, h1, h2⟩ := h; se_glob hg h1 h2 ra hd
end
section
variable {P : Program} {w : World} {K : PySem.W.Frag} {mg : Str → Option Value} {base : Heap} {k : Nat} {x qual c : Str} {params : Arguments} {body : List Stmt} {scope : Scope} {f : Addr} {fd : FuncData} {ps : List Str} {fm : FM}
theorem cal_mk (gm : mg x = some (.ref f)) (F : FunD K x qual params body scope [] [] f fd)
    (h : ∀ (kV doc pm : Value) (an : Option Addr) (cdv ct : Value) (us : List Value), us.length = ps.length → bindArgs (PySem.W.fnOf x qual params body scope .none kV doc pm an cdv ct) ⟨us, []⟩ = pure (ps.zip us))
    (G : FnG P w K mg base k f fd ps fm) : Cal P w K mg base k x [] fm := ⟨f, fd, ps, [], [], gm, F.kp, F.bindsN h, das_nil, G⟩
theorem met_mk (cl : Cls K (He.ga K c)) (gm : Meth K (He.ga K c) x f) (F : FunD K x qual params body scope [] [] f fd)
    (h : ∀ (kV doc pm : Value) (an : Option Addr) (cdv ct : Value) (us : List Value), us.length = ps.length → bindArgs (PySem.W.fnOf x qual params body scope .none kV doc pm an cdv ct) ⟨us, []⟩ = pure (ps.zip us))
    (G : FnG P w K mg base k f fd ps fm) : Met P w K mg base k c x [] fm := ⟨cl, f, fd, ps, [], [], gm, F.bindsN h, das_nil, G⟩
theorem mak_mk (gm : mg c = some (.ref (He.ga K c))) (mk : Mk K (He.ga K c) f) (F : FunD K x qual params body scope [] [] f fd)
    (h : ∀ (kV doc pm : Value) (an : Option Addr) (cdv ct : Value) (us : List Value), us.length = ps.length → bindArgs (PySem.W.fnOf x qual params body scope .none kV doc pm an cdv ct) ⟨us, []⟩ = pure (ps.zip us))
    (G : FnG P w K mg base k f fd ps fm) : Mak P w K mg base k c [] fm := ⟨gm, f, fd, ps, [], [], mk, F.bindsN h, das_nil, G⟩
end
/-- a while's bound -/
def FU : Nat := 100000000
end Mi
set_option Elab.async false
set_option linter.all false
set_option maxRecDepth 100000
set_option maxHeartbeats 2000000
/-! Mi10: what a mirror ends in (no heap any more). -/
namespace Mi
open PySem PySem.Spec PyProof.Rows
open L2
/-- a part ends with a value that P holds of, or with an exception that E holds of -/
def Hs {α : Type} (r : R α) (P : α → Sto → Prop) (E : Str → List (Str × A) → Sto → Prop) : Prop := match r with
  | .ok a S => P a S
  | .exn c fs S => E c fs S
  | .bad => False
/-- how a statement may end -/
structure Po where
  n : Env → Sto → Prop
  t : A → Sto → Prop
  b : Env → Sto → Prop
  c : Env → Sto → Prop
  x : Str → List (Str × A) → Env → Sto → Prop
def HS (r : SR) (p : Po) : Prop := match r with
  | .nx e S => p.n e S
  | .rt a S => p.t a S
  | .bk e S => p.b e S
  | .ct e S => p.c e S
  | .exn c fs e S => p.x c fs e S
  | .bad => False
section
variable {α β : Type} {P : α → Sto → Prop} {E : Str → List (Str × A) → Sto → Prop} {S : Sto} {env : Env} {p : Po}
@[simp] theorem hs_ok {a : α} : Hs (.ok a S) P E = P a S := rfl
@[simp] theorem hs_exn {c : Str} {fs : List (Str × A)} : Hs (.exn c fs S : R α) P E = E c fs S := rfl
@[simp] theorem hs_bad : Hs (.bad : R α) P E = False := rfl
@[simp] theorem hs_bind {r : R β} {k : β → Sto → R α} : Hs (r.bind k) P E = Hs r (fun a S => Hs (k a S) P E) E := by cases r <;> rfl
@[simp] theorem hs_ite {c : Prop} [Decidable c] {r r' : R α} : Hs (if c then r else r') P E = if c then Hs r P E else Hs r' P E := by by_cases h : c <;> simp [h]
theorem hs_orBad {o : Option β} {k : β → R α} : Hs (orBad o k) P E = ∃ a, o = some a ∧ Hs (k a) P E := by cases o <;> simp
theorem Hs.imp {r : R α} {P' : α → Sto → Prop} {E' : Str → List (Str × A) → Sto → Prop} (h : Hs r P E) (k : ∀ a S, P a S → P' a S) (e : ∀ c fs S, E c fs S → E' c fs S) : Hs r P' E' := by
  cases r with
  | ok a S => exact k _ _ h
  | exn c fs S => exact e _ _ _ h
  | bad => exact h
@[simp] theorem hS_nx : HS (.nx env S) p = p.n env S := rfl
@[simp] theorem hS_rt {a : A} : HS (.rt a S) p = p.t a S := rfl
@[simp] theorem hS_bk : HS (.bk env S) p = p.b env S := rfl
@[simp] theorem hS_ct : HS (.ct env S) p = p.c env S := rfl
@[simp] theorem hS_exn {c : Str} {fs : List (Str × A)} : HS (.exn c fs env S) p = p.x c fs env S := rfl
@[simp] theorem hS_bad : HS .bad p = False := rfl
@[simp] theorem hS_then {r : R α} {k : α → Sto → SR} : HS (r.thenS env k) p = Hs r (fun a S => HS (k a S) p) (fun c fs S => p.x c fs env S) := by cases r <;> rfl
@[simp] theorem hS_seq {r : SR} {k : Env → Sto → SR} : HS (r.seq k) p = HS r { p with n := fun e S => HS (k e S) p } := by cases r <;> rfl
theorem hS_lp {r : SR} {k : Env → Sto → SR} : HS (r.lp k) p = HS r { p with n := fun e S => HS (k e S) p, c := fun e S => HS (k e S) p, b := p.n } := by cases r <;> rfl
@[simp] theorem hS_ite {c : Prop} [Decidable c] {r r' : SR} : HS (if c then r else r') p = if c then HS r p else HS r' p := by by_cases h : c <;> simp [h]
theorem hS_orBad {o : Option α} {k : α → SR} : HS (orBadS o k) p = ∃ a, o = some a ∧ HS (k a) p := by cases o <;> simp
theorem HS.imp {r : SR} {p' : Po} (h : HS r p) (h1 : ∀ e S, p.n e S → p'.n e S) (h2 : ∀ a S, p.t a S → p'.t a S) (h3 : ∀ e S, p.b e S → p'.b e S) (h4 : ∀ e S, p.c e S → p'.c e S) (h5 : ∀ c fs e S, p.x c fs e S → p'.x c fs e S) : HS r p' := by
  cases r with
  | nx => exact h1 _ _ h
  | rt => exact h2 _ _ h
  | bk => exact h3 _ _ h
  | ct => exact h4 _ _ h
  | exn => exact h5 _ _ _ _ h
  | bad => exact h
/-! the parts, one by one -/
variable {P : A → Sto → Prop} {PB : Bool → Sto → Prop} {PL : List A → Sto → Prop} {a b c : EM} {m : AM} {t t' : TM} {s s' : SM}
theorem hs_var {i : Nat} {x : A} (h : env[i]? = some (some x)) : Hs (eVar i env S) P E = P x S := by unfold eVar; rw [h]; rfl
@[simp] theorem hs_var0 {x : A} {r : Env} : Hs (eVar 0 (some x :: r) S) P E = P x S := rfl
@[simp] theorem hs_varS {i : Nat} {x : Option A} {r : Env} : Hs (eVar (i + 1) (x :: r) S) P E = Hs (eVar i r S) P E := rfl
@[simp] theorem hs_c {x : A} : Hs (eC x env S) P E = P x S := rfl
@[simp] theorem hs_anil : Hs (aNil env S) PL E = PL [] S := rfl
@[simp] theorem hs_acons : Hs (aCons a m env S) PL E = Hs (a env S) (fun x S1 => Hs (m env S1) (fun xs S2 => PL (x :: xs) S2) E) E := by simp [aCons]
@[simp] theorem hs_tup : Hs (eTup m env S) P E = Hs (m env S) (fun xs S1 => xs.length ≤ 10000 ∧ P (.tup xs) S1) E := by
  unfold eTup
  rw [hs_bind]
  congr 1
  funext xs S1
  by_cases h : xs.length ≤ 10000 <;> simp [h]
@[simp] theorem hs_lst : Hs (eLst m env S) P E = Hs (m env S) (fun xs S1 => xs.length ≤ 10000 ∧ P (.lst xs) S1) E := by
  unfold eLst
  rw [hs_bind]
  congr 1
  funext xs S1
  by_cases h : xs.length ≤ 10000 <;> simp [h]
@[simp] theorem hs_new : Hs (eNew m env S) P E = Hs (m env S) (fun xs S1 => xs.length ≤ 10000 ∧ P (.loc S1.length) (S1 ++ [.lst xs])) E := by
  unfold eNew
  rw [hs_bind]
  congr 1
  funext xs S1
  by_cases h : xs.length ≤ 10000 <;> simp [h]
@[simp] theorem hs_op {g : OM} : Hs (eOp g a b env S) P E = Hs (a env S) (fun x S1 => Hs (b env S1) (fun y S2 => Hs (g x y S2) P E) E) E := by simp [eOp]
@[simp] theorem hs_asB {r : R A} : Hs (asB r) PB E = Hs r (fun x S1 => ∃ k, x = .bl k ∧ PB k S1) E := by
  unfold asB
  rw [hs_bind]
  congr 1
  funext x S1
  cases x <;> simp
@[simp] theorem hs_tOf : Hs (tOf a env S) PB E = Hs (a env S) (fun x S1 => ∃ k, x = .bl k ∧ PB k S1) E := by simp [tOf]
@[simp] theorem hs_tAnd : Hs (tAndM t t' env S) PB E = Hs (t env S) (fun k S1 => if k = true then Hs (t' env S1) PB E else PB false S1) E := by
  unfold tAndM
  rw [hs_bind]
  congr 1
  funext k S1
  cases k <;> simp
@[simp] theorem hs_tOr : Hs (tOrM t t' env S) PB E = Hs (t env S) (fun k S1 => if k = true then PB true S1 else Hs (t' env S1) PB E) E := by
  unfold tOrM
  rw [hs_bind]
  congr 1
  funext k S1
  cases k <;> simp
@[simp] theorem hs_tNot : Hs (tNotM t env S) PB E = Hs (t env S) (fun k S1 => PB (!k) S1) E := by simp [tNotM]
@[simp] theorem hs_tYes : Hs (tYesM env S) PB E = PB true S := rfl
@[simp] theorem hs_and : Hs (eAnd a b env S) P E = Hs (a env S) (fun x S1 => ∃ k, x = .bl k ∧ if k = true then Hs (b env S1) P E else P (.bl false) S1) E := by
  unfold eAnd
  rw [hs_bind]
  congr 1
  funext x S1
  cases x with
  | bl k => cases k <;> simp
  | _ => simp
@[simp] theorem hs_or : Hs (eOr a b env S) P E = Hs (a env S) (fun x S1 => ∃ k, x = .bl k ∧ if k = true then P (.bl true) S1 else Hs (b env S1) P E) E := by
  unfold eOr
  rw [hs_bind]
  congr 1
  funext x S1
  cases x with
  | bl k => cases k <;> simp
  | _ => simp
@[simp] theorem hs_not : Hs (eNot a env S) P E = Hs (a env S) (fun x S1 => ∃ k, x = .bl k ∧ P (.bl (!k)) S1) E := by
  unfold eNot
  rw [hs_bind]
  congr 1
  funext x S1
  cases x <;> simp
@[simp] theorem hs_if : Hs (eIf t a b env S) P E = Hs (t env S) (fun k S1 => if k = true then Hs (a env S1) P E else Hs (b env S1) P E) E := by
  unfold eIf
  rw [hs_bind]
  congr 1
  funext k S1
  cases k <;> simp
@[simp] theorem hs_chain {g g' : OM} : Hs (eChain g g' a b c env S) P E = Hs (a env S) (fun x S1 => Hs (b env S1) (fun y S2 => Hs (g x y S2) (fun z S3 => ∃ k, z = .bl k ∧ if k = true then Hs (c env S3) (fun w S4 => Hs (g' y w S4) P E) E else P (.bl false) S3) E) E) E := by
  unfold eChain
  simp only [hs_bind]
  congr 1
  funext x S1
  congr 1
  funext y S2
  congr 1
  funext z S3
  cases z with
  | bl k => cases k <;> simp
  | _ => simp
@[simp] theorem hs_call {g : FM} : Hs (eCall g m env S) P E = Hs (m env S) (fun as S1 => Hs (g as S1) P E) E := by simp [eCall]
@[simp] theorem hs_fn {g : FM} {das : List A} : Hs (eFn g das m env S) P E = Hs (m env S) (fun as S1 => Hs (g (as ++ das) S1) P E) E := by simp [eFn]
@[simp] theorem hs_mth {cl x : Str} {g : FM} {das : List A} : Hs (eMth cl x g das a m env S) P E = Hs (a env S) (fun o S1 => rcv S1 cl x o = true ∧ Hs (m env S1) (fun as S2 => Hs (g (o :: (as ++ das)) S2) P E) E) E := by
  unfold eMth
  rw [hs_bind]
  congr 1
  funext o S1
  cases h : rcv S1 cl x o <;> simp
@[simp] theorem hs_mk {cl : Str} {g : FM} {das : List A} : Hs (eMk cl g das m env S) P E = Hs (m env S) (fun as S1 => Hs (g (.loc S1.length :: (as ++ das)) (S1 ++ [.ins cl []])) (fun r S2 => r = .non ∧ P (.loc S1.length) S2) E) E := by
  unfold eMk
  simp only [hs_bind]
  congr 1
  funext as S1
  congr 1
  funext r S2
  cases r <;> simp
@[simp] theorem hs_mt {T : String} {g : MM} : Hs (eMt T g a m env S) P E = Hs (a env S) (fun o S1 => tyM T S1 o = true ∧ Hs (m env S1) (fun as S2 => Hs (g o as S2) P E) E) E := by
  unfold eMt
  rw [hs_bind]
  congr 1
  funext o S1
  cases h : tyM T S1 o <;> simp
@[simp] theorem hs_is {T : String} : Hs (eIs T a env S) P E = Hs (a env S) (fun x S1 => ∃ t, tyN S1 x = some t ∧ ∃ b, kitB t T = some b ∧ P (.bl b) S1) E := by
  unfold eIs
  rw [hs_bind]
  simp only [hs_orBad, hs_ok]
@[simp] theorem hs_neg : Hs (eNeg a env S) P E = Hs (a env S) (fun x S1 => ∃ i, x = .int i ∧ P (.int (-i)) S1) E := by
  unfold eNeg
  rw [hs_bind]
  congr 1
  funext x S1
  cases x <;> simp
@[simp] theorem hs_tru : Hs (tTru a env S) PB E = Hs (a env S) (fun x S1 => ∃ k, truA S1 x = some k ∧ PB k S1) E := by
  unfold tTru
  rw [hs_bind]
  simp only [hs_orBad, hs_ok]
@[simp] theorem hs_fld {cl f : Str} : Hs (eFld cl f a env S) P E = Hs (a env S) (fun x S1 => ∃ v, fldV S1 cl f x = some v ∧ P v S1) E := by
  unfold eFld
  rw [hs_bind]
  simp only [hs_orBad, hs_ok]
@[simp] theorem hs_onone {PO : Option Int → Sto → Prop} : Hs (oNone env S) PO E = PO none S := rfl
@[simp] theorem hs_osome {PO : Option Int → Sto → Prop} : Hs (oSome a env S) PO E = Hs (a env S) (fun x S1 => ∃ i, x = .int i ∧ PO (some i) S1) E := by
  unfold oSome
  rw [hs_bind]
  congr 1
  funext x S1
  cases x <;> simp
@[simp] theorem hs_sl {fresh : Bool} {lo hi : OMm} : Hs (eSl fresh a lo hi env S) P E = Hs (a env S) (fun x S1 => Hs (lo env S1) (fun l S2 => Hs (hi env S2) (fun u S3 => Hs (opSl fresh x l u S3) P E) E) E) E := by simp [eSl]
@[simp] theorem hs_any : Hs (iAny a env S) PL E = Hs (a env S) (fun x S1 => ∃ xs, itemsW S1 x = some xs ∧ PL xs S1) E := by
  unfold iAny
  rw [hs_bind]
  simp only [hs_orBad, hs_ok]
@[simp] theorem hs_lc {fresh : Bool} {vs : List Nat} {T : Tg} {mi : AM} : Hs (eLc fresh vs T mi t a env S) P E = Hs (mi env S) (fun xs S1 => xs.length ≤ 10000000 ∧ Hs (lcM T t a (wipeE env vs) xs [] S1) (fun ys S2 => Hs (newL fresh ys S2) P E) E) E := by
  unfold eLc
  rw [hs_bind]
  congr 1
  funext xs S1
  by_cases h : xs.length ≤ 10000000 <;> simp [h]
/-! statements -/
@[simp] theorem hS_sNx : HS (sNx env S) p = p.n env S := rfl
@[simp] theorem hS_sBk : HS (sBk env S) p = p.b env S := rfl
@[simp] theorem hS_sCt : HS (sCt env S) p = p.c env S := rfl
@[simp] theorem hS_sSeq : HS (sSeq s s' env S) p = HS (s env S) { p with n := fun e S => HS (s' e S) p } := by simp [sSeq]
@[simp] theorem hS_sExpr : HS (sExpr a env S) p = Hs (a env S) (fun _ S1 => p.n env S1) (fun c fs S => p.x c fs env S) := by simp [sExpr]
@[simp] theorem hS_sRet : HS (sRet a env S) p = Hs (a env S) (fun x S1 => p.t x S1) (fun c fs S => p.x c fs env S) := by simp [sRet]
@[simp] theorem hS_sRetN : HS (sRetN env S) p = p.t .non S := rfl
@[simp] theorem hS_sIf : HS (sIf t s s' env S) p = Hs (t env S) (fun k S1 => if k = true then HS (s env S1) p else HS (s' env S1) p) (fun c fs S => p.x c fs env S) := by
  unfold sIf
  rw [hS_then]
  congr 1
  funext k S1
  cases k <;> simp
@[simp] theorem hS_sAsg {i : Nat} : HS (sAsg (.nm i) a env S) p = Hs (a env S) (fun x S1 => p.n (env.set i (some x)) S1) (fun c fs S => p.x c fs env S) := by simp [sAsg, asg]
theorem hS_sAsgT {T : Tg} : HS (sAsg T a env S) p = Hs (a env S) (fun x S1 => ∃ env1, asg T x env = some env1 ∧ p.n env1 S1) (fun c fs S => p.x c fs env S) := by simp [sAsg, hS_orBad]
@[simp] theorem hS_sPar {i j : Nat} : HS (sPar i j m env S) p = Hs (m env S) (fun as S1 => ∃ x y, as = [x, y] ∧ p.n ((env.set i (some x)).set j (some y)) S1) (fun c fs S => p.x c fs env S) := by
  unfold sPar
  rw [hS_then]
  congr 1
  funext as S1
  rcases as with _ | ⟨x, _ | ⟨y, _ | ⟨z, r⟩⟩⟩
  · simp
  · simp
  · exact propext ⟨fun h => ⟨x, y, rfl, h⟩, fun ⟨x', y', h, q⟩ => by cases h; exact q⟩
  · simp
@[simp] theorem hS_sSetI : HS (sSetI a b c env S) p = Hs (c env S) (fun v S1 => Hs (a env S1) (fun o S2 => Hs (b env S2) (fun i S3 => ∃ n k xs j, o = .loc n ∧ i = .int k ∧ S3[n]? = some (.lst xs) ∧ ixN xs.length k = some j ∧ p.n env (S3.set n (.lst (xs.set j v))))
    (fun c fs S => p.x c fs env S)) (fun c fs S => p.x c fs env S)) (fun c fs S => p.x c fs env S) := by
  unfold sSetI
  simp only [hS_then]
  congr 1
  funext v S1
  congr 1
  funext o S2
  congr 1
  funext i S3
  cases o with
  | loc n =>
    cases i with
    | int k =>
      cases h : S3[n]? with
      | none => simp [h]
      | some u =>
        cases u with
        | lst xs => simp [h, hS_orBad]
        | _ => simp [h]
    | _ => simp
  | _ => simp
@[simp] theorem hS_sSetF {cl f : Str} : HS (sSetF cl f a b env S) p = Hs (b env S) (fun v S1 => Hs (a env S1) (fun o S2 => ∃ n fs, o = .loc n ∧ S2[n]? = some (.ins cl fs) ∧ fs.length < 1000 ∧ p.n env (S2.set n (.ins cl (putA f v fs)))) (fun c fs S => p.x c fs env S)) (fun c fs S => p.x c fs env S) := by
  unfold sSetF
  simp only [hS_then]
  congr 1
  funext v S1
  congr 1
  funext o S2
  cases o with
  | loc n =>
    cases h : S2[n]? with
    | none => simp [h]
    | some u =>
      cases u with
      | ins c' fs =>
        by_cases hc : c' = cl
        · subst hc
          by_cases hl : fs.length < 1000 <;> simp [h, hl]
        · simp [h, hc]
      | _ => simp [h]
  | _ => simp
@[simp] theorem hS_sAugF {cl f : Str} {g : OM} : HS (sAugF cl f g a b env S) p = Hs (a env S) (fun o S1 => ∃ n x, o = .loc n ∧ fldV S1 cl f (.loc n) = some x ∧ Hs (b env S1) (fun v S2 => Hs (g x v S2) (fun y S3 => ∃ fs, S3[n]? = some (.ins cl fs) ∧ fs.length < 1000 ∧ p.n env (S3.set n (.ins cl (putA f y fs))))
    (fun c fs S => p.x c fs env S)) (fun c fs S => p.x c fs env S)) (fun c fs S => p.x c fs env S) := by
  unfold sAugF
  simp only [hS_then]
  congr 1
  funext o S1
  cases o with
  | loc n =>
    simp only [hS_orBad, hS_then]
    apply propext
    constructor
    · rintro ⟨x, hx, h⟩
      refine ⟨n, x, rfl, hx, h.imp (fun v S2 h => h.imp (fun y S3 h => ?_) fun _ _ _ z => z) fun _ _ _ z => z⟩
      cases e : S3[n]? with
      | none => simp only [e] at h; exact h.elim
      | some u =>
        cases u with
        | ins c' fs =>
          simp only [e, hS_ite, hS_nx, hS_bad] at h
          split at h
          · rename_i hc
            obtain ⟨rfl, hl⟩ := hc
            exact ⟨fs, rfl, hl, h⟩
          · exact h.elim
        | _ => simp only [e] at h; exact h.elim
    · rintro ⟨n', x, hn, hx, h⟩
      cases hn
      refine ⟨x, hx, h.imp (fun v S2 h => h.imp (fun y S3 h => ?_) fun _ _ _ z => z) fun _ _ _ z => z⟩
      obtain ⟨fs, e, hl, h⟩ := h
      simp [e, hl, h]
  | _ => simp
@[simp] theorem hS_sRaise {cl : Str} {fl : List Str} : HS (sRaise cl fl m env S) p = Hs (m env S) (fun as S1 => as.length = fl.length ∧ p.x cl (fl.zip as).reverse env S1) (fun c fs S => p.x c fs env S) := by
  unfold sRaise
  rw [hS_then]
  congr 1
  funext as S1
  by_cases h : as.length = fl.length <;> simp [h]
@[simp] theorem hS_sTry {hs : Str → Option Bool} {i : Nat} {mr : Str → List (Str × A) → EM} : HS (sTryAs hs i mr s env S) p = HS (s env S) { p with x := fun c fs env1 S1 => (hs c = some true ∧ (i < env1.length ∧ fs ≠ []) ∧ Hs (mr c fs (env1.set i none) S1) p.t (fun _ _ _ => False)) ∨ (hs c = some false ∧ p.x c fs env1 S1) } := by
  unfold sTryAs
  cases e : s env S with
  | exn c fs env1 S1 =>
    simp only [hS_exn]
    cases h : hs c with
    | none => simp
    | some b =>
      cases b with
      | true =>
        by_cases hc : i < env1.length ∧ fs ≠ []
        · simp only [if_pos hc]
          cases mr c fs (env1.set i none) S1 <;> simp [hc]
        · simp [if_neg hc]
          intro h1 h2
          exact absurd ⟨h1, h2⟩ hc
      | false => simp
  | _ => simp
@[simp] theorem hs_fnM {np n : Nat} {as : List A} : Hs (fnM np n s as S) P E = (as.length = np ∧ HS (s (as.map some ++ List.replicate (n - as.length) none) S) { n := fun _ S => P .non S, t := P, b := fun _ _ => False, c := fun _ _ => False, x := fun c fs _ S => E c fs S }) := by
  unfold fnM
  by_cases h : as.length = np
  · rw [if_pos h]
    cases s (as.map some ++ List.replicate (n - as.length) none) S <;> simp [h]
  · rw [if_neg h]
    simp [h]
end
/-! loops -/
section
variable {p : Po} {t : TM} {b : SM} {T : Tg} {env : Env} {S : Sto}
theorem hS_while (I : Nat → Env → Sto → Prop) (step : ∀ m e S, I m e S → Hs (t e S) (fun k S1 => if k = true then HS (b e S1) { p with n := fun e' S' => ∃ m', m' < m ∧ I m' e' S', c := fun e' S' => ∃ m', m' < m ∧ I m' e' S', b := p.n } else p.n e S1) (fun c fs S => p.x c fs e S)) :
    ∀ (n m : Nat) (env : Env) (S : Sto), m < n → I m env S → HS (whileM t b n env S) p
  | 0, m, _, _, h, _ => absurd h (Nat.not_lt_zero m)
  | n + 1, m, env, S, h, hi => by
    have z := step m env S hi
    unfold whileM
    rw [hS_then]
    refine z.imp (fun k S1 q => ?_) fun _ _ _ q => q
    cases k with
    | true =>
      simp only [if_true] at q
      simp only [hS_lp]
      refine HS.imp q ?_ (fun _ _ q => q) (fun _ _ q => q) ?_ (fun _ _ _ _ q => q)
      · rintro e S ⟨m', h1, h2⟩
        exact hS_while I step n m' e S (by omega) h2
      · rintro e S ⟨m', h1, h2⟩
        exact hS_while I step n m' e S (by omega) h2
    | false => simpa using q
theorem hS_sWhile (n : Nat) : HS (sWhile n t b env S) p = HS (whileM t b n env S) p := rfl
theorem hS_for (I : List A → Env → Sto → Prop) (step : ∀ a as e S, I (a :: as) e S → ∃ env1, asg T a e = some env1 ∧ HS (b env1 S) { p with n := I as, c := I as, b := p.n }) (fin : ∀ e S, I [] e S → p.n e S) :
    ∀ (as : List A) (env : Env) (S : Sto), I as env S → HS (forL T b as env S) p
  | [], env, S, h => fin _ _ h
  | a :: as, env, S, h => by
    obtain ⟨env1, e1, q⟩ := step a as env S h
    unfold forL
    rw [hS_orBad]
    refine ⟨env1, e1, ?_⟩
    rw [hS_lp]
    exact HS.imp q (fun e S q => hS_for I step fin as e S q) (fun _ _ q => q) (fun _ _ q => q) (fun e S q => hS_for I step fin as e S q) (fun _ _ _ _ q => q)
@[simp] theorem hS_sFor {mi : AM} : HS (sFor T mi b env S) p = Hs (mi env S) (fun xs S1 => HS (forL T b xs env S1) p) (fun c fs S => p.x c fs env S) := by simp [sFor]
/-- over a numbered list that stays as it is -/
theorem hS_forN {n : Nat} {xs : List A} (I : Nat → Env → Sto → Prop) (stay : ∀ i e S, I i e S → S[n]? = some (.lst xs)) (step : ∀ i a e S, xs[i]? = some a → I i e S → ∃ env1, asg T a e = some env1 ∧ HS (b env1 S) { p with n := I (i + 1), c := I (i + 1), b := p.n }) (fin : ∀ e S, I xs.length e S → p.n e S) :
    ∀ (k i : Nat) (env : Env) (S : Sto), xs.length < k + i → i ≤ xs.length → I i env S → HS (forN T b n k i env S) p
  | 0, i, _, _, h, h2, _ => by omega
  | k + 1, i, env, S, h, h2, hi => by
    have e0 := stay i env S hi
    unfold forN
    simp only [e0]
    by_cases hl : i < xs.length
    · have ex : xs[i]? = some xs[i] := List.getElem?_eq_getElem hl
      simp only [ex]
      obtain ⟨env1, e1, q⟩ := step i _ env S ex hi
      rw [hS_orBad]
      refine ⟨env1, e1, ?_⟩
      rw [hS_lp]
      exact HS.imp q (fun e S q => hS_forN I stay step fin k (i + 1) e S (by omega) hl q) (fun _ _ q => q) (fun _ _ q => q) (fun e S q => hS_forN I stay step fin k (i + 1) e S (by omega) hl q) (fun _ _ _ _ q => q)
    · have ei : i = xs.length := by omega
      subst ei
      have ex : xs[xs.length]? = none := by simp
      simp only [ex]
      exact fin _ _ hi
@[simp] theorem hS_sForN {k : Nat} {me : EM} : HS (sForN k T me b env S) p = Hs (me env S) (fun a S1 => ∃ n, a = .loc n ∧ HS (forN T b n k 0 env S1) p) (fun c fs S => p.x c fs env S) := by
  unfold sForN
  rw [hS_then]
  congr 1
  funext a S1
  cases a <;> simp
/-- a comprehension whose parts are plain -/
theorem hs_lcM {tt : TM} {me : EM} {env0 : Env} {P : List A → Sto → Prop} {E : Str → List (Str × A) → Sto → Prop} (I : List A → List A → Sto → Prop)
    (step : ∀ a as acc S, I (a :: as) acc S → ∃ env1, asg T a env0 = some env1 ∧ Hs (tt env1 S) (fun k S1 => if k = true then Hs (me env1 S1) (fun y S2 => I as (acc ++ [y]) S2) (fun _ _ _ => False) else I as acc S1) (fun _ _ _ => False)) (fin : ∀ acc S, I [] acc S → P acc S) :
    ∀ (as acc : List A) (S : Sto), I as acc S → Hs (lcM T tt me env0 as acc S) P E
  | [], acc, S, h => fin _ _ h
  | a :: as, acc, S, h => by
    obtain ⟨env1, e1, q⟩ := step a as acc S h
    unfold lcM
    rw [hs_orBad]
    refine ⟨env1, e1, ?_⟩
    rw [hs_bind]
    cases e2 : tt env1 S with
    | ok k S1 =>
      rw [e2] at q
      cases k with
      | true =>
        simp only [noX_ok, hs_ok, hs_bind]
        simp only [hs_ok, if_true] at q
        cases e3 : me env1 S1 with
        | ok y S2 =>
          rw [e3] at q
          simp only [noX_ok, hs_ok]
          exact hs_lcM I step fin as _ S2 q
        | exn => rw [e3] at q; exact q.elim
        | bad => rw [e3] at q; exact q.elim
      | false =>
        simp only [noX_ok, hs_ok]
        simp only [hs_ok, Bool.false_eq_true, if_false] at q
        exact hs_lcM I step fin as _ S1 q
    | exn => rw [e2] at q; exact q.elim
    | bad => rw [e2] at q; exact q.elim
end
end Mi
set_option Elab.async false
set_option linter.all false
set_option maxRecDepth 100000
set_option maxHeartbeats 2000000
/-! Mi11: operators and built-ins on values that are known. -/
namespace Mi
open PySem PySem.Spec PyProof.Rows
open L2
def isN : A → Bool
  | .non => true
  | _ => false
def isB (b : Bool) : A → Bool
  | .bl k => k == b
  | _ => false
section
variable {P : A → Sto → Prop} {E : Str → List (Str × A) → Sto → Prop} {S : Sto} {i j : Int} {x y z : Str} {p q : Bool} {a b : A} {xs ys : List A}
@[simp] theorem hs_addI : Hs (opAdd (.int i) (.int j) S) P E = P (.int (i + j)) S := rfl
@[simp] theorem hs_addS : Hs (opAdd (.str x) (.str y) S) P E = (x.length + y.length ≤ 10000000 ∧ P (.str (x ++ y)) S) := by
  unfold opAdd
  by_cases h : x.length + y.length ≤ 10000000 <;> simp [h]
@[simp] theorem hs_addT : Hs (opAdd (.tup xs) (.tup ys) S) P E = (xs.length + ys.length ≤ 100000 ∧ P (.tup (xs ++ ys)) S) := by
  unfold opAdd
  by_cases h : xs.length + ys.length ≤ 100000 <;> simp [h]
@[simp] theorem hs_addL : Hs (opAdd (.lst xs) (.lst ys) S) P E = (xs.length + ys.length ≤ 100000 ∧ P (.lst (xs ++ ys)) S) := by
  unfold opAdd
  by_cases h : xs.length + ys.length ≤ 100000 <;> simp [h]
@[simp] theorem hs_subI : Hs (opSub (.int i) (.int j) S) P E = P (.int (i - j)) S := rfl
@[simp] theorem hs_mulI : Hs (opMul (.int i) (.int j) S) P E = (i.natAbs.log2 + j.natAbs.log2 < 1000000 ∧ P (.int (i * j)) S) := by
  unfold opMul
  by_cases h : i.natAbs.log2 + j.natAbs.log2 < 1000000 <;> simp [h]
@[simp] theorem hs_mulS : Hs (opMul (.str x) (.int j) S) P E = ((j.natAbs ≤ 1000000 ∧ x.length * j.toNat ≤ 10000000) ∧ P (.str (Txt.mul x j)) S) := by
  unfold opMul
  by_cases h : j.natAbs ≤ 1000000 ∧ x.length * j.toNat ≤ 10000000 <;> simp [h]
@[simp] theorem hs_divI : Hs (opDiv (.int i) (.int j) S) P E = ((0 < j ∧ j.natAbs.log2 < 9000) ∧ P (.int (i / j)) S) := by
  unfold opDiv
  by_cases h : 0 < j ∧ j.natAbs.log2 < 9000 <;> simp [h]
@[simp] theorem hs_modI : Hs (opMod (.int i) (.int j) S) P E = (0 < j ∧ P (.int (i % j)) S) := by
  unfold opMod
  by_cases h : 0 < j <;> simp [h]
@[simp] theorem hs_powI : Hs (opPow (.int i) (.int j) S) P E = ((0 ≤ j ∧ j ≤ 1000000 ∧ i.natAbs < 2 ^ 64) ∧ P (.int (i ^ j.toNat)) S) := by
  unfold opPow
  by_cases h : 0 ≤ j ∧ j ≤ 1000000 ∧ i.natAbs < 2 ^ 64 <;> simp [h]
theorem hs_ansB {o : Option Bool} : Hs (ansB o S) P E = ∃ k, o = some k ∧ P (.bl k) S := by cases o <;> simp [ansB]
theorem hs_eq : Hs (opEq a b S) P E = ∃ k, eqG S a b = some k ∧ P (.bl k) S := hs_ansB
theorem hs_ne : Hs (opNe a b S) P E = ∃ k, eqG S a b = some k ∧ P (.bl (!k)) S := by
  unfold opNe
  rw [hs_ansB]
  cases h : eqG S a b with
  | none => simp
  | some k => cases k <;> simp
@[simp] theorem hs_eqI : Hs (opEq (.int i) (.int j) S) P E = P (.bl (decide (i = j))) S := rfl
@[simp] theorem hs_eqS : Hs (opEq (.str x) (.str y) S) P E = P (.bl (decide (x = y))) S := rfl
@[simp] theorem hs_eqB : Hs (opEq (.bl p) (.bl q) S) P E = P (.bl (decide (p = q))) S := rfl
@[simp] theorem hs_neI : Hs (opNe (.int i) (.int j) S) P E = P (.bl (!decide (i = j))) S := rfl
@[simp] theorem hs_neS : Hs (opNe (.str x) (.str y) S) P E = P (.bl (!decide (x = y))) S := rfl
@[simp] theorem hs_neB : Hs (opNe (.bl p) (.bl q) S) P E = P (.bl (!decide (p = q))) S := rfl
@[simp] theorem hs_ltI : Hs (opLt (.int i) (.int j) S) P E = P (.bl (decide (i < j))) S := rfl
@[simp] theorem hs_leI : Hs (opLe (.int i) (.int j) S) P E = P (.bl (decide (i ≤ j))) S := rfl
@[simp] theorem hs_gtI : Hs (opGt (.int i) (.int j) S) P E = P (.bl (decide (j < i))) S := rfl
@[simp] theorem hs_geI : Hs (opGe (.int i) (.int j) S) P E = P (.bl (decide (j ≤ i))) S := rfl
@[simp] theorem hs_isN : Hs (opIs a .non S) P E = P (.bl (isN a)) S := by cases a <;> rfl
@[simp] theorem hs_isB : Hs (opIs a (.bl q) S) P E = P (.bl (isB q a)) S := by cases a <;> rfl
@[simp] theorem hs_isnotN : Hs (opIsNot a .non S) P E = P (.bl (!isN a)) S := by cases a <;> rfl
@[simp] theorem hs_ixS : Hs (opIx (.str z) (.int i) S) P E = (z.length ≤ 10000000 ∧ ∃ c, atI z.cps.toList i = some c ∧ P (.str ⟨#[c]⟩) S) := by
  unfold opIx
  by_cases h : z.length ≤ 10000000 <;> simp [h, hs_orBad]
@[simp] theorem hs_ixT : Hs (opIx (.tup xs) (.int i) S) P E = ∃ v, atI xs i = some v ∧ P v S := by
  unfold opIx
  rw [hs_orBad]
  simp
@[simp] theorem hs_ixL : Hs (opIx (.lst xs) (.int i) S) P E = ∃ v, atI xs i = some v ∧ P v S := by
  unfold opIx
  simp [hs_orBad, lstOf]
theorem hs_ixN {n : Nat} (h : S[n]? = some (.lst xs)) : Hs (opIx (.loc n) (.int i) S) P E = ∃ v, atI xs i = some v ∧ P v S := by
  unfold opIx
  simp [hs_orBad, lstOf, h]
@[simp] theorem hs_lenS : Hs (bLen [.str z] S) P E = (z.length ≤ 10000000 ∧ P (.int z.length) S) := by
  unfold bLen
  by_cases h : z.length ≤ 10000000 <;> simp [h]
@[simp] theorem hs_lenT : Hs (bLen [.tup xs] S) P E = P (.int xs.length) S := rfl
@[simp] theorem hs_lenL : Hs (bLen [.lst xs] S) P E = P (.int xs.length) S := by
  unfold bLen
  simp [lstOf]
theorem hs_lenN {n : Nat} (h : S[n]? = some (.lst xs)) : Hs (bLen [.loc n] S) P E = P (.int xs.length) S := by
  unfold bLen
  simp [lstOf, h]
@[simp] theorem hs_abs : Hs (bAbs [.int i] S) P E = P (.int (if i < 0 then -i else i)) S := rfl
@[simp] theorem hs_intI : Hs (bInt [.int i] S) P E = P (.int i) S := rfl
@[simp] theorem hs_intB : Hs (bInt [.bl p] S) P E = P (.int (if p then 1 else 0)) S := rfl
@[simp] theorem hs_intS : Hs (bInt [.str z] S) P E = (z.length ≤ 640 ∧ ∃ n, PySem.intText? z = some n ∧ P (.int n) S) := by
  unfold bInt
  by_cases h : z.length ≤ 640 <;> simp [h, hs_orBad]
@[simp] theorem hs_strI : Hs (bStr [.int i] S) P E = (i.natAbs.log2 < 1920 ∧ P (.str (toString i)) S) := by
  unfold bStr
  by_cases h : i.natAbs.log2 < 1920 <;> simp [h]
@[simp] theorem hs_tupL : Hs (bTuple [.lst xs] S) P E = P (.tup xs) S := by
  unfold bTuple
  simp [lstOf]
theorem hs_tupN {n : Nat} (h : S[n]? = some (.lst xs)) : Hs (bTuple [.loc n] S) P E = P (.tup xs) S := by
  unfold bTuple
  simp [lstOf, h]
@[simp] theorem hs_tupT : Hs (bTuple [.tup xs] S) P E = P (.tup xs) S := rfl
@[simp] theorem hs_slS {f : Bool} {l u : Option Int} : Hs (opSl f (.str z) l u S) P E = (z.length ≤ 10000000 ∧ P (.str (cutS z l u)) S) := by
  unfold opSl
  by_cases h : z.length ≤ 10000000 <;> simp [h]
@[simp] theorem hs_slT {f : Bool} {l u : Option Int} : Hs (opSl f (.tup xs) l u S) P E = P (.tup (cutG xs l u)) S := rfl
@[simp] theorem hs_newT : Hs (newL true xs S) P E = P (.loc S.length) (S ++ [.lst xs]) := rfl
@[simp] theorem hs_newF : Hs (newL false xs S) P E = P (.lst xs) S := rfl
@[simp] theorem hs_starts : Hs (mStarts (.str x) [.str y] S) P E = P (.bl (Txt.startswith x y)) S := rfl
@[simp] theorem hs_partition : Hs (mPartition (.str x) [.str y] S) P E = (((y.length == 0) = false ∧ x.length ≤ 10000000) ∧ P (.tup [.str (Txt.partition x y).1, .str (Txt.partition x y).2.1, .str (Txt.partition x y).2.2]) S) := by
  unfold mPartition
  by_cases h : (y.length == 0) = false ∧ x.length ≤ 10000000 <;> simp [h]
@[simp] theorem hs_split {f : Bool} : Hs (mSplit f (.str x) [.str y] S) P E = (((y.length == 0) = false ∧ x.length ≤ 10000000) ∧ Hs (newL f ((Txt.split x y).map .str) S) P E) := by
  unfold mSplit
  by_cases h : (y.length == 0) = false ∧ x.length ≤ 10000000 <;> simp [h]
theorem hs_app {n : Nat} (h : S[n]? = some (.lst xs)) : Hs (mAppend (.loc n) [a] S) P E = (xs.length < 10000000 ∧ P .non (S.set n (.lst (xs ++ [a])))) := by
  unfold mAppend
  by_cases hl : xs.length < 10000000 <;> simp [h, hl]
theorem hs_in {k : Bool} (h : inG S a b = some k) : Hs (opIn a b S) P E = P (.bl k) S := by unfold opIn; rw [h]; rfl
theorem hs_notin {k : Bool} (h : inG S a b = some k) : Hs (opNotIn a b S) P E = P (.bl (!k)) S := by unfold opNotIn; rw [h]; rfl
@[simp] theorem hs_inS : Hs (opIn (.str x) (.str y) S) P E = P (.bl (inS x y)) S := rfl
@[simp] theorem hs_notinS : Hs (opNotIn (.str x) (.str y) S) P E = P (.bl (!inS x y)) S := rfl
@[simp] theorem inS_one {c : Nat} : inS ⟨#[c]⟩ y = decide (c ∈ y.cps.toList) := rfl
end
/-! places in lists -/
theorem atI_nat {α : Type} (xs : List α) (n : Nat) : atI xs (n : Int) = xs[n]? := by
  unfold atI ixN
  rw [if_pos (Int.natCast_nonneg n)]
  by_cases h : n < xs.length
  · rw [if_pos (by omega)]
    simp
  · rw [if_neg (by omega)]
    simp [Nat.le_of_not_lt h]
theorem atI_pos {α : Type} {xs : List α} {i : Int} (h0 : 0 ≤ i) : atI xs i = xs[i.toNat]? := by
  obtain ⟨n, rfl⟩ := Int.eq_ofNat_of_zero_le h0
  exact atI_nat xs n
theorem atI_last {α : Type} (xs : List α) (x : α) : atI (xs ++ [x]) (-1) = some x := by
  unfold atI ixN
  have e1 : (-1 + ((xs ++ [x]).length : Int)).toNat = xs.length := by
    rw [List.length_append, List.length_singleton]
    omega
  rw [if_neg (by omega), if_pos (by rw [List.length_append, List.length_singleton]; omega), Option.bind_some, e1]
  simp
theorem get_set {n m : Nat} {S : Sto} {o : AO} (h : n < S.length) : (S.set n o)[m]? = if n = m then some o else S[m]? := by
  rw [List.getElem?_set]
  by_cases e : n = m
  · subst e
    simp [h]
  · simp [e]
theorem lt_of_get {n : Nat} {S : Sto} {o : AO} (h : S[n]? = some o) : n < S.length := (List.getElem?_eq_some_iff.mp h).1
theorem cut_from (l : List Nat) (a : Nat) : cutS ⟨l.toArray⟩ (some (a : Int)) none = ⟨(l.drop a).toArray⟩ := by
  unfold cutS
  show (⟨((l.drop (HT.sIx l.length 0 (some (a : Int)))).take (l.length - HT.sIx l.length 0 (some (a : Int)))).toArray⟩ : Str) = _
  rw [HT.sIx_nat]
  congr 2
  by_cases h : a ≤ l.length
  · rw [Nat.min_eq_left h, List.take_of_length_le (by rw [List.length_drop]; omega)]
  · rw [Nat.min_eq_right (by omega), List.drop_eq_nil_of_le (Nat.le_refl _), List.drop_eq_nil_of_le (by omega)]
    simp
theorem cut_to (l : List Nat) (b : Nat) : cutS ⟨l.toArray⟩ none (some (b : Int)) = ⟨(l.take b).toArray⟩ := by
  unfold cutS
  show (⟨((l.drop 0).take (HT.sIx l.length l.length (some (b : Int)) - 0)).toArray⟩ : Str) = _
  rw [HT.sIx_nat, List.drop_zero, Nat.sub_zero]
  congr 2
  by_cases h : b ≤ l.length
  · rw [Nat.min_eq_left h]
  · rw [Nat.min_eq_right (by omega), List.take_of_length_le (Nat.le_refl _), List.take_of_length_le (by omega)]
theorem cut_mid (l : List Nat) (a b : Nat) : cutS ⟨l.toArray⟩ (some (a : Int)) (some (b : Int)) = ⟨((l.drop a).take (b - a)).toArray⟩ := by
  unfold cutS
  show (⟨((l.drop (HT.sIx l.length 0 (some (a : Int)))).take (HT.sIx l.length l.length (some (b : Int)) - HT.sIx l.length 0 (some (a : Int)))).toArray⟩ : Str) = _
  rw [HT.sIx_nat, HT.sIx_nat]
  congr 2
  by_cases h : a ≤ l.length
  · rw [Nat.min_eq_left h]
    by_cases h2 : b ≤ l.length
    · rw [Nat.min_eq_left h2]
    · rw [Nat.min_eq_right (Nat.le_of_not_le h2), List.take_of_length_le (by rw [List.length_drop]; omega), List.take_of_length_le (by rw [List.length_drop]; omega)]
  · rw [Nat.min_eq_right (Nat.le_of_not_le h), List.drop_eq_nil_of_le (Nat.le_refl _), List.drop_eq_nil_of_le (Nat.le_of_not_le h)]
    simp
end Mi
set_option Elab.async false
set_option linter.all false
set_option maxRecDepth 100000
set_option maxHeartbeats 2000000
/-! Mi12: numbered lists; what stays. -/
namespace Mi
open PySem PySem.Spec PyProof.Rows
open L2
section
variable {P : A → Sto → Prop} {E : Str → List (Str × A) → Sto → Prop} {S : Sto} {i j : Int} {a b : A} {xs ys : List A} {n : Nat}
@[simp] theorem hs_ixN' : Hs (opIx (.loc n) (.int i) S) P E = ∃ xs, S[n]? = some (.lst xs) ∧ ∃ v, atI xs i = some v ∧ P v S := by
  unfold opIx
  cases h : S[n]? with
  | none => simp [lstOf, h, hs_orBad]
  | some o => cases o <;> simp [lstOf, h, hs_orBad]
@[simp] theorem hs_lenN' : Hs (bLen [.loc n] S) P E = ∃ xs, S[n]? = some (.lst xs) ∧ P (.int xs.length) S := by
  unfold bLen
  cases h : S[n]? with
  | none => simp [lstOf, h, hs_orBad]
  | some o => cases o <;> simp [lstOf, h, hs_orBad]
@[simp] theorem hs_tupN' : Hs (bTuple [.loc n] S) P E = ∃ xs, S[n]? = some (.lst xs) ∧ P (.tup xs) S := by
  unfold bTuple
  cases h : S[n]? with
  | none => simp [lstOf, h, hs_orBad]
  | some o => cases o <;> simp [lstOf, h, hs_orBad]
@[simp] theorem hs_app' : Hs (mAppend (.loc n) [a] S) P E = ∃ xs, S[n]? = some (.lst xs) ∧ xs.length < 10000000 ∧ P .non (S.set n (.lst (xs ++ [a]))) := by
  unfold mAppend
  cases h : S[n]? with
  | none => simp [h]
  | some o =>
    cases o with
    | lst xs => by_cases hl : xs.length < 10000000 <;> simp [h, hl]
    | _ => simp [h]
end
theorem get_set_self {n : Nat} {S : Sto} {o : AO} (h : n < S.length) : (S.set n o)[n]? = some o := by simp [h]
/-- all but the numbered thing t stays -/
def Fr (t : Nat) (S S' : Sto) : Prop := S.length ≤ S'.length ∧ ∀ m, m < S.length → m ≠ t → S'[m]? = S[m]?
theorem Fr.refl {t : Nat} {S : Sto} : Fr t S S := ⟨Nat.le_refl _, fun _ _ _ => rfl⟩
theorem Fr.set {t : Nat} {S S' : Sto} {o : AO} (h : Fr t S S') : Fr t S (S'.set t o) := ⟨by simpa using h.1, fun m h1 h2 => by rw [List.getElem?_set_ne (fun e => h2 e.symm)]; exact h.2 m h1 h2⟩
theorem Fr.setN {t n : Nat} {S S' : Sto} {o : AO} (h : Fr t S S') (hn : S.length ≤ n) : Fr t S (S'.set n o) := ⟨by simpa using h.1, fun m h1 h2 => by rw [List.getElem?_set_ne (fun e => by omega)]; exact h.2 m h1 h2⟩
theorem Fr.trans {t : Nat} {S S1 S2 : Sto} (a : Fr t S S1) (b : Fr t S1 S2) : Fr t S S2 := ⟨Nat.le_trans a.1 b.1, fun m h1 h2 => (b.2 m (Nat.lt_of_lt_of_le h1 a.1) h2).trans (a.2 m h1 h2)⟩
theorem Fr.add {t : Nat} {S S1 : Sto} {l : List AO} (a : Fr t S S1) : Fr t S (S1 ++ l) := ⟨by rw [List.length_append]; exact Nat.le_trans a.1 (Nat.le_add_right _ _), fun m h1 h2 => by rw [List.getElem?_append_left (Nat.lt_of_lt_of_le h1 a.1)]; exact a.2 m h1 h2⟩
theorem Fr.get {t m : Nat} {S S' : Sto} {o : AO} (h : Fr t S S') (e : S[m]? = some o) (n : m ≠ t) : S'[m]? = some o := (h.2 m (lt_of_get e) n).trans e
/-- nothing that was there changes -/
def Fz (S S' : Sto) : Prop := S.length ≤ S'.length ∧ ∀ m, m < S.length → S'[m]? = S[m]?
theorem Fz.refl {S : Sto} : Fz S S := ⟨Nat.le_refl _, fun _ _ => rfl⟩
theorem Fz.fr {t : Nat} {S S' : Sto} (h : Fz S S') : Fr t S S' := ⟨h.1, fun m h1 _ => h.2 m h1⟩
theorem Fz.trans {S S1 S2 : Sto} (a : Fz S S1) (b : Fz S1 S2) : Fz S S2 := ⟨Nat.le_trans a.1 b.1, fun m h1 => (b.2 m (Nat.lt_of_lt_of_le h1 a.1)).trans (a.2 m h1)⟩
theorem Fz.add {S S1 : Sto} {l : List AO} (a : Fz S S1) : Fz S (S1 ++ l) := ⟨by rw [List.length_append]; exact Nat.le_trans a.1 (Nat.le_add_right _ _), fun m h1 => by rw [List.getElem?_append_left (Nat.lt_of_lt_of_le h1 a.1)]; exact a.2 m h1⟩
theorem Fz.setN {n : Nat} {S S' : Sto} {o : AO} (h : Fz S S') (hn : S.length ≤ n) : Fz S (S'.set n o) := ⟨by simpa using h.1, fun m h1 => by rw [List.getElem?_set_ne (fun e => by omega)]; exact h.2 m h1⟩
theorem Fz.of {t : Nat} {S S' : Sto} (h : Fr t S S') (ht : S.length ≤ t) : Fz S S' := ⟨h.1, fun m h1 => h.2 m h1 (by omega)⟩
theorem Fz.get {m : Nat} {S S' : Sto} {o : AO} (h : Fz S S') (e : S[m]? = some o) : S'[m]? = some o := (h.2 m (lt_of_get e)).trans e
end Mi
set_option Elab.async false
set_option linter.all false
set_option maxRecDepth 100000
set_option maxHeartbeats 2000000
/-! Mi13: equations, texts by their signs, comprehensions over them, the greatest common divisor. -/
namespace Mi
open PySem PySem.Spec PyProof.Rows
open L2
theorem ok_of_hs {r : R A} {x : A} {S : Sto} (h : Hs r (fun a S' => a = x ∧ S' = S) (fun _ _ _ => False)) : r = .ok x S := by
  cases r with
  | ok a S' => obtain ⟨rfl, rfl⟩ := h; rfl
  | exn => exact h.elim
  | bad => exact h.elim
theorem hs_of_ok {α : Type} {r : R α} {x : α} {S : Sto} {P : α → Sto → Prop} {E : Str → List (Str × A) → Sto → Prop} (e : r = .ok x S) (h : P x S) : Hs r P E := by rw [e]; exact h
abbrev txt (l : List Nat) : Str := ⟨l.toArray⟩
theorem len_txt (l : List Nat) : (txt l).length = l.length := by simp [Str.length]
theorem txt_tl (z : Str) : txt z.cps.toList = z := by
  cases z
  simp
theorem txt_app (l m : List Nat) : txt l ++ txt m = txt (l ++ m) := by
  show (⟨_⟩ : Str) = _
  congr 1
  simp
theorem txt_eq {l : List Nat} {z : Str} : (txt l = z) = (l = z.cps.toList) := by
  apply propext
  constructor
  · rintro rfl
    simp
  · rintro rfl
    exact txt_tl z
theorem signs_txt (l : List Nat) : signs (txt l) = l.map fun c => .str ⟨#[c]⟩ := by simp [signs]
theorem one_eq {c : Nat} {z : Str} : ((⟨#[c]⟩ : Str) = z) = ([c] = z.cps.toList) := txt_eq (l := [c])
theorem lcM_pure {T : Tg} {tt : TM} {me : EM} {env0 : Env} {S : Sto} (p : A → Bool) (f : A → A) : ∀ (as acc : List A), (∀ a ∈ as, ∃ env1, asg T a env0 = some env1 ∧ tt env1 S = .ok (p a) S ∧ (p a = true → me env1 S = .ok (f a) S)) → lcM T tt me env0 as acc S = .ok (acc ++ (as.filter p).map f) S
  | [], acc, _ => by simp [lcM]
  | a :: as, acc, h => by
    obtain ⟨env1, e1, e2, e3⟩ := h a (List.mem_cons_self ..)
    have ih := fun acc' => lcM_pure p f as acc' fun b hb => h b (List.mem_cons_of_mem _ hb)
    unfold lcM
    rw [e1]
    simp only [orBad]
    rw [e2]
    cases hp : p a with
    | true =>
      simp only [noX, R.bind_ok]
      rw [e3 hp]
      simp only [R.bind_ok]
      rw [ih]
      simp [hp]
    | false =>
      simp only [noX, R.bind_ok]
      rw [ih]
      simp [hp]
theorem lcM_signs {i : Nat} {tt : TM} {me : EM} {env0 : Env} {S : Sto} {l : List Nat} (p : Nat → Bool) (f : Nat → A) (h : ∀ c ∈ l, tt (env0.set i (some (.str ⟨#[c]⟩))) S = .ok (p c) S ∧ (p c = true → me (env0.set i (some (.str ⟨#[c]⟩))) S = .ok (f c) S)) :
    lcM (.nm i) tt me env0 (signs (txt l)) [] S = .ok ((l.filter p).map f) S := by
  have g : ∀ (l : List Nat) (acc : List A), (∀ c ∈ l, tt (env0.set i (some (.str ⟨#[c]⟩))) S = .ok (p c) S ∧ (p c = true → me (env0.set i (some (.str ⟨#[c]⟩))) S = .ok (f c) S)) → lcM (.nm i) tt me env0 (l.map fun c => .str ⟨#[c]⟩) acc S = .ok (acc ++ (l.filter p).map f) S := by
    intro l
    induction l with
    | nil => intro acc _; simp [lcM]
    | cons c l ih =>
      intro acc h
      obtain ⟨e2, e3⟩ := h c (List.mem_cons_self ..)
      have ih := fun acc' => ih acc' fun b hb => h b (List.mem_cons_of_mem _ hb)
      rw [List.map_cons]
      unfold lcM
      have e1 : asg (.nm i) (.str ⟨#[c]⟩) env0 = some (env0.set i (some (.str ⟨#[c]⟩))) := rfl
      rw [e1]
      simp only [orBad]
      rw [e2]
      cases hp : p c with
      | true =>
        simp only [noX, R.bind_ok]
        rw [e3 hp]
        simp only [R.bind_ok]
        rw [ih]
        simp [hp]
      | false =>
        simp only [noX, R.bind_ok]
        rw [ih]
        simp [hp]
  rw [signs_txt, g l [] h]
  simp
theorem blsOf_map {α : Type} (f : α → Bool) : ∀ l : List α, blsOf (l.map fun c => .bl (f c)) = some (l.map f)
  | [] => rfl
  | c :: l => by
    rw [List.map_cons, blsOf, blsOf_map f l]
    rfl
theorem toD0s_strs {lk : Nat → Option PyData} (f : Nat → Str) : ∀ l : List Nat, toD0s lk (l.map fun c => .str (f c)) = some (l.map fun c => .str (f c))
  | [] => by simp [toD0s]
  | c :: l => by
    rw [List.map_cons, toD0s, toD0s_strs f l]
    simp [toD0]
end Mi
namespace Mi
open PySem PySem.Spec PyProof.Rows
open L2
/-! ### the greatest common divisor, step by step -/
def gm (m x y : Nat) : Prop := (x * y < 2 ^ m ∧ y ≤ x) ∨ (1 ≤ m ∧ x * y < 2 ^ (m - 1))
theorem gm_half {m x y : Nat} (h : x * y < 2 ^ m) (hle : y ≤ x) (hy : 0 < y) : 1 ≤ m ∧ y * (x % y) < 2 ^ (m - 1) := by
  have h1 : x % y < y := Nat.mod_lt _ hy
  have h2 : y + x % y ≤ x := by
    have e := Nat.div_add_mod x y
    have q : 1 ≤ x / y := (Nat.le_div_iff_mul_le hy).mpr (by omega)
    have q2 : y * 1 ≤ y * (x / y) := Nat.mul_le_mul_left _ q
    omega
  have h3 : y * (y + x % y) ≤ y * x := Nat.mul_le_mul_left _ h2
  have h4 : y * (x % y) ≤ y * y := Nat.mul_le_mul_left _ (by omega)
  have h5 : 1 * 1 ≤ x * y := Nat.mul_le_mul (by omega) hy
  rw [Nat.mul_add, Nat.mul_comm y x] at h3
  cases m with
  | zero => omega
  | succ m =>
    have e : 2 ^ (m + 1) = 2 * 2 ^ m := by rw [Nat.pow_succ, Nat.mul_comm]
    rw [e] at h
    refine ⟨by omega, ?_⟩
    show _ < 2 ^ m
    have h6 : y * (x % y) < y * y := Nat.mul_lt_mul_of_pos_left h1 hy
    omega
theorem gm_step {m x y : Nat} (h : gm m x y) (hy : 0 < y) : ∃ m', m' < m ∧ gm m' y (x % y) := by
  have hr : x % y < y := Nat.mod_lt _ hy
  rcases h with ⟨h, hle⟩ | ⟨h1, h⟩
  · obtain ⟨a, b⟩ := gm_half h hle hy
    exact ⟨m - 1, by omega, .inl ⟨b, by omega⟩⟩
  · by_cases hle : y ≤ x
    · obtain ⟨a, b⟩ := gm_half h hle hy
      exact ⟨m - 1 - 1, by omega, .inl ⟨b, by omega⟩⟩
    · refine ⟨m - 1, by omega, .inl ⟨?_, by omega⟩⟩
      rw [Nat.mod_eq_of_lt (by omega), Nat.mul_comm]
      exact h
theorem gm_start {x y : Nat} (hx : x < 2 ^ 200) (hy : y < 2 ^ 200) : gm 401 x y := by
  refine .inr ⟨by omega, ?_⟩
  have h1 : x * y ≤ x * 2 ^ 200 := Nat.mul_le_mul_left _ (by omega)
  have h2 : x * 2 ^ 200 < 2 ^ 200 * 2 ^ 200 := Nat.mul_lt_mul_of_pos_right hx (Nat.two_pow_pos _)
  have e : (2 : Nat) ^ 200 * 2 ^ 200 = 2 ^ (401 - 1) := by rw [← Nat.pow_add]
  omega
theorem abs_eq (i : Int) : (if i < 0 then -i else i) = (i.natAbs : Int) := by split <;> omega
theorem log_lt {i : Int} {k n : Nat} (h : i.natAbs < 2 ^ k) (hk : 0 < k) (hn : k ≤ n) : i.natAbs.log2 < n := by
  by_cases e : i.natAbs = 0
  · rw [e]
    have : Nat.log2 0 = 0 := by decide
    omega
  · exact Nat.lt_of_lt_of_le ((Nat.log2_lt e).mpr h) hn
end Mi
namespace Mi
open PySem PySem.Spec PyProof.Rows
open L2
/-! ### texts cut at a sign -/
theorem dropWhile_cases (s : Nat) (l : List Nat) : l.dropWhile (· != s) = [] ∧ s ∉ l ∧ l.takeWhile (· != s) = l ∨ ∃ b, l.dropWhile (· != s) = s :: b ∧ l = l.takeWhile (· != s) ++ s :: b ∧ s ∉ l.takeWhile (· != s) := by
  induction l with
  | nil => simp
  | cons c l ih =>
    by_cases h : c = s
    · subst h
      exact .inr ⟨l, by simp, by simp, by simp⟩
    · have hb : (c != s) = true := by simpa using h
      rcases ih with ⟨h1, h2, h3⟩ | ⟨b, h1, h2, h3⟩
      · refine .inl ⟨by simp [hb, h1], ?_, by simp [hb, h3]⟩
        simp only [List.mem_cons, not_or]
        exact ⟨fun e => h e.symm, h2⟩
      · refine .inr ⟨b, by simp [hb, h1], ?_, ?_⟩
        · rw [List.takeWhile_cons, if_pos hb, List.cons_append, ← h2]
        · rw [List.takeWhile_cons, if_pos hb, List.mem_cons, not_or]
          exact ⟨fun e => h e.symm, h3⟩
theorem partition_txt {y : Str} {s : Nat} (ey : TL.tl y = [s]) (l : List Nat) : Txt.partition (txt l) y = match l.dropWhile (· != s) with
    | [] => (txt l, txt [], txt [])
    | _ :: b => (txt (l.takeWhile (· != s)), y, txt b) := by
  rw [TL.partition_par _ _ (by rw [ey]; simp), ey]
  have e0 : TL.tl (txt l) = l := rfl
  rw [e0]
  rcases dropWhile_cases s l with ⟨h1, h2, h3⟩ | ⟨b, h1, h2, h3⟩
  · rw [TL.par_none1 h2, h1]
    rfl
  · have e : TL.par [s] [] l = some (l.takeWhile (· != s), b) := by
      have := TL.par_part1 (s := s) (S := []) (p := l.takeWhile (· != s)) (rest := b) (acc := []) h3
      rw [show l.takeWhile (· != s) ++ ([s] ++ b) = l from h2.symm] at this
      simpa using this
    rw [e, h1]
theorem split_txt {y : Str} {s : Nat} (ey : TL.tl y = [s]) (hs : s < 256) (l : List Nat) : Txt.split (txt l) y = match l.dropWhile (· != s) with
    | [] => [txt l]
    | _ :: b => txt (l.takeWhile (· != s)) :: Txt.split (txt b) y := by
  have hy : TL.tl y ≠ [] := by rw [ey]; simp
  have hk : y.cps.all (· < 256) = true := by
    rw [← Array.all_toList]
    show (TL.tl y).all _ = true
    rw [ey]
    simpa using hs
  apply TL.map_tl_inj
  rw [TL.split_spl _ _ hy (TL.kind_ok hk), ey]
  have e0 : TL.tl (txt l) = l := rfl
  rw [e0]
  rcases dropWhile_cases s l with ⟨h1, h2, h3⟩ | ⟨b, h1, h2, h3⟩
  · rw [TL.spl_last1 h2, h1]
    rfl
  · have e : TL.spl [s] 0 [] l = l.takeWhile (· != s) :: TL.spl [s] 0 [] b := by
      have := TL.spl_part1 (s := s) (S := []) (p := l.takeWhile (· != s)) (rest := b) (acc := []) h3
      rw [show l.takeWhile (· != s) ++ ([s] ++ b) = l from h2.symm] at this
      simpa using this
    rw [e, h1]
    simp only [List.map_cons]
    rw [TL.split_spl _ _ hy (TL.kind_ok hk), ey]
theorem starts_pre {y : Str} (hy : TL.tl y ≠ []) (l : List Nat) : Txt.startswith (txt l) y = TL.pre (TL.tl y) l := by
  have h := TL.at_iff (x := txt l) hy 0
  rw [List.drop_zero] at h
  have e : TL.tl (txt l) = l := rfl
  rw [e] at h
  have k : Txt.startswith (txt l) y = true ↔ StrLaws.At (txt l) y (txt l).length 0 := by
    unfold Txt.startswith StrLaws.At
    simp
  rw [h] at k
  exact Bool.eq_iff_iff.mpr k
theorem log_small {i : Int} {n : Nat} (h0 : 0 ≤ i) (h : i ≤ n) (hn : n < 10 ^ 60) : i.natAbs.log2 < 2000 := by
  have h1 : i.natAbs ≤ n := by omega
  by_cases e : i.natAbs = 0
  · rw [e]; decide
  · have h2 : i.natAbs < 2 ^ 200 := Nat.lt_of_le_of_lt h1 (Nat.lt_trans hn (by decide))
    exact Nat.lt_trans ((Nat.log2_lt e).mpr h2) (by decide)
theorem atI0 {x : A} {r : List A} : atI (x :: r) 0 = some x := by simp [atI_pos]
theorem atI1 {x y : A} {r : List A} : atI (x :: y :: r) 1 = some y := by simp [atI_pos]
theorem atI2 {x y z : A} {r : List A} : atI (x :: y :: z :: r) 2 = some z := by simp [atI_pos]
theorem atI3 {x y z w : A} {r : List A} : atI (x :: y :: z :: w :: r) 3 = some w := by simp [atI_pos]
end Mi
namespace Mi
open PySem PySem.Spec PyProof.Rows
open L2
section
variable {S : Sto} {b : Bool} {i : Int} {z : Str} {xs : List A} {n : Nat}
@[simp] theorem truA_non : truA S .non = some false := rfl
@[simp] theorem truA_bl : truA S (.bl b) = some b := rfl
@[simp] theorem truA_int : truA S (.int i) = some (i != 0) := rfl
@[simp] theorem truA_tup : truA S (.tup xs) = some (!xs.isEmpty) := rfl
@[simp] theorem truA_lst : truA S (.lst xs) = some (!xs.isEmpty) := rfl
@[simp] theorem isN_non : isN .non = true := rfl
@[simp] theorem isN_bl : isN (.bl b) = false := rfl
@[simp] theorem isN_int : isN (.int i) = false := rfl
@[simp] theorem isN_str : isN (.str z) = false := rfl
@[simp] theorem isN_tup : isN (.tup xs) = false := rfl
@[simp] theorem isN_lst : isN (.lst xs) = false := rfl
@[simp] theorem isN_loc : isN (.loc n) = false := rfl
@[simp] theorem isB_non : isB b .non = false := rfl
@[simp] theorem isB_bl {c : Bool} : isB b (.bl c) = (c == b) := rfl
@[simp] theorem isB_int : isB b (.int i) = false := rfl
@[simp] theorem isB_str : isB b (.str z) = false := rfl
@[simp] theorem isB_tup : isB b (.tup xs) = false := rfl
@[simp] theorem tyM_str : tyM "str" S (.str z) = true := rfl
@[simp] theorem tyM_lst : tyM "list" S (.lst xs) = true := rfl
theorem tyM_loc (h : S[n]? = some (.lst xs)) : tyM "list" S (.loc n) = true := by
  unfold tyM
  simp [h]
@[simp] theorem tyN_non : tyN S .non = some "NoneType" := rfl
@[simp] theorem tyN_bl : tyN S (.bl b) = some "bool" := rfl
@[simp] theorem tyN_int : tyN S (.int i) = some "int" := rfl
@[simp] theorem tyN_str : tyN S (.str z) = some "str" := rfl
@[simp] theorem tyN_tup : tyN S (.tup xs) = some "tuple" := rfl
@[simp] theorem tyN_lst : tyN S (.lst xs) = some "list" := rfl
end
@[simp] theorem kit_self {T : String} : kitB T T = some true := by simp [kitB]
theorem cut1 (l : List Nat) : cutS (txt l) (some 1) none = txt (l.drop 1) := cut_from l 1
theorem cut2 (l : List Nat) : cutS (txt l) (some 2) none = txt (l.drop 2) := cut_from l 2
theorem cutTo1 (l : List Nat) : cutS (txt l) none (some 1) = txt (l.take 1) := cut_to l 1
theorem cut12 (l : List Nat) : cutS (txt l) (some 1) (some 2) = txt ((l.drop 1).take 1) := cut_mid l 1 2
theorem pre1 (s : Nat) (l : List Nat) : TL.pre [s] l = decide (l.head? = some s) := by
  cases l with
  | nil => rfl
  | cons c r =>
    by_cases h : c = s <;> simp [TL.pre, h]
end Mi
set_option Elab.async false
set_option linter.all false
set_option maxRecDepth 100000
set_option maxHeartbeats 2000000
/-! Mi14: values that can be shown. -/
namespace Mi
open PySem PySem.Spec PyProof.Rows
open L2
def Sh (n w : Nat) (a : A) : Prop := ∃ d, (∀ lk, toD0 lk a = some d) ∧ d.showable = true ∧ d.hasDict = false ∧ d.depth ≤ n ∧ d.shown.length ≤ w
def Shs (n w : Nat) (as : List A) : Prop := ∃ ds, (∀ lk, toD0s lk as = some ds) ∧ PyData.showableAll ds = true ∧ PyData.hasDictAll ds = false ∧ PyData.depthAll ds ≤ n ∧ ((PyData.shownAll ds).map (·.length)).sum ≤ w ∧ ds.length = as.length
theorem Sh.mono {n n' w w' : Nat} {a : A} (h : Sh n w a) (h1 : n ≤ n') (h2 : w ≤ w') : Sh n' w' a := by
  obtain ⟨d, a1, a2, a3, a4, a5⟩ := h
  exact ⟨d, a1, a2, a3, by omega, by omega⟩
theorem Shs.mono {n n' w w' : Nat} {a : List A} (h : Shs n w a) (h1 : n ≤ n') (h2 : w ≤ w') : Shs n' w' a := by
  obtain ⟨d, a1, a2, a3, a4, a5, a6⟩ := h
  exact ⟨d, a1, a2, a3, by omega, by omega, a6⟩
theorem Shs.nil {n : Nat} : Shs n 0 [] := ⟨[], fun _ => by simp [toD0s], by simp [PyData.showableAll], by simp [PyData.hasDictAll], by simp [PyData.depthAll], by simp [PyData.shownAll], rfl⟩
theorem Shs.cons {n w w' : Nat} {a : A} {as : List A} (h : Sh n w a) (r : Shs n w' as) : Shs n (w + w') (a :: as) := by
  obtain ⟨d, a1, a2, a3, a4, a5⟩ := h
  obtain ⟨ds, b1, b2, b3, b4, b5, b6⟩ := r
  refine ⟨d :: ds, fun lk => by simp [toD0s, a1, b1], by simp [PyData.showableAll, a2, b2], by simp [PyData.hasDictAll, a3, b3], ?_, ?_, by simp [b6]⟩
  · simp only [PyData.depthAll]
    omega
  · simp only [PyData.shownAll, List.map_cons, List.sum_cons]
    omega
theorem Shs.snoc {n w w' : Nat} {a : A} {as : List A} (r : Shs n w' as) (h : Sh n w a) : Shs n (w' + w) (as ++ [a]) := by
  induction as generalizing w' with
  | nil =>
    have e : Shs n (w + 0) [a] := Shs.cons h Shs.nil
    exact e.mono (Nat.le_refl _) (by omega)
  | cons b as ih =>
    obtain ⟨ds, b1, b2, b3, b4, b5, b6⟩ := r
    cases ds with
    | nil => simp at b6
    | cons d ds =>
      have e1 : ∀ lk, toD0 lk b = some d ∧ toD0s lk as = some ds := fun lk => by
        have := b1 lk
        simp only [toD0s, Option.bind_eq_some_iff, Option.map_eq_some_iff] at this
        obtain ⟨d', c1, ds', c2, c3⟩ := this
        cases c3
        exact ⟨c1, c2⟩
      simp only [PyData.showableAll, Bool.and_eq_true] at b2
      simp only [PyData.hasDictAll, Bool.or_eq_false_iff] at b3
      simp only [PyData.depthAll] at b4
      simp only [PyData.shownAll, List.map_cons, List.sum_cons] at b5
      have hb : Sh n d.shown.length b := ⟨d, fun lk => (e1 lk).1, b2.1, b3.1, by omega, Nat.le_refl _⟩
      have hr : Shs n ((PyData.shownAll ds).map (·.length)).sum as := ⟨ds, fun lk => (e1 lk).2, b2.2, b3.2, by omega, Nat.le_refl _, by simpa using b6⟩
      exact (Shs.cons hb (ih hr)).mono (Nat.le_refl _) (by omega)
theorem Sh.tup {n w : Nat} {as : List A} (h : Shs n w as) : Sh (n + 1) (w + 2 * as.length + 3) (.tup as) := by
  obtain ⟨ds, b1, b2, b3, b4, b5, b6⟩ := h
  refine ⟨.tuple ds, fun lk => by simp [toD0, b1], by simpa [PyData.showable] using b2, by simpa [PyData.hasDict] using b3, by simp [PyData.depth, b4], ?_⟩
  have := tupleText_len_le (PyData.shownAll ds)
  have e := PyData.shownAll_length ds
  simp only [PyData.shown]
  omega
theorem Sh.lst {n w : Nat} {as : List A} (h : Shs n w as) : Sh (n + 1) (w + 2 * as.length + 3) (.lst as) := by
  obtain ⟨ds, b1, b2, b3, b4, b5, b6⟩ := h
  refine ⟨.list ds, fun lk => by simp [toD0, b1], by simpa [PyData.showable] using b2, by simpa [PyData.hasDict] using b3, by simp [PyData.depth, b4], ?_⟩
  have := listText_len_le (PyData.shownAll ds)
  have e := PyData.shownAll_length ds
  simp only [PyData.shown]
  omega
theorem Sh.str {l : List Nat} (h : ∀ c ∈ l, c < 1000) : Sh 0 (10 * l.length + 2) (.str (txt l)) := by
  refine ⟨.str (txt l), fun lk => by simp [toD0], by simp [PyData.showable], by simp [PyData.hasDict], by simp [PyData.depth], ?_⟩
  have := StrLaws.reprText_len (txt l) fun c hc => by
    have := h c hc
    omega
  rw [len_txt l] at this
  simp only [PyData.shown]
  exact this
theorem Sh.strZ {z : Str} (h : (z.cps.toList.all fun c => decide (c < 1000)) = true) {n : Nat} (hn : z.cps.toList.length = n) : Sh 0 (10 * n + 2) (.str z) := by
  have := Sh.str (l := z.cps.toList) fun c hc => of_decide_eq_true (List.all_eq_true.mp h c hc)
  rw [txt_tl, hn] at this
  exact this
theorem Sh.bl {b : Bool} : Sh 0 5 (.bl b) := ⟨.bool b, fun lk => by simp [toD0], by simp [PyData.showable], by simp [PyData.hasDict], by simp [PyData.depth], by cases b <;> decide⟩
theorem Sh.non : Sh 0 4 .non := ⟨.none, fun lk => by simp [toD0], by simp [PyData.showable], by simp [PyData.hasDict], by simp [PyData.depth], by decide⟩
theorem Sh.int {i : Int} {k : Nat} (hk : 0 < k) (hk2 : k ≤ 400) (h : i.natAbs < 10 ^ k) : Sh 0 (k + 1) (.int i) := by
  refine ⟨.int i, fun lk => by simp [toD0], ?_, by simp [PyData.hasDict], by simp [PyData.depth], ?_⟩
  · simp only [PyData.showable, decide_eq_true_eq]
    by_cases e : i.natAbs = 0
    · rw [e]; decide
    · refine (Nat.log2_lt e).mpr (Nat.lt_of_lt_of_le h ?_)
      have h1 : (10 : Nat) ^ k ≤ 16 ^ k := Nat.pow_le_pow_left (by decide) k
      have h2 : (16 : Nat) ^ k = 2 ^ (4 * k) := by rw [Nat.pow_mul]
      have h3 : (2 : Nat) ^ (4 * k) ≤ 2 ^ 1920 := Nat.pow_le_pow_right (by decide) (by omega)
      omega
  · have := int_text_length_le10 hk h
    simp only [PyData.shown]
    rw [PySem.ofString_length]
    exact this
theorem repr_of {n w : Nat} {a : A} (h : Sh n w a) (hs : isSeqA a = true) (hn : n ≤ 60) (hw : w ≤ 10000000) : ∃ T : Str, ∀ S, bRepr [a] S = .ok (.str T) S := by
  obtain ⟨d, a1, a2, a3, a4, a5⟩ := h
  refine ⟨d.shown, fun S => ?_⟩
  simp only [bRepr, toD, a1, orBad]
  rw [if_pos ⟨hs, a2, a3, by omega, by omega⟩]
end Mi
set_option Elab.async false
set_option linter.all false
set_option maxRecDepth 100000
set_option maxHeartbeats 2000000
/-! Mi15: texts of at most n plain signs. -/
namespace Mi
open PySem PySem.Spec PyProof.Rows
open L2
def Tx (n : Nat) (z : Str) : Prop := z.cps.toList.length ≤ n ∧ ∀ c ∈ z.cps.toList, c < 1000
theorem len_cps (z : Str) : z.length = z.cps.toList.length := TL.len_tl z
theorem Tx.len {n : Nat} {z : Str} (h : Tx n z) : z.length ≤ n := by
  rw [len_cps]
  exact h.1
theorem Tx.mono {n m : Nat} {z : Str} (h : Tx n z) (e : n ≤ m) : Tx m z := ⟨Nat.le_trans h.1 e, h.2⟩
theorem Tx.app {n m : Nat} {x y : Str} (a : Tx n x) (b : Tx m y) : Tx (n + m) (x ++ y) := by
  have e : (x ++ y).cps.toList = x.cps.toList ++ y.cps.toList := TL.tl_append x y
  refine ⟨?_, fun c hc => ?_⟩
  · rw [e, List.length_append]
    exact Nat.add_le_add a.1 b.1
  · rw [e] at hc
    exact (List.mem_append.mp hc).elim (a.2 c) (b.2 c)
theorem Tx.one {c : Nat} (h : c < 1000) : Tx 1 ⟨#[c]⟩ := ⟨Nat.le_refl _, fun d hd => by
  have : d = c := by simpa using hd
  omega⟩
theorem Tx.lit {z : Str} {n : Nat} (h : (decide (z.cps.toList.length ≤ n) && z.cps.toList.all fun c => decide (c < 1000)) = true) : Tx n z := by
  obtain ⟨h1, h2⟩ := Bool.and_eq_true_iff.mp h
  exact ⟨of_decide_eq_true h1, fun c hc => of_decide_eq_true (List.all_eq_true.mp h2 c hc)⟩
theorem Tx.txt {l : List Nat} {n : Nat} (h : l.length ≤ n) (hc : ∀ c ∈ l, c < 1000) : Tx n (txt l) := ⟨h, hc⟩
theorem foldl_app (x : Array Nat) : ∀ (k : Nat) (acc : Array Nat), ((List.replicate k x).foldl (· ++ ·) acc).toList = acc.toList ++ (List.replicate k x.toList).flatten
  | 0, acc => by simp
  | k + 1, acc => by
    rw [List.replicate_succ, List.foldl_cons, foldl_app x k]
    simp [List.replicate_succ, List.append_assoc]
theorem Tx.mul {n : Nat} {x : Str} (a : Tx n x) (k : Int) (h : 0 ≤ k) : Tx (n * k.toNat) (Txt.mul x k) := by
  refine ⟨?_, fun c hc => ?_⟩
  · have := len_mul_leN (x := x) (n := k) (L := n) (N := k.toNat) a.len (by omega)
    rw [len_cps] at this
    exact this
  · unfold Txt.mul at hc
    split at hc
    · cases hc
    · split at hc
      · exact a.2 c hc
      · rw [show (⟨(List.replicate k.toNat x.cps).foldl (· ++ ·) #[]⟩ : Str).cps.toList = ((List.replicate k.toNat x.cps).foldl (· ++ ·) #[]).toList from rfl, foldl_app] at hc
        simp only [List.nil_append, List.mem_flatten] at hc
        obtain ⟨l, hl, hc⟩ := hc
        rw [List.eq_of_mem_replicate hl] at hc
        exact a.2 c hc
theorem Tx.cut {n : Nat} {z : Str} (a : Tx n z) (l u : Option Int) : Tx n (cutS z l u) := by
  unfold cutS
  refine ⟨?_, fun c hc => ?_⟩
  · refine Nat.le_trans (List.Sublist.length_le ?_) a.1
    exact (List.take_sublist _ _).trans (List.drop_sublist _ _)
  · refine a.2 c (List.Sublist.subset ?_ hc)
    exact (List.take_sublist _ _).trans (List.drop_sublist _ _)
theorem joinL_tx {S : List Nat} {n m : Nat} (hS : S.length ≤ m ∧ ∀ c ∈ S, c < 1000) : ∀ ps : List (List Nat), (∀ p ∈ ps, p.length ≤ n ∧ ∀ c ∈ p, c < 1000) → (TL.joinL S ps).length ≤ ps.length * (n + m) ∧ ∀ c ∈ TL.joinL S ps, c < 1000
  | [], _ => ⟨Nat.zero_le _, fun _ h => nomatch h⟩
  | [p], h => by
    have := h p (List.mem_cons_self ..)
    refine ⟨?_, this.2⟩
    show p.length ≤ 1 * (n + m)
    omega
  | p :: q :: r, h => by
    have h1 := h p (List.mem_cons_self ..)
    have ih := joinL_tx hS (q :: r) fun x hx => h x (List.mem_cons_of_mem _ hx)
    show (p ++ (S ++ TL.joinL S (q :: r))).length ≤ _ ∧ _
    refine ⟨?_, fun c hc => ?_⟩
    · rw [List.length_append, List.length_append, List.length_cons, Nat.add_mul]
      have := ih.1
      omega
    · rcases List.mem_append.mp hc with z | z
      · exact h1.2 c z
      · rcases List.mem_append.mp z with z | z
        · exact hS.2 c z
        · exact ih.2 c z
theorem Tx.join {n m : Nat} {y : Str} {zs : List Str} (hy : Tx m y) (h : ∀ z ∈ zs, Tx n z) : Tx (zs.length * (n + m)) (Txt.join y zs) := by
  rw [TL.join_eq]
  have e : (Str.join y zs).cps.toList = _ := TL.tl_join y zs
  have := joinL_tx (S := TL.tl y) (n := n) (m := m) hy (zs.map TL.tl) fun p hp => by
    obtain ⟨z, hz, rfl⟩ := List.mem_map.mp hp
    exact h z hz
  rw [← e, List.length_map] at this
  exact this
theorem strsOf_map : ∀ zs : List Str, strsOf (zs.map .str) = some zs
  | [] => rfl
  | z :: zs => by
    rw [List.map_cons, strsOf, strsOf_map zs]
    rfl
theorem sum_len {n : Nat} : ∀ zs : List Str, (∀ z ∈ zs, Tx n z) → (zs.map (·.length)).sum ≤ zs.length * n
  | [], _ => Nat.zero_le _
  | z :: zs, h => by
    have h1 := (h z (List.mem_cons_self ..)).len
    have ih := sum_len zs fun x hx => h x (List.mem_cons_of_mem _ hx)
    rw [List.map_cons, List.sum_cons, List.length_cons, Nat.add_mul]
    omega
/-- " ".join of texts -/
theorem hs_joinL {y : Str} {zs : List Str} {S : Sto} {P : A → Sto → Prop} {E : Str → List (Str × A) → Sto → Prop} (h : (zs.map (·.length)).sum + zs.length * y.length ≤ 16777216) : Hs (mJoin (.str y) [.lst (zs.map .str)] S) P E = P (.str (Txt.join y zs)) S := by
  unfold mJoin
  simp only [itemsOf, lstOf, orBad, strsOf_map, if_pos h]
  rfl
theorem numL_tx (n : Nat) : ∀ c ∈ (Nat.toDigits 10 n).map Char.toNat, c < 1000 := by
  intro c hc
  obtain ⟨d, hd, rfl⟩ := List.mem_map.mp hc
  have := Nat.isDigit_of_mem_toDigits (by decide) (by decide) hd
  simp only [Char.isDigit, Bool.and_eq_true, decide_eq_true_eq] at this
  have h2 : d.val.toNat ≤ 57 := this.2
  show d.val.toNat < 1000
  omega
theorem Tx.int {i : Int} {k : Nat} (hk : 0 < k) (h : i.natAbs < 10 ^ k) : Tx (k + 1) (Str.ofString (toString i)) := by
  have hl := int_text_length_le10 hk h
  refine ⟨?_, ?_⟩
  · have e := PySem.ofString_length (toString i)
    rw [len_cps] at e
    rw [e]
    exact hl
  · cases i with
    | ofNat m =>
      have e : (Str.ofString (toString (Int.ofNat m))).cps.toList = _ := TL.tl_num m
      rw [e]
      exact numL_tx m
    | negSucc m =>
      have e : (Str.ofString (toString (Int.negSucc m))).cps.toList = 45 :: (Nat.toDigits 10 (m + 1)).map Char.toNat := by
        refine (TL.tl_ofString _).trans ?_
        show ("-" ++ Nat.repr (m + 1)).toList.map Char.toNat = _
        rw [String.toList_append, List.map_append, Nat.toList_repr]
        rfl
      rw [e]
      intro c hc
      rcases List.mem_cons.mp hc with rfl | hc
      · decide
      · exact numL_tx (m + 1) c hc
end Mi
set_option Elab.async false
set_option linter.all false
set_option maxRecDepth 100000
set_option maxHeartbeats 4000000
namespace K77
open PySem PySem.Spec PyProof.Rows L2 Mi
def top (i : Nat) : Stmt := PySem.Challenge.pw_liveclaims_k77_forms_that_are_not_read.main.body.getD i (.Pass ⟨0, 0, 0, 0⟩)
def clsB (s : Stmt) : List Stmt := match s with
  | .ClassDef _ _ _ b _ _ _ _ _ _ _ => b
  | _ => []
def tbl_OPERANDS : List (Str × List Str) := [("plus", ["number", "number"]), ("minus", ["number", "number"]), ("times", ["number", "number"]), ("over", ["number", "number"]), ("less", ["number", "number"]), ("same", ["any", "alike"]), ("both", ["flag", "flag"]), ("either", ["flag", "flag"]), ("not", ["flag"]), ("missing", ["any"]), ("if", ["flag", "any", "alike"])]
/-! ### _law_draw -/
abbrev t_l_draw : Stmt := (top 29)
abbrev nm_l_draw : List Str := ["_law_tape_here", "_law_many", "_law_digit", "_law_cell", "_law_near"]
def m_l_draw : SM := (sSeq (sIf (tOf (eOp opGt (eOp opIx (eVar 0) (eC (.int 2))) (eC (.int 0)))) (sSeq (sAsg (.nm 2) (eOp opMod (eOp opIx (eVar 0) (eC (.int 2))) (eVar 1)))
  (sSeq (sSetI (eVar 0) (eC (.int 2)) (eOp opDiv (eOp opIx (eVar 0) (eC (.int 2))) (eVar 1)))
  (sRet (eVar 2)))) sNx)
  (sSeq (sAsg (.nm 3) (eC (.int 0)))
  (sSeq (sIf (tOf (eOp opLt (eOp opIx (eVar 0) (eC (.int 1))) (eCall bLen (aCons (eOp opIx (eVar 0) (eC (.int 0))) aNil)))) (sAsg (.nm 3) (eOp opIx (eOp opIx (eVar 0) (eC (.int 0))) (eOp opIx (eVar 0) (eC (.int 1))))) sNx)
  (sSeq (sSetI (eVar 0) (eC (.int 1)) (eOp opAdd (eOp opIx (eVar 0) (eC (.int 1))) (eC (.int 1))))
  (sSeq (sIf (tOf (eOp opGe (eVar 3) (eOp opPow (eC (.int 10)) (eC (.int 18))))) (sSeq (sSetI (eVar 0) (eC (.int 2)) (eOp opDiv (eVar 3) (eVar 1)))
  (sRet (eOp opMod (eVar 3) (eVar 1)))) sNx)
  (sSeq (sAsg (.nm 4) (eOp opAdd (eOp opAdd (eOp opMod (eVar 3) (eC (.int 2147483647))) (eOp opMul (eC (.int 7919)) (eOp opIx (eVar 0) (eC (.int 1))))) (eC (.int 11))))
  (sSeq (sSetI (eVar 0) (eC (.int 3)) (eOp opMod (eOp opAdd (eOp opMul (eOp opIx (eVar 0) (eC (.int 3))) (eC (.int 48271))) (eVar 4)) (eC (.int 2147483647))))
  (sRet (eOp opMod (eOp opMod (eOp opPow (eOp opIx (eVar 0) (eC (.int 3))) (eC (.int 5))) (eC (.int 2147483647))) (eVar 1))))))))))
def f_l_draw : FM := fnM 2 5 m_l_draw
theorem sc_l_draw : FnScope ["_law_tape_here", "_law_many", "_law_digit", "_law_cell", "_law_near"] ["_law_tape_here", "_law_many"] (defScope t_l_draw) := ⟨rfl, rfl, rfl, by decide +kernel, rfl, by decide +kernel, by decide +kernel⟩
def d_l_draw : He.DefD := ⟨("_law_draw", none), "_law_draw", "_law_draw", defArgs t_l_draw, defBody t_l_draw, defScope t_l_draw, [], []⟩
/-! ### _law_bent -/
abbrev t_l_bent : Stmt := (top 46)
abbrev nm_l_bent : List Str := ["_law_tape_here", "_law_text", "_law_at", "_law_sign", "_law_ahead", "_law_rest"]
def m_l_bent : SM := (sSeq (sAsg (.nm 2) (eFn f_l_draw [] (aCons (eVar 0) (aCons (eOp opAdd (eCall bLen (aCons (eVar 1) aNil)) (eC (.int 1))) aNil))))
  (sSeq (sAsg (.nm 3) (eOp opIx (eC (.str " ()=#'/-0129az\nA")) (eFn f_l_draw [] (aCons (eVar 0) (aCons (eC (.int 16)) aNil)))))
  (sSeq (sPar 4 5 (aCons (eSl false (eVar 1) oNone (oSome (eVar 2))) (aCons (eSl false (eVar 1) (oSome (eOp opAdd (eVar 2) (eC (.int 1)))) oNone) aNil)))
  (sRet (eOp opIx (eLst (aCons (eOp opAdd (eOp opAdd (eVar 4) (eVar 3)) (eSl false (eVar 1) (oSome (eVar 2)) oNone)) (aCons (eOp opAdd (eVar 4) (eVar 5)) (aCons (eOp opAdd (eOp opAdd (eVar 4) (eVar 3)) (eVar 5)) (aCons (eVar 4) aNil))))) (eFn f_l_draw [] (aCons (eVar 0) (aCons (eC (.int 4)) aNil))))))))
def f_l_bent : FM := fnM 2 6 m_l_bent
theorem sc_l_bent : FnScope ["_law_tape_here", "_law_text", "_law_at", "_law_sign", "_law_ahead", "_law_rest"] ["_law_tape_here", "_law_text"] (defScope t_l_bent) := ⟨rfl, rfl, rfl, by decide +kernel, rfl, by decide +kernel, by decide +kernel⟩
def d_l_bent : He.DefD := ⟨("_law_bent", none), "_law_bent", "_law_bent", defArgs t_l_bent, defBody t_l_bent, defScope t_l_bent, [], []⟩
/-! ### _law_name -/
abbrev t_l_name : Stmt := (top 32)
abbrev nm_l_name : List Str := ["_law_tape_here", "_law_letters", "_law_size", "_law_place", "_law_sign", "_law_k"]
def m_l_name : SM := (sSeq (sAsg (.nm 1) (eC (.str "abcdefghijklmnopqrstuvwxyz0123456789")))
  (sSeq (sAsg (.nm 2) (eOp opAdd (eC (.int 1)) (eFn f_l_draw [] (aCons (eVar 0) (aCons (eC (.int 12)) aNil)))))
  (sSeq (sIf (tOf (eOp opEq (eFn f_l_draw [] (aCons (eVar 0) (aCons (eC (.int 2)) aNil))) (eC (.int 0)))) (sSeq (sAsg (.nm 3) (eFn f_l_draw [] (aCons (eVar 0) (aCons (eVar 2) aNil))))
  (sSeq (sAsg (.nm 4) (eOp opIx (eVar 1) (eFn f_l_draw [] (aCons (eVar 0) (aCons (eOp opAdd (eC (.int 26)) (eOp opMul (eC (.int 10)) (eCall bInt (aCons (eOp opGt (eVar 3) (eC (.int 0))) aNil)))) aNil)))))
  (sRet (eOp opAdd (eOp opAdd (eOp opMul (eC (.str "a")) (eVar 3)) (eVar 4)) (eOp opMul (eC (.str "a")) (eOp opSub (eOp opSub (eVar 2) (eC (.int 1))) (eVar 3))))))) sNx)
  (sRet (eMt "str" mJoin (eC (.str "")) (aCons (eLc false [5] (.nm 5) (iRg (aCons (eVar 2) aNil)) tYesM (eOp opIx (eVar 1) (eFn f_l_draw [] (aCons (eVar 0) (aCons (eOp opAdd (eC (.int 26)) (eOp opMul (eC (.int 10)) (eCall bInt (aCons (eOp opGt (eVar 5) (eC (.int 0))) aNil)))) aNil))))) aNil))))))
def f_l_name : FM := fnM 1 6 m_l_name
theorem sc_l_name : FnScope ["_law_tape_here", "_law_letters", "_law_size", "_law_place", "_law_sign", "_law_k"] ["_law_tape_here"] (defScope t_l_name) := ⟨rfl, rfl, rfl, by decide +kernel, rfl, by decide +kernel, by decide +kernel⟩
def d_l_name : He.DefD := ⟨("_law_name", none), "_law_name", "_law_name", defArgs t_l_name, defBody t_l_name, defScope t_l_name, [], []⟩
/-! ### _law_fresh -/
abbrev t_l_fresh : Stmt := (top 33)
abbrev nm_l_fresh : List Str := ["_law_tape_here", "_law_taken", "_law_name_here", "_law_letter"]
def m_l_fresh : SM := (sSeq (sAsg (.nm 2) (eFn f_l_name [] (aCons (eVar 0) aNil)))
  (sSeq (sIf (tOf (eOp opNotIn (eVar 2) (eVar 1))) (sRet (eVar 2)) sNx)
  (sSeq (sFor (.nm 3) (iAny (eC (.str "abcdefghijklmnopqrstuvwxyz0123456789"))) (sIf (tOf (eOp opNotIn (eOp opAdd (eSl false (eVar 2) oNone (oSome (eC (.int 11)))) (eVar 3)) (eVar 1))) (sRet (eOp opAdd (eSl false (eVar 2) oNone (oSome (eC (.int 11)))) (eVar 3))) sNx))
  (sRet (eVar 2)))))
def f_l_fresh : FM := fnM 2 4 m_l_fresh
theorem sc_l_fresh : FnScope ["_law_tape_here", "_law_taken", "_law_name_here", "_law_letter"] ["_law_tape_here", "_law_taken"] (defScope t_l_fresh) := ⟨rfl, rfl, rfl, by decide +kernel, rfl, by decide +kernel, by decide +kernel⟩
def d_l_fresh : He.DefD := ⟨("_law_fresh", none), "_law_fresh", "_law_fresh", defArgs t_l_fresh, defBody t_l_fresh, defScope t_l_fresh, [], []⟩
/-! ### _law_columns -/
abbrev t_l_columns : Stmt := (top 34)
abbrev nm_l_columns : List Str := ["_law_tape_here", "_law_lead", "_law_many", "_law_taken", "_law_names", "_law_columns_here", "_law_kinds", "_law_k", "_law_kind"]
def m_l_columns : SM := (sSeq (sAsg (.nm 4) (eCall (bList true) (aCons (eVar 3) aNil)))
  (sSeq (sAsg (.nm 5) (eNew aNil))
  (sSeq (sAsg (.nm 6) (eCall (bList true) (aCons (eVar 1) aNil)))
  (sSeq (sFor (.nm 7) (iRg (aCons (eFn f_l_draw [] (aCons (eVar 0) (aCons (eOp opAdd (eVar 2) (eC (.int 1))) aNil))) aNil)) (sExpr (eMt "list" mAppend (eVar 6) (aCons (eOp opIx (eLst (aCons (eC (.str "number")) (aCons (eC (.str "word")) (aCons (eC (.str "flag")) aNil)))) (eFn f_l_draw [] (aCons (eVar 0) (aCons (eC (.int 3)) aNil)))) aNil))))
  (sSeq (sForN FU (.nm 8) (eVar 6) (sSeq (sExpr (eMt "list" mAppend (eVar 4) (aCons (eFn f_l_fresh [] (aCons (eVar 0) (aCons (eVar 4) aNil))) aNil)))
  (sExpr (eMt "list" mAppend (eVar 5) (aCons (eTup (aCons (eOp opIx (eVar 4) (eNeg (eC (.int 1)))) (aCons (eVar 8) aNil))) aNil)))))
  (sRet (eCall bTuple (aCons (eVar 5) aNil))))))))
def f_l_columns : FM := fnM 4 9 m_l_columns
theorem sc_l_columns : FnScope ["_law_tape_here", "_law_lead", "_law_many", "_law_taken", "_law_names", "_law_columns_here", "_law_kinds", "_law_k", "_law_kind"] ["_law_tape_here", "_law_lead", "_law_many", "_law_taken"] (defScope t_l_columns) := ⟨rfl, rfl, rfl, by decide +kernel, rfl, by decide +kernel, by decide +kernel⟩
def d_l_columns : He.DefD := ⟨("_law_columns", none), "_law_columns", "_law_columns", defArgs t_l_columns, defBody t_l_columns, defScope t_l_columns, [], []⟩
/-! ### _law_is_name -/
abbrev t_l_is_name : Stmt := (top 39)
abbrev nm_l_is_name : List Str := ["_law_text", "_law_sign"]
def m_l_is_name : SM := (sSeq (sIf (tOrM (tNotM (tOf (eChain opLe opLe (eC (.int 1)) (eCall bLen (aCons (eVar 0) aNil)) (eC (.int 12))))) (tOf (eOp opNotIn (eOp opIx (eVar 0) (eC (.int 0))) (eC (.str "abcdefghijklmnopqrstuvwxyz"))))) (sRet (eC (.bl false))) sNx)
  (sRet (eOp opEq (eLc false [1] (.nm 1) (iAny (eVar 0)) (tOf (eOp opNotIn (eVar 1) (eC (.str "abcdefghijklmnopqrstuvwxyz0123456789")))) (eVar 1)) (eLst aNil))))
def f_l_is_name : FM := fnM 1 2 m_l_is_name
theorem sc_l_is_name : FnScope ["_law_text", "_law_sign"] ["_law_text"] (defScope t_l_is_name) := ⟨rfl, rfl, rfl, by decide +kernel, rfl, by decide +kernel, by decide +kernel⟩
def d_l_is_name : He.DefD := ⟨("_law_is_name", none), "_law_is_name", "_law_is_name", defArgs t_l_is_name, defBody t_l_is_name, defScope t_l_is_name, [], []⟩
/-! ### _law_digits -/
abbrev t_l_digits : Stmt := (top 38)
abbrev nm_l_digits : List Str := ["_law_text", "_law_sign"]
def m_l_digits : SM := (sSeq (sIf (tOrM (tOf (eOp opEq (eVar 0) (eC (.str "")))) (tOrM (tOf (eOp opNe (eLc false [1] (.nm 1) (iAny (eVar 0)) (tOf (eOp opNotIn (eVar 1) (eC (.str "0123456789")))) (eVar 1)) (eLst aNil))) (tOf (eOp opGt (eCall bLen (aCons (eVar 0) aNil)) (eC (.int 41)))))) (sRet (eC (.non))) sNx)
  (sSeq (sIf (tAndM (tOf (eOp opGt (eCall bLen (aCons (eVar 0) aNil)) (eC (.int 1)))) (tOf (eOp opEq (eOp opIx (eVar 0) (eC (.int 0))) (eC (.str "0"))))) (sRet (eC (.non))) sNx)
  (sRet (eCall bInt (aCons (eVar 0) aNil)))))
def f_l_digits : FM := fnM 1 2 m_l_digits
theorem sc_l_digits : FnScope ["_law_text", "_law_sign"] ["_law_text"] (defScope t_l_digits) := ⟨rfl, rfl, rfl, by decide +kernel, rfl, by decide +kernel, by decide +kernel⟩
def d_l_digits : He.DefD := ⟨("_law_digits", none), "_law_digits", "_law_digits", defArgs t_l_digits, defBody t_l_digits, defScope t_l_digits, [], []⟩
/-! ### _law_lowest -/
abbrev t_l_lowest : Stmt := (top 30)
abbrev nm_l_lowest : List Str := ["_law_n", "_law_d", "_law_a", "_law_b", "_law_rest"]
def m_l_lowest : SM := (sSeq (sAsg (.nm 2) (eCall bAbs (aCons (eVar 0) aNil)))
  (sSeq (sAsg (.nm 3) (eVar 1))
  (sSeq (sWhile FU (tOf (eOp opGt (eVar 3) (eC (.int 0)))) (sSeq (sAsg (.nm 4) (eOp opMod (eVar 2) (eVar 3)))
  (sSeq (sAsg (.nm 2) (eVar 3))
  (sAsg (.nm 3) (eVar 4)))))
  (sRet (eTup (aCons (eOp opDiv (eVar 0) (eVar 2)) (aCons (eOp opDiv (eVar 1) (eVar 2)) aNil)))))))
def f_l_lowest : FM := fnM 2 5 m_l_lowest
theorem sc_l_lowest : FnScope ["_law_n", "_law_d", "_law_a", "_law_b", "_law_rest"] ["_law_n", "_law_d"] (defScope t_l_lowest) := ⟨rfl, rfl, rfl, by decide +kernel, rfl, by decide +kernel, by decide +kernel⟩
def d_l_lowest : He.DefD := ⟨("_law_lowest", none), "_law_lowest", "_law_lowest", defArgs t_l_lowest, defBody t_l_lowest, defScope t_l_lowest, [], []⟩
/-! ### _law_number -/
abbrev t_l_number : Stmt := (top 40)
abbrev nm_l_number : List Str := ["_law_text", "_law_below", "_law_parts", "_law_above", "_law_bottom"]
def m_l_number : SM := (sSeq (sAsg (.nm 1) (eIf (tOf (eOp opEq (eSl false (eVar 0) oNone (oSome (eC (.int 1)))) (eC (.str "-")))) (eSl false (eVar 0) (oSome (eC (.int 1))) oNone) (eVar 0)))
  (sSeq (sAsg (.nm 2) (eMt "str" (mSplit false) (eVar 1) (aCons (eC (.str "/")) aNil)))
  (sSeq (sAsg (.nm 3) (eFn f_l_digits [] (aCons (eOp opIx (eVar 2) (eC (.int 0))) aNil)))
  (sSeq (sAsg (.nm 4) (eIf (tOf (eOp opEq (eCall bLen (aCons (eVar 2) aNil)) (eC (.int 2)))) (eFn f_l_digits [] (aCons (eOp opIx (eVar 2) (eC (.int 1))) aNil)) (eC (.int 1))))
  (sSeq (sIf (tOrM (tOf (eOp opGt (eCall bLen (aCons (eVar 2) aNil)) (eC (.int 2)))) (tOrM (tOf (eOp opIs (eVar 3) (eC (.non)))) (tOrM (tOf (eOp opIs (eVar 4) (eC (.non)))) (tOrM (tOf (eOp opLt (eVar 4) (eC (.int 1)))) (tOrM (tOf (eOp opGt (eVar 3) (eOp opPow (eC (.int 10)) (eC (.int 40))))) (tOf (eOp opGt (eVar 4) (eOp opPow (eC (.int 10)) (eC (.int 40)))))))))) (sRet (eC (.non))) sNx)
  (sSeq (sIf (tOrM (tAndM (tOf (eOp opEq (eCall bLen (aCons (eVar 2) aNil)) (eC (.int 2)))) (tOf (eOp opEq (eVar 4) (eC (.int 1))))) (tOrM (tOf (eOp opNe (eFn f_l_lowest [] (aCons (eVar 3) (aCons (eVar 4) aNil))) (eTup (aCons (eVar 3) (aCons (eVar 4) aNil))))) (tOf (eOp opEq (eVar 0) (eC (.str "-0")))))) (sRet (eC (.non))) sNx)
  (sRet (eIf (tOf (eOp opEq (eSl false (eVar 0) oNone (oSome (eC (.int 1)))) (eC (.str "-")))) (eTup (aCons (eOp opSub (eC (.int 0)) (eVar 3)) (aCons (eVar 4) aNil))) (eTup (aCons (eVar 3) (aCons (eVar 4) aNil)))))))))))
def f_l_number : FM := fnM 1 5 m_l_number
theorem sc_l_number : FnScope ["_law_text", "_law_below", "_law_parts", "_law_above", "_law_bottom"] ["_law_text"] (defScope t_l_number) := ⟨rfl, rfl, rfl, by decide +kernel, rfl, by decide +kernel, by decide +kernel⟩
def d_l_number : He.DefD := ⟨("_law_number", none), "_law_number", "_law_number", defArgs t_l_number, defBody t_l_number, defScope t_l_number, [], []⟩
/-! ### _law_leaf_of -/
abbrev t_l_leaf_of : Stmt := (top 41)
abbrev nm_l_leaf_of : List Str := ["_law_token_here", "_law_number_here"]
def m_l_leaf_of : SM := (sSeq (sIf (tTru (eFn f_l_is_name [] (aCons (eVar 0) aNil))) (sRet (eTup (aCons (eC (.str "column")) (aCons (eVar 0) aNil)))) sNx)
  (sSeq (sIf (tOf (eOp opNe (eSl false (eVar 0) oNone (oSome (eC (.int 1)))) (eC (.str "=")))) (sRet (eC (.non))) sNx)
  (sSeq (sIf (tOf (eOp opIn (eVar 0) (eLst (aCons (eC (.str "=#yes")) (aCons (eC (.str "=#no")) aNil))))) (sRet (eTup (aCons (eC (.str "value")) (aCons (eOp opEq (eVar 0) (eC (.str "=#yes"))) aNil)))) sNx)
  (sSeq (sIf (tOf (eOp opEq (eSl false (eVar 0) (oSome (eC (.int 1))) (oSome (eC (.int 2)))) (eC (.str "'")))) (sRet (eIf (tTru (eFn f_l_is_name [] (aCons (eSl false (eVar 0) (oSome (eC (.int 2))) oNone) aNil))) (eTup (aCons (eC (.str "value")) (aCons (eSl false (eVar 0) (oSome (eC (.int 2))) oNone) aNil))) (eC (.non)))) sNx)
  (sSeq (sAsg (.nm 1) (eFn f_l_number [] (aCons (eSl false (eVar 0) (oSome (eC (.int 1))) oNone) aNil)))
  (sRet (eIf (tOf (eOp opIs (eVar 1) (eC (.non)))) (eC (.non)) (eTup (aCons (eC (.str "value")) (aCons (eVar 1) aNil))))))))))
def f_l_leaf_of : FM := fnM 1 2 m_l_leaf_of
theorem sc_l_leaf_of : FnScope ["_law_token_here", "_law_number_here"] ["_law_token_here"] (defScope t_l_leaf_of) := ⟨rfl, rfl, rfl, by decide +kernel, rfl, by decide +kernel, by decide +kernel⟩
def d_l_leaf_of : He.DefD := ⟨("_law_leaf_of", none), "_law_leaf_of", "_law_leaf_of", defArgs t_l_leaf_of, defBody t_l_leaf_of, defScope t_l_leaf_of, [], []⟩
/-! ### _law_operands -/
abbrev t_l_operands : Stmt := (top 37)
abbrev nm_l_operands : List Str := ["_law_word"]
def m_l_operands : SM := (sSeq (sIf (tOf (eOp opIn (eVar 0) (eLst (aCons (eC (.str "not")) (aCons (eC (.str "missing")) aNil))))) (sRet (eC (.int 1))) sNx)
  (sSeq (sIf (tOf (eOp opIn (eVar 0) (eLst (aCons (eC (.str "plus")) (aCons (eC (.str "minus")) (aCons (eC (.str "times")) (aCons (eC (.str "over")) (aCons (eC (.str "less")) (aCons (eC (.str "same")) (aCons (eC (.str "both")) (aCons (eC (.str "either")) aNil))))))))))) (sRet (eC (.int 2))) sNx)
  (sRet (eIf (tOf (eOp opEq (eVar 0) (eC (.str "if")))) (eC (.int 3)) (eC (.int 0))))))
def f_l_operands : FM := fnM 1 1 m_l_operands
theorem sc_l_operands : FnScope ["_law_word"] ["_law_word"] (defScope t_l_operands) := ⟨rfl, rfl, rfl, by decide +kernel, rfl, by decide +kernel, by decide +kernel⟩
def d_l_operands : He.DefD := ⟨("_law_operands", none), "_law_operands", "_law_operands", defArgs t_l_operands, defBody t_l_operands, defScope t_l_operands, [], []⟩
/-! ### _law_token -/
abbrev t_l_token : Stmt := (top 42)
abbrev nm_l_token : List Str := ["_law_text", "_law_at", "_law_end"]
def m_l_token : SM := (sSeq (sAsg (.nm 2) (eVar 1))
  (sSeq (sWhile FU (tAndM (tOf (eOp opLt (eVar 2) (eCall bLen (aCons (eVar 0) aNil)))) (tOf (eOp opNotIn (eOp opIx (eVar 0) (eVar 2)) (eC (.str " ()"))))) (sAsg (.nm 2) (eOp opAdd (eVar 2) (eC (.int 1)))))
  (sRet (eSl false (eVar 0) (oSome (eVar 1)) (oSome (eVar 2))))))
def f_l_token : FM := fnM 2 3 m_l_token
theorem sc_l_token : FnScope ["_law_text", "_law_at", "_law_end"] ["_law_text", "_law_at"] (defScope t_l_token) := ⟨rfl, rfl, rfl, by decide +kernel, rfl, by decide +kernel, by decide +kernel⟩
def d_l_token : He.DefD := ⟨("_law_token", none), "_law_token", "_law_token", defArgs t_l_token, defBody t_l_token, defScope t_l_token, [], []⟩
/-! ### _law_read -/
abbrev t_l_read : Stmt := (top 43)
abbrev nm_l_read : List Str := ["_law_text", "_law_at", "_law_depth", "_law_found", "_law_word", "_law_turn", "_law_told_here"]
def m_l_read (rec : FM) : SM := (sSeq (sIf (tOrM (tOf (eOp opGt (eVar 2) (eC (.int 8)))) (tOf (eOp opGe (eVar 1) (eCall bLen (aCons (eVar 0) aNil))))) (sRet (eLst (aCons (eC (.non)) (aCons (eVar 1) aNil)))) sNx)
  (sSeq (sIf (tOf (eOp opNe (eOp opIx (eVar 0) (eVar 1)) (eC (.str "(")))) (sSeq (sAsg (.nm 3) (eFn f_l_leaf_of [] (aCons (eFn f_l_token [] (aCons (eVar 0) (aCons (eVar 1) aNil))) aNil)))
  (sRet (eIf (tOf (eOp opIs (eVar 3) (eC (.non)))) (eLst (aCons (eC (.non)) (aCons (eVar 1) aNil))) (eLst (aCons (eVar 3) (aCons (eOp opAdd (eVar 1) (eCall bLen (aCons (eFn f_l_token [] (aCons (eVar 0) (aCons (eVar 1) aNil))) aNil))) aNil)))))) sNx)
  (sSeq (sAsg (.nm 4) (eFn f_l_token [] (aCons (eVar 0) (aCons (eOp opAdd (eVar 1) (eC (.int 1))) aNil))))
  (sSeq (sIf (tOf (eOp opEq (eFn f_l_operands [] (aCons (eVar 4) aNil)) (eC (.int 0)))) (sRet (eLst (aCons (eC (.non)) (aCons (eOp opAdd (eVar 1) (eC (.int 1))) aNil)))) sNx)
  (sSeq (sAsg (.nm 1) (eOp opAdd (eOp opAdd (eVar 1) (eC (.int 1))) (eCall bLen (aCons (eVar 4) aNil))))
  (sSeq (sAsg (.nm 3) (eNew (aCons (eVar 4) aNil)))
  (sSeq (sFor (.nm 5) (iRg (aCons (eFn f_l_operands [] (aCons (eVar 4) aNil)) aNil)) (sSeq (sIf (tOf (eOp opNe (eSl false (eVar 0) (oSome (eVar 1)) (oSome (eOp opAdd (eVar 1) (eC (.int 1))))) (eC (.str " ")))) (sRet (eLst (aCons (eC (.non)) (aCons (eVar 1) aNil)))) sNx)
  (sSeq (sAsg (.nm 6) (eFn rec [] (aCons (eVar 0) (aCons (eOp opAdd (eVar 1) (eC (.int 1))) (aCons (eOp opAdd (eVar 2) (eC (.int 1))) aNil)))))
  (sSeq (sIf (tOf (eOp opIs (eOp opIx (eVar 6) (eC (.int 0))) (eC (.non)))) (sRet (eVar 6)) sNx)
  (sSeq (sExpr (eMt "list" mAppend (eVar 3) (aCons (eOp opIx (eVar 6) (eC (.int 0))) aNil)))
  (sAsg (.nm 1) (eOp opIx (eVar 6) (eC (.int 1)))))))))
  (sRet (eIf (tOf (eOp opEq (eSl false (eVar 0) (oSome (eVar 1)) (oSome (eOp opAdd (eVar 1) (eC (.int 1))))) (eC (.str ")")))) (eLst (aCons (eCall bTuple (aCons (eVar 3) aNil)) (aCons (eOp opAdd (eVar 1) (eC (.int 1))) aNil))) (eLst (aCons (eC (.non)) (aCons (eVar 1) aNil))))))))))))
def f_l_read : Nat → FM
  | 0 => fun _ _ => .bad
  | n + 1 => fnM 3 7 (m_l_read (f_l_read n))
theorem sc_l_read : FnScope ["_law_text", "_law_at", "_law_depth", "_law_found", "_law_word", "_law_turn", "_law_told_here"] ["_law_text", "_law_at", "_law_depth"] (defScope t_l_read) := ⟨rfl, rfl, rfl, by decide +kernel, rfl, by decide +kernel, by decide +kernel⟩
def d_l_read : He.DefD := ⟨("_law_read", none), "_law_read", "_law_read", defArgs t_l_read, defBody t_l_read, defScope t_l_read, [], []⟩
/-! ### _law_due -/
abbrev t_l_due : Stmt := (top 44)
abbrev nm_l_due : List Str := ["_law_text", "_law_told_here"]
def m_l_due : SM := (sSeq (sAsg (.nm 1) (eFn (f_l_read 12) [] (aCons (eVar 0) (aCons (eC (.int 0)) (aCons (eC (.int 1)) aNil)))))
  (sSeq (sIf (tAndM (tOf (eOp opIsNot (eOp opIx (eVar 1) (eC (.int 0))) (eC (.non)))) (tOf (eOp opLt (eOp opIx (eVar 1) (eC (.int 1))) (eCall bLen (aCons (eVar 0) aNil))))) (sRet (eLst (aCons (eC (.str "bad")) (aCons (eOp opIx (eVar 1) (eC (.int 1))) (aCons (eC (.bl true)) aNil))))) sNx)
  (sRet (eIf (tOf (eOp opIs (eOp opIx (eVar 1) (eC (.int 0))) (eC (.non)))) (eLst (aCons (eC (.str "bad")) (aCons (eOp opIx (eVar 1) (eC (.int 1))) (aCons (eC (.bl true)) aNil)))) (eLst (aCons (eC (.str "read")) (aCons (eOp opIx (eVar 1) (eC (.int 0))) aNil)))))))
def f_l_due : FM := fnM 1 2 m_l_due
theorem sc_l_due : FnScope ["_law_text", "_law_told_here"] ["_law_text"] (defScope t_l_due) := ⟨rfl, rfl, rfl, by decide +kernel, rfl, by decide +kernel, by decide +kernel⟩
def d_l_due : He.DefD := ⟨("_law_due", none), "_law_due", "_law_due", defArgs t_l_due, defBody t_l_due, defScope t_l_due, [], []⟩
/-! ### _law_rational -/
abbrev t_l_rational : Stmt := (top 31)
abbrev nm_l_rational : List Str := ["_law_tape_here", "_law_wide", "_law_size", "_law_number_here", "_law_edge"]
def m_l_rational : SM := (sSeq (sAsg (.nm 2) (eFn f_l_draw [] (aCons (eVar 0) (aCons (eOp opAdd (eC (.int 6)) (eOp opMul (eC (.int 2)) (eCall bInt (aCons (eVar 1) aNil)))) aNil))))
  (sSeq (sIf (tOf (eOp opLt (eVar 2) (eC (.int 4)))) (sRet (eTup (aCons (eOp opSub (eFn f_l_draw [] (aCons (eVar 0) (aCons (eC (.int 15)) aNil))) (eC (.int 7))) (aCons (eC (.int 1)) aNil)))) sNx)
  (sSeq (sIf (tOf (eOp opLt (eVar 2) (eC (.int 6)))) (sRet (eFn f_l_lowest [] (aCons (eOp opSub (eFn f_l_draw [] (aCons (eVar 0) (aCons (eC (.int 401)) aNil))) (eC (.int 200))) (aCons (eOp opAdd (eC (.int 1)) (eFn f_l_draw [] (aCons (eVar 0) (aCons (eC (.int 12)) aNil)))) aNil)))) sNx)
  (sSeq (sIf (tOf (eOp opEq (eVar 2) (eC (.int 6)))) (sSeq (sAsg (.nm 3) (eOp opSub (eFn f_l_draw [] (aCons (eVar 0) (aCons (eOp opAdd (eOp opMul (eC (.int 2)) (eOp opPow (eC (.int 10)) (eC (.int 18)))) (eC (.int 1))) aNil))) (eOp opPow (eC (.int 10)) (eC (.int 18)))))
  (sRet (eFn f_l_lowest [] (aCons (eVar 3) (aCons (eOp opAdd (eC (.int 1)) (eFn f_l_draw [] (aCons (eVar 0) (aCons (eOp opPow (eC (.int 10)) (eC (.int 18))) aNil)))) aNil))))) sNx)
  (sSeq (sAsg (.nm 4) (eOp opSub (eOp opPow (eC (.int 10)) (eC (.int 40))) (eFn f_l_draw [] (aCons (eVar 0) (aCons (eC (.int 3)) aNil)))))
  (sRet (eOp opIx (eLst (aCons (eTup (aCons (eVar 4) (aCons (eC (.int 1)) aNil))) (aCons (eTup (aCons (eOp opSub (eC (.int 0)) (eVar 4)) (aCons (eC (.int 1)) aNil))) (aCons (eTup (aCons (eC (.int 1)) (aCons (eVar 4) aNil))) (aCons (eTup (aCons (eNeg (eC (.int 1))) (aCons (eVar 4) aNil))) aNil))))) (eFn f_l_draw [] (aCons (eVar 0) (aCons (eC (.int 4)) aNil))))))))))
def f_l_rational : FM := fnM 2 5 m_l_rational
theorem sc_l_rational : FnScope ["_law_tape_here", "_law_wide", "_law_size", "_law_number_here", "_law_edge"] ["_law_tape_here", "_law_wide"] (defScope t_l_rational) := ⟨rfl, rfl, rfl, by decide +kernel, rfl, by decide +kernel, by decide +kernel⟩
def d_l_rational : He.DefD := ⟨("_law_rational", none), "_law_rational", "_law_rational", defArgs t_l_rational, defBody t_l_rational, defScope t_l_rational, [], []⟩
/-! ### _law_leaf -/
abbrev t_l_leaf : Stmt := (top 35)
abbrev nm_l_leaf : List Str := ["_law_tape_here", "_law_columns_here", "_law_kind", "_law_same", "_law_name_here", "_law_other"]
def m_l_leaf : SM := (sSeq (sAsg (.nm 3) (eLc false [4, 5] (.tp [(.nm 4), (.nm 5)]) (iAny (eVar 1)) (tOf (eOp opEq (eVar 5) (eVar 2))) (eVar 4)))
  (sSeq (sIf (tAndM (tTru (eVar 3)) (tOf (eOp opGt (eFn f_l_draw [] (aCons (eVar 0) (aCons (eC (.int 4)) aNil))) (eC (.int 0))))) (sRet (eTup (aCons (eC (.str "column")) (aCons (eOp opIx (eVar 3) (eFn f_l_draw [] (aCons (eVar 0) (aCons (eCall bLen (aCons (eVar 3) aNil)) aNil)))) aNil)))) sNx)
  (sSeq (sIf (tOf (eOp opEq (eVar 2) (eC (.str "number")))) (sRet (eTup (aCons (eC (.str "value")) (aCons (eFn f_l_rational [] (aCons (eVar 0) (aCons (eC (.bl false)) aNil))) aNil)))) sNx)
  (sSeq (sIf (tOf (eOp opEq (eVar 2) (eC (.str "flag")))) (sRet (eTup (aCons (eC (.str "value")) (aCons (eOp opEq (eFn f_l_draw [] (aCons (eVar 0) (aCons (eC (.int 2)) aNil))) (eC (.int 1))) aNil)))) sNx)
  (sRet (eTup (aCons (eC (.str "value")) (aCons (eOp opIx (eLst (aCons (eC (.str "a")) (aCons (eC (.str "b")) (aCons (eC (.str "ab")) (aCons (eC (.str "b0")) aNil))))) (eFn f_l_draw [] (aCons (eVar 0) (aCons (eC (.int 4)) aNil)))) aNil))))))))
def f_l_leaf : FM := fnM 3 6 m_l_leaf
theorem sc_l_leaf : FnScope ["_law_tape_here", "_law_columns_here", "_law_kind", "_law_same", "_law_name_here", "_law_other"] ["_law_tape_here", "_law_columns_here", "_law_kind"] (defScope t_l_leaf) := ⟨rfl, rfl, rfl, by decide +kernel, rfl, by decide +kernel, by decide +kernel⟩
def d_l_leaf : He.DefD := ⟨("_law_leaf", none), "_law_leaf", "_law_leaf", defArgs t_l_leaf, defBody t_l_leaf, defScope t_l_leaf, [], []⟩
/-! ### _law_expression -/
abbrev t_l_expression : Stmt := (top 36)
abbrev nm_l_expression : List Str := ["_law_tape_here", "_law_columns_here", "_law_kind", "_law_depth", "_law_turn", "_law_low", "_law_test", "_law_left", "_law_word", "_law_some"]
def m_l_expression (rec : FM) : SM := (sSeq (sAsg (.nm 4) (eFn f_l_draw [] (aCons (eVar 0) (aCons (eC (.int 9)) aNil))))
  (sSeq (sAsg (.nm 5) (eOp opSub (eVar 3) (eC (.int 1))))
  (sSeq (sIf (tOrM (tOf (eOp opLe (eVar 3) (eC (.int 1)))) (tOf (eOp opLt (eVar 4) (eC (.int 2))))) (sRet (eFn f_l_leaf [] (aCons (eVar 0) (aCons (eVar 1) (aCons (eVar 2) aNil))))) sNx)
  (sSeq (sIf (tOf (eOp opEq (eVar 4) (eC (.int 2)))) (sSeq (sAsg (.nm 6) (eFn rec [] (aCons (eVar 0) (aCons (eVar 1) (aCons (eC (.str "flag")) (aCons (eVar 5) aNil))))))
  (sSeq (sAsg (.nm 7) (eFn rec [] (aCons (eVar 0) (aCons (eVar 1) (aCons (eVar 2) (aCons (eVar 5) aNil))))))
  (sRet (eTup (aCons (eC (.str "if")) (aCons (eVar 6) (aCons (eVar 7) (aCons (eFn rec [] (aCons (eVar 0) (aCons (eVar 1) (aCons (eVar 2) (aCons (eVar 5) aNil))))) aNil)))))))) sNx)
  (sSeq (sIf (tOf (eOp opEq (eVar 2) (eC (.str "word")))) (sRet (eFn f_l_leaf [] (aCons (eVar 0) (aCons (eVar 1) (aCons (eVar 2) aNil))))) sNx)
  (sSeq (sIf (tOf (eOp opEq (eVar 2) (eC (.str "number")))) (sSeq (sAsg (.nm 8) (eOp opIx (eLst (aCons (eC (.str "plus")) (aCons (eC (.str "minus")) (aCons (eC (.str "times")) (aCons (eC (.str "over")) aNil))))) (eFn f_l_draw [] (aCons (eVar 0) (aCons (eC (.int 4)) aNil)))))
  (sSeq (sAsg (.nm 7) (eFn rec [] (aCons (eVar 0) (aCons (eVar 1) (aCons (eC (.str "number")) (aCons (eVar 5) aNil))))))
  (sRet (eTup (aCons (eVar 8) (aCons (eVar 7) (aCons (eFn rec [] (aCons (eVar 0) (aCons (eVar 1) (aCons (eC (.str "number")) (aCons (eVar 5) aNil))))) aNil))))))) sNx)
  (sSeq (sIf (tOf (eOp opEq (eVar 4) (eC (.int 3)))) (sRet (eTup (aCons (eC (.str "not")) (aCons (eFn rec [] (aCons (eVar 0) (aCons (eVar 1) (aCons (eC (.str "flag")) (aCons (eVar 5) aNil))))) aNil)))) sNx)
  (sSeq (sAsg (.nm 9) (eOp opIx (eLst (aCons (eC (.str "number")) (aCons (eC (.str "word")) (aCons (eC (.str "flag")) aNil)))) (eFn f_l_draw [] (aCons (eVar 0) (aCons (eC (.int 3)) aNil)))))
  (sSeq (sIf (tOf (eOp opEq (eVar 4) (eC (.int 4)))) (sRet (eTup (aCons (eC (.str "missing")) (aCons (eFn rec [] (aCons (eVar 0) (aCons (eVar 1) (aCons (eVar 9) (aCons (eVar 5) aNil))))) aNil)))) sNx)
  (sSeq (sIf (tOf (eOp opEq (eVar 4) (eC (.int 5)))) (sSeq (sAsg (.nm 7) (eFn rec [] (aCons (eVar 0) (aCons (eVar 1) (aCons (eVar 9) (aCons (eVar 5) aNil))))))
  (sRet (eTup (aCons (eC (.str "same")) (aCons (eVar 7) (aCons (eFn rec [] (aCons (eVar 0) (aCons (eVar 1) (aCons (eVar 9) (aCons (eVar 5) aNil))))) aNil)))))) sNx)
  (sSeq (sIf (tOf (eOp opLt (eVar 4) (eC (.int 8)))) (sSeq (sAsg (.nm 7) (eFn rec [] (aCons (eVar 0) (aCons (eVar 1) (aCons (eC (.str "number")) (aCons (eVar 5) aNil))))))
  (sRet (eTup (aCons (eC (.str "less")) (aCons (eVar 7) (aCons (eFn rec [] (aCons (eVar 0) (aCons (eVar 1) (aCons (eC (.str "number")) (aCons (eVar 5) aNil))))) aNil)))))) sNx)
  (sSeq (sAsg (.nm 8) (eOp opIx (eLst (aCons (eC (.str "both")) (aCons (eC (.str "either")) aNil))) (eFn f_l_draw [] (aCons (eVar 0) (aCons (eC (.int 2)) aNil)))))
  (sSeq (sAsg (.nm 7) (eFn rec [] (aCons (eVar 0) (aCons (eVar 1) (aCons (eC (.str "flag")) (aCons (eVar 5) aNil))))))
  (sRet (eTup (aCons (eVar 8) (aCons (eVar 7) (aCons (eFn rec [] (aCons (eVar 0) (aCons (eVar 1) (aCons (eC (.str "flag")) (aCons (eVar 5) aNil))))) aNil))))))))))))))))))
def f_l_expression : Nat → FM
  | 0 => fun _ _ => .bad
  | n + 1 => fnM 4 10 (m_l_expression (f_l_expression n))
theorem sc_l_expression : FnScope ["_law_tape_here", "_law_columns_here", "_law_kind", "_law_depth", "_law_turn", "_law_low", "_law_test", "_law_left", "_law_word", "_law_some"] ["_law_tape_here", "_law_columns_here", "_law_kind", "_law_depth"] (defScope t_l_expression) := ⟨rfl, rfl, rfl, by decide +kernel, rfl, by decide +kernel, by decide +kernel⟩
def d_l_expression : He.DefD := ⟨("_law_expression", none), "_law_expression", "_law_expression", defArgs t_l_expression, defBody t_l_expression, defScope t_l_expression, [], []⟩
/-! ### _law_tape -/
abbrev t_l_tape : Stmt := (top 28)
abbrev nm_l_tape : List Str := ["_law_script"]
def m_l_tape : SM := (sRet (eNew (aCons (eCall (bList false) (aCons (eSl false (eVar 0) oNone (oSome (eC (.int 63)))) aNil)) (aCons (eC (.int 0)) (aCons (eC (.int 0)) (aCons (eC (.int 17)) aNil))))))
def f_l_tape : FM := fnM 1 1 m_l_tape
theorem sc_l_tape : FnScope ["_law_script"] ["_law_script"] (defScope t_l_tape) := ⟨rfl, rfl, rfl, by decide +kernel, rfl, by decide +kernel, by decide +kernel⟩
def d_l_tape : He.DefD := ⟨("_law_tape", none), "_law_tape", "_law_tape", defArgs t_l_tape, defBody t_l_tape, defScope t_l_tape, [], []⟩
/-! ### FormReader.__init__ -/
abbrev t_FormReader_init : Stmt := ((clsB (top 21)).getD 0 (.Pass ⟨0, 0, 0, 0⟩))
abbrev nm_FormReader_init : List Str := ["self", "text"]
def m_FormReader_init : SM := (sSeq (sSetF "FormReader" "text" (eVar 0) (eVar 1))
  (sSetF "FormReader" "at" (eVar 0) (eC (.int 0))))
def f_FormReader_init : FM := fnM 2 2 m_FormReader_init
theorem sc_FormReader_init : FnScope ["self", "text"] ["self", "text"] (defScope t_FormReader_init) := ⟨rfl, rfl, rfl, by decide +kernel, rfl, by decide +kernel, by decide +kernel⟩
def d_FormReader_init : He.DefD := ⟨("FormReader", some "__init__"), "__init__", "FormReader.__init__", defArgs t_FormReader_init, defBody t_FormReader_init, defScope t_FormReader_init, [], []⟩
/-! ### FormReader.expect -/
abbrev t_FormReader_expect : Stmt := ((clsB (top 21)).getD 1 (.Pass ⟨0, 0, 0, 0⟩))
abbrev nm_FormReader_expect : List Str := ["self", "sign"]
def m_FormReader_expect : SM := (sSeq (sIf (tOrM (tOf (eOp opGe (eFld "FormReader" "at" (eVar 0)) (eCall bLen (aCons (eFld "FormReader" "text" (eVar 0)) aNil)))) (tOf (eOp opNe (eOp opIx (eFld "FormReader" "text" (eVar 0)) (eFld "FormReader" "at" (eVar 0))) (eVar 1)))) (sRaise "BadText" ["position"] (aCons (eFld "FormReader" "at" (eVar 0)) aNil)) sNx)
  (sAugF "FormReader" "at" iAdd (eVar 0) (eC (.int 1))))
def f_FormReader_expect : FM := fnM 2 2 m_FormReader_expect
theorem sc_FormReader_expect : FnScope ["self", "sign"] ["self", "sign"] (defScope t_FormReader_expect) := ⟨rfl, rfl, rfl, by decide +kernel, rfl, by decide +kernel, by decide +kernel⟩
def d_FormReader_expect : He.DefD := ⟨("FormReader", some "expect"), "expect", "FormReader.expect", defArgs t_FormReader_expect, defBody t_FormReader_expect, defScope t_FormReader_expect, [], []⟩
/-! ### FormReader.token -/
abbrev t_FormReader_token : Stmt := ((clsB (top 21)).getD 2 (.Pass ⟨0, 0, 0, 0⟩))
abbrev nm_FormReader_token : List Str := ["self", "begin"]
def m_FormReader_token : SM := (sSeq (sAsg (.nm 1) (eFld "FormReader" "at" (eVar 0)))
  (sSeq (sWhile FU (tAndM (tOf (eOp opLt (eFld "FormReader" "at" (eVar 0)) (eCall bLen (aCons (eFld "FormReader" "text" (eVar 0)) aNil)))) (tOf (eOp opNotIn (eOp opIx (eFld "FormReader" "text" (eVar 0)) (eFld "FormReader" "at" (eVar 0))) (eC (.str " ()"))))) (sAugF "FormReader" "at" iAdd (eVar 0) (eC (.int 1))))
  (sRet (eSl false (eFld "FormReader" "text" (eVar 0)) (oSome (eVar 1)) (oSome (eFld "FormReader" "at" (eVar 0)))))))
def f_FormReader_token : FM := fnM 1 2 m_FormReader_token
theorem sc_FormReader_token : FnScope ["self", "begin"] ["self"] (defScope t_FormReader_token) := ⟨rfl, rfl, rfl, by decide +kernel, rfl, by decide +kernel, by decide +kernel⟩
def d_FormReader_token : He.DefD := ⟨("FormReader", some "token"), "token", "FormReader.token", defArgs t_FormReader_token, defBody t_FormReader_token, defScope t_FormReader_token, [], []⟩
/-! ### is_name -/
abbrev t_is_name : Stmt := (top 11)
abbrev nm_is_name : List Str := ["value", "sign"]
def m_is_name : SM := (sSeq (sIf (tOrM (tNotM (tTru (eIs "str" (eVar 0)))) (tOrM (tNotM (tOf (eChain opLe opLe (eC (.int 1)) (eCall bLen (aCons (eVar 0) aNil)) (eC (.int 12))))) (tOf (eOp opNotIn (eOp opIx (eVar 0) (eC (.int 0))) (eC (.str "abcdefghijklmnopqrstuvwxyz")))))) (sRet (eC (.bl false))) sNx)
  (sRet (eCall bAll (aCons (eLc false [1] (.nm 1) (iAny (eVar 0)) tYesM (eOp opIn (eVar 1) (eC (.str "abcdefghijklmnopqrstuvwxyz0123456789")))) aNil))))
def f_is_name : FM := fnM 1 2 m_is_name
theorem sc_is_name : FnScope ["value", "sign"] ["value"] (defScope t_is_name) := ⟨rfl, rfl, rfl, by decide +kernel, rfl, by decide +kernel, by decide +kernel⟩
def d_is_name : He.DefD := ⟨("is_name", none), "is_name", "is_name", defArgs t_is_name, defBody t_is_name, defScope t_is_name, [], []⟩
/-! ### common_divisor -/
abbrev t_common_divisor : Stmt := (top 4)
abbrev nm_common_divisor : List Str := ["a", "b"]
def m_common_divisor : SM := (sSeq (sPar 0 1 (aCons (eCall bAbs (aCons (eVar 0) aNil)) (aCons (eCall bAbs (aCons (eVar 1) aNil)) aNil)))
  (sSeq (sWhile FU (tOf (eOp opNe (eVar 1) (eC (.int 0)))) (sPar 0 1 (aCons (eVar 1) (aCons (eOp opMod (eVar 0) (eVar 1)) aNil))))
  (sRet (eVar 0))))
def f_common_divisor : FM := fnM 2 2 m_common_divisor
theorem sc_common_divisor : FnScope ["a", "b"] ["a", "b"] (defScope t_common_divisor) := ⟨rfl, rfl, rfl, by decide +kernel, rfl, by decide +kernel, by decide +kernel⟩
def d_common_divisor : He.DefD := ⟨("common_divisor", none), "common_divisor", "common_divisor", defArgs t_common_divisor, defBody t_common_divisor, defScope t_common_divisor, [], []⟩
/-! ### is_integer -/
abbrev t_is_integer : Stmt := (top 3)
abbrev nm_is_integer : List Str := ["value"]
def m_is_integer : SM := (sRet (eAnd (eIs "int" (eVar 0)) (eNot (eIs "bool" (eVar 0)))))
def f_is_integer : FM := fnM 1 1 m_is_integer
theorem sc_is_integer : FnScope ["value"] ["value"] (defScope t_is_integer) := ⟨rfl, rfl, rfl, by decide +kernel, rfl, by decide +kernel, by decide +kernel⟩
def d_is_integer : He.DefD := ⟨("is_integer", none), "is_integer", "is_integer", defArgs t_is_integer, defBody t_is_integer, defScope t_is_integer, [], []⟩
/-! ### is_rational -/
abbrev t_is_rational : Stmt := (top 5)
abbrev nm_is_rational : List Str := ["value"]
def m_is_rational : SM := (sSeq (sIf (tOrM (tNotM (tTru (eIs "tuple" (eVar 0)))) (tOrM (tOf (eOp opNe (eCall bLen (aCons (eVar 0) aNil)) (eC (.int 2)))) (tOrM (tNotM (tTru (eFn f_is_integer [] (aCons (eOp opIx (eVar 0) (eC (.int 0))) aNil)))) (tNotM (tTru (eFn f_is_integer [] (aCons (eOp opIx (eVar 0) (eC (.int 1))) aNil))))))) (sRet (eC (.bl false))) sNx)
  (sRet (eAnd (eOp opGe (eOp opIx (eVar 0) (eC (.int 1))) (eC (.int 1))) (eOp opEq (eFn f_common_divisor [] (aCons (eOp opIx (eVar 0) (eC (.int 0))) (aCons (eOp opIx (eVar 0) (eC (.int 1))) aNil))) (eC (.int 1))))))
def f_is_rational : FM := fnM 1 1 m_is_rational
theorem sc_is_rational : FnScope ["value"] ["value"] (defScope t_is_rational) := ⟨rfl, rfl, rfl, by decide +kernel, rfl, by decide +kernel, by decide +kernel⟩
def d_is_rational : He.DefD := ⟨("is_rational", none), "is_rational", "is_rational", defArgs t_is_rational, defBody t_is_rational, defScope t_is_rational, [], []⟩
/-! ### is_within_limit -/
abbrev t_is_within_limit : Stmt := (top 12)
abbrev nm_is_within_limit : List Str := ["number"]
def m_is_within_limit : SM := (sRet (eAnd (eOp opLe (eCall bAbs (aCons (eOp opIx (eVar 0) (eC (.int 0))) aNil)) (eC (.int 10000000000000000000000000000000000000000))) (eOp opLe (eOp opIx (eVar 0) (eC (.int 1))) (eC (.int 10000000000000000000000000000000000000000)))))
def f_is_within_limit : FM := fnM 1 1 m_is_within_limit
theorem sc_is_within_limit : FnScope ["number"] ["number"] (defScope t_is_within_limit) := ⟨rfl, rfl, rfl, by decide +kernel, rfl, by decide +kernel, by decide +kernel⟩
def d_is_within_limit : He.DefD := ⟨("is_within_limit", none), "is_within_limit", "is_within_limit", defArgs t_is_within_limit, defBody t_is_within_limit, defScope t_is_within_limit, [], []⟩
/-! ### read_integer -/
abbrev t_read_integer : Stmt := (top 18)
abbrev nm_read_integer : List Str := ["text", "sign"]
def m_read_integer : SM := (sSeq (sIf (tOrM (tNotM (tOf (eChain opLe opLe (eC (.int 1)) (eCall bLen (aCons (eVar 0) aNil)) (eC (.int 41))))) (tNotM (tTru (eCall bAll (aCons (eLc false [1] (.nm 1) (iAny (eVar 0)) tYesM (eOp opIn (eVar 1) (eC (.str "0123456789")))) aNil))))) (sRet (eC (.non))) sNx)
  (sRet (eIf (tAndM (tOf (eOp opEq (eOp opIx (eVar 0) (eC (.int 0))) (eC (.str "0")))) (tOf (eOp opNe (eVar 0) (eC (.str "0"))))) (eC (.non)) (eCall bInt (aCons (eVar 0) aNil)))))
def f_read_integer : FM := fnM 1 2 m_read_integer
theorem sc_read_integer : FnScope ["text", "sign"] ["text"] (defScope t_read_integer) := ⟨rfl, rfl, rfl, by decide +kernel, rfl, by decide +kernel, by decide +kernel⟩
def d_read_integer : He.DefD := ⟨("read_integer", none), "read_integer", "read_integer", defArgs t_read_integer, defBody t_read_integer, defScope t_read_integer, [], []⟩
/-! ### read_number -/
abbrev t_read_number : Stmt := (top 19)
abbrev nm_read_number : List Str := ["text", "above", "slash", "below", "size", "bottom", "found"]
def m_read_number : SM := (sSeq (sAsg (.tp [(.nm 1), (.nm 2), (.nm 3)]) (eMt "str" mPartition (eVar 0) (aCons (eC (.str "/")) aNil)))
  (sSeq (sAsg (.nm 4) (eFn f_read_integer [] (aCons (eIf (tTru (eMt "str" mStarts (eVar 1) (aCons (eC (.str "-")) aNil))) (eSl false (eVar 1) (oSome (eC (.int 1))) oNone) (eVar 1)) aNil)))
  (sSeq (sAsg (.nm 5) (eIf (tOf (eOp opNe (eVar 2) (eC (.str "")))) (eFn f_read_integer [] (aCons (eVar 3) aNil)) (eC (.int 1))))
  (sSeq (sIf (tOrM (tOf (eOp opIs (eVar 4) (eC (.non)))) (tOrM (tOf (eOp opIs (eVar 5) (eC (.non)))) (tOrM (tAndM (tOf (eOp opNe (eVar 2) (eC (.str "")))) (tOf (eOp opLt (eVar 5) (eC (.int 2))))) (tOf (eOp opEq (eVar 1) (eC (.str "-0"))))))) (sRet (eC (.non))) sNx)
  (sSeq (sAsg (.nm 6) (eTup (aCons (eIf (tTru (eMt "str" mStarts (eVar 1) (aCons (eC (.str "-")) aNil))) (eNeg (eVar 4)) (eVar 4)) (aCons (eVar 5) aNil))))
  (sRet (eIf (tAndM (tTru (eFn f_is_rational [] (aCons (eVar 6) aNil))) (tTru (eFn f_is_within_limit [] (aCons (eVar 6) aNil)))) (eVar 6) (eC (.non)))))))))
def f_read_number : FM := fnM 1 7 m_read_number
theorem sc_read_number : FnScope ["text", "above", "slash", "below", "size", "bottom", "found"] ["text"] (defScope t_read_number) := ⟨rfl, rfl, rfl, by decide +kernel, rfl, by decide +kernel, by decide +kernel⟩
def d_read_number : He.DefD := ⟨("read_number", none), "read_number", "read_number", defArgs t_read_number, defBody t_read_number, defScope t_read_number, [], []⟩
/-! ### read_leaf -/
abbrev t_read_leaf : Stmt := (top 20)
abbrev nm_read_leaf : List Str := ["token", "number"]
def m_read_leaf : SM := (sSeq (sIf (tTru (eFn f_is_name [] (aCons (eVar 0) aNil))) (sRet (eTup (aCons (eC (.str "column")) (aCons (eVar 0) aNil)))) sNx)
  (sSeq (sIf (tOf (eOp opIn (eVar 0) (eTup (aCons (eC (.str "=#yes")) (aCons (eC (.str "=#no")) aNil))))) (sRet (eTup (aCons (eC (.str "value")) (aCons (eOp opEq (eVar 0) (eC (.str "=#yes"))) aNil)))) sNx)
  (sSeq (sIf (tTru (eMt "str" mStarts (eVar 0) (aCons (eC (.str "='")) aNil))) (sRet (eIf (tTru (eFn f_is_name [] (aCons (eSl false (eVar 0) (oSome (eC (.int 2))) oNone) aNil))) (eTup (aCons (eC (.str "value")) (aCons (eSl false (eVar 0) (oSome (eC (.int 2))) oNone) aNil))) (eC (.non)))) sNx)
  (sSeq (sAsg (.nm 1) (eIf (tTru (eMt "str" mStarts (eVar 0) (aCons (eC (.str "=")) aNil))) (eFn f_read_number [] (aCons (eSl false (eVar 0) (oSome (eC (.int 1))) oNone) aNil)) (eC (.non))))
  (sRet (eIf (tOf (eOp opIs (eVar 1) (eC (.non)))) (eC (.non)) (eTup (aCons (eC (.str "value")) (aCons (eVar 1) aNil)))))))))
def f_read_leaf : FM := fnM 1 2 m_read_leaf
theorem sc_read_leaf : FnScope ["token", "number"] ["token"] (defScope t_read_leaf) := ⟨rfl, rfl, rfl, by decide +kernel, rfl, by decide +kernel, by decide +kernel⟩
def d_read_leaf : He.DefD := ⟨("read_leaf", none), "read_leaf", "read_leaf", defArgs t_read_leaf, defBody t_read_leaf, defScope t_read_leaf, [], []⟩
/-! ### FormReader.form -/
abbrev t_FormReader_form : Stmt := ((clsB (top 21)).getD 3 (.Pass ⟨0, 0, 0, 0⟩))
abbrev nm_FormReader_form : List Str := ["self", "depth", "begin", "found", "word_at", "word", "operands", "kind"]
def m_FormReader_form (rec : FM) : SM := (sSeq (sAsg (.nm 2) (eFld "FormReader" "at" (eVar 0)))
  (sSeq (sIf (tOrM (tOf (eOp opGt (eVar 1) (eC (.int 8)))) (tOf (eOp opGe (eVar 2) (eCall bLen (aCons (eFld "FormReader" "text" (eVar 0)) aNil))))) (sRaise "BadText" ["position"] (aCons (eVar 2) aNil)) sNx)
  (sSeq (sIf (tOf (eOp opNe (eOp opIx (eFld "FormReader" "text" (eVar 0)) (eVar 2)) (eC (.str "(")))) (sSeq (sAsg (.nm 3) (eFn f_read_leaf [] (aCons (eMth "FormReader" "token" f_FormReader_token [] (eVar 0) aNil) aNil)))
  (sSeq (sIf (tOf (eOp opIs (eVar 3) (eC (.non)))) (sRaise "BadText" ["position"] (aCons (eVar 2) aNil)) sNx)
  (sRet (eVar 3)))) sNx)
  (sSeq (sAugF "FormReader" "at" iAdd (eVar 0) (eC (.int 1)))
  (sSeq (sAsg (.nm 4) (eFld "FormReader" "at" (eVar 0)))
  (sSeq (sAsg (.nm 5) (eMth "FormReader" "token" f_FormReader_token [] (eVar 0) aNil))
  (sSeq (sIf (tOf (eOp (opNotInT "OPERANDS" tbl_OPERANDS) (eVar 5) (eC (.fn "OPERANDS")))) (sRaise "BadText" ["position"] (aCons (eVar 4) aNil)) sNx)
  (sSeq (sAsg (.nm 6) (eNew aNil))
  (sSeq (sFor (.nm 7) (iAny (eOp (opIxT "OPERANDS" tbl_OPERANDS) (eC (.fn "OPERANDS")) (eVar 5))) (sSeq (sExpr (eMth "FormReader" "expect" f_FormReader_expect [] (eVar 0) (aCons (eC (.str " ")) aNil)))
  (sExpr (eMt "list" mAppend (eVar 6) (aCons (eMth "FormReader" "form" rec [] (eVar 0) (aCons (eOp opAdd (eVar 1) (eC (.int 1))) aNil)) aNil)))))
  (sSeq (sExpr (eMth "FormReader" "expect" f_FormReader_expect [] (eVar 0) (aCons (eC (.str ")")) aNil)))
  (sRet (eOp opAdd (eTup (aCons (eVar 5) aNil)) (eCall bTuple (aCons (eVar 6) aNil))))))))))))))
def f_FormReader_form : Nat → FM
  | 0 => fun _ _ => .bad
  | n + 1 => fnM 2 8 (m_FormReader_form (f_FormReader_form n))
theorem sc_FormReader_form : FnScope ["self", "depth", "begin", "found", "word_at", "word", "operands", "kind"] ["self", "depth"] (defScope t_FormReader_form) := ⟨rfl, rfl, rfl, by decide +kernel, rfl, by decide +kernel, by decide +kernel⟩
def d_FormReader_form : He.DefD := ⟨("FormReader", some "form"), "form", "FormReader.form", defArgs t_FormReader_form, defBody t_FormReader_form, defScope t_FormReader_form, [], []⟩
/-! ### read_expression -/
abbrev t_read_expression : Stmt := (top 22)
abbrev nm_read_expression : List Str := ["text", "reader", "found"]
def m_read_expression : SM := (sSeq (sIf (tNotM (tTru (eIs "str" (eVar 0)))) (sRaise "BadText" ["position"] (aCons (eC (.int 0)) aNil)) sNx)
  (sSeq (sAsg (.nm 1) (eMk "FormReader" f_FormReader_init [] (aCons (eVar 0) aNil)))
  (sSeq (sAsg (.nm 2) (eMth "FormReader" "form" (f_FormReader_form 12) [] (eVar 1) (aCons (eC (.int 1)) aNil)))
  (sSeq (sIf (tOf (eOp opLt (eFld "FormReader" "at" (eVar 1)) (eCall bLen (aCons (eVar 0) aNil)))) (sRaise "BadText" ["position"] (aCons (eFld "FormReader" "at" (eVar 1)) aNil)) sNx)
  (sRet (eVar 2))))))
def f_read_expression : FM := fnM 1 3 m_read_expression
theorem sc_read_expression : FnScope ["text", "reader", "found"] ["text"] (defScope t_read_expression) := ⟨rfl, rfl, rfl, by decide +kernel, rfl, by decide +kernel, by decide +kernel⟩
def d_read_expression : He.DefD := ⟨("read_expression", none), "read_expression", "read_expression", defArgs t_read_expression, defBody t_read_expression, defScope t_read_expression, [], []⟩
/-! ### _law_told -/
abbrev t_l_told : Stmt := (top 45)
abbrev nm_l_told : List Str := ["_law_text", "e"]
def m_l_told : SM := (sTryAs (fun c => if c = "BadText" then some true else none) 1 (fun c fs => (eLst (aCons (eC (.str "bad")) (aCons (eXf fs "position") (aCons (eC (.bl true)) aNil))))) (sRet (eLst (aCons (eC (.str "read")) (aCons (eFn f_read_expression [] (aCons (eVar 0) aNil)) aNil)))))
def f_l_told : FM := fnM 1 2 m_l_told
theorem sc_l_told : FnScope ["_law_text", "e"] ["_law_text"] (defScope t_l_told) := ⟨rfl, rfl, rfl, by decide +kernel, rfl, by decide +kernel, by decide +kernel⟩
def d_l_told : He.DefD := ⟨("_law_told", none), "_law_told", "_law_told", defArgs t_l_told, defBody t_l_told, defScope t_l_told, [], []⟩
/-! ### show_number -/
abbrev t_show_number : Stmt := (top 24)
abbrev nm_show_number : List Str := ["number"]
def m_show_number : SM := (sRet (eIf (tOf (eOp opEq (eOp opIx (eVar 0) (eC (.int 1))) (eC (.int 1)))) (eCall bStr (aCons (eOp opIx (eVar 0) (eC (.int 0))) aNil)) (jsM [(eFmt (eOp opIx (eVar 0) (eC (.int 0)))), (eC (.str "/")), (eFmt (eOp opIx (eVar 0) (eC (.int 1))))] Str.empty)))
def f_show_number : FM := fnM 1 1 m_show_number
theorem sc_show_number : FnScope ["number"] ["number"] (defScope t_show_number) := ⟨rfl, rfl, rfl, by decide +kernel, rfl, by decide +kernel, by decide +kernel⟩
def d_show_number : He.DefD := ⟨("show_number", none), "show_number", "show_number", defArgs t_show_number, defBody t_show_number, defScope t_show_number, [], []⟩
/-! ### show_value -/
abbrev t_show_value : Stmt := (top 25)
abbrev nm_show_value : List Str := ["value"]
def m_show_value : SM := (sSeq (sIf (tOf (eOp opIs (eVar 0) (eC (.bl true)))) (sRet (eC (.str "#yes"))) sNx)
  (sSeq (sIf (tOf (eOp opIs (eVar 0) (eC (.bl false)))) (sRet (eC (.str "#no"))) sNx)
  (sRet (eIf (tTru (eIs "str" (eVar 0))) (eOp opAdd (eC (.str "'")) (eVar 0)) (eFn f_show_number [] (aCons (eVar 0) aNil))))))
def f_show_value : FM := fnM 1 1 m_show_value
theorem sc_show_value : FnScope ["value"] ["value"] (defScope t_show_value) := ⟨rfl, rfl, rfl, by decide +kernel, rfl, by decide +kernel, by decide +kernel⟩
def d_show_value : He.DefD := ⟨("show_value", none), "show_value", "show_value", defArgs t_show_value, defBody t_show_value, defScope t_show_value, [], []⟩
/-! ### show_expression -/
abbrev t_show_expression : Stmt := (top 26)
abbrev nm_show_expression : List Str := ["expression", "operand"]
def m_show_expression (rec : FM) : SM := (sSeq (sIf (tOf (eOp opEq (eOp opIx (eVar 0) (eC (.int 0))) (eC (.str "column")))) (sRet (eOp opIx (eVar 0) (eC (.int 1)))) sNx)
  (sSeq (sIf (tOf (eOp opEq (eOp opIx (eVar 0) (eC (.int 0))) (eC (.str "value")))) (sRet (eOp opAdd (eC (.str "=")) (eFn f_show_value [] (aCons (eOp opIx (eVar 0) (eC (.int 1))) aNil)))) sNx)
  (sRet (eOp opAdd (eOp opAdd (eC (.str "(")) (eMt "str" mJoin (eC (.str " ")) (aCons (eOp opAdd (eLst (aCons (eOp opIx (eVar 0) (eC (.int 0))) aNil)) (eLc false [1] (.nm 1) (iAny (eSl false (eVar 0) (oSome (eC (.int 1))) oNone)) tYesM (eFn rec [] (aCons (eVar 1) aNil)))) aNil))) (eC (.str ")"))))))
def f_show_expression : Nat → FM
  | 0 => fun _ _ => .bad
  | n + 1 => fnM 1 2 (m_show_expression (f_show_expression n))
theorem sc_show_expression : FnScope ["expression", "operand"] ["expression"] (defScope t_show_expression) := ⟨rfl, rfl, rfl, by decide +kernel, rfl, by decide +kernel, by decide +kernel⟩
def d_show_expression : He.DefD := ⟨("show_expression", none), "show_expression", "show_expression", defArgs t_show_expression, defBody t_show_expression, defScope t_show_expression, [], []⟩
/-! ### law -/
abbrev t_law : Stmt := (top 47)
abbrev nm_law : List Str := ["_law_script", "_law_tape_here", "_law_columns_here", "_law_some", "_law_text", "_law_odd", "_law_turn", "_law_kind", "_law_once", "_law_one"]
def m_law : SM := (sSeq (sAsg (.nm 1) (eFn f_l_tape [] (aCons (eVar 0) aNil)))
  (sSeq (sAsg (.nm 2) (eFn f_l_columns [] (aCons (eVar 1) (aCons (eTup (aCons (eC (.str "number")) aNil)) (aCons (eC (.int 5)) (aCons (eTup aNil) aNil))))))
  (sSeq (sAsg (.nm 3) (eLst (aCons (eC (.str "")) (aCons (eC (.str " ")) (aCons (eC (.str "a ")) (aCons (eC (.str " a")) (aCons (eC (.str "(not a)")) (aCons (eC (.str "(not  a)")) (aCons (eC (.str "(not a )")) (aCons (eC (.str "( not a)")) (aCons (eC (.str "(not a) ")) (aCons (eC (.str "(not a))")) (aCons (eC (.str "(not a b)")) aNil)))))))))))))
  (sSeq (sAsg (.nm 3) (eOp opAdd (eVar 3) (eLst (aCons (eC (.str "(not)")) (aCons (eC (.str "(plus a")) (aCons (eC (.str "(plus a ")) (aCons (eC (.str "a(b)")) (aCons (eC (.str "(nots a)")) (aCons (eC (.str "=")) (aCons (eC (.str "='")) (aCons (eC (.str "='A")) (aCons (eC (.str "=#")) (aCons (eC (.str "=2/4")) (aCons (eC (.str "=1/0")) aNil))))))))))))))
  (sSeq (sAsg (.nm 3) (eOp opAdd (eVar 3) (eLst (aCons (eC (.str "=5/1")) (aCons (eC (.str "=-0")) (aCons (eC (.str "=00")) (aCons (eC (.str "=1/2/3")) (aCons (eC (.str "=1/-2")) (aCons (eC (.str "=+1")) (aCons (eOp opAdd (eC (.str "=")) (eOp opMul (eC (.str "9")) (eC (.int 41)))) (aCons (eOp opAdd (eC (.str "=1/")) (eOp opMul (eC (.str "9")) (eC (.int 41)))) aNil)))))))))))
  (sSeq (sAsg (.nm 3) (eOp opAdd (eVar 3) (eLst (aCons (eOp opAdd (eC (.str "=")) (eOp opMul (eC (.str "1")) (eC (.int 5000)))) (aCons (eOp opMul (eC (.str "a")) (eC (.int 13))) (aCons (eOp opAdd (eC (.str "=1")) (eOp opMul (eC (.str "0")) (eC (.int 40)))) (aCons (eOp opMul (eC (.str "(")) (eC (.int 3))) (aCons (eOp opAdd (eOp opAdd (eOp opMul (eC (.str "(not ")) (eC (.int 7))) (eC (.str "a"))) (eOp opMul (eC (.str ")")) (eC (.int 7)))) aNil))))))))
  (sSeq (sAsg (.nm 3) (eOp opAdd (eVar 3) (eLst (aCons (eOp opAdd (eOp opAdd (eOp opMul (eC (.str "(not ")) (eC (.int 8))) (eC (.str "a"))) (eOp opMul (eC (.str ")")) (eC (.int 8)))) (aCons (eC (.str "=#yesno")) (aCons (eC (.str "A")) (aCons (eC (.str "=1/")) aNil)))))))
  (sSeq (sFor (.nm 4) (iAny (eVar 3)) (sIf (tOf (eOp opNe (eCall bRepr (aCons (eFn f_l_told [] (aCons (eVar 4) aNil)) aNil)) (eCall bRepr (aCons (eFn f_l_due [] (aCons (eVar 4) aNil)) aNil)))) (sRet (eC (.bl false))) sNx))
  (sSeq (sFor (.nm 5) (iAny (eLst (aCons (eC (.non)) (aCons (eC (.int 5)) (aCons (eLst (aCons (eC (.str "a")) aNil)) (aCons (eTup (aCons (eC (.str "a")) aNil)) (aCons (eC (.bl true)) aNil))))))) (sIf (tOf (eOp opNe (eFn f_l_told [] (aCons (eVar 5) aNil)) (eLst (aCons (eC (.str "bad")) (aCons (eC (.int 0)) (aCons (eC (.bl true)) aNil)))))) (sRet (eC (.bl false))) sNx))
  (sSeq (sFor (.nm 6) (iRg (aCons (eC (.int 16)) aNil)) (sSeq (sAsg (.nm 7) (eOp opIx (eLst (aCons (eC (.str "number")) (aCons (eC (.str "word")) (aCons (eC (.str "flag")) aNil)))) (eFn f_l_draw [] (aCons (eVar 1) (aCons (eC (.int 3)) aNil)))))
  (sSeq (sAsg (.nm 4) (eFn (f_show_expression 8) [] (aCons (eFn (f_l_expression 7) [] (aCons (eVar 1) (aCons (eVar 2) (aCons (eVar 7) (aCons (eC (.int 5)) aNil))))) aNil)))
  (sSeq (sAsg (.nm 8) (eFn f_l_bent [] (aCons (eVar 1) (aCons (eVar 4) aNil))))
  (sFor (.nm 9) (iAny (eLst (aCons (eVar 8) (aCons (eFn f_l_bent [] (aCons (eVar 1) (aCons (eVar 8) aNil))) aNil)))) (sIf (tOf (eOp opNe (eCall bRepr (aCons (eFn f_l_told [] (aCons (eVar 9) aNil)) aNil)) (eCall bRepr (aCons (eFn f_l_due [] (aCons (eVar 9) aNil)) aNil)))) (sRet (eC (.bl false))) sNx))))))
  (sRet (eC (.bl true)))))))))))))
def f_law : FM := fnM 1 10 m_law
theorem sc_law : FnScope ["_law_script", "_law_tape_here", "_law_columns_here", "_law_some", "_law_text", "_law_odd", "_law_turn", "_law_kind", "_law_once", "_law_one"] ["_law_script"] (defScope t_law) := ⟨rfl, rfl, rfl, by decide +kernel, rfl, by decide +kernel, by decide +kernel⟩
def d_law : He.DefD := ⟨("law", none), "law", "law", defArgs t_law, defBody t_law, defScope t_law, [], []⟩
abbrev t_BadText_init : Stmt := ((clsB (top 1)).getD 0 (.Pass ⟨0, 0, 0, 0⟩))
def d_BadText_init : He.DefD := ⟨("BadText", some "__init__"), "__init__", "BadText.__init__", defArgs t_BadText_init, defBody t_BadText_init, defScope t_BadText_init, [], []⟩
theorem sc_BadText_init : FnScope ["self", "position"] ["self", "position"] (defScope t_BadText_init) := ⟨rfl, rfl, rfl, by decide +kernel, rfl, by decide +kernel, by decide +kernel⟩
/-! ### facts -/
def fn : List He.DefD := [d_l_draw, d_l_bent, d_l_name, d_l_fresh, d_l_columns, d_l_is_name, d_l_digits, d_l_lowest, d_l_number, d_l_leaf_of, d_l_operands, d_l_token, d_l_read, d_l_due, d_l_rational, d_l_leaf, d_l_expression, d_l_tape, d_FormReader_init, d_FormReader_expect, d_FormReader_token, d_is_name, d_common_divisor, d_is_integer, d_is_rational, d_is_within_limit, d_read_integer, d_read_number, d_read_leaf, d_FormReader_form, d_read_expression, d_l_told, d_show_number, d_show_value, d_show_expression, d_law, d_BadText_init]
def fa : List He.Fa := [.free "len", .glo "_law_draw", .glo "_law_bent", .free "int", .free "range", .glo "_law_name", .glo "_law_fresh", .free "list", .free "tuple", .glo "_law_columns", .glo "_law_is_name", .glo "_law_digits", .free "abs", .glo "_law_lowest", .glo "_law_number", .glo "_law_leaf_of", .glo "_law_operands", .glo "_law_token", .glo "_law_read", .glo "_law_due", .glo "_law_rational", .glo "_law_leaf", .glo "_law_expression", .glo "_law_tape", .cls "FormReader", .noat "FormReader" "text", .noat "FormReader" "at", .glo "FormReader", .mkr "FormReader", .meth "FormReader" "expect", .meth "FormReader" "token", .free "isinstance", .free "str", .int "MOST_NAME" 12, .str "LETTERS" "abcdefghijklmnopqrstuvwxyz", .str "SIGNS" "abcdefghijklmnopqrstuvwxyz0123456789", .free "all", .glo "is_name", .glo "common_divisor", .free "bool", .glo "is_integer", .glo "is_rational", .int "LIMIT" 10000000000000000000000000000000000000000, .glo "is_within_limit", .int "MOST_DIGITS" 41, .str "DIGITS" "0123456789", .glo "read_integer", .glo "read_number", .glo "read_leaf", .int "MOST_DEPTH" 8, .glo "OPERANDS", .meth "FormReader" "form", .keep "FormReader", .glo "read_expression", .noat "BadText" "position", .free "ValueError", .glo "BadText", .exm "BadText" "BadText" true, .glo "_law_told", .glo "show_number", .glo "show_value", .glo "show_expression", .free "repr", .glo "law", .keep "BadText"]
def ts : List He.Tab := [(fun K => He.ga K "OPERANDS", tbl_OPERANDS.map (·.1))]
def exl (K : PySem.W.Frag) : List Bool := [tabB K "OPERANDS" tbl_OPERANDS,
  exkB K "BadText",
  He.eqO (PySem.W.findIn K (.ref (He.ga K "BadText")) "__init__") (some (some (.ref (He.ma K (He.ga K "BadText") "__init__")))),
  decide (PySem.W.typeIn K (.ref (He.ma K (He.ga K "BadText") "__init__")) = some (.type "function")),
  decide (PySem.W.kitOne K (.ref (He.ga K "BadText")) (.type "ValueError") = some true)]
def ex (K : PySem.W.Frag) : Bool := (exl K).all id
abbrev FC (w : World) (K : PySem.W.Frag) (mg : Str → Option Value) : Prop := Fc fa fn ts ex w K mg
section
variable {P : Program} {w : World} {K : PySem.W.Frag} {mg : Str → Option Value} {base : Heap}
theorem FC.x (F : FC w K mg) (i : Nat) {b : Bool} (h : (exl K)[i]? = some b) : b = true := List.all_eq_true.mp F.more b (List.mem_of_getElem? h)
theorem FC.tab_OPERANDS (F : FC w K mg) : TabK K w "OPERANDS" tbl_OPERANDS := ⟨F.t.tab 0 (t := (fun K => He.ga K "OPERANDS", tbl_OPERANDS.map (·.1))), FC.x F 0 rfl⟩
theorem FC.exk_BadText (F : FC w K mg) : ExK K "BadText" := exkB_ok (FC.x F 1 rfl)
theorem FC.exi_BadText (F : FC w K mg) : Exi P w K mg base 1 "BadText" ["position"] := by
  obtain ⟨fd, FD⟩ := F.def_ 36 (d := d_BadText_init)
  exact exi1 (F.exk_BadText) (F.glo 56) (He.eqO_ok (FC.x F 2 rfl)) (of_decide_eq_true (FC.x F 3 rfl)) (F.noat 54) FD sc_BadText_init (FD.bindsN fun _ _ _ _ _ _ us hl => match us, hl with | [_, _], _ => rfl) rfl rfl
theorem FC.is_BadText_ValueError (F : FC w K mg) : PySem.W.kitOne K (.ref (He.ga K "BadText")) (.type "ValueError") = some true := of_decide_eq_true (FC.x F 4 rfl)
end
end K77
namespace K77
open PySem PySem.Spec PyProof.Rows L2 Mi
theorem ok_l_draw {P : Program} {w : World} {K : PySem.W.Frag} {mg : Str → Option Value} {base : Heap} (F : FC w K mg) : Cal P w K mg base 3 "_law_draw" [] f_l_draw := by
  obtain ⟨fd, FD⟩ := F.def_ 0 (d := d_l_draw)
  have sc := sc_l_draw
  refine cal_mk (F.glo 1) FD (fun _ _ _ _ _ _ us hl => match us, hl with | [_, _], _ => rfl) (ps := ["_law_tape_here", "_law_many"]) (fnG_of (k := 2) FD sc fun cdv A outer s H E hr hgd => ?_)
  exact (ss_cons (ss_if (st_cmp s_gt (se_ix (se_var 0 (pe_var rfl (.inl rfl))) se_int) se_int (nomark _)) (ss_cons (ss_set 2 sc.nd rfl (.inl rfl) (se_op s_mod (se_ix (se_var 0 (pe_var rfl (.inl rfl))) se_int) (se_var 1 (pe_var rfl (.inl rfl)))))
    (ss_cons (ss_setI (se_var 0 (pe_var rfl (.inl rfl))) se_int (se_op s_div (se_ix (se_var 0 (pe_var rfl (.inl rfl))) se_int) (se_var 1 (pe_var rfl (.inl rfl)))))
    (ss_one (ss_ret (se_var 2 (pe_var rfl (.inl rfl))))))) ss_nil)
    (ss_cons (ss_set 3 sc.nd rfl (.inl rfl) se_int)
    (ss_cons (ss_if (st_cmp s_lt (se_ix (se_var 0 (pe_var rfl (.inl rfl))) se_int) (se_blt s_len rfl (F.free 0) (by decide +kernel) (sa_cons (se_ix (se_var 0 (pe_var rfl (.inl rfl))) se_int) sa_nil)) (nomark _)) (ss_one (ss_set 3 sc.nd rfl (.inl rfl) (se_ix (se_ix (se_var 0 (pe_var rfl (.inl rfl))) se_int) (se_ix (se_var 0 (pe_var rfl (.inl rfl))) se_int)))) ss_nil)
    (ss_cons (ss_setI (se_var 0 (pe_var rfl (.inl rfl))) se_int (se_op s_add (se_ix (se_var 0 (pe_var rfl (.inl rfl))) se_int) se_int))
    (ss_cons (ss_if (st_cmp s_ge (se_var 3 (pe_var rfl (.inl rfl))) (se_op s_pow se_int se_int) (nomark _)) (ss_cons (ss_setI (se_var 0 (pe_var rfl (.inl rfl))) se_int (se_op s_div (se_var 3 (pe_var rfl (.inl rfl))) (se_var 1 (pe_var rfl (.inl rfl)))))
    (ss_one (ss_ret (se_op s_mod (se_var 3 (pe_var rfl (.inl rfl))) (se_var 1 (pe_var rfl (.inl rfl))))))) ss_nil)
    (ss_cons (ss_set 4 sc.nd rfl (.inl rfl) (se_op s_add (se_op s_add (se_op s_mod (se_var 3 (pe_var rfl (.inl rfl))) se_int) (se_op s_mul se_int (se_ix (se_var 0 (pe_var rfl (.inl rfl))) se_int))) se_int))
    (ss_cons (ss_setI (se_var 0 (pe_var rfl (.inl rfl))) se_int (se_op s_mod (se_op s_add (se_op s_mul (se_ix (se_var 0 (pe_var rfl (.inl rfl))) se_int) se_int) (se_var 4 (pe_var rfl (.inl rfl)))) se_int))
    (ss_one (ss_ret (se_op s_mod (se_op s_mod (se_op s_pow (se_ix (se_var 0 (pe_var rfl (.inl rfl))) se_int) se_int) se_int) (se_var 1 (pe_var rfl (.inl rfl)))))))))))))
theorem ok_l_bent {P : Program} {w : World} {K : PySem.W.Frag} {mg : Str → Option Value} {base : Heap} (F : FC w K mg) : Cal P w K mg base 4 "_law_bent" [] f_l_bent := by
  obtain ⟨fd, FD⟩ := F.def_ 1 (d := d_l_bent)
  have sc := sc_l_bent
  refine cal_mk (F.glo 2) FD (fun _ _ _ _ _ _ us hl => match us, hl with | [_, _], _ => rfl) (ps := ["_law_tape_here", "_law_text"]) (fnG_of (k := 3) FD sc fun cdv A outer s H E hr hgd => ?_)
  exact (ss_cons (ss_set 2 sc.nd rfl (.inl rfl) (se_fn ((ok_l_draw F).mono (by omega)) hr hgd bx_pass rfl (sa_cons (se_var 0 (pe_var rfl (.inl rfl))) (sa_cons (se_op s_add (se_blt s_len rfl (F.free 0) (by decide +kernel) (sa_cons (se_var 1 (pe_var rfl (.inl rfl))) sa_nil)) se_int) sa_nil))))
    (ss_cons (ss_set 3 sc.nd rfl (.inl rfl) (se_ix se_str (se_fn ((ok_l_draw F).mono (by omega)) hr hgd bx_pass rfl (sa_cons (se_var 0 (pe_var rfl (.inl rfl))) (sa_cons se_int sa_nil)))))
    (ss_cons (ss_par 4 5 rfl sc.nd rfl rfl (by decide) rfl rfl (sa_cons (se_sl false (se_var 1 (pe_var rfl (.inl rfl))) so_none (so_some (se_var 2 (pe_var rfl (.inl rfl))))) (sa_cons (se_sl false (se_var 1 (pe_var rfl (.inl rfl))) (so_some (se_op s_add (se_var 2 (pe_var rfl (.inl rfl))) se_int)) so_none) sa_nil)) rfl)
    (ss_one (ss_ret (se_ix (se_lst (sa_cons (se_op s_add (se_op s_add (se_var 4 (pe_var rfl (.inl rfl))) (se_var 3 (pe_var rfl (.inl rfl)))) (se_sl false (se_var 1 (pe_var rfl (.inl rfl))) (so_some (se_var 2 (pe_var rfl (.inl rfl)))) so_none)) (sa_cons (se_op s_add (se_var 4 (pe_var rfl (.inl rfl))) (se_var 5 (pe_var rfl (.inl rfl)))) (sa_cons (se_op s_add (se_op s_add (se_var 4 (pe_var rfl (.inl rfl))) (se_var 3 (pe_var rfl (.inl rfl)))) (se_var 5 (pe_var rfl (.inl rfl)))) (sa_cons (se_var 4 (pe_var rfl (.inl rfl))) sa_nil))))) (se_fn ((ok_l_draw F).mono (by omega)) hr hgd bx_pass rfl (sa_cons (se_var 0 (pe_var rfl (.inl rfl))) (sa_cons se_int sa_nil)))))))))
theorem ok_l_name {P : Program} {w : World} {K : PySem.W.Frag} {mg : Str → Option Value} {base : Heap} (F : FC w K mg) : Cal P w K mg base 4 "_law_name" [] f_l_name := by
  obtain ⟨fd, FD⟩ := F.def_ 2 (d := d_l_name)
  have sc := sc_l_name
  refine cal_mk (F.glo 5) FD (fun _ _ _ _ _ _ us hl => match us, hl with | [_], _ => rfl) (ps := ["_law_tape_here"]) (fnG_of (k := 3) FD sc fun cdv A outer s H E hr hgd => ?_)
  exact (ss_cons (ss_set 1 sc.nd rfl (.inr rfl) se_str)
    (ss_cons (ss_set 2 sc.nd rfl (.inl rfl) (se_op s_add se_int (se_fn ((ok_l_draw F).mono (by omega)) hr hgd bx_pass rfl (sa_cons (se_var 0 (pe_var rfl (.inr (.inl rfl)))) (sa_cons se_int sa_nil)))))
    (ss_cons (ss_if (st_cmp (s_eq hr.units) (se_fn ((ok_l_draw F).mono (by omega)) hr hgd bx_pass rfl (sa_cons (se_var 0 (pe_var rfl (.inr (.inl rfl)))) (sa_cons se_int sa_nil))) se_int (nomark _)) (ss_cons (ss_set 3 sc.nd rfl (.inl rfl) (se_fn ((ok_l_draw F).mono (by omega)) hr hgd bx_pass rfl (sa_cons (se_var 0 (pe_var rfl (.inr (.inl rfl)))) (sa_cons (se_var 2 (pe_var rfl (.inl rfl))) sa_nil))))
    (ss_cons (ss_set 4 sc.nd rfl (.inl rfl) (se_ix (se_var 1 (pe_var rfl (.inr (.inl rfl)))) (se_fn ((ok_l_draw F).mono (by omega)) hr hgd bx_pass rfl (sa_cons (se_var 0 (pe_var rfl (.inr (.inl rfl)))) (sa_cons (se_op s_add se_int (se_op s_mul se_int (se_bty s_int rfl (F.free 3) (by decide +kernel) (sa_cons (se_cmp s_gt (se_var 3 (pe_var rfl (.inl rfl))) se_int (nomark _)) sa_nil)))) sa_nil)))))
    (ss_one (ss_ret (se_op s_add (se_op s_add (se_op s_mul se_str (se_var 3 (pe_var rfl (.inl rfl)))) (se_var 4 (pe_var rfl (.inl rfl)))) (se_op s_mul se_str (se_op s_sub (se_op s_sub (se_var 2 (pe_var rfl (.inl rfl))) se_int) (se_var 3 (pe_var rfl (.inl rfl)))))))))) ss_nil)
    (ss_one (ss_ret (se_mt PySem.F.plainAttrs_str PySem.F.slot_str_join PySem.F.type_str_join s_join se_str (sa_cons (se_lc false [("_law_k", 5)] (.nm 5) rfl sc.nd (si_range rfl (F.free 4) (sa_cons (se_var 2 (pe_var rfl (.inl rfl))) sa_nil)) (blkOk_by (N := nm_l_name) (sc := defScope t_l_name) (by decide +kernel)) (fun s H C cl fp => (pg_name sc.nd rfl (.inl rfl))) (fun s H C cl fp => sts_nil) (fun s H C cl fp => (se_ix (se_var 1 (pe_var rfl (.inr (.inl rfl)))) (se_fn ((ok_l_draw F).mono (by omega)) hr hgd passG_0 rfl (sa_cons (se_var 0 (pe_var rfl (.inr (.inl rfl)))) (sa_cons (se_op s_add se_int (se_op s_mul se_int (se_bty s_int rfl (F.free 3) (by decide +kernel) (sa_cons (se_cmp s_gt (se_var 5 (pe_var rfl (.inl rfl))) se_int (nomark _)) sa_nil)))) sa_nil)))))) sa_nil)))))))
theorem ok_l_fresh {P : Program} {w : World} {K : PySem.W.Frag} {mg : Str → Option Value} {base : Heap} (F : FC w K mg) : Cal P w K mg base 5 "_law_fresh" [] f_l_fresh := by
  obtain ⟨fd, FD⟩ := F.def_ 3 (d := d_l_fresh)
  have sc := sc_l_fresh
  refine cal_mk (F.glo 6) FD (fun _ _ _ _ _ _ us hl => match us, hl with | [_, _], _ => rfl) (ps := ["_law_tape_here", "_law_taken"]) (fnG_of (k := 4) FD sc fun cdv A outer s H E hr hgd => ?_)
  exact (ss_cons (ss_set 2 sc.nd rfl (.inl rfl) (se_fn ((ok_l_name F).mono (by omega)) hr hgd bx_pass rfl (sa_cons (se_var 0 (pe_var rfl (.inl rfl))) sa_nil)))
    (ss_cons (ss_if (st_cmp s_notin (se_var 2 (pe_var rfl (.inl rfl))) (se_var 1 (pe_var rfl (.inl rfl))) rfl) (ss_one (ss_ret (se_var 2 (pe_var rfl (.inl rfl))))) ss_nil)
    (ss_cons (ss_for (.nm 3) bx_po rfl (si_any se_str) (pg_name sc.nd rfl (.inl rfl)) (ss_one (ss_if (st_cmp s_notin (se_op s_add (se_sl false (se_var 2 (pe_var rfl (.inl rfl))) so_none (so_some se_int)) (se_var 3 (pe_var rfl (.inl rfl)))) (se_var 1 (pe_var rfl (.inl rfl))) rfl) (ss_one (ss_ret (se_op s_add (se_sl false (se_var 2 (pe_var rfl (.inl rfl))) so_none (so_some se_int)) (se_var 3 (pe_var rfl (.inl rfl)))))) ss_nil)))
    (ss_one (ss_ret (se_var 2 (pe_var rfl (.inl rfl))))))))
theorem ok_l_columns {P : Program} {w : World} {K : PySem.W.Frag} {mg : Str → Option Value} {base : Heap} (F : FC w K mg) : Cal P w K mg base 6 "_law_columns" [] f_l_columns := by
  obtain ⟨fd, FD⟩ := F.def_ 4 (d := d_l_columns)
  have sc := sc_l_columns
  refine cal_mk (F.glo 9) FD (fun _ _ _ _ _ _ us hl => match us, hl with | [_, _, _, _], _ => rfl) (ps := ["_law_tape_here", "_law_lead", "_law_many", "_law_taken"]) (fnG_of (k := 5) FD sc fun cdv A outer s H E hr hgd => ?_)
  exact (ss_cons (ss_set 4 sc.nd rfl (.inl rfl) (se_bty (s_list true) rfl (F.free 7) (by decide +kernel) (sa_cons (se_var 3 (pe_var rfl (.inl rfl))) sa_nil)))
    (ss_cons (ss_set 5 sc.nd rfl (.inl rfl) (se_new sa_nil))
    (ss_cons (ss_set 6 sc.nd rfl (.inl rfl) (se_bty (s_list true) rfl (F.free 7) (by decide +kernel) (sa_cons (se_var 1 (pe_var rfl (.inl rfl))) sa_nil)))
    (ss_cons (ss_for (.nm 7) bx_po rfl (si_range rfl (F.free 4) (sa_cons (se_fn ((ok_l_draw F).mono (by omega)) hr hgd bx_pass rfl (sa_cons (se_var 0 (pe_var rfl (.inl rfl))) (sa_cons (se_op s_add (se_var 2 (pe_var rfl (.inl rfl))) se_int) sa_nil))) sa_nil)) (pg_name sc.nd rfl (.inl rfl)) (ss_one (ss_expr (se_mt PySem.F.plainAttrs_list PySem.F.slot_list_append PySem.F.type_list_append s_append (se_var 6 (pe_var rfl (.inl rfl))) (sa_cons (se_ix (se_lst (sa_cons se_str (sa_cons se_str (sa_cons se_str sa_nil)))) (se_fn ((ok_l_draw F).mono (by omega)) hr hgd bx_pass rfl (sa_cons (se_var 0 (pe_var rfl (.inl rfl))) (sa_cons se_int sa_nil)))) sa_nil)))))
    (ss_cons (ss_forN FU (.nm 8) bx_po rfl (se_var 6 (pe_var rfl (.inl rfl))) (pg_name sc.nd rfl (.inl rfl)) (ss_cons (ss_expr (se_mt PySem.F.plainAttrs_list PySem.F.slot_list_append PySem.F.type_list_append s_append (se_var 4 (pe_var rfl (.inl rfl))) (sa_cons (se_fn ((ok_l_fresh F).mono (by omega)) hr hgd bx_pass rfl (sa_cons (se_var 0 (pe_var rfl (.inl rfl))) (sa_cons (se_var 4 (pe_var rfl (.inl rfl))) sa_nil))) sa_nil)))
    (ss_one (ss_expr (se_mt PySem.F.plainAttrs_list PySem.F.slot_list_append PySem.F.type_list_append s_append (se_var 5 (pe_var rfl (.inl rfl))) (sa_cons (se_tup (sa_cons (se_ix (se_var 4 (pe_var rfl (.inl rfl))) (se_neg se_int)) (sa_cons (se_var 8 (pe_var rfl (.inl rfl))) sa_nil))) sa_nil))))))
    (ss_one (ss_ret (se_bty s_tuple rfl (F.free 8) (by decide +kernel) (sa_cons (se_var 5 (pe_var rfl (.inl rfl))) sa_nil)))))))))
theorem ok_l_is_name {P : Program} {w : World} {K : PySem.W.Frag} {mg : Str → Option Value} {base : Heap} (F : FC w K mg) : Cal P w K mg base 3 "_law_is_name" [] f_l_is_name := by
  obtain ⟨fd, FD⟩ := F.def_ 5 (d := d_l_is_name)
  have sc := sc_l_is_name
  refine cal_mk (F.glo 10) FD (fun _ _ _ _ _ _ us hl => match us, hl with | [_], _ => rfl) (ps := ["_law_text"]) (fnG_of (k := 2) FD sc fun cdv A outer s H E hr hgd => ?_)
  exact (ss_cons (ss_if (st_w (sw_or (st_not (st_chain s_le s_le se_int (se_blt s_len rfl (F.free 0) (by decide +kernel) (sa_cons (se_var 0 (pe_var rfl (.inl rfl))) sa_nil)) se_int)) (sw_or1 (st_cmp s_notin (se_ix (se_var 0 (pe_var rfl (.inl rfl))) se_int) se_str rfl)))) (ss_one (ss_ret se_bl)) ss_nil)
    (ss_one (ss_ret (se_cmp (s_eq hr.units) (se_lc false [("_law_sign", 1)] (.nm 1) rfl sc.nd (si_any (se_var 0 (pe_var rfl (.inl rfl)))) (blkOk_by (N := nm_l_is_name) (sc := defScope t_l_is_name) (by decide +kernel)) (fun s H C cl fp => (pg_name sc.nd rfl (.inl rfl))) (fun s H C cl fp => (sts_one (st_cmp s_notin (se_var 1 (pe_var rfl (.inl rfl))) se_str rfl))) (fun s H C cl fp => (se_var 1 (pe_var rfl (.inl rfl))))) (se_lst sa_nil) (nomark _)))))
theorem ok_l_digits {P : Program} {w : World} {K : PySem.W.Frag} {mg : Str → Option Value} {base : Heap} (F : FC w K mg) : Cal P w K mg base 3 "_law_digits" [] f_l_digits := by
  obtain ⟨fd, FD⟩ := F.def_ 6 (d := d_l_digits)
  have sc := sc_l_digits
  refine cal_mk (F.glo 11) FD (fun _ _ _ _ _ _ us hl => match us, hl with | [_], _ => rfl) (ps := ["_law_text"]) (fnG_of (k := 2) FD sc fun cdv A outer s H E hr hgd => ?_)
  exact (ss_cons (ss_if (st_w (sw_or (st_cmp (s_eq hr.units) (se_var 0 (pe_var rfl (.inl rfl))) se_str (nomark _)) (sw_or (st_cmp (s_ne hr.units) (se_lc false [("_law_sign", 1)] (.nm 1) rfl sc.nd (si_any (se_var 0 (pe_var rfl (.inl rfl)))) (blkOk_by (N := nm_l_digits) (sc := defScope t_l_digits) (by decide +kernel)) (fun s H C cl fp => (pg_name sc.nd rfl (.inl rfl))) (fun s H C cl fp => (sts_one (st_cmp s_notin (se_var 1 (pe_var rfl (.inl rfl))) se_str rfl))) (fun s H C cl fp => (se_var 1 (pe_var rfl (.inl rfl))))) (se_lst sa_nil) (nomark _)) (sw_or1 (st_cmp s_gt (se_blt s_len rfl (F.free 0) (by decide +kernel) (sa_cons (se_var 0 (pe_var rfl (.inl rfl))) sa_nil)) se_int (nomark _)))))) (ss_one (ss_ret se_non)) ss_nil)
    (ss_cons (ss_if (st_w (sw_and (st_cmp s_gt (se_blt s_len rfl (F.free 0) (by decide +kernel) (sa_cons (se_var 0 (pe_var rfl (.inl rfl))) sa_nil)) se_int (nomark _)) (sw_and1 (st_cmp (s_eq hr.units) (se_ix (se_var 0 (pe_var rfl (.inl rfl))) se_int) se_str (nomark _))))) (ss_one (ss_ret se_non)) ss_nil)
    (ss_one (ss_ret (se_bty s_int rfl (F.free 3) (by decide +kernel) (sa_cons (se_var 0 (pe_var rfl (.inl rfl))) sa_nil))))))
theorem ok_l_lowest {P : Program} {w : World} {K : PySem.W.Frag} {mg : Str → Option Value} {base : Heap} (F : FC w K mg) : Cal P w K mg base 3 "_law_lowest" [] f_l_lowest := by
  obtain ⟨fd, FD⟩ := F.def_ 7 (d := d_l_lowest)
  have sc := sc_l_lowest
  refine cal_mk (F.glo 13) FD (fun _ _ _ _ _ _ us hl => match us, hl with | [_, _], _ => rfl) (ps := ["_law_n", "_law_d"]) (fnG_of (k := 2) FD sc fun cdv A outer s H E hr hgd => ?_)
  exact (ss_cons (ss_set 2 sc.nd rfl (.inl rfl) (se_blt s_abs rfl (F.free 12) (by decide +kernel) (sa_cons (se_var 0 (pe_var rfl (.inl rfl))) sa_nil)))
    (ss_cons (ss_set 3 sc.nd rfl (.inl rfl) (se_var 1 (pe_var rfl (.inl rfl))))
    (ss_cons (ss_while FU bx_po (st_cmp s_gt (se_var 3 (pe_var rfl (.inl rfl))) se_int (nomark _)) (ss_cons (ss_set 4 sc.nd rfl (.inl rfl) (se_op s_mod (se_var 2 (pe_var rfl (.inl rfl))) (se_var 3 (pe_var rfl (.inl rfl)))))
    (ss_cons (ss_set 2 sc.nd rfl (.inl rfl) (se_var 3 (pe_var rfl (.inl rfl))))
    (ss_one (ss_set 3 sc.nd rfl (.inl rfl) (se_var 4 (pe_var rfl (.inl rfl))))))))
    (ss_one (ss_ret (se_tup (sa_cons (se_op s_div (se_var 0 (pe_var rfl (.inl rfl))) (se_var 2 (pe_var rfl (.inl rfl)))) (sa_cons (se_op s_div (se_var 1 (pe_var rfl (.inl rfl))) (se_var 2 (pe_var rfl (.inl rfl)))) sa_nil))))))))
theorem ok_l_number {P : Program} {w : World} {K : PySem.W.Frag} {mg : Str → Option Value} {base : Heap} (F : FC w K mg) : Cal P w K mg base 4 "_law_number" [] f_l_number := by
  obtain ⟨fd, FD⟩ := F.def_ 8 (d := d_l_number)
  have sc := sc_l_number
  refine cal_mk (F.glo 14) FD (fun _ _ _ _ _ _ us hl => match us, hl with | [_], _ => rfl) (ps := ["_law_text"]) (fnG_of (k := 3) FD sc fun cdv A outer s H E hr hgd => ?_)
  exact (ss_cons (ss_set 1 sc.nd rfl (.inl rfl) (se_if (st_cmp (s_eq hr.units) (se_sl false (se_var 0 (pe_var rfl (.inl rfl))) so_none (so_some se_int)) se_str (nomark _)) (se_sl false (se_var 0 (pe_var rfl (.inl rfl))) (so_some se_int) so_none) (se_var 0 (pe_var rfl (.inl rfl)))))
    (ss_cons (ss_set 2 sc.nd rfl (.inl rfl) (se_mt PySem.F.plainAttrs_str PySem.F.slot_str_split PySem.F.type_str_split (s_split false) (se_var 1 (pe_var rfl (.inl rfl))) (sa_cons se_str sa_nil)))
    (ss_cons (ss_set 3 sc.nd rfl (.inl rfl) (se_fn ((ok_l_digits F).mono (by omega)) hr hgd bx_pass rfl (sa_cons (se_ix (se_var 2 (pe_var rfl (.inl rfl))) se_int) sa_nil)))
    (ss_cons (ss_set 4 sc.nd rfl (.inl rfl) (se_if (st_cmp (s_eq hr.units) (se_blt s_len rfl (F.free 0) (by decide +kernel) (sa_cons (se_var 2 (pe_var rfl (.inl rfl))) sa_nil)) se_int (nomark _)) (se_fn ((ok_l_digits F).mono (by omega)) hr hgd bx_pass rfl (sa_cons (se_ix (se_var 2 (pe_var rfl (.inl rfl))) se_int) sa_nil)) se_int))
    (ss_cons (ss_if (st_w (sw_or (st_cmp s_gt (se_blt s_len rfl (F.free 0) (by decide +kernel) (sa_cons (se_var 2 (pe_var rfl (.inl rfl))) sa_nil)) se_int (nomark _)) (sw_or (st_cmp s_is (se_var 3 (pe_var rfl (.inl rfl))) se_non (nomark _)) (sw_or (st_cmp s_is (se_var 4 (pe_var rfl (.inl rfl))) se_non (nomark _)) (sw_or (st_cmp s_lt (se_var 4 (pe_var rfl (.inl rfl))) se_int (nomark _)) (sw_or (st_cmp s_gt (se_var 3 (pe_var rfl (.inl rfl))) (se_op s_pow se_int se_int) (nomark _)) (sw_or1 (st_cmp s_gt (se_var 4 (pe_var rfl (.inl rfl))) (se_op s_pow se_int se_int) (nomark _))))))))) (ss_one (ss_ret se_non)) ss_nil)
    (ss_cons (ss_if (st_w (sw_or (st_w (sw_and (st_cmp (s_eq hr.units) (se_blt s_len rfl (F.free 0) (by decide +kernel) (sa_cons (se_var 2 (pe_var rfl (.inl rfl))) sa_nil)) se_int (nomark _)) (sw_and1 (st_cmp (s_eq hr.units) (se_var 4 (pe_var rfl (.inl rfl))) se_int (nomark _))))) (sw_or (st_cmp (s_ne hr.units) (se_fn ((ok_l_lowest F).mono (by omega)) hr hgd bx_pass rfl (sa_cons (se_var 3 (pe_var rfl (.inl rfl))) (sa_cons (se_var 4 (pe_var rfl (.inl rfl))) sa_nil))) (se_tup (sa_cons (se_var 3 (pe_var rfl (.inl rfl))) (sa_cons (se_var 4 (pe_var rfl (.inl rfl))) sa_nil))) (nomark _)) (sw_or1 (st_cmp (s_eq hr.units) (se_var 0 (pe_var rfl (.inl rfl))) se_str (nomark _)))))) (ss_one (ss_ret se_non)) ss_nil)
    (ss_one (ss_ret (se_if (st_cmp (s_eq hr.units) (se_sl false (se_var 0 (pe_var rfl (.inl rfl))) so_none (so_some se_int)) se_str (nomark _)) (se_tup (sa_cons (se_op s_sub se_int (se_var 3 (pe_var rfl (.inl rfl)))) (sa_cons (se_var 4 (pe_var rfl (.inl rfl))) sa_nil))) (se_tup (sa_cons (se_var 3 (pe_var rfl (.inl rfl))) (sa_cons (se_var 4 (pe_var rfl (.inl rfl))) sa_nil))))))))))))
theorem ok_l_leaf_of {P : Program} {w : World} {K : PySem.W.Frag} {mg : Str → Option Value} {base : Heap} (F : FC w K mg) : Cal P w K mg base 5 "_law_leaf_of" [] f_l_leaf_of := by
  obtain ⟨fd, FD⟩ := F.def_ 9 (d := d_l_leaf_of)
  have sc := sc_l_leaf_of
  refine cal_mk (F.glo 15) FD (fun _ _ _ _ _ _ us hl => match us, hl with | [_], _ => rfl) (ps := ["_law_token_here"]) (fnG_of (k := 4) FD sc fun cdv A outer s H E hr hgd => ?_)
  exact (ss_cons (ss_if (st_tru (se_fn ((ok_l_is_name F).mono (by omega)) hr hgd bx_pass rfl (sa_cons (se_var 0 (pe_var rfl (.inl rfl))) sa_nil))) (ss_one (ss_ret (se_tup (sa_cons se_str (sa_cons (se_var 0 (pe_var rfl (.inl rfl))) sa_nil))))) ss_nil)
    (ss_cons (ss_if (st_cmp (s_ne hr.units) (se_sl false (se_var 0 (pe_var rfl (.inl rfl))) so_none (so_some se_int)) se_str (nomark _)) (ss_one (ss_ret se_non)) ss_nil)
    (ss_cons (ss_if (st_cmp s_in (se_var 0 (pe_var rfl (.inl rfl))) (se_lst (sa_cons se_str (sa_cons se_str sa_nil))) rfl) (ss_one (ss_ret (se_tup (sa_cons se_str (sa_cons (se_cmp (s_eq hr.units) (se_var 0 (pe_var rfl (.inl rfl))) se_str (nomark _)) sa_nil))))) ss_nil)
    (ss_cons (ss_if (st_cmp (s_eq hr.units) (se_sl false (se_var 0 (pe_var rfl (.inl rfl))) (so_some se_int) (so_some se_int)) se_str (nomark _)) (ss_one (ss_ret (se_if (st_tru (se_fn ((ok_l_is_name F).mono (by omega)) hr hgd bx_pass rfl (sa_cons (se_sl false (se_var 0 (pe_var rfl (.inl rfl))) (so_some se_int) so_none) sa_nil))) (se_tup (sa_cons se_str (sa_cons (se_sl false (se_var 0 (pe_var rfl (.inl rfl))) (so_some se_int) so_none) sa_nil))) se_non))) ss_nil)
    (ss_cons (ss_set 1 sc.nd rfl (.inl rfl) (se_fn ((ok_l_number F).mono (by omega)) hr hgd bx_pass rfl (sa_cons (se_sl false (se_var 0 (pe_var rfl (.inl rfl))) (so_some se_int) so_none) sa_nil)))
    (ss_one (ss_ret (se_if (st_cmp s_is (se_var 1 (pe_var rfl (.inl rfl))) se_non (nomark _)) se_non (se_tup (sa_cons se_str (sa_cons (se_var 1 (pe_var rfl (.inl rfl))) sa_nil)))))))))))
theorem ok_l_operands {P : Program} {w : World} {K : PySem.W.Frag} {mg : Str → Option Value} {base : Heap} (F : FC w K mg) : Cal P w K mg base 3 "_law_operands" [] f_l_operands := by
  obtain ⟨fd, FD⟩ := F.def_ 10 (d := d_l_operands)
  have sc := sc_l_operands
  refine cal_mk (F.glo 16) FD (fun _ _ _ _ _ _ us hl => match us, hl with | [_], _ => rfl) (ps := ["_law_word"]) (fnG_of (k := 2) FD sc fun cdv A outer s H E hr hgd => ?_)
  exact (ss_cons (ss_if (st_cmp s_in (se_var 0 (pe_var rfl (.inl rfl))) (se_lst (sa_cons se_str (sa_cons se_str sa_nil))) rfl) (ss_one (ss_ret se_int)) ss_nil)
    (ss_cons (ss_if (st_cmp s_in (se_var 0 (pe_var rfl (.inl rfl))) (se_lst (sa_cons se_str (sa_cons se_str (sa_cons se_str (sa_cons se_str (sa_cons se_str (sa_cons se_str (sa_cons se_str (sa_cons se_str sa_nil))))))))) rfl) (ss_one (ss_ret se_int)) ss_nil)
    (ss_one (ss_ret (se_if (st_cmp (s_eq hr.units) (se_var 0 (pe_var rfl (.inl rfl))) se_str (nomark _)) se_int se_int)))))
theorem ok_l_token {P : Program} {w : World} {K : PySem.W.Frag} {mg : Str → Option Value} {base : Heap} (F : FC w K mg) : Cal P w K mg base 3 "_law_token" [] f_l_token := by
  obtain ⟨fd, FD⟩ := F.def_ 11 (d := d_l_token)
  have sc := sc_l_token
  refine cal_mk (F.glo 17) FD (fun _ _ _ _ _ _ us hl => match us, hl with | [_, _], _ => rfl) (ps := ["_law_text", "_law_at"]) (fnG_of (k := 2) FD sc fun cdv A outer s H E hr hgd => ?_)
  exact (ss_cons (ss_set 2 sc.nd rfl (.inl rfl) (se_var 1 (pe_var rfl (.inl rfl))))
    (ss_cons (ss_while FU bx_po (st_w (sw_and (st_cmp s_lt (se_var 2 (pe_var rfl (.inl rfl))) (se_blt s_len rfl (F.free 0) (by decide +kernel) (sa_cons (se_var 0 (pe_var rfl (.inl rfl))) sa_nil)) (nomark _)) (sw_and1 (st_cmp s_notin (se_ix (se_var 0 (pe_var rfl (.inl rfl))) (se_var 2 (pe_var rfl (.inl rfl)))) se_str rfl)))) (ss_one (ss_set 2 sc.nd rfl (.inl rfl) (se_op s_add (se_var 2 (pe_var rfl (.inl rfl))) se_int))))
    (ss_one (ss_ret (se_sl false (se_var 0 (pe_var rfl (.inl rfl))) (so_some (se_var 1 (pe_var rfl (.inl rfl)))) (so_some (se_var 2 (pe_var rfl (.inl rfl)))))))))
theorem ok_l_read {P : Program} {w : World} {K : PySem.W.Frag} {mg : Str → Option Value} {base : Heap} (F : FC w K mg) : ∀ n : Nat, Cal P w K mg base (6 + n) "_law_read" [] (f_l_read n)
  | 0 => by
    obtain ⟨fd, FD⟩ := F.def_ 12 (d := d_l_read)
    exact cal_mk (F.glo 18) FD (fun _ _ _ _ _ _ us hl => match us, hl with | [_, _, _], _ => rfl) (ps := ["_law_text", "_law_at", "_law_depth"]) fnG_bad
  | n + 1 => by
    obtain ⟨fd, FD⟩ := F.def_ 12 (d := d_l_read)
    have IH : Cal P w K mg base (6 + n) "_law_read" [] (f_l_read n) := ok_l_read F n
    have sc := sc_l_read
    refine cal_mk (F.glo 18) FD (fun _ _ _ _ _ _ us hl => match us, hl with | [_, _, _], _ => rfl) (ps := ["_law_text", "_law_at", "_law_depth"]) (fnG_of (k := 6 + n) FD sc fun cdv A outer s H E hr hgd => ?_)
    exact (ss_cons (ss_if (st_w (sw_or (st_cmp s_gt (se_var 2 (pe_var rfl (.inl rfl))) se_int (nomark _)) (sw_or1 (st_cmp s_ge (se_var 1 (pe_var rfl (.inl rfl))) (se_blt s_len rfl (F.free 0) (by decide +kernel) (sa_cons (se_var 0 (pe_var rfl (.inl rfl))) sa_nil)) (nomark _))))) (ss_one (ss_ret (se_lst (sa_cons se_non (sa_cons (se_var 1 (pe_var rfl (.inl rfl))) sa_nil))))) ss_nil)
    (ss_cons (ss_if (st_cmp (s_ne hr.units) (se_ix (se_var 0 (pe_var rfl (.inl rfl))) (se_var 1 (pe_var rfl (.inl rfl)))) se_str (nomark _)) (ss_cons (ss_set 3 sc.nd rfl (.inl rfl) (se_fn ((ok_l_leaf_of F).mono (by omega)) hr hgd bx_pass rfl (sa_cons (se_fn ((ok_l_token F).mono (by omega)) hr hgd bx_pass rfl (sa_cons (se_var 0 (pe_var rfl (.inl rfl))) (sa_cons (se_var 1 (pe_var rfl (.inl rfl))) sa_nil))) sa_nil)))
    (ss_one (ss_ret (se_if (st_cmp s_is (se_var 3 (pe_var rfl (.inl rfl))) se_non (nomark _)) (se_lst (sa_cons se_non (sa_cons (se_var 1 (pe_var rfl (.inl rfl))) sa_nil))) (se_lst (sa_cons (se_var 3 (pe_var rfl (.inl rfl))) (sa_cons (se_op s_add (se_var 1 (pe_var rfl (.inl rfl))) (se_blt s_len rfl (F.free 0) (by decide +kernel) (sa_cons (se_fn ((ok_l_token F).mono (by omega)) hr hgd bx_pass rfl (sa_cons (se_var 0 (pe_var rfl (.inl rfl))) (sa_cons (se_var 1 (pe_var rfl (.inl rfl))) sa_nil))) sa_nil))) sa_nil))))))) ss_nil)
    (ss_cons (ss_set 4 sc.nd rfl (.inl rfl) (se_fn ((ok_l_token F).mono (by omega)) hr hgd bx_pass rfl (sa_cons (se_var 0 (pe_var rfl (.inl rfl))) (sa_cons (se_op s_add (se_var 1 (pe_var rfl (.inl rfl))) se_int) sa_nil))))
    (ss_cons (ss_if (st_cmp (s_eq hr.units) (se_fn ((ok_l_operands F).mono (by omega)) hr hgd bx_pass rfl (sa_cons (se_var 4 (pe_var rfl (.inl rfl))) sa_nil)) se_int (nomark _)) (ss_one (ss_ret (se_lst (sa_cons se_non (sa_cons (se_op s_add (se_var 1 (pe_var rfl (.inl rfl))) se_int) sa_nil))))) ss_nil)
    (ss_cons (ss_set 1 sc.nd rfl (.inl rfl) (se_op s_add (se_op s_add (se_var 1 (pe_var rfl (.inl rfl))) se_int) (se_blt s_len rfl (F.free 0) (by decide +kernel) (sa_cons (se_var 4 (pe_var rfl (.inl rfl))) sa_nil))))
    (ss_cons (ss_set 3 sc.nd rfl (.inl rfl) (se_new (sa_cons (se_var 4 (pe_var rfl (.inl rfl))) sa_nil)))
    (ss_cons (ss_for (.nm 5) bx_po rfl (si_range rfl (F.free 4) (sa_cons (se_fn ((ok_l_operands F).mono (by omega)) hr hgd bx_pass rfl (sa_cons (se_var 4 (pe_var rfl (.inl rfl))) sa_nil)) sa_nil)) (pg_name sc.nd rfl (.inl rfl)) (ss_cons (ss_if (st_cmp (s_ne hr.units) (se_sl false (se_var 0 (pe_var rfl (.inl rfl))) (so_some (se_var 1 (pe_var rfl (.inl rfl)))) (so_some (se_op s_add (se_var 1 (pe_var rfl (.inl rfl))) se_int))) se_str (nomark _)) (ss_one (ss_ret (se_lst (sa_cons se_non (sa_cons (se_var 1 (pe_var rfl (.inl rfl))) sa_nil))))) ss_nil)
    (ss_cons (ss_set 6 sc.nd rfl (.inl rfl) (se_fn (IH.mono (by omega)) hr hgd bx_pass rfl (sa_cons (se_var 0 (pe_var rfl (.inl rfl))) (sa_cons (se_op s_add (se_var 1 (pe_var rfl (.inl rfl))) se_int) (sa_cons (se_op s_add (se_var 2 (pe_var rfl (.inl rfl))) se_int) sa_nil)))))
    (ss_cons (ss_if (st_cmp s_is (se_ix (se_var 6 (pe_var rfl (.inl rfl))) se_int) se_non (nomark _)) (ss_one (ss_ret (se_var 6 (pe_var rfl (.inl rfl))))) ss_nil)
    (ss_cons (ss_expr (se_mt PySem.F.plainAttrs_list PySem.F.slot_list_append PySem.F.type_list_append s_append (se_var 3 (pe_var rfl (.inl rfl))) (sa_cons (se_ix (se_var 6 (pe_var rfl (.inl rfl))) se_int) sa_nil)))
    (ss_one (ss_set 1 sc.nd rfl (.inl rfl) (se_ix (se_var 6 (pe_var rfl (.inl rfl))) se_int))))))))
    (ss_one (ss_ret (se_if (st_cmp (s_eq hr.units) (se_sl false (se_var 0 (pe_var rfl (.inl rfl))) (so_some (se_var 1 (pe_var rfl (.inl rfl)))) (so_some (se_op s_add (se_var 1 (pe_var rfl (.inl rfl))) se_int))) se_str (nomark _)) (se_lst (sa_cons (se_bty s_tuple rfl (F.free 8) (by decide +kernel) (sa_cons (se_var 3 (pe_var rfl (.inl rfl))) sa_nil)) (sa_cons (se_op s_add (se_var 1 (pe_var rfl (.inl rfl))) se_int) sa_nil))) (se_lst (sa_cons se_non (sa_cons (se_var 1 (pe_var rfl (.inl rfl))) sa_nil)))))))))))))
theorem ok_l_due {P : Program} {w : World} {K : PySem.W.Frag} {mg : Str → Option Value} {base : Heap} (F : FC w K mg) : Cal P w K mg base 20 "_law_due" [] f_l_due := by
  obtain ⟨fd, FD⟩ := F.def_ 13 (d := d_l_due)
  have sc := sc_l_due
  refine cal_mk (F.glo 19) FD (fun _ _ _ _ _ _ us hl => match us, hl with | [_], _ => rfl) (ps := ["_law_text"]) (fnG_of (k := 19) FD sc fun cdv A outer s H E hr hgd => ?_)
  exact (ss_cons (ss_set 1 sc.nd rfl (.inl rfl) (se_fn ((ok_l_read F 12).mono (by omega)) hr hgd bx_pass rfl (sa_cons (se_var 0 (pe_var rfl (.inl rfl))) (sa_cons se_int (sa_cons se_int sa_nil)))))
    (ss_cons (ss_if (st_w (sw_and (st_cmp s_isnot (se_ix (se_var 1 (pe_var rfl (.inl rfl))) se_int) se_non (nomark _)) (sw_and1 (st_cmp s_lt (se_ix (se_var 1 (pe_var rfl (.inl rfl))) se_int) (se_blt s_len rfl (F.free 0) (by decide +kernel) (sa_cons (se_var 0 (pe_var rfl (.inl rfl))) sa_nil)) (nomark _))))) (ss_one (ss_ret (se_lst (sa_cons se_str (sa_cons (se_ix (se_var 1 (pe_var rfl (.inl rfl))) se_int) (sa_cons se_bl sa_nil)))))) ss_nil)
    (ss_one (ss_ret (se_if (st_cmp s_is (se_ix (se_var 1 (pe_var rfl (.inl rfl))) se_int) se_non (nomark _)) (se_lst (sa_cons se_str (sa_cons (se_ix (se_var 1 (pe_var rfl (.inl rfl))) se_int) (sa_cons se_bl sa_nil)))) (se_lst (sa_cons se_str (sa_cons (se_ix (se_var 1 (pe_var rfl (.inl rfl))) se_int) sa_nil))))))))
theorem ok_l_rational {P : Program} {w : World} {K : PySem.W.Frag} {mg : Str → Option Value} {base : Heap} (F : FC w K mg) : Cal P w K mg base 4 "_law_rational" [] f_l_rational := by
  obtain ⟨fd, FD⟩ := F.def_ 14 (d := d_l_rational)
  have sc := sc_l_rational
  refine cal_mk (F.glo 20) FD (fun _ _ _ _ _ _ us hl => match us, hl with | [_, _], _ => rfl) (ps := ["_law_tape_here", "_law_wide"]) (fnG_of (k := 3) FD sc fun cdv A outer s H E hr hgd => ?_)
  exact (ss_cons (ss_set 2 sc.nd rfl (.inl rfl) (se_fn ((ok_l_draw F).mono (by omega)) hr hgd bx_pass rfl (sa_cons (se_var 0 (pe_var rfl (.inl rfl))) (sa_cons (se_op s_add se_int (se_op s_mul se_int (se_bty s_int rfl (F.free 3) (by decide +kernel) (sa_cons (se_var 1 (pe_var rfl (.inl rfl))) sa_nil)))) sa_nil))))
    (ss_cons (ss_if (st_cmp s_lt (se_var 2 (pe_var rfl (.inl rfl))) se_int (nomark _)) (ss_one (ss_ret (se_tup (sa_cons (se_op s_sub (se_fn ((ok_l_draw F).mono (by omega)) hr hgd bx_pass rfl (sa_cons (se_var 0 (pe_var rfl (.inl rfl))) (sa_cons se_int sa_nil))) se_int) (sa_cons se_int sa_nil))))) ss_nil)
    (ss_cons (ss_if (st_cmp s_lt (se_var 2 (pe_var rfl (.inl rfl))) se_int (nomark _)) (ss_one (ss_ret (se_fn ((ok_l_lowest F).mono (by omega)) hr hgd bx_pass rfl (sa_cons (se_op s_sub (se_fn ((ok_l_draw F).mono (by omega)) hr hgd bx_pass rfl (sa_cons (se_var 0 (pe_var rfl (.inl rfl))) (sa_cons se_int sa_nil))) se_int) (sa_cons (se_op s_add se_int (se_fn ((ok_l_draw F).mono (by omega)) hr hgd bx_pass rfl (sa_cons (se_var 0 (pe_var rfl (.inl rfl))) (sa_cons se_int sa_nil)))) sa_nil))))) ss_nil)
    (ss_cons (ss_if (st_cmp (s_eq hr.units) (se_var 2 (pe_var rfl (.inl rfl))) se_int (nomark _)) (ss_cons (ss_set 3 sc.nd rfl (.inl rfl) (se_op s_sub (se_fn ((ok_l_draw F).mono (by omega)) hr hgd bx_pass rfl (sa_cons (se_var 0 (pe_var rfl (.inl rfl))) (sa_cons (se_op s_add (se_op s_mul se_int (se_op s_pow se_int se_int)) se_int) sa_nil))) (se_op s_pow se_int se_int)))
    (ss_one (ss_ret (se_fn ((ok_l_lowest F).mono (by omega)) hr hgd bx_pass rfl (sa_cons (se_var 3 (pe_var rfl (.inl rfl))) (sa_cons (se_op s_add se_int (se_fn ((ok_l_draw F).mono (by omega)) hr hgd bx_pass rfl (sa_cons (se_var 0 (pe_var rfl (.inl rfl))) (sa_cons (se_op s_pow se_int se_int) sa_nil)))) sa_nil)))))) ss_nil)
    (ss_cons (ss_set 4 sc.nd rfl (.inl rfl) (se_op s_sub (se_op s_pow se_int se_int) (se_fn ((ok_l_draw F).mono (by omega)) hr hgd bx_pass rfl (sa_cons (se_var 0 (pe_var rfl (.inl rfl))) (sa_cons se_int sa_nil)))))
    (ss_one (ss_ret (se_ix (se_lst (sa_cons (se_tup (sa_cons (se_var 4 (pe_var rfl (.inl rfl))) (sa_cons se_int sa_nil))) (sa_cons (se_tup (sa_cons (se_op s_sub se_int (se_var 4 (pe_var rfl (.inl rfl)))) (sa_cons se_int sa_nil))) (sa_cons (se_tup (sa_cons se_int (sa_cons (se_var 4 (pe_var rfl (.inl rfl))) sa_nil))) (sa_cons (se_tup (sa_cons (se_neg se_int) (sa_cons (se_var 4 (pe_var rfl (.inl rfl))) sa_nil))) sa_nil))))) (se_fn ((ok_l_draw F).mono (by omega)) hr hgd bx_pass rfl (sa_cons (se_var 0 (pe_var rfl (.inl rfl))) (sa_cons se_int sa_nil)))))))))))
theorem ok_l_leaf {P : Program} {w : World} {K : PySem.W.Frag} {mg : Str → Option Value} {base : Heap} (F : FC w K mg) : Cal P w K mg base 5 "_law_leaf" [] f_l_leaf := by
  obtain ⟨fd, FD⟩ := F.def_ 15 (d := d_l_leaf)
  have sc := sc_l_leaf
  refine cal_mk (F.glo 21) FD (fun _ _ _ _ _ _ us hl => match us, hl with | [_, _, _], _ => rfl) (ps := ["_law_tape_here", "_law_columns_here", "_law_kind"]) (fnG_of (k := 4) FD sc fun cdv A outer s H E hr hgd => ?_)
  exact (ss_cons (ss_setLc 3 false [("_law_name_here", 4), ("_law_other", 5)] (.tp [(.nm 4), (.nm 5)]) rfl sc.nd rfl rfl rfl (si_any (se_var 1 (pe_var rfl (.inl rfl)))) (blkOk_by (N := nm_l_leaf) (sc := defScope t_l_leaf) (by decide +kernel)) (fun s H C cl fp => (pg_tup rfl (pgs_cons (pg_name sc.nd rfl (.inl rfl)) (pgs_cons (pg_name sc.nd rfl (.inl rfl)) pgs_nil)))) (fun s H C cl fp => (sts_one (st_cmp (s_eq hr.units) (se_var 5 (pe_var rfl (.inl rfl))) (se_var 2 (pe_var rfl (.inr (.inl rfl)))) (nomark _)))) (fun s H C cl fp => (se_var 4 (pe_var rfl (.inl rfl)))))
    (ss_cons (ss_if (st_w (sw_and (st_tru (se_var 3 (pe_var rfl (.inl rfl)))) (sw_and1 (st_cmp s_gt (se_fn ((ok_l_draw F).mono (by omega)) hr hgd bx_pass rfl (sa_cons (se_var 0 (pe_var rfl (.inl rfl))) (sa_cons se_int sa_nil))) se_int (nomark _))))) (ss_one (ss_ret (se_tup (sa_cons se_str (sa_cons (se_ix (se_var 3 (pe_var rfl (.inl rfl))) (se_fn ((ok_l_draw F).mono (by omega)) hr hgd bx_pass rfl (sa_cons (se_var 0 (pe_var rfl (.inl rfl))) (sa_cons (se_blt s_len rfl (F.free 0) (by decide +kernel) (sa_cons (se_var 3 (pe_var rfl (.inl rfl))) sa_nil)) sa_nil)))) sa_nil))))) ss_nil)
    (ss_cons (ss_if (st_cmp (s_eq hr.units) (se_var 2 (pe_var rfl (.inr (.inl rfl)))) se_str (nomark _)) (ss_one (ss_ret (se_tup (sa_cons se_str (sa_cons (se_fn ((ok_l_rational F).mono (by omega)) hr hgd bx_pass rfl (sa_cons (se_var 0 (pe_var rfl (.inl rfl))) (sa_cons se_bl sa_nil))) sa_nil))))) ss_nil)
    (ss_cons (ss_if (st_cmp (s_eq hr.units) (se_var 2 (pe_var rfl (.inr (.inl rfl)))) se_str (nomark _)) (ss_one (ss_ret (se_tup (sa_cons se_str (sa_cons (se_cmp (s_eq hr.units) (se_fn ((ok_l_draw F).mono (by omega)) hr hgd bx_pass rfl (sa_cons (se_var 0 (pe_var rfl (.inl rfl))) (sa_cons se_int sa_nil))) se_int (nomark _)) sa_nil))))) ss_nil)
    (ss_one (ss_ret (se_tup (sa_cons se_str (sa_cons (se_ix (se_lst (sa_cons se_str (sa_cons se_str (sa_cons se_str (sa_cons se_str sa_nil))))) (se_fn ((ok_l_draw F).mono (by omega)) hr hgd bx_pass rfl (sa_cons (se_var 0 (pe_var rfl (.inl rfl))) (sa_cons se_int sa_nil)))) sa_nil)))))))))
theorem ok_l_expression {P : Program} {w : World} {K : PySem.W.Frag} {mg : Str → Option Value} {base : Heap} (F : FC w K mg) : ∀ n : Nat, Cal P w K mg base (6 + n) "_law_expression" [] (f_l_expression n)
  | 0 => by
    obtain ⟨fd, FD⟩ := F.def_ 16 (d := d_l_expression)
    exact cal_mk (F.glo 22) FD (fun _ _ _ _ _ _ us hl => match us, hl with | [_, _, _, _], _ => rfl) (ps := ["_law_tape_here", "_law_columns_here", "_law_kind", "_law_depth"]) fnG_bad
  | n + 1 => by
    obtain ⟨fd, FD⟩ := F.def_ 16 (d := d_l_expression)
    have IH : Cal P w K mg base (6 + n) "_law_expression" [] (f_l_expression n) := ok_l_expression F n
    have sc := sc_l_expression
    refine cal_mk (F.glo 22) FD (fun _ _ _ _ _ _ us hl => match us, hl with | [_, _, _, _], _ => rfl) (ps := ["_law_tape_here", "_law_columns_here", "_law_kind", "_law_depth"]) (fnG_of (k := 6 + n) FD sc fun cdv A outer s H E hr hgd => ?_)
    exact (ss_cons (ss_set 4 sc.nd rfl (.inl rfl) (se_fn ((ok_l_draw F).mono (by omega)) hr hgd bx_pass rfl (sa_cons (se_var 0 (pe_var rfl (.inl rfl))) (sa_cons se_int sa_nil))))
    (ss_cons (ss_set 5 sc.nd rfl (.inl rfl) (se_op s_sub (se_var 3 (pe_var rfl (.inl rfl))) se_int))
    (ss_cons (ss_if (st_w (sw_or (st_cmp s_le (se_var 3 (pe_var rfl (.inl rfl))) se_int (nomark _)) (sw_or1 (st_cmp s_lt (se_var 4 (pe_var rfl (.inl rfl))) se_int (nomark _))))) (ss_one (ss_ret (se_fn ((ok_l_leaf F).mono (by omega)) hr hgd bx_pass rfl (sa_cons (se_var 0 (pe_var rfl (.inl rfl))) (sa_cons (se_var 1 (pe_var rfl (.inl rfl))) (sa_cons (se_var 2 (pe_var rfl (.inl rfl))) sa_nil)))))) ss_nil)
    (ss_cons (ss_if (st_cmp (s_eq hr.units) (se_var 4 (pe_var rfl (.inl rfl))) se_int (nomark _)) (ss_cons (ss_set 6 sc.nd rfl (.inl rfl) (se_fn (IH.mono (by omega)) hr hgd bx_pass rfl (sa_cons (se_var 0 (pe_var rfl (.inl rfl))) (sa_cons (se_var 1 (pe_var rfl (.inl rfl))) (sa_cons se_str (sa_cons (se_var 5 (pe_var rfl (.inl rfl))) sa_nil))))))
    (ss_cons (ss_set 7 sc.nd rfl (.inl rfl) (se_fn (IH.mono (by omega)) hr hgd bx_pass rfl (sa_cons (se_var 0 (pe_var rfl (.inl rfl))) (sa_cons (se_var 1 (pe_var rfl (.inl rfl))) (sa_cons (se_var 2 (pe_var rfl (.inl rfl))) (sa_cons (se_var 5 (pe_var rfl (.inl rfl))) sa_nil))))))
    (ss_one (ss_ret (se_tup (sa_cons se_str (sa_cons (se_var 6 (pe_var rfl (.inl rfl))) (sa_cons (se_var 7 (pe_var rfl (.inl rfl))) (sa_cons (se_fn (IH.mono (by omega)) hr hgd bx_pass rfl (sa_cons (se_var 0 (pe_var rfl (.inl rfl))) (sa_cons (se_var 1 (pe_var rfl (.inl rfl))) (sa_cons (se_var 2 (pe_var rfl (.inl rfl))) (sa_cons (se_var 5 (pe_var rfl (.inl rfl))) sa_nil))))) sa_nil))))))))) ss_nil)
    (ss_cons (ss_if (st_cmp (s_eq hr.units) (se_var 2 (pe_var rfl (.inl rfl))) se_str (nomark _)) (ss_one (ss_ret (se_fn ((ok_l_leaf F).mono (by omega)) hr hgd bx_pass rfl (sa_cons (se_var 0 (pe_var rfl (.inl rfl))) (sa_cons (se_var 1 (pe_var rfl (.inl rfl))) (sa_cons (se_var 2 (pe_var rfl (.inl rfl))) sa_nil)))))) ss_nil)
    (ss_cons (ss_if (st_cmp (s_eq hr.units) (se_var 2 (pe_var rfl (.inl rfl))) se_str (nomark _)) (ss_cons (ss_set 8 sc.nd rfl (.inl rfl) (se_ix (se_lst (sa_cons se_str (sa_cons se_str (sa_cons se_str (sa_cons se_str sa_nil))))) (se_fn ((ok_l_draw F).mono (by omega)) hr hgd bx_pass rfl (sa_cons (se_var 0 (pe_var rfl (.inl rfl))) (sa_cons se_int sa_nil)))))
    (ss_cons (ss_set 7 sc.nd rfl (.inl rfl) (se_fn (IH.mono (by omega)) hr hgd bx_pass rfl (sa_cons (se_var 0 (pe_var rfl (.inl rfl))) (sa_cons (se_var 1 (pe_var rfl (.inl rfl))) (sa_cons se_str (sa_cons (se_var 5 (pe_var rfl (.inl rfl))) sa_nil))))))
    (ss_one (ss_ret (se_tup (sa_cons (se_var 8 (pe_var rfl (.inl rfl))) (sa_cons (se_var 7 (pe_var rfl (.inl rfl))) (sa_cons (se_fn (IH.mono (by omega)) hr hgd bx_pass rfl (sa_cons (se_var 0 (pe_var rfl (.inl rfl))) (sa_cons (se_var 1 (pe_var rfl (.inl rfl))) (sa_cons se_str (sa_cons (se_var 5 (pe_var rfl (.inl rfl))) sa_nil))))) sa_nil)))))))) ss_nil)
    (ss_cons (ss_if (st_cmp (s_eq hr.units) (se_var 4 (pe_var rfl (.inl rfl))) se_int (nomark _)) (ss_one (ss_ret (se_tup (sa_cons se_str (sa_cons (se_fn (IH.mono (by omega)) hr hgd bx_pass rfl (sa_cons (se_var 0 (pe_var rfl (.inl rfl))) (sa_cons (se_var 1 (pe_var rfl (.inl rfl))) (sa_cons se_str (sa_cons (se_var 5 (pe_var rfl (.inl rfl))) sa_nil))))) sa_nil))))) ss_nil)
    (ss_cons (ss_set 9 sc.nd rfl (.inl rfl) (se_ix (se_lst (sa_cons se_str (sa_cons se_str (sa_cons se_str sa_nil)))) (se_fn ((ok_l_draw F).mono (by omega)) hr hgd bx_pass rfl (sa_cons (se_var 0 (pe_var rfl (.inl rfl))) (sa_cons se_int sa_nil)))))
    (ss_cons (ss_if (st_cmp (s_eq hr.units) (se_var 4 (pe_var rfl (.inl rfl))) se_int (nomark _)) (ss_one (ss_ret (se_tup (sa_cons se_str (sa_cons (se_fn (IH.mono (by omega)) hr hgd bx_pass rfl (sa_cons (se_var 0 (pe_var rfl (.inl rfl))) (sa_cons (se_var 1 (pe_var rfl (.inl rfl))) (sa_cons (se_var 9 (pe_var rfl (.inl rfl))) (sa_cons (se_var 5 (pe_var rfl (.inl rfl))) sa_nil))))) sa_nil))))) ss_nil)
    (ss_cons (ss_if (st_cmp (s_eq hr.units) (se_var 4 (pe_var rfl (.inl rfl))) se_int (nomark _)) (ss_cons (ss_set 7 sc.nd rfl (.inl rfl) (se_fn (IH.mono (by omega)) hr hgd bx_pass rfl (sa_cons (se_var 0 (pe_var rfl (.inl rfl))) (sa_cons (se_var 1 (pe_var rfl (.inl rfl))) (sa_cons (se_var 9 (pe_var rfl (.inl rfl))) (sa_cons (se_var 5 (pe_var rfl (.inl rfl))) sa_nil))))))
    (ss_one (ss_ret (se_tup (sa_cons se_str (sa_cons (se_var 7 (pe_var rfl (.inl rfl))) (sa_cons (se_fn (IH.mono (by omega)) hr hgd bx_pass rfl (sa_cons (se_var 0 (pe_var rfl (.inl rfl))) (sa_cons (se_var 1 (pe_var rfl (.inl rfl))) (sa_cons (se_var 9 (pe_var rfl (.inl rfl))) (sa_cons (se_var 5 (pe_var rfl (.inl rfl))) sa_nil))))) sa_nil))))))) ss_nil)
    (ss_cons (ss_if (st_cmp s_lt (se_var 4 (pe_var rfl (.inl rfl))) se_int (nomark _)) (ss_cons (ss_set 7 sc.nd rfl (.inl rfl) (se_fn (IH.mono (by omega)) hr hgd bx_pass rfl (sa_cons (se_var 0 (pe_var rfl (.inl rfl))) (sa_cons (se_var 1 (pe_var rfl (.inl rfl))) (sa_cons se_str (sa_cons (se_var 5 (pe_var rfl (.inl rfl))) sa_nil))))))
    (ss_one (ss_ret (se_tup (sa_cons se_str (sa_cons (se_var 7 (pe_var rfl (.inl rfl))) (sa_cons (se_fn (IH.mono (by omega)) hr hgd bx_pass rfl (sa_cons (se_var 0 (pe_var rfl (.inl rfl))) (sa_cons (se_var 1 (pe_var rfl (.inl rfl))) (sa_cons se_str (sa_cons (se_var 5 (pe_var rfl (.inl rfl))) sa_nil))))) sa_nil))))))) ss_nil)
    (ss_cons (ss_set 8 sc.nd rfl (.inl rfl) (se_ix (se_lst (sa_cons se_str (sa_cons se_str sa_nil))) (se_fn ((ok_l_draw F).mono (by omega)) hr hgd bx_pass rfl (sa_cons (se_var 0 (pe_var rfl (.inl rfl))) (sa_cons se_int sa_nil)))))
    (ss_cons (ss_set 7 sc.nd rfl (.inl rfl) (se_fn (IH.mono (by omega)) hr hgd bx_pass rfl (sa_cons (se_var 0 (pe_var rfl (.inl rfl))) (sa_cons (se_var 1 (pe_var rfl (.inl rfl))) (sa_cons se_str (sa_cons (se_var 5 (pe_var rfl (.inl rfl))) sa_nil))))))
    (ss_one (ss_ret (se_tup (sa_cons (se_var 8 (pe_var rfl (.inl rfl))) (sa_cons (se_var 7 (pe_var rfl (.inl rfl))) (sa_cons (se_fn (IH.mono (by omega)) hr hgd bx_pass rfl (sa_cons (se_var 0 (pe_var rfl (.inl rfl))) (sa_cons (se_var 1 (pe_var rfl (.inl rfl))) (sa_cons se_str (sa_cons (se_var 5 (pe_var rfl (.inl rfl))) sa_nil))))) sa_nil)))))))))))))))))))
theorem ok_l_tape {P : Program} {w : World} {K : PySem.W.Frag} {mg : Str → Option Value} {base : Heap} (F : FC w K mg) : Cal P w K mg base 3 "_law_tape" [] f_l_tape := by
  obtain ⟨fd, FD⟩ := F.def_ 17 (d := d_l_tape)
  have sc := sc_l_tape
  refine cal_mk (F.glo 23) FD (fun _ _ _ _ _ _ us hl => match us, hl with | [_], _ => rfl) (ps := ["_law_script"]) (fnG_of (k := 2) FD sc fun cdv A outer s H E hr hgd => ?_)
  exact (ss_one (ss_ret (se_new (sa_cons (se_bty (s_list false) rfl (F.free 7) (by decide +kernel) (sa_cons (se_sl false (se_var 0 (pe_var rfl (.inl rfl))) so_none (so_some se_int)) sa_nil)) (sa_cons se_int (sa_cons se_int (sa_cons se_int sa_nil)))))))
theorem ok_FormReader_init {P : Program} {w : World} {K : PySem.W.Frag} {mg : Str → Option Value} {base : Heap} (F : FC w K mg) : Mak P w K mg base 3 "FormReader" [] f_FormReader_init := by
  obtain ⟨fd, FD⟩ := F.def_ 18 (d := d_FormReader_init)
  have sc := sc_FormReader_init
  refine mak_mk (F.glo 27) (F.mkr 28) FD (fun _ _ _ _ _ _ us hl => match us, hl with | [_, _], _ => rfl) (ps := ["self", "text"]) (fnG_of (k := 2) FD sc fun cdv A outer s H E hr hgd => ?_)
  exact (ss_cons (ss_setF "FormReader" "text" (F.cls 24) (F.noat 25) (se_var 0 (pe_var rfl (.inl rfl))) (se_var 1 (pe_var rfl (.inl rfl))))
    (ss_one (ss_setF "FormReader" "at" (F.cls 24) (F.noat 26) (se_var 0 (pe_var rfl (.inl rfl))) se_int)))
theorem ok_FormReader_expect {P : Program} {w : World} {K : PySem.W.Frag} {mg : Str → Option Value} {base : Heap} (F : FC w K mg) : Met P w K mg base 3 "FormReader" "expect" [] f_FormReader_expect := by
  obtain ⟨fd, FD⟩ := F.def_ 19 (d := d_FormReader_expect)
  have sc := sc_FormReader_expect
  refine met_mk (F.cls 24) (F.meth 29) FD (fun _ _ _ _ _ _ us hl => match us, hl with | [_, _], _ => rfl) (ps := ["self", "sign"]) (fnG_of (k := 2) FD sc fun cdv A outer s H E hr hgd => ?_)
  exact (ss_cons (ss_if (st_w (sw_or (st_cmp s_ge (se_fld "FormReader" "at" (F.cls 24) (F.noat 26) (se_var 0 (pe_var rfl (.inl rfl)))) (se_blt s_len rfl (F.free 0) (by decide +kernel) (sa_cons (se_fld "FormReader" "text" (F.cls 24) (F.noat 25) (se_var 0 (pe_var rfl (.inl rfl)))) sa_nil)) (nomark _)) (sw_or1 (st_cmp (s_ne hr.units) (se_ix (se_fld "FormReader" "text" (F.cls 24) (F.noat 25) (se_var 0 (pe_var rfl (.inl rfl)))) (se_fld "FormReader" "at" (F.cls 24) (F.noat 26) (se_var 0 (pe_var rfl (.inl rfl))))) (se_var 1 (pe_var rfl (.inl rfl))) (nomark _))))) (ss_one (ss_raise (F.exi_BadText) (by decide) rfl bx_takes (hr.mono (by omega)) rfl (sa_cons (se_fld "FormReader" "at" (F.cls 24) (F.noat 26) (se_var 0 (pe_var rfl (.inl rfl)))) sa_nil) (by decide))) ss_nil)
    (ss_one (ss_augF "FormReader" "at" (F.cls 24) (F.noat 26) (se_var 0 (pe_var rfl (.inl rfl))) se_int i_add)))
theorem ok_FormReader_token {P : Program} {w : World} {K : PySem.W.Frag} {mg : Str → Option Value} {base : Heap} (F : FC w K mg) : Met P w K mg base 3 "FormReader" "token" [] f_FormReader_token := by
  obtain ⟨fd, FD⟩ := F.def_ 20 (d := d_FormReader_token)
  have sc := sc_FormReader_token
  refine met_mk (F.cls 24) (F.meth 30) FD (fun _ _ _ _ _ _ us hl => match us, hl with | [_], _ => rfl) (ps := ["self"]) (fnG_of (k := 2) FD sc fun cdv A outer s H E hr hgd => ?_)
  exact (ss_cons (ss_set 1 sc.nd rfl (.inl rfl) (se_fld "FormReader" "at" (F.cls 24) (F.noat 26) (se_var 0 (pe_var rfl (.inl rfl)))))
    (ss_cons (ss_while FU bx_po (st_w (sw_and (st_cmp s_lt (se_fld "FormReader" "at" (F.cls 24) (F.noat 26) (se_var 0 (pe_var rfl (.inl rfl)))) (se_blt s_len rfl (F.free 0) (by decide +kernel) (sa_cons (se_fld "FormReader" "text" (F.cls 24) (F.noat 25) (se_var 0 (pe_var rfl (.inl rfl)))) sa_nil)) (nomark _)) (sw_and1 (st_cmp s_notin (se_ix (se_fld "FormReader" "text" (F.cls 24) (F.noat 25) (se_var 0 (pe_var rfl (.inl rfl)))) (se_fld "FormReader" "at" (F.cls 24) (F.noat 26) (se_var 0 (pe_var rfl (.inl rfl))))) se_str rfl)))) (ss_one (ss_augF "FormReader" "at" (F.cls 24) (F.noat 26) (se_var 0 (pe_var rfl (.inl rfl))) se_int i_add)))
    (ss_one (ss_ret (se_sl false (se_fld "FormReader" "text" (F.cls 24) (F.noat 25) (se_var 0 (pe_var rfl (.inl rfl)))) (so_some (se_var 1 (pe_var rfl (.inl rfl)))) (so_some (se_fld "FormReader" "at" (F.cls 24) (F.noat 26) (se_var 0 (pe_var rfl (.inl rfl))))))))))
theorem ok_is_name {P : Program} {w : World} {K : PySem.W.Frag} {mg : Str → Option Value} {base : Heap} (F : FC w K mg) : Cal P w K mg base 3 "is_name" [] f_is_name := by
  obtain ⟨fd, FD⟩ := F.def_ 21 (d := d_is_name)
  have sc := sc_is_name
  refine cal_mk (F.glo 37) FD (fun _ _ _ _ _ _ us hl => match us, hl with | [_], _ => rfl) (ps := ["value"]) (fnG_of (k := 2) FD sc fun cdv A outer s H E hr hgd => ?_)
  exact (ss_cons (ss_if (st_w (sw_or (st_not (st_tru (se_is "str" rfl (F.free 31) rfl (F.free 32) (by decide +kernel) (se_var 0 (pe_var rfl (.inl rfl)))))) (sw_or (st_not (st_chain s_le s_le se_int (se_blt s_len rfl (F.free 0) (by decide +kernel) (sa_cons (se_var 0 (pe_var rfl (.inl rfl))) sa_nil)) (se_gl (F.int 33) rfl fun _ _ => .int _))) (sw_or1 (st_cmp s_notin (se_ix (se_var 0 (pe_var rfl (.inl rfl))) se_int) (se_gl (F.str 34) rfl fun _ _ => .str _) rfl))))) (ss_one (ss_ret se_bl)) ss_nil)
    (ss_one (ss_ret (se_blt (s_all rfl) rfl (F.free 36) (by decide +kernel) (sa_cons (se_lc false [("sign", 1)] (.nm 1) rfl sc.nd (si_any (se_var 0 (pe_var rfl (.inl rfl)))) (blkOk_by (N := nm_is_name) (sc := defScope t_is_name) (by decide +kernel)) (fun s H C cl fp => (pg_name sc.nd rfl (.inl rfl))) (fun s H C cl fp => sts_nil) (fun s H C cl fp => (se_cmp s_in (se_var 1 (pe_var rfl (.inl rfl))) (se_gl (F.str 35) rfl fun _ _ => .str _) rfl))) sa_nil)))))
theorem ok_common_divisor {P : Program} {w : World} {K : PySem.W.Frag} {mg : Str → Option Value} {base : Heap} (F : FC w K mg) : Cal P w K mg base 3 "common_divisor" [] f_common_divisor := by
  obtain ⟨fd, FD⟩ := F.def_ 22 (d := d_common_divisor)
  have sc := sc_common_divisor
  refine cal_mk (F.glo 38) FD (fun _ _ _ _ _ _ us hl => match us, hl with | [_, _], _ => rfl) (ps := ["a", "b"]) (fnG_of (k := 2) FD sc fun cdv A outer s H E hr hgd => ?_)
  exact (ss_cons (ss_par 0 1 rfl sc.nd rfl rfl (by decide) rfl rfl (sa_cons (se_blt s_abs rfl (F.free 12) (by decide +kernel) (sa_cons (se_var 0 (pe_var rfl (.inl rfl))) sa_nil)) (sa_cons (se_blt s_abs rfl (F.free 12) (by decide +kernel) (sa_cons (se_var 1 (pe_var rfl (.inl rfl))) sa_nil)) sa_nil)) rfl)
    (ss_cons (ss_while FU bx_po (st_cmp (s_ne hr.units) (se_var 1 (pe_var rfl (.inl rfl))) se_int (nomark _)) (ss_one (ss_par 0 1 rfl sc.nd rfl rfl (by decide) rfl rfl (sa_cons (se_var 1 (pe_var rfl (.inl rfl))) (sa_cons (se_op s_mod (se_var 0 (pe_var rfl (.inl rfl))) (se_var 1 (pe_var rfl (.inl rfl)))) sa_nil)) rfl)))
    (ss_one (ss_ret (se_var 0 (pe_var rfl (.inl rfl)))))))
theorem ok_is_integer {P : Program} {w : World} {K : PySem.W.Frag} {mg : Str → Option Value} {base : Heap} (F : FC w K mg) : Cal P w K mg base 3 "is_integer" [] f_is_integer := by
  obtain ⟨fd, FD⟩ := F.def_ 23 (d := d_is_integer)
  have sc := sc_is_integer
  refine cal_mk (F.glo 40) FD (fun _ _ _ _ _ _ us hl => match us, hl with | [_], _ => rfl) (ps := ["value"]) (fnG_of (k := 2) FD sc fun cdv A outer s H E hr hgd => ?_)
  exact (ss_one (ss_ret (se_and (se_is "int" rfl (F.free 31) rfl (F.free 3) (by decide +kernel) (se_var 0 (pe_var rfl (.inl rfl)))) (se_one (se_not (se_is "bool" rfl (F.free 31) rfl (F.free 39) (by decide +kernel) (se_var 0 (pe_var rfl (.inl rfl)))))))))
theorem ok_is_rational {P : Program} {w : World} {K : PySem.W.Frag} {mg : Str → Option Value} {base : Heap} (F : FC w K mg) : Cal P w K mg base 4 "is_rational" [] f_is_rational := by
  obtain ⟨fd, FD⟩ := F.def_ 24 (d := d_is_rational)
  have sc := sc_is_rational
  refine cal_mk (F.glo 41) FD (fun _ _ _ _ _ _ us hl => match us, hl with | [_], _ => rfl) (ps := ["value"]) (fnG_of (k := 3) FD sc fun cdv A outer s H E hr hgd => ?_)
  exact (ss_cons (ss_if (st_w (sw_or (st_not (st_tru (se_is "tuple" rfl (F.free 31) rfl (F.free 8) (by decide +kernel) (se_var 0 (pe_var rfl (.inl rfl)))))) (sw_or (st_cmp (s_ne hr.units) (se_blt s_len rfl (F.free 0) (by decide +kernel) (sa_cons (se_var 0 (pe_var rfl (.inl rfl))) sa_nil)) se_int (nomark _)) (sw_or (st_not (st_tru (se_fn ((ok_is_integer F).mono (by omega)) hr hgd bx_pass rfl (sa_cons (se_ix (se_var 0 (pe_var rfl (.inl rfl))) se_int) sa_nil)))) (sw_or1 (st_not (st_tru (se_fn ((ok_is_integer F).mono (by omega)) hr hgd bx_pass rfl (sa_cons (se_ix (se_var 0 (pe_var rfl (.inl rfl))) se_int) sa_nil))))))))) (ss_one (ss_ret se_bl)) ss_nil)
    (ss_one (ss_ret (se_and (se_cmp s_ge (se_ix (se_var 0 (pe_var rfl (.inl rfl))) se_int) se_int (nomark _)) (se_one (se_cmp (s_eq hr.units) (se_fn ((ok_common_divisor F).mono (by omega)) hr hgd bx_pass rfl (sa_cons (se_ix (se_var 0 (pe_var rfl (.inl rfl))) se_int) (sa_cons (se_ix (se_var 0 (pe_var rfl (.inl rfl))) se_int) sa_nil))) se_int (nomark _)))))))
theorem ok_is_within_limit {P : Program} {w : World} {K : PySem.W.Frag} {mg : Str → Option Value} {base : Heap} (F : FC w K mg) : Cal P w K mg base 3 "is_within_limit" [] f_is_within_limit := by
  obtain ⟨fd, FD⟩ := F.def_ 25 (d := d_is_within_limit)
  have sc := sc_is_within_limit
  refine cal_mk (F.glo 43) FD (fun _ _ _ _ _ _ us hl => match us, hl with | [_], _ => rfl) (ps := ["number"]) (fnG_of (k := 2) FD sc fun cdv A outer s H E hr hgd => ?_)
  exact (ss_one (ss_ret (se_and (se_cmp s_le (se_blt s_abs rfl (F.free 12) (by decide +kernel) (sa_cons (se_ix (se_var 0 (pe_var rfl (.inl rfl))) se_int) sa_nil)) (se_gl (F.int 42) rfl fun _ _ => .int _) (nomark _)) (se_one (se_cmp s_le (se_ix (se_var 0 (pe_var rfl (.inl rfl))) se_int) (se_gl (F.int 42) rfl fun _ _ => .int _) (nomark _))))))
theorem ok_read_integer {P : Program} {w : World} {K : PySem.W.Frag} {mg : Str → Option Value} {base : Heap} (F : FC w K mg) : Cal P w K mg base 3 "read_integer" [] f_read_integer := by
  obtain ⟨fd, FD⟩ := F.def_ 26 (d := d_read_integer)
  have sc := sc_read_integer
  refine cal_mk (F.glo 46) FD (fun _ _ _ _ _ _ us hl => match us, hl with | [_], _ => rfl) (ps := ["text"]) (fnG_of (k := 2) FD sc fun cdv A outer s H E hr hgd => ?_)
  exact (ss_cons (ss_if (st_w (sw_or (st_not (st_chain s_le s_le se_int (se_blt s_len rfl (F.free 0) (by decide +kernel) (sa_cons (se_var 0 (pe_var rfl (.inl rfl))) sa_nil)) (se_gl (F.int 44) rfl fun _ _ => .int _))) (sw_or1 (st_not (st_tru (se_blt (s_all rfl) rfl (F.free 36) (by decide +kernel) (sa_cons (se_lc false [("sign", 1)] (.nm 1) rfl sc.nd (si_any (se_var 0 (pe_var rfl (.inl rfl)))) (blkOk_by (N := nm_read_integer) (sc := defScope t_read_integer) (by decide +kernel)) (fun s H C cl fp => (pg_name sc.nd rfl (.inl rfl))) (fun s H C cl fp => sts_nil) (fun s H C cl fp => (se_cmp s_in (se_var 1 (pe_var rfl (.inl rfl))) (se_gl (F.str 45) rfl fun _ _ => .str _) rfl))) sa_nil))))))) (ss_one (ss_ret se_non)) ss_nil)
    (ss_one (ss_ret (se_if (st_w (sw_and (st_cmp (s_eq hr.units) (se_ix (se_var 0 (pe_var rfl (.inl rfl))) se_int) se_str (nomark _)) (sw_and1 (st_cmp (s_ne hr.units) (se_var 0 (pe_var rfl (.inl rfl))) se_str (nomark _))))) se_non (se_bty s_int rfl (F.free 3) (by decide +kernel) (sa_cons (se_var 0 (pe_var rfl (.inl rfl))) sa_nil))))))
theorem ok_read_number {P : Program} {w : World} {K : PySem.W.Frag} {mg : Str → Option Value} {base : Heap} (F : FC w K mg) : Cal P w K mg base 5 "read_number" [] f_read_number := by
  obtain ⟨fd, FD⟩ := F.def_ 27 (d := d_read_number)
  have sc := sc_read_number
  refine cal_mk (F.glo 47) FD (fun _ _ _ _ _ _ us hl => match us, hl with | [_], _ => rfl) (ps := ["text"]) (fnG_of (k := 4) FD sc fun cdv A outer s H E hr hgd => ?_)
  exact (ss_cons (ss_asg (.tp [(.nm 1), (.nm 2), (.nm 3)]) (se_mt PySem.F.plainAttrs_str PySem.F.slot_str_partition PySem.F.type_str_partition s_partition (se_var 0 (pe_var rfl (.inl rfl))) (sa_cons se_str sa_nil)) (pg_tup rfl (pgs_cons (pg_name sc.nd rfl (.inl rfl)) (pgs_cons (pg_name sc.nd rfl (.inl rfl)) (pgs_cons (pg_name sc.nd rfl (.inl rfl)) pgs_nil)))))
    (ss_cons (ss_set 4 sc.nd rfl (.inl rfl) (se_fn ((ok_read_integer F).mono (by omega)) hr hgd bx_pass rfl (sa_cons (se_if (st_tru (se_mt PySem.F.plainAttrs_str PySem.F.slot_str_startswith PySem.F.type_str_startswith s_starts (se_var 1 (pe_var rfl (.inl rfl))) (sa_cons se_str sa_nil))) (se_sl false (se_var 1 (pe_var rfl (.inl rfl))) (so_some se_int) so_none) (se_var 1 (pe_var rfl (.inl rfl)))) sa_nil)))
    (ss_cons (ss_set 5 sc.nd rfl (.inl rfl) (se_if (st_cmp (s_ne hr.units) (se_var 2 (pe_var rfl (.inl rfl))) se_str (nomark _)) (se_fn ((ok_read_integer F).mono (by omega)) hr hgd bx_pass rfl (sa_cons (se_var 3 (pe_var rfl (.inl rfl))) sa_nil)) se_int))
    (ss_cons (ss_if (st_w (sw_or (st_cmp s_is (se_var 4 (pe_var rfl (.inl rfl))) se_non (nomark _)) (sw_or (st_cmp s_is (se_var 5 (pe_var rfl (.inl rfl))) se_non (nomark _)) (sw_or (st_w (sw_and (st_cmp (s_ne hr.units) (se_var 2 (pe_var rfl (.inl rfl))) se_str (nomark _)) (sw_and1 (st_cmp s_lt (se_var 5 (pe_var rfl (.inl rfl))) se_int (nomark _))))) (sw_or1 (st_cmp (s_eq hr.units) (se_var 1 (pe_var rfl (.inl rfl))) se_str (nomark _))))))) (ss_one (ss_ret se_non)) ss_nil)
    (ss_cons (ss_set 6 sc.nd rfl (.inl rfl) (se_tup (sa_cons (se_if (st_tru (se_mt PySem.F.plainAttrs_str PySem.F.slot_str_startswith PySem.F.type_str_startswith s_starts (se_var 1 (pe_var rfl (.inl rfl))) (sa_cons se_str sa_nil))) (se_neg (se_var 4 (pe_var rfl (.inl rfl)))) (se_var 4 (pe_var rfl (.inl rfl)))) (sa_cons (se_var 5 (pe_var rfl (.inl rfl))) sa_nil))))
    (ss_one (ss_ret (se_if (st_w (sw_and (st_tru (se_fn ((ok_is_rational F).mono (by omega)) hr hgd bx_pass rfl (sa_cons (se_var 6 (pe_var rfl (.inl rfl))) sa_nil))) (sw_and1 (st_tru (se_fn ((ok_is_within_limit F).mono (by omega)) hr hgd bx_pass rfl (sa_cons (se_var 6 (pe_var rfl (.inl rfl))) sa_nil)))))) (se_var 6 (pe_var rfl (.inl rfl))) se_non))))))))
theorem ok_read_leaf {P : Program} {w : World} {K : PySem.W.Frag} {mg : Str → Option Value} {base : Heap} (F : FC w K mg) : Cal P w K mg base 6 "read_leaf" [] f_read_leaf := by
  obtain ⟨fd, FD⟩ := F.def_ 28 (d := d_read_leaf)
  have sc := sc_read_leaf
  refine cal_mk (F.glo 48) FD (fun _ _ _ _ _ _ us hl => match us, hl with | [_], _ => rfl) (ps := ["token"]) (fnG_of (k := 5) FD sc fun cdv A outer s H E hr hgd => ?_)
  exact (ss_cons (ss_if (st_tru (se_fn ((ok_is_name F).mono (by omega)) hr hgd bx_pass rfl (sa_cons (se_var 0 (pe_var rfl (.inl rfl))) sa_nil))) (ss_one (ss_ret (se_tup (sa_cons se_str (sa_cons (se_var 0 (pe_var rfl (.inl rfl))) sa_nil))))) ss_nil)
    (ss_cons (ss_if (st_cmp s_in (se_var 0 (pe_var rfl (.inl rfl))) (se_tup (sa_cons se_str (sa_cons se_str sa_nil))) rfl) (ss_one (ss_ret (se_tup (sa_cons se_str (sa_cons (se_cmp (s_eq hr.units) (se_var 0 (pe_var rfl (.inl rfl))) se_str (nomark _)) sa_nil))))) ss_nil)
    (ss_cons (ss_if (st_tru (se_mt PySem.F.plainAttrs_str PySem.F.slot_str_startswith PySem.F.type_str_startswith s_starts (se_var 0 (pe_var rfl (.inl rfl))) (sa_cons se_str sa_nil))) (ss_one (ss_ret (se_if (st_tru (se_fn ((ok_is_name F).mono (by omega)) hr hgd bx_pass rfl (sa_cons (se_sl false (se_var 0 (pe_var rfl (.inl rfl))) (so_some se_int) so_none) sa_nil))) (se_tup (sa_cons se_str (sa_cons (se_sl false (se_var 0 (pe_var rfl (.inl rfl))) (so_some se_int) so_none) sa_nil))) se_non))) ss_nil)
    (ss_cons (ss_set 1 sc.nd rfl (.inl rfl) (se_if (st_tru (se_mt PySem.F.plainAttrs_str PySem.F.slot_str_startswith PySem.F.type_str_startswith s_starts (se_var 0 (pe_var rfl (.inl rfl))) (sa_cons se_str sa_nil))) (se_fn ((ok_read_number F).mono (by omega)) hr hgd bx_pass rfl (sa_cons (se_sl false (se_var 0 (pe_var rfl (.inl rfl))) (so_some se_int) so_none) sa_nil)) se_non))
    (ss_one (ss_ret (se_if (st_cmp s_is (se_var 1 (pe_var rfl (.inl rfl))) se_non (nomark _)) se_non (se_tup (sa_cons se_str (sa_cons (se_var 1 (pe_var rfl (.inl rfl))) sa_nil))))))))))
theorem ok_FormReader_form {P : Program} {w : World} {K : PySem.W.Frag} {mg : Str → Option Value} {base : Heap} (F : FC w K mg) : ∀ n : Nat, Met P w K mg base (7 + n) "FormReader" "form" [] (f_FormReader_form n)
  | 0 => by
    obtain ⟨fd, FD⟩ := F.def_ 29 (d := d_FormReader_form)
    exact met_mk (F.cls 24) (F.meth 51) FD (fun _ _ _ _ _ _ us hl => match us, hl with | [_, _], _ => rfl) (ps := ["self", "depth"]) fnG_bad
  | n + 1 => by
    obtain ⟨fd, FD⟩ := F.def_ 29 (d := d_FormReader_form)
    have IH : Met P w K mg base (7 + n) "FormReader" "form" [] (f_FormReader_form n) := ok_FormReader_form F n
    have sc := sc_FormReader_form
    refine met_mk (F.cls 24) (F.meth 51) FD (fun _ _ _ _ _ _ us hl => match us, hl with | [_, _], _ => rfl) (ps := ["self", "depth"]) (fnG_of (k := 7 + n) FD sc fun cdv A outer s H E hr hgd => ?_)
    exact (ss_cons (ss_set 2 sc.nd rfl (.inl rfl) (se_fld "FormReader" "at" (F.cls 24) (F.noat 26) (se_var 0 (pe_var rfl (.inl rfl)))))
    (ss_cons (ss_if (st_w (sw_or (st_cmp s_gt (se_var 1 (pe_var rfl (.inl rfl))) (se_gl (F.int 49) rfl fun _ _ => .int _) (nomark _)) (sw_or1 (st_cmp s_ge (se_var 2 (pe_var rfl (.inl rfl))) (se_blt s_len rfl (F.free 0) (by decide +kernel) (sa_cons (se_fld "FormReader" "text" (F.cls 24) (F.noat 25) (se_var 0 (pe_var rfl (.inl rfl)))) sa_nil)) (nomark _))))) (ss_one (ss_raise (F.exi_BadText) (by decide) rfl bx_takes (hr.mono (by omega)) rfl (sa_cons (se_var 2 (pe_var rfl (.inl rfl))) sa_nil) (by decide))) ss_nil)
    (ss_cons (ss_if (st_cmp (s_ne hr.units) (se_ix (se_fld "FormReader" "text" (F.cls 24) (F.noat 25) (se_var 0 (pe_var rfl (.inl rfl)))) (se_var 2 (pe_var rfl (.inl rfl)))) se_str (nomark _)) (ss_cons (ss_set 3 sc.nd rfl (.inl rfl) (se_fn ((ok_read_leaf F).mono (by omega)) hr hgd bx_pass rfl (sa_cons (se_mth0 ((ok_FormReader_token F).mono (by omega)) hr hgd bx_pass (se_var 0 (pe_var rfl (.inl rfl)))) sa_nil)))
    (ss_cons (ss_if (st_cmp s_is (se_var 3 (pe_var rfl (.inl rfl))) se_non (nomark _)) (ss_one (ss_raise (F.exi_BadText) (by decide) rfl bx_takes (hr.mono (by omega)) rfl (sa_cons (se_var 2 (pe_var rfl (.inl rfl))) sa_nil) (by decide))) ss_nil)
    (ss_one (ss_ret (se_var 3 (pe_var rfl (.inl rfl))))))) ss_nil)
    (ss_cons (ss_augF "FormReader" "at" (F.cls 24) (F.noat 26) (se_var 0 (pe_var rfl (.inl rfl))) se_int i_add)
    (ss_cons (ss_set 4 sc.nd rfl (.inl rfl) (se_fld "FormReader" "at" (F.cls 24) (F.noat 26) (se_var 0 (pe_var rfl (.inl rfl)))))
    (ss_cons (ss_set 5 sc.nd rfl (.inl rfl) (se_mth0 ((ok_FormReader_token F).mono (by omega)) hr hgd bx_pass (se_var 0 (pe_var rfl (.inl rfl)))))
    (ss_cons (ss_if (st_cmp (s_notinT (F.tab_OPERANDS)) (se_var 5 (pe_var rfl (.inl rfl))) (se_glob (v := .ref _) rfl (F.glo 50) rfl fun _ _ => .fn _) rfl) (ss_one (ss_raise (F.exi_BadText) (by decide) rfl bx_takes (hr.mono (by omega)) rfl (sa_cons (se_var 4 (pe_var rfl (.inl rfl))) sa_nil) (by decide))) ss_nil)
    (ss_cons (ss_set 6 sc.nd rfl (.inl rfl) (se_new sa_nil))
    (ss_cons (ss_for (.nm 7) bx_po rfl (si_any (se_ixG (s_ixT (F.tab_OPERANDS)) (se_glob (v := .ref _) rfl (F.glo 50) rfl fun _ _ => .fn _) (se_var 5 (pe_var rfl (.inl rfl))))) (pg_name sc.nd rfl (.inl rfl)) (ss_cons (ss_expr (se_mth ((ok_FormReader_expect F).mono (by omega)) hr hgd bx_pass (se_var 0 (pe_var rfl (.inl rfl))) (sa_cons se_str sa_nil)))
    (ss_one (ss_expr (se_mt PySem.F.plainAttrs_list PySem.F.slot_list_append PySem.F.type_list_append s_append (se_var 6 (pe_var rfl (.inl rfl))) (sa_cons (se_mth (IH.mono (by omega)) hr hgd bx_pass (se_var 0 (pe_var rfl (.inl rfl))) (sa_cons (se_op s_add (se_var 1 (pe_var rfl (.inl rfl))) se_int) sa_nil)) sa_nil))))))
    (ss_cons (ss_expr (se_mth ((ok_FormReader_expect F).mono (by omega)) hr hgd bx_pass (se_var 0 (pe_var rfl (.inl rfl))) (sa_cons se_str sa_nil)))
    (ss_one (ss_ret (se_op s_add (se_tup (sa_cons (se_var 5 (pe_var rfl (.inl rfl))) sa_nil)) (se_bty s_tuple rfl (F.free 8) (by decide +kernel) (sa_cons (se_var 6 (pe_var rfl (.inl rfl))) sa_nil)))))))))))))))
theorem ok_read_expression {P : Program} {w : World} {K : PySem.W.Frag} {mg : Str → Option Value} {base : Heap} (F : FC w K mg) : Cal P w K mg base 21 "read_expression" [] f_read_expression := by
  obtain ⟨fd, FD⟩ := F.def_ 30 (d := d_read_expression)
  have sc := sc_read_expression
  refine cal_mk (F.glo 53) FD (fun _ _ _ _ _ _ us hl => match us, hl with | [_], _ => rfl) (ps := ["text"]) (fnG_of (k := 20) FD sc fun cdv A outer s H E hr hgd => ?_)
  exact (ss_cons (ss_if (st_not (st_tru (se_is "str" rfl (F.free 31) rfl (F.free 32) (by decide +kernel) (se_var 0 (pe_var rfl (.inl rfl)))))) (ss_one (ss_raise (F.exi_BadText) (by decide) rfl bx_takes (hr.mono (by omega)) rfl (sa_cons se_int sa_nil) (by decide))) ss_nil)
    (ss_cons (ss_set 1 sc.nd rfl (.inl rfl) (se_mk (ok_FormReader_init F) (hr.mono (by omega)) hgd bx_pass (F.keep 52) rfl (sa_cons (se_var 0 (pe_var rfl (.inl rfl))) sa_nil)))
    (ss_cons (ss_set 2 sc.nd rfl (.inl rfl) (se_mth ((ok_FormReader_form F 12).mono (by omega)) hr hgd bx_pass (se_var 1 (pe_var rfl (.inl rfl))) (sa_cons se_int sa_nil)))
    (ss_cons (ss_if (st_cmp s_lt (se_fld "FormReader" "at" (F.cls 24) (F.noat 26) (se_var 1 (pe_var rfl (.inl rfl)))) (se_blt s_len rfl (F.free 0) (by decide +kernel) (sa_cons (se_var 0 (pe_var rfl (.inl rfl))) sa_nil)) (nomark _)) (ss_one (ss_raise (F.exi_BadText) (by decide) rfl bx_takes (hr.mono (by omega)) rfl (sa_cons (se_fld "FormReader" "at" (F.cls 24) (F.noat 26) (se_var 1 (pe_var rfl (.inl rfl)))) sa_nil) (by decide))) ss_nil)
    (ss_one (ss_ret (se_var 2 (pe_var rfl (.inl rfl)))))))))
theorem ok_l_told {P : Program} {w : World} {K : PySem.W.Frag} {mg : Str → Option Value} {base : Heap} (F : FC w K mg) : Cal P w K mg base 22 "_law_told" [] f_l_told := by
  obtain ⟨fd, FD⟩ := F.def_ 31 (d := d_l_told)
  have sc := sc_l_told
  refine cal_mk (F.glo 58) FD (fun _ _ _ _ _ _ us hl => match us, hl with | [_], _ => rfl) (ps := ["_law_text"]) (fnG_of (k := 21) FD sc fun cdv A outer s H E hr hgd => ?_)
  exact (ss_one (ss_try rfl rfl sc.nd rfl rfl ⟨rfl, by decide, .inl (F.glo 56)⟩ bx_takes (fun c b h => by
      split at h
      · rename_i e
        subst e
        cases h
        exact F.exm 57
      · cases h) (fun W2 pn2 xe2 tk2 po2 => (ss_one (ss_ret (se_lst (sa_cons se_str (sa_cons (se_fn ((ok_read_expression F).mono (by omega)) hr hgd (passG_of tk2) rfl (sa_cons (se_var 0 (pe_var rfl (.inl rfl))) sa_nil)) sa_nil)))))) (fun a c fs h => by
      split at h
      · rename_i e
        subst e
        exact (sy_lst (sya_cons sy_str (sya_cons (sy_fld (F.exk_BadText).xf (F.noat 54) (fun _ _ => pe_var rfl (.inl rfl))) (sya_cons (sy_is (F.exk_BadText).exc (F.is_BadText_ValueError) (u := .ty "ValueError") (fun z h => h) rfl (F.free 31) (fun _ _ => pe_var rfl (.inl rfl)) (fun _ _ => pe_bltn (v := .ty "ValueError") rfl (F.free 55) (by decide +kernel) rfl)) sya_nil))))
      · cases h)))
theorem ok_show_number {P : Program} {w : World} {K : PySem.W.Frag} {mg : Str → Option Value} {base : Heap} (F : FC w K mg) : Cal P w K mg base 3 "show_number" [] f_show_number := by
  obtain ⟨fd, FD⟩ := F.def_ 32 (d := d_show_number)
  have sc := sc_show_number
  refine cal_mk (F.glo 59) FD (fun _ _ _ _ _ _ us hl => match us, hl with | [_], _ => rfl) (ps := ["number"]) (fnG_of (k := 2) FD sc fun cdv A outer s H E hr hgd => ?_)
  exact (ss_one (ss_ret (se_if (st_cmp (s_eq hr.units) (se_ix (se_var 0 (pe_var rfl (.inl rfl))) se_int) se_int (nomark _)) (se_bty s_str rfl (F.free 32) (by decide +kernel) (sa_cons (se_ix (se_var 0 (pe_var rfl (.inl rfl))) se_int) sa_nil)) (se_joined (sj_cons (se_fmt (se_ix (se_var 0 (pe_var rfl (.inl rfl))) se_int)) (sj_cons se_str (sj_cons (se_fmt (se_ix (se_var 0 (pe_var rfl (.inl rfl))) se_int)) sj_nil)))))))
theorem ok_show_value {P : Program} {w : World} {K : PySem.W.Frag} {mg : Str → Option Value} {base : Heap} (F : FC w K mg) : Cal P w K mg base 4 "show_value" [] f_show_value := by
  obtain ⟨fd, FD⟩ := F.def_ 33 (d := d_show_value)
  have sc := sc_show_value
  refine cal_mk (F.glo 60) FD (fun _ _ _ _ _ _ us hl => match us, hl with | [_], _ => rfl) (ps := ["value"]) (fnG_of (k := 3) FD sc fun cdv A outer s H E hr hgd => ?_)
  exact (ss_cons (ss_if (st_cmp s_is (se_var 0 (pe_var rfl (.inl rfl))) se_bl (nomark _)) (ss_one (ss_ret se_str)) ss_nil)
    (ss_cons (ss_if (st_cmp s_is (se_var 0 (pe_var rfl (.inl rfl))) se_bl (nomark _)) (ss_one (ss_ret se_str)) ss_nil)
    (ss_one (ss_ret (se_if (st_tru (se_is "str" rfl (F.free 31) rfl (F.free 32) (by decide +kernel) (se_var 0 (pe_var rfl (.inl rfl))))) (se_op s_add se_str (se_var 0 (pe_var rfl (.inl rfl)))) (se_fn ((ok_show_number F).mono (by omega)) hr hgd bx_pass rfl (sa_cons (se_var 0 (pe_var rfl (.inl rfl))) sa_nil)))))))
theorem ok_show_expression {P : Program} {w : World} {K : PySem.W.Frag} {mg : Str → Option Value} {base : Heap} (F : FC w K mg) : ∀ n : Nat, Cal P w K mg base (5 + n) "show_expression" [] (f_show_expression n)
  | 0 => by
    obtain ⟨fd, FD⟩ := F.def_ 34 (d := d_show_expression)
    exact cal_mk (F.glo 61) FD (fun _ _ _ _ _ _ us hl => match us, hl with | [_], _ => rfl) (ps := ["expression"]) fnG_bad
  | n + 1 => by
    obtain ⟨fd, FD⟩ := F.def_ 34 (d := d_show_expression)
    have IH : Cal P w K mg base (5 + n) "show_expression" [] (f_show_expression n) := ok_show_expression F n
    have sc := sc_show_expression
    refine cal_mk (F.glo 61) FD (fun _ _ _ _ _ _ us hl => match us, hl with | [_], _ => rfl) (ps := ["expression"]) (fnG_of (k := 5 + n) FD sc fun cdv A outer s H E hr hgd => ?_)
    exact (ss_cons (ss_if (st_cmp (s_eq hr.units) (se_ix (se_var 0 (pe_var rfl (.inl rfl))) se_int) se_str (nomark _)) (ss_one (ss_ret (se_ix (se_var 0 (pe_var rfl (.inl rfl))) se_int))) ss_nil)
    (ss_cons (ss_if (st_cmp (s_eq hr.units) (se_ix (se_var 0 (pe_var rfl (.inl rfl))) se_int) se_str (nomark _)) (ss_one (ss_ret (se_op s_add se_str (se_fn ((ok_show_value F).mono (by omega)) hr hgd bx_pass rfl (sa_cons (se_ix (se_var 0 (pe_var rfl (.inl rfl))) se_int) sa_nil))))) ss_nil)
    (ss_one (ss_ret (se_op s_add (se_op s_add se_str (se_mt PySem.F.plainAttrs_str PySem.F.slot_str_join PySem.F.type_str_join s_join se_str (sa_cons (se_op s_add (se_lst (sa_cons (se_ix (se_var 0 (pe_var rfl (.inl rfl))) se_int) sa_nil)) (se_lc false [("operand", 1)] (.nm 1) rfl sc.nd (si_any (se_sl false (se_var 0 (pe_var rfl (.inl rfl))) (so_some se_int) so_none)) (blkOk_by (N := nm_show_expression) (sc := defScope t_show_expression) (by decide +kernel)) (fun s H C cl fp => (pg_name sc.nd rfl (.inl rfl))) (fun s H C cl fp => sts_nil) (fun s H C cl fp => (se_fn (IH.mono (by omega)) hr hgd passG_0 rfl (sa_cons (se_var 1 (pe_var rfl (.inl rfl))) sa_nil))))) sa_nil))) se_str)))))
theorem ok_law {P : Program} {w : World} {K : PySem.W.Frag} {mg : Str → Option Value} (F : FC w K mg) : ∃ fd : FuncData, (∀ (s : Shared) (u : Value), BindsTo s fd ⟨[u], []⟩ [("_law_script", u)]) ∧ ∀ base : Heap, FnG P w K mg base 23 (He.ga K "law") fd ["_law_script"] f_law := by
  obtain ⟨fd, FD⟩ := F.def_ 35 (d := d_law)
  have sc := sc_law
  refine ⟨fd, fun s u => FD.bindsA (ps := ["_law_script"]) (fun _ _ _ _ _ _ us hl => match us, hl with | [_], _ => rfl) s [u] rfl, fun base => fnG_of (k := 22) FD sc fun cdv A outer s H E hr hgd => ?_⟩
  exact (ss_cons (ss_set 1 sc.nd rfl (.inl rfl) (se_fn ((ok_l_tape F).mono (by omega)) hr hgd bx_pass rfl (sa_cons (se_var 0 (pe_var rfl (.inl rfl))) sa_nil)))
    (ss_cons (ss_set 2 sc.nd rfl (.inl rfl) (se_fn ((ok_l_columns F).mono (by omega)) hr hgd bx_pass rfl (sa_cons (se_var 1 (pe_var rfl (.inl rfl))) (sa_cons (se_tup (sa_cons se_str sa_nil)) (sa_cons se_int (sa_cons (se_tup sa_nil) sa_nil))))))
    (ss_cons (ss_set 3 sc.nd rfl (.inl rfl) (se_lst (sa_cons se_str (sa_cons se_str (sa_cons se_str (sa_cons se_str (sa_cons se_str (sa_cons se_str (sa_cons se_str (sa_cons se_str (sa_cons se_str (sa_cons se_str (sa_cons se_str sa_nil)))))))))))))
    (ss_cons (ss_set 3 sc.nd rfl (.inl rfl) (se_op s_add (se_var 3 (pe_var rfl (.inl rfl))) (se_lst (sa_cons se_str (sa_cons se_str (sa_cons se_str (sa_cons se_str (sa_cons se_str (sa_cons se_str (sa_cons se_str (sa_cons se_str (sa_cons se_str (sa_cons se_str (sa_cons se_str sa_nil))))))))))))))
    (ss_cons (ss_set 3 sc.nd rfl (.inl rfl) (se_op s_add (se_var 3 (pe_var rfl (.inl rfl))) (se_lst (sa_cons se_str (sa_cons se_str (sa_cons se_str (sa_cons se_str (sa_cons se_str (sa_cons se_str (sa_cons (se_op s_add se_str (se_op s_mul se_str se_int)) (sa_cons (se_op s_add se_str (se_op s_mul se_str se_int)) sa_nil)))))))))))
    (ss_cons (ss_set 3 sc.nd rfl (.inl rfl) (se_op s_add (se_var 3 (pe_var rfl (.inl rfl))) (se_lst (sa_cons (se_op s_add se_str (se_op s_mul se_str se_int)) (sa_cons (se_op s_mul se_str se_int) (sa_cons (se_op s_add se_str (se_op s_mul se_str se_int)) (sa_cons (se_op s_mul se_str se_int) (sa_cons (se_op s_add (se_op s_add (se_op s_mul se_str se_int) se_str) (se_op s_mul se_str se_int)) sa_nil))))))))
    (ss_cons (ss_set 3 sc.nd rfl (.inl rfl) (se_op s_add (se_var 3 (pe_var rfl (.inl rfl))) (se_lst (sa_cons (se_op s_add (se_op s_add (se_op s_mul se_str se_int) se_str) (se_op s_mul se_str se_int)) (sa_cons se_str (sa_cons se_str (sa_cons se_str sa_nil)))))))
    (ss_cons (ss_for (.nm 4) bx_po rfl (si_any (se_var 3 (pe_var rfl (.inl rfl)))) (pg_name sc.nd rfl (.inl rfl)) (ss_one (ss_if (st_cmp (s_ne hr.units) (se_blt (s_repr hgd hr.units) rfl (F.free 62) (by decide +kernel) (sa_cons (se_fn ((ok_l_told F).mono (by omega)) hr hgd bx_pass rfl (sa_cons (se_var 4 (pe_var rfl (.inl rfl))) sa_nil)) sa_nil)) (se_blt (s_repr hgd hr.units) rfl (F.free 62) (by decide +kernel) (sa_cons (se_fn ((ok_l_due F).mono (by omega)) hr hgd bx_pass rfl (sa_cons (se_var 4 (pe_var rfl (.inl rfl))) sa_nil)) sa_nil)) (nomark _)) (ss_one (ss_ret se_bl)) ss_nil)))
    (ss_cons (ss_for (.nm 5) bx_po rfl (si_any (se_lst (sa_cons se_non (sa_cons se_int (sa_cons (se_lst (sa_cons se_str sa_nil)) (sa_cons (se_tup (sa_cons se_str sa_nil)) (sa_cons se_bl sa_nil))))))) (pg_name sc.nd rfl (.inl rfl)) (ss_one (ss_if (st_cmp (s_ne hr.units) (se_fn ((ok_l_told F).mono (by omega)) hr hgd bx_pass rfl (sa_cons (se_var 5 (pe_var rfl (.inl rfl))) sa_nil)) (se_lst (sa_cons se_str (sa_cons se_int (sa_cons se_bl sa_nil)))) (nomark _)) (ss_one (ss_ret se_bl)) ss_nil)))
    (ss_cons (ss_for (.nm 6) bx_po rfl (si_range rfl (F.free 4) (sa_cons se_int sa_nil)) (pg_name sc.nd rfl (.inl rfl)) (ss_cons (ss_set 7 sc.nd rfl (.inl rfl) (se_ix (se_lst (sa_cons se_str (sa_cons se_str (sa_cons se_str sa_nil)))) (se_fn ((ok_l_draw F).mono (by omega)) hr hgd bx_pass rfl (sa_cons (se_var 1 (pe_var rfl (.inl rfl))) (sa_cons se_int sa_nil)))))
    (ss_cons (ss_set 4 sc.nd rfl (.inl rfl) (se_fn ((ok_show_expression F 8).mono (by omega)) hr hgd bx_pass rfl (sa_cons (se_fn ((ok_l_expression F 7).mono (by omega)) hr hgd bx_pass rfl (sa_cons (se_var 1 (pe_var rfl (.inl rfl))) (sa_cons (se_var 2 (pe_var rfl (.inl rfl))) (sa_cons (se_var 7 (pe_var rfl (.inl rfl))) (sa_cons se_int sa_nil))))) sa_nil)))
    (ss_cons (ss_set 8 sc.nd rfl (.inl rfl) (se_fn ((ok_l_bent F).mono (by omega)) hr hgd bx_pass rfl (sa_cons (se_var 1 (pe_var rfl (.inl rfl))) (sa_cons (se_var 4 (pe_var rfl (.inl rfl))) sa_nil))))
    (ss_one (ss_for (.nm 9) bx_po rfl (si_any (se_lst (sa_cons (se_var 8 (pe_var rfl (.inl rfl))) (sa_cons (se_fn ((ok_l_bent F).mono (by omega)) hr hgd bx_pass rfl (sa_cons (se_var 1 (pe_var rfl (.inl rfl))) (sa_cons (se_var 8 (pe_var rfl (.inl rfl))) sa_nil))) sa_nil)))) (pg_name sc.nd rfl (.inl rfl)) (ss_one (ss_if (st_cmp (s_ne hr.units) (se_blt (s_repr hgd hr.units) rfl (F.free 62) (by decide +kernel) (sa_cons (se_fn ((ok_l_told F).mono (by omega)) hr hgd bx_pass rfl (sa_cons (se_var 9 (pe_var rfl (.inl rfl))) sa_nil)) sa_nil)) (se_blt (s_repr hgd hr.units) rfl (F.free 62) (by decide +kernel) (sa_cons (se_fn ((ok_l_due F).mono (by omega)) hr hgd bx_pass rfl (sa_cons (se_var 9 (pe_var rfl (.inl rfl))) sa_nil)) sa_nil)) (nomark _)) (ss_one (ss_ret se_bl)) ss_nil))))))))
    (ss_one (ss_ret se_bl))))))))))))
theorem law_glo {w : World} {K : PySem.W.Frag} {mg : Str → Option Value} (F : FC w K mg) : mg "law" = some (.ref (He.ga K "law")) := F.glo 63
def lawLevel : Nat := 23
end K77
namespace K77
open PySem PySem.Spec PyProof.Rows L2 Mi
/-! ### the tape -/
def Tp (t n : Nat) (S : Sto) : Prop := ∃ (ns : List Int) (i v m : Int), S[t]? = some (.lst [.lst (ns.map .int), .int i, .int v, .int m]) ∧ 0 ≤ i ∧ i ≤ n ∧ 0 ≤ v ∧ 0 ≤ m ∧ m < 2147483647
theorem Tp.mono {t n n' : Nat} {S : Sto} (h : Tp t n S) (e : n ≤ n') : Tp t n' S := by
  obtain ⟨ns, i, v, m, h1, h2, h3, h4⟩ := h
  exact ⟨ns, i, v, m, h1, h2, by omega, h4⟩
theorem Tp.fz {t n : Nat} {S S' : Sto} (h : Tp t n S) (f : Fz S S') : Tp t n S' := by
  obtain ⟨ns, i, v, m, h1, h2⟩ := h
  exact ⟨ns, i, v, m, f.get h1, h2⟩
theorem Tp.lt {t n : Nat} {S : Sto} (h : Tp t n S) : t < S.length := by
  obtain ⟨ns, i, v, m, h1, h2⟩ := h
  exact lt_of_get h1
theorem draw_ok {t n : Nat} {S : Sto} {many : Int} {P : A → Sto → Prop} {E : Str → List (Str × A) → Sto → Prop} (h : Tp t n S) (hn : n < 10 ^ 15) (h0 : 0 < many) (h1 : many < 10 ^ 50)
    (k : ∀ d S', 0 ≤ d → d < many → Tp t (n + 1) S' → Fr t S S' → P (.int d) S') : Hs (f_l_draw [.loc t, .int many] S) P E := by
  obtain ⟨ns, i, v, m, e, i0, i1, v0, m0, m1'⟩ := h
  have lt := lt_of_get e
  have lm : many.natAbs.log2 < 9000 := Nat.lt_trans (log_small (n := many.toNat) (by omega) (by omega) (by omega)) (by omega)
  have hs : ∀ o : AO, (S.set t o)[t]? = some o := fun o => get_set_self lt
  have fr : ∀ o : AO, Fr t S (S.set t o) := fun o => Fr.refl.set
  have P9 : (0 : Int) < 2147483647 := by decide
  clear lt
  have mk : ∀ (i v m : Int) (d : Int), 0 ≤ d → d < many → 0 ≤ i → i ≤ n + 1 → 0 ≤ v → 0 ≤ m → m < 2147483647 → P (.int d) (S.set t (.lst [.lst (ns.map .int), .int i, .int v, .int m])) :=
    fun i v m d a1 a2 a3 a4 a5 a6 a7 => k d _ a1 a2 ⟨ns, i, v, m, hs _, a3, by omega, a5, a6, a7⟩ (fr _)
  have dv : ∀ c : Int, 0 ≤ c → 0 ≤ c / many := fun c h => Int.ediv_nonneg h (by omega)
  have m1 : ∀ c : Int, 0 ≤ c % many := fun c => Int.emod_nonneg c (by omega)
  have m2 : ∀ c : Int, c % many < many := fun c => Int.emod_lt_of_pos c h0
  have p1 : ∀ c : Int, 0 ≤ c % 2147483647 := fun c => Int.emod_nonneg c (by omega)
  have p2 : ∀ c : Int, c % 2147483647 < 2147483647 := fun c => Int.emod_lt_of_pos c P9
  have L1 : (i + 1).natAbs.log2 < 2000 := log_small (n := n + 1) (by omega) (by omega) (by omega)
  have L0 : (7919 : Nat).log2 = 12 := by decide
  have L2' : (48271 : Nat).log2 = 15 := by decide
  have L3 : ∀ m : Int, 0 ≤ m → m < 2147483647 → m.natAbs.log2 < 2000 := fun m h1 h2 => log_small (n := 2147483647) h1 (by omega) (by omega)
  have L4 : ∀ m : Int, 0 ≤ m → m < 2147483647 → m.natAbs < 2 ^ 64 := fun m h1 h2 => by omega
  unfold f_l_draw m_l_draw
  by_cases hv : 0 < v
  · simp [e, atI0, atI1, atI2, atI3, ixN, hs, hv, h0, lm]
    exact mk _ _ _ _ (m1 _) (m2 _) i0 (by omega) (dv _ v0) m0 m1'
  · by_cases hi : i < ns.length
    · obtain ⟨c, hc⟩ : ∃ c, atI (ns.map A.int) i = some (.int c) := by
        rw [atI_pos i0, List.getElem?_map, List.getElem?_eq_getElem (by omega)]
        exact ⟨_, rfl⟩
      by_cases hb : 1000000000000000000 ≤ c
      · simp [e, atI0, atI1, atI2, atI3, ixN, hs, hv, hi, hc, hb, h0, lm]
        exact mk _ _ _ _ (m1 _) (m2 _) (by omega) (by omega) (dv _ (by omega)) m0 m1'
      · simp [e, atI0, atI1, atI2, atI3, ixN, hs, hv, hi, hc, hb, h0, lm, L0]
        have g := p1 (m * 48271 + (c % 2147483647 + 7919 * (i + 1) + 11))
        have g2 := p2 (m * 48271 + (c % 2147483647 + 7919 * (i + 1) + 11))
        exact ⟨by omega, by have := L3 m m0 m1'; omega, by omega, mk _ _ _ _ (m1 _) (m2 _) (by omega) (by omega) v0 g g2⟩
    · simp [e, atI0, atI1, atI2, atI3, ixN, hs, hv, hi, h0, lm, L0]
      have g := p1 (m * 48271 + (7919 * (i + 1) + 11))
      have g2 := p2 (m * 48271 + (7919 * (i + 1) + 11))
      exact ⟨by omega, by have := L3 m m0 m1'; omega, by omega, mk _ _ _ _ (m1 _) (m2 _) (by omega) (by omega) v0 g g2⟩
end K77
namespace K77
open PySem PySem.Spec PyProof.Rows L2 Mi
def nameS : List Nat → Bool
  | [] => false
  | c :: r => decide (r.length < 12) && (decide (c ∈ ("abcdefghijklmnopqrstuvwxyz" : Str).cps) && (c :: r).all fun c => decide (c ∈ ("abcdefghijklmnopqrstuvwxyz0123456789" : Str).cps))
theorem l_lc {z : Str} {l : List Nat} {v : Option A} {S : Sto} : lcM (.nm 1) (tOf (eOp opNotIn (eVar 1) (eC (.str z)))) (eVar 1) [v, none] (Mi.signs (txt l)) [] S = .ok ((l.filter fun c => !decide (c ∈ z.cps)).map fun c => .str ⟨#[c]⟩) S :=
  lcM_signs _ _ fun c _ => by simp [tOf, eOp, eVar, eC, opNotIn, inG, ansB, asB, R.bind]
theorem p_lc {z : Str} {l : List Nat} {v : Option A} {S : Sto} : lcM (.nm 1) tYesM (eOp opIn (eVar 1) (eC (.str z))) [v, none] (Mi.signs (txt l)) [] S = .ok (l.map fun c => .bl (decide (c ∈ z.cps))) S := by
  rw [lcM_signs (fun _ => true) (fun c => .bl (decide (c ∈ z.cps))) fun c _ => by simp [tYesM, eOp, eVar, eC, opIn, inG, ansB, R.bind]]
  rw [List.filter_eq_self.mpr fun _ _ => rfl]
theorem items_txt {l : List Nat} {S : Sto} : itemsW S (.str (txt l)) = some (Mi.signs (txt l)) := rfl
theorem len_signs {l : List Nat} : (Mi.signs (txt l)).length = l.length := by simp [Mi.signs]
theorem wipe1 {v : Option A} : wipeE [v, none] [1] = [v, none] := rfl
theorem canLay_strs : ∀ l : List Nat, (∀ c ∈ l, c < 1000) → PyData.canLayAll0 (l.map fun c => .str ⟨#[c]⟩) = true
  | [], _ => by simp [PyData.canLayAll0]
  | c :: l, h => by
    have h1 := h c (List.mem_cons_self ..)
    simp [PyData.canLayAll0, PyData.canLay0, PyData.strOk, canLay_strs l fun d hd => h d (List.mem_cons_of_mem _ hd)]
    omega
theorem depth_strs : ∀ l : List Nat, PyData.depthAll (l.map fun c => .str ⟨#[c]⟩) = 0
  | [] => by simp [PyData.depthAll]
  | c :: l => by simp [PyData.depthAll, PyData.depth, depth_strs l]
theorem eqS_nil {l : List Nat} {S : Sto} (h : ∀ c ∈ l, c < 1000) : eqG S (.lst (l.map fun c => .str ⟨#[c]⟩)) (.lst []) = some l.isEmpty := by
  show eqD S _ _ = _
  unfold eqD toD
  simp only [toD0, toD0s_strs, toD0s, Option.map_some]
  have e1 : SeqAt.shaped (PyData.list (l.map fun c => PyData.str ⟨#[c]⟩)) = true := by
    simp [SeqAt.shaped, PyData.canLay0, canLay_strs l h, PyData.depth, depth_strs]
  have e2 : SeqAt.shaped (PyData.list []) = true := by decide
  rw [if_pos ⟨e1, e2⟩]
  cases l <;> simp [PyData.eqv, PyData.eqvAll]
theorem all_no {l : List Nat} {z : Str} : (l.filter fun c => !decide (c ∈ z.cps)).isEmpty = l.all fun c => decide (c ∈ z.cps) := by
  induction l with
  | nil => rfl
  | cons c l ih => by_cases h : c ∈ z.cps <;> simp [h, ih]
theorem nameS_cases (l : List Nat) : (l.length < 1 ∧ nameS l = false) ∨ (12 < l.length ∧ nameS l = false) ∨ (1 ≤ l.length ∧ l.length ≤ 12 ∧ ∃ c, l[0]? = some c ∧ ((c ∉ ("abcdefghijklmnopqrstuvwxyz" : Str).cps ∧ nameS l = false) ∨ (c ∈ ("abcdefghijklmnopqrstuvwxyz" : Str).cps ∧ (l.all fun c => decide (c ∈ ("abcdefghijklmnopqrstuvwxyz0123456789" : Str).cps)) = nameS l))) := by
  cases l with
  | nil => exact .inl ⟨by decide, rfl⟩
  | cons c r =>
    by_cases h1 : r.length < 12
    · refine .inr (.inr ⟨by simp, by simp; omega, c, rfl, ?_⟩)
      by_cases h2 : c ∈ ("abcdefghijklmnopqrstuvwxyz" : Str).cps
      · exact .inr ⟨h2, by simp [nameS, h1, h2]⟩
      · exact .inl ⟨h2, by simp [nameS, h2]⟩
    · exact .inr (.inl ⟨by simp; omega, by simp [nameS, h1]⟩)
theorem l_is_name_ok {l : List Nat} {S : Sto} (hl : l.length ≤ 10000000) (hc : ∀ c ∈ l, c < 1000) : f_l_is_name [.str (txt l)] S = .ok (.bl (nameS l)) S := by
  apply ok_of_hs
  unfold f_l_is_name m_l_is_name
  have hq : ∀ z : Str, eqG S (.lst ((l.filter fun c => !decide (c ∈ z.cps)).map fun c => .str ⟨#[c]⟩)) (.lst []) = some (l.all fun c => decide (c ∈ z.cps)) := fun z => by
    rw [eqS_nil fun c h => hc c (List.mem_filter.mp h).1, all_no]
  rcases nameS_cases l with ⟨h, hn⟩ | ⟨h, hn⟩ | ⟨h, h', c, hc0, ⟨h2, hn⟩ | ⟨h2, hn⟩⟩
  · have e : ¬ (1 : Int) ≤ l.length := by omega
    simp [len_txt, hl, e, hn]
  · have e : (1 : Int) ≤ l.length := by omega
    have e2 : ¬ (l.length : Int) ≤ 12 := by omega
    simp [len_txt, hl, e, e2, hn]
  · have e : (1 : Int) ≤ l.length := by omega
    have e2 : (l.length : Int) ≤ 12 := by omega
    simp [len_txt, hl, e, e2, hn, atI_pos, hc0, h2]
  · have e : (1 : Int) ≤ l.length := by omega
    have e2 : (l.length : Int) ≤ 12 := by omega
    have hq' := hq ("abcdefghijklmnopqrstuvwxyz0123456789" : Str)
    rw [hn] at hq'
    simp [len_txt, hl, e, e2, atI_pos, hc0, h2, items_txt, len_signs, wipe1, l_lc, hs_eq, hq']
theorem is_name_ok {l : List Nat} {S : Sto} (hl : l.length ≤ 10000000) : f_is_name [.str (txt l)] S = .ok (.bl (nameS l)) S := by
  apply ok_of_hs
  unfold f_is_name m_is_name
  have ba : ∀ z : Str, bAll [.lst (l.map fun c => .bl (decide (c ∈ z.cps)))] S = .ok (.bl (l.all fun c => decide (c ∈ z.cps))) S := fun z => by
    simp [bAll, lstOf, blsOf_map, List.all_map, orBad]
  rcases nameS_cases l with ⟨h, hn⟩ | ⟨h, hn⟩ | ⟨h, h', c, hc0, ⟨h2, hn⟩ | ⟨h2, hn⟩⟩
  · have e : ¬ (1 : Int) ≤ l.length := by omega
    simp [len_txt, hl, e, hn, tyN, kitB, truA]
  · have e : (1 : Int) ≤ l.length := by omega
    have e2 : ¬ (l.length : Int) ≤ 12 := by omega
    simp [len_txt, hl, e, e2, hn, tyN, kitB, truA]
  · have e : (1 : Int) ≤ l.length := by omega
    have e2 : (l.length : Int) ≤ 12 := by omega
    simp [len_txt, hl, e, e2, hn, atI_pos, hc0, h2, tyN, kitB, truA]
  · have e : (1 : Int) ≤ l.length := by omega
    have e2 : (l.length : Int) ≤ 12 := by omega
    have hq' := ba ("abcdefghijklmnopqrstuvwxyz0123456789" : Str)
    rw [hn] at hq'
    simp [len_txt, hl, e, e2, atI_pos, hc0, h2, tyN, kitB, truA, items_txt, len_signs, wipe1, p_lc, hq']
end K77
namespace K77
open PySem PySem.Spec PyProof.Rows L2 Mi
theorem common_divisor_ok (a b : Int) (ha : a.natAbs < 2 ^ 200) (hb : b.natAbs < 2 ^ 200) (S : Sto) : f_common_divisor [.int a, .int b] S = .ok (.int (Nat.gcd a.natAbs b.natAbs : Nat)) S := by
  apply ok_of_hs
  unfold f_common_divisor m_common_divisor
  simp only [hs_fnM, List.length_cons, List.length_nil, List.map_cons, List.map_nil, Nat.sub_self, List.replicate_zero, List.append_nil, true_and, hS_sSeq, hS_sPar, hs_acons, hs_anil, hs_call, hs_var0, hs_varS, hs_abs, abs_eq, hS_sWhile, List.set_cons_zero, List.set_cons_succ]
  refine ⟨_, _, rfl, ?_⟩
  refine hS_while (fun m env S' => S' = S ∧ ∃ x y : Nat, env = [some (.int x), some (.int y)] ∧ Nat.gcd x y = Nat.gcd a.natAbs b.natAbs ∧ gm m x y) ?_ FU 401 _ _ (by decide) ⟨rfl, _, _, rfl, rfl, gm_start ha hb⟩
  rintro m env S' ⟨rfl, x, y, rfl, hg, hm⟩
  by_cases hy : y = 0
  · subst hy
    simp at hg
    simp [hg]
  · have hy' : 0 < y := Nat.pos_of_ne_zero hy
    obtain ⟨m', h1, h2⟩ := gm_step hm hy'
    have e : ¬ ((y : Int) = 0) := by omega
    have e2 : (0 : Int) < y := by omega
    simp [e, e2]
    refine .inr ⟨hy, hy', _, _, ⟨rfl, rfl⟩, m', h1, y, x % y, ⟨rfl, by simp⟩, ?_, h2⟩
    rw [← hg, Nat.gcd_comm x y, Nat.gcd_rec y x, Nat.gcd_comm]
theorem l_lowest_ok (n d : Int) (hn : n.natAbs < 2 ^ 200) (h0 : 1 ≤ d) (hd : d.natAbs < 2 ^ 200) (S : Sto) : f_l_lowest [.int n, .int d] S = .ok (.tup [.int (n / (Nat.gcd n.natAbs d.natAbs : Nat)), .int (d / (Nat.gcd n.natAbs d.natAbs : Nat))]) S := by
  have gpos : 0 < Nat.gcd n.natAbs d.natAbs := Nat.gcd_pos_of_pos_right _ (by omega)
  have gle : Nat.gcd n.natAbs d.natAbs ≤ d.natAbs := Nat.le_of_dvd (by omega) (Nat.gcd_dvd_right _ _)
  apply ok_of_hs
  unfold f_l_lowest m_l_lowest
  simp [abs_eq, hS_sWhile]
  refine hS_while (fun m env S' => S' = S ∧ ∃ (x y : Nat) (z : Option A), env = [some (.int n), some (.int d), some (.int x), some (.int y), z] ∧ Nat.gcd x y = Nat.gcd n.natAbs d.natAbs ∧ gm m x y) ?_ FU 401 _ _ (by decide) ⟨rfl, n.natAbs, d.natAbs, none, by simp; omega, rfl, gm_start hn hd⟩
  rintro m env S' ⟨rfl, x, y, z, rfl, hg, hm⟩
  by_cases hy : y = 0
  · subst hy
    simp at hg
    subst hg
    have l9 := log_lt (i := (Nat.gcd n.natAbs d.natAbs : Nat)) (k := 200) (n := 9000) (by simp; omega) (by decide) (by decide)
    simp at l9
    have p2 : (0 : Int) < (Nat.gcd n.natAbs d.natAbs : Nat) := by omega
    simp [l9, p2]
    omega
  · have hy' : 0 < y := Nat.pos_of_ne_zero hy
    obtain ⟨m', h1, h2⟩ := gm_step hm hy'
    have e2 : (0 : Int) < y := by omega
    simp [e2]
    refine .inr ⟨hy', m', h1, y, x % y, ⟨rfl, by simp⟩, ?_, h2⟩
    rw [← hg, Nat.gcd_comm x y, Nat.gcd_rec y x, Nat.gcd_comm]
end K77
namespace K77
open PySem PySem.Spec PyProof.Rows L2 Mi
def up (l : List Nat) : List Nat := l.takeWhile (· != 47)
def dn (l : List Nat) : List Nat := l.dropWhile (· != 47)
def digS (l : List Nat) : Option Nat := if l = [] ∨ 41 < l.length ∨ (l.all fun c => decide (c ∈ ("0123456789" : Str).cps)) = false ∨ (1 < l.length ∧ l.head? = some 48) then none else some (NumText.digitsVal l)
def botS : List Nat → Option Nat
  | [] => some 1
  | _ :: b => (digS b).bind fun d => if d < 2 then none else some d
def bodyS : List Nat → List Nat
  | 45 :: r => r
  | l => l
def numS (l : List Nat) : Option A := (digS (up (bodyS l))).bind fun n => (botS (dn (bodyS l))).bind fun d =>
  if l = [45, 48] ∨ Nat.gcd n d ≠ 1 ∨ 10 ^ 40 < n ∨ 10 ^ 40 < d then none else some (.tup [.int (if l.head? = some 45 then -(n : Int) else n), .int d])
def dA : Option Nat → A
  | none => .non
  | some n => .int n
def vA : Option A → A
  | none => .non
  | some a => a
theorem mem_DG {c : Nat} : c ∈ ("0123456789" : Str).cps ↔ 48 ≤ c ∧ c ≤ 57 := by
  have e : ("0123456789" : Str).cps.toList = [48, 49, 50, 51, 52, 53, 54, 55, 56, 57] := by decide
  rw [← Array.mem_toList_iff, e]
  simp
  omega
theorem digS_lt {l : List Nat} {n : Nat} (h : digS l = some n) : n < 2 ^ 200 := by
  unfold digS at h
  split at h
  · cases h
  · rename_i q
    cases h
    simp only [not_or, Bool.not_eq_false] at q
    obtain ⟨_, h1, h2, _⟩ := q
    have g : ∀ (l : List Nat) (a : Nat), (l.all fun c => decide (c ∈ ("0123456789" : Str).cps)) = true → l.foldl (fun acc c => acc * 10 + (c - 48)) a < (a + 1) * 10 ^ l.length := by
      intro l
      induction l with
      | nil => intro a _; simp
      | cons c l ih =>
        intro a h
        simp only [List.all_cons, Bool.and_eq_true, decide_eq_true_eq] at h
        have h3 := mem_DG.mp h.1
        have h4 := ih (a * 10 + (c - 48)) h.2
        rw [List.foldl_cons, List.length_cons, Nat.pow_succ]
        have h5 : (a * 10 + (c - 48) + 1) * 10 ^ l.length ≤ ((a + 1) * 10) * 10 ^ l.length := Nat.mul_le_mul_right _ (by omega)
        have h6 : (a + 1) * 10 * 10 ^ l.length = (a + 1) * (10 ^ l.length * 10) := by rw [Nat.mul_assoc, Nat.mul_comm 10]
        omega
    have h3 := g l 0 h2
    have h4 : 10 ^ l.length ≤ 10 ^ 41 := Nat.pow_le_pow_right (by decide) (by omega)
    have h5 : (10 : Nat) ^ 41 < 2 ^ 200 := by decide
    unfold NumText.digitsVal
    omega
theorem botS_lt {l : List Nat} {n : Nat} (h : botS l = some n) : n < 2 ^ 200 ∧ 1 ≤ n := by
  cases l with
  | nil => cases h; decide
  | cons c l =>
    simp only [botS, Option.bind_eq_some_iff] at h
    obtain ⟨d, h1, h2⟩ := h
    split at h2
    · cases h2
    · cases h2
      exact ⟨digS_lt h1, by omega⟩
theorem digS_int {l : List Nat} {n : Nat} (h : digS l = some n) : l.length ≤ 41 ∧ PySem.intText? (txt l) = some (n : Int) := by
  unfold digS at h
  split at h
  · cases h
  · rename_i q
    cases h
    simp only [not_or, Bool.not_eq_false] at q
    obtain ⟨h0, h1, h2, _⟩ := q
    refine ⟨by omega, PySem.intText_digits (x := txt l) (fun c hc => mem_DG.mp ?_) h0 (by rw [len_txt]; omega)⟩
    exact of_decide_eq_true (List.all_eq_true.mp h2 c hc)
theorem digS_cases (l : List Nat) : (l = [] ∧ digS l = none) ∨ (l ≠ [] ∧ (l.all fun c => decide (c ∈ ("0123456789" : Str).cps)) = false ∧ digS l = none) ∨ (l ≠ [] ∧ (l.all fun c => decide (c ∈ ("0123456789" : Str).cps)) = true ∧ 41 < l.length ∧ digS l = none) ∨
    (l ≠ [] ∧ (l.all fun c => decide (c ∈ ("0123456789" : Str).cps)) = true ∧ l.length ≤ 41 ∧ ∃ c, l[0]? = some c ∧ ((c = 48 ∧ 1 < l.length ∧ l ≠ [48] ∧ digS l = none) ∨ ((c = 48 → l = [48]) ∧ (c = 48 → l.length = 1) ∧ ∃ n, digS l = some n ∧ PySem.intText? (txt l) = some (n : Int)))) := by
  by_cases h0 : l = []
  · exact .inl ⟨h0, by simp [digS, h0]⟩
  · cases h1 : l.all fun c => decide (c ∈ ("0123456789" : Str).cps) with
    | false => exact .inr (.inl ⟨h0, rfl, by unfold digS; rw [if_pos (.inr (.inr (.inl h1)))]⟩)
    | true =>
      by_cases h2 : 41 < l.length
      · exact .inr (.inr (.inl ⟨h0, rfl, h2, by unfold digS; rw [if_pos (.inr (.inl h2))]⟩))
      · refine .inr (.inr (.inr ⟨h0, rfl, by omega, ?_⟩))
        cases hl : l with
        | nil => exact absurd hl h0
        | cons c r =>
          refine ⟨c, rfl, ?_⟩
          rw [← hl]
          have hh : l.head? = some c := by rw [hl]; rfl
          by_cases h3 : 1 < l.length ∧ c = 48
          · refine .inl ⟨h3.2, h3.1, fun e => ?_, by unfold digS; rw [if_pos (.inr (.inr (.inr ⟨h3.1, by rw [hh, h3.2]⟩)))]⟩
            rw [e] at h3
            simp at h3
          · refine .inr ⟨fun e => ?_, fun e => ?_, ?_⟩
            · rw [hl] at h3 ⊢
              cases r with
              | nil => rw [e]
              | cons d r => exact absurd ⟨by simp, e⟩ h3
            · rw [hl] at h3 ⊢
              cases r with
              | nil => rfl
              | cons d r => exact absurd ⟨by simp, e⟩ h3
            · have e : digS l = some (NumText.digitsVal l) := by
                unfold digS
                rw [if_neg]
                simp only [not_or]
                refine ⟨h0, h2, by rw [h1]; simp, fun ⟨a, b⟩ => h3 ⟨a, ?_⟩⟩
                rw [hh] at b
                exact Option.some.inj b
              exact ⟨_, e, (digS_int e).2⟩
theorem lit_0 : ("0" : Str).cps.toList = [48] := by decide
theorem lit_e : ("" : Str).cps.toList = [] := by decide
theorem len_pos {l : List Nat} (h : l ≠ []) : 1 ≤ (l.length : Int) := by
  have := List.length_pos_iff.mpr h
  omega
theorem dg_lc {z : Str} {l : List Nat} {v : Option A} {S : Sto} : lcM (.nm 1) (tOf (eOp opNotIn (eVar 1) (eC (.str z)))) (eVar 1) [v, none] (Mi.signs (txt l)) [] S = .ok ((l.filter fun c => !decide (c ∈ z.cps)).map fun c => .str ⟨#[c]⟩) S := l_lc
theorem l_digits_ok {l : List Nat} {S : Sto} (hl : l.length ≤ 10000000) (hc : ∀ c ∈ l, c < 1000) : f_l_digits [.str (txt l)] S = .ok (dA (digS l)) S := by
  apply ok_of_hs
  unfold f_l_digits m_l_digits
  have hq : eqG S (.lst ((l.filter fun c => !decide (c ∈ ("0123456789" : Str).cps)).map fun c => .str ⟨#[c]⟩)) (.lst []) = some (l.all fun c => decide (c ∈ ("0123456789" : Str).cps)) := by
    rw [eqS_nil fun c h => hc c (List.mem_filter.mp h).1, all_no]
  rcases digS_cases l with ⟨h, hn⟩ | ⟨h, h1, hn⟩ | ⟨h, h1, h2, hn⟩ | ⟨h, h1, h2, c, hc0, ⟨h3, h4, h5, hn⟩ | ⟨h3, h4, n, hn, hi⟩⟩
  · subst h
    simp [hn, txt_eq, lit_e, dA]
  · rw [h1] at hq
    simp [hn, txt_eq, lit_e, dA, h, hl, len_txt, items_txt, len_signs, wipe1, l_lc, hs_ne, hq]
  · rw [h1] at hq
    have e : (41 : Int) < l.length := by omega
    simp [hn, txt_eq, lit_e, dA, h, hl, len_txt, items_txt, len_signs, wipe1, l_lc, hs_ne, hq, e]
  · rw [h1] at hq
    have e : ¬ (41 : Int) < l.length := by omega
    have e2 : (1 : Int) < l.length := by omega
    simp [hn, txt_eq, one_eq, lit_e, lit_0, dA, h, hl, len_txt, items_txt, len_signs, wipe1, l_lc, hs_ne, hq, e, e2, atI_pos, hc0, h3]
  · rw [h1] at hq
    have e : ¬ (41 : Int) < l.length := by omega
    have e3 : l.length ≤ 640 := by omega
    by_cases h5 : c = 48
    · have e2 : ¬ (1 : Int) < l.length := by have := h4 h5; omega
      simp [hn, txt_eq, one_eq, lit_e, lit_0, dA, h, hl, len_txt, items_txt, len_signs, wipe1, l_lc, hs_ne, hq, e, e2, e3, hi]
    · simp [hn, txt_eq, one_eq, lit_e, lit_0, dA, h, hl, len_txt, items_txt, len_signs, wipe1, l_lc, hs_ne, hq, e, atI_pos, hc0, h5, e3, hi]
      omega
theorem read_integer_ok {l : List Nat} {S : Sto} (hl : l.length ≤ 10000000) : f_read_integer [.str (txt l)] S = .ok (dA (digS l)) S := by
  apply ok_of_hs
  unfold f_read_integer m_read_integer
  have ba : ∀ z : Str, bAll [.lst (l.map fun c => .bl (decide (c ∈ z.cps)))] S = .ok (.bl (l.all fun c => decide (c ∈ z.cps))) S := fun z => by
    simp [bAll, lstOf, blsOf_map, List.all_map, orBad]
  have hq := ba ("0123456789" : Str)
  rcases digS_cases l with ⟨h, hn⟩ | ⟨h, h1, hn⟩ | ⟨h, h1, h2, hn⟩ | ⟨h, h1, h2, c, hc0, ⟨h3, h4, h5, hn⟩ | ⟨h3, h4, n, hn, hi⟩⟩
  · subst h
    simp [hn, dA, len_txt]
  · rw [h1] at hq
    have e := len_pos h
    by_cases e2 : (l.length : Int) ≤ 41
    · simp [hn, dA, hl, len_txt, items_txt, len_signs, wipe1, p_lc, hq, e, e2, truA]
    · simp [hn, dA, hl, len_txt, e, e2]
  · have e := len_pos h
    have e2 : ¬ (l.length : Int) ≤ 41 := by omega
    simp [hn, dA, hl, len_txt, e, e2]
  · rw [h1] at hq
    have e := len_pos h
    have e2 : (l.length : Int) ≤ 41 := by omega
    simp [hn, txt_eq, one_eq, lit_e, lit_0, dA, hl, len_txt, items_txt, len_signs, wipe1, p_lc, hq, e, e2, atI_pos, hc0, h3, h5, truA]
  · rw [h1] at hq
    have e := len_pos h
    have e2 : (l.length : Int) ≤ 41 := by omega
    have e3 : l.length ≤ 640 := by omega
    by_cases h5 : c = 48
    · have h6 := h3 h5
      simp [hn, txt_eq, one_eq, lit_e, lit_0, dA, hl, len_txt, items_txt, len_signs, wipe1, p_lc, hq, e, e2, e3, atI_pos, hc0, h5, truA]
      rw [h6] at hi ⊢
      simp [hi]
    · simp [hn, txt_eq, one_eq, lit_e, lit_0, dA, hl, len_txt, items_txt, len_signs, wipe1, p_lc, hq, e, e2, e3, atI_pos, hc0, h5, hi, truA]
theorem is_integer_ok (i : Int) (S : Sto) : f_is_integer [.int i] S = .ok (.bl true) S := by
  apply ok_of_hs
  unfold f_is_integer m_is_integer
  have e : kitB "int" "bool" = some false := by decide +kernel
  have e2 : kitB "int" "int" = some true := by decide +kernel
  simp [tyN, e, e2]
theorem is_rational_ok (a b : Int) (ha : a.natAbs < 2 ^ 200) (hb : b.natAbs < 2 ^ 200) (S : Sto) : f_is_rational [.tup [.int a, .int b]] S = .ok (.bl (decide (1 ≤ b) && decide (Nat.gcd a.natAbs b.natAbs = 1))) S := by
  apply ok_of_hs
  unfold f_is_rational m_is_rational
  simp [tyN, kitB, truA, atI0, atI1, is_integer_ok, common_divisor_ok _ _ ha hb]
  by_cases h : 1 ≤ b
  · refine .inr ⟨h, ?_⟩
    have e : ((Nat.gcd a.natAbs b.natAbs : Nat) : Int) = 1 ↔ Nat.gcd a.natAbs b.natAbs = 1 := by omega
    simp [h, e]
  · exact .inl ⟨by omega, fun z => absurd z h⟩
end K77
namespace K77
open PySem PySem.Spec PyProof.Rows L2 Mi
theorem is_within_limit_ok (a b : Int) (S : Sto) : f_is_within_limit [.tup [.int a, .int b]] S = .ok (.bl (decide (a.natAbs ≤ 10 ^ 40) && decide (b ≤ 10 ^ 40))) S := by
  apply ok_of_hs
  unfold f_is_within_limit m_is_within_limit
  have e : ((a.natAbs : Int) ≤ 10000000000000000000000000000000000000000) ↔ a.natAbs ≤ 10 ^ 40 := by omega
  by_cases h : a.natAbs ≤ 10 ^ 40
  · simp [atI0, atI1, abs_eq, e, h]
  · simp [atI0, atI1, abs_eq, e, h]
theorem lit_m : TL.tl ("-" : Str) = [45] := by decide
theorem lit_s : TL.tl ("/" : Str) = [47] := by decide
theorem lit_sl : ("/" : Str).length = 1 := by decide
theorem lit_m' : ("-" : Str).cps.toList = [45] := by decide
theorem lit_s' : ("/" : Str).cps.toList = [47] := by decide
theorem lit_m0 : ("-0" : Str).cps.toList = [45, 48] := by decide
theorem body_up (l : List Nat) : up (bodyS l) = bodyS (up l) ∧ dn (bodyS l) = dn l ∧ ((up l).head? = some 45 ↔ l.head? = some 45) := by
  unfold bodyS up dn
  cases l with
  | nil => simp
  | cons c r =>
    by_cases h : c = 45
    · subst h
      simp
    · by_cases h2 : c = 47
      · subst h2
        simp
      · have h3 : (c != 47) = true := by simpa using h2
        simp [h, h2, h3]
theorem num_eq (l : List Nat) : numS l = (digS (bodyS (up l))).bind fun n => (botS (dn l)).bind fun d =>
    if up l = [45, 48] ∨ Nat.gcd n d ≠ 1 ∨ 10 ^ 40 < n ∨ 10 ^ 40 < d then none else some (.tup [.int (if l.head? = some 45 then -(n : Int) else n), .int d]) := by
  obtain ⟨h1, h2, h3⟩ := body_up l
  unfold numS
  rw [h1, h2]
  rcases dropWhile_cases 47 l with ⟨a1, a2, a3⟩ | ⟨b, a1, a2, a3⟩
  · have e : up l = l := a3
    rw [e]
  · have e1 : dn l = 47 :: b := a1
    have e2 : l ≠ [45, 48] := fun e => by
      rw [e] at a1
      revert a1
      simp
    rw [e1]
    cases hD : digS (bodyS (up l)) with
    | none => rfl
    | some n =>
      cases hB : botS (47 :: b) with
      | none => rfl
      | some d =>
        simp only [Option.bind_some]
        by_cases hu : up l = [45, 48]
        · rw [hu] at hD
          have e3 : n = 0 := by
            have : digS (bodyS [45, 48]) = some 0 := by decide +kernel
            rw [this] at hD
            exact (Option.some.inj hD).symm
          have e4 : 2 ≤ d := by
            simp only [botS, Option.bind_eq_some_iff] at hB
            obtain ⟨d', _, q⟩ := hB
            split at q
            · cases q
            · cases q
              omega
          rw [if_pos (.inr (.inl (by rw [e3, Nat.gcd_zero_left]; omega))), if_pos (.inl hu)]
        · congr 1
          simp [e2, hu]
theorem vA_ne {o : Option A} : vA o = vA o := rfl
theorem read_number_ok {l : List Nat} {S : Sto} (hl : l.length ≤ 10000000) : f_read_number [.str (txt l)] S = .ok (vA (numS l)) S := by
  apply ok_of_hs
  rw [num_eq]
  obtain ⟨h1, h2, h3⟩ := body_up l
  have es : Txt.startswith (txt (up l)) "-" = decide (l.head? = some 45) := by
    rw [starts_pre (by rw [lit_m]; simp), lit_m, pre1]
    simp [h3]
  have hul : (up l).length ≤ l.length := (List.takeWhile_sublist _).length_le
  have hb : l.head? = some 45 → (up l).drop 1 = bodyS (up l) := fun e => by
    have := h3.mpr e
    cases hu : up l with
    | nil => rfl
    | cons c r =>
      rw [hu] at this
      simp at this
      subst this
      rfl
  have hb2 : ¬ l.head? = some 45 → bodyS (up l) = up l := fun e => by
    have := fun z => e (h3.mp z)
    cases hu : up l with
    | nil => rfl
    | cons c r =>
      rw [hu] at this
      simp at this
      simp [bodyS, this]
  have hbl : (bodyS (up l)).length ≤ 10000000 := by
    by_cases e : l.head? = some 45
    · rw [← hb e, List.length_drop]
      omega
    · rw [hb2 e]
      omega
  have eD := read_integer_ok (S := S) hbl
  have hp := partition_txt lit_s l
  unfold f_read_number m_read_number
  cases hw : dn l with
  | nil =>
    have hw' : l.dropWhile (· != 47) = [] := hw
    rw [hw'] at hp
    have hu : up l = l := by
      rcases dropWhile_cases 47 l with ⟨a1, a2, a3⟩ | ⟨b, a1, a2, a3⟩
      · exact a3
      · rw [hw'] at a1; cases a1
    rw [hu] at es hb hb2 eD hbl ⊢
    have lb : botS [] = some 1 := rfl
    rw [lb]
    by_cases hn : l.head? = some 45
    · have hb' := hb hn
      cases hD : digS (bodyS l) with
      | none => simp [hp, hl, len_txt, hS_sAsgT, asg, asgs, tupOf, es, hn, cut1, hb', eD, txt_eq, lit_e, lit_m0, lit_sl, hD, dA, vA]
      | some n =>
        have n2 := digS_lt hD
        simp [hp, hl, len_txt, hS_sAsgT, asg, asgs, tupOf, es, hn, cut1, hb', eD, txt_eq, lit_e, lit_m0, lit_sl, hD, dA, is_rational_ok (-(n : Int)) 1 (by omega) (by decide), is_within_limit_ok]
        by_cases q1 : l = [45, 48] <;> by_cases q3 : 10000000000000000000000000000000000000000 < n <;> simp [q1, q3, vA] <;> omega
    · have hb' := hb2 hn
      rw [hb'] at eD ⊢
      cases hD : digS l with
      | none => simp [hp, hl, len_txt, hS_sAsgT, asg, asgs, tupOf, es, hn, eD, txt_eq, lit_e, lit_m0, lit_sl, hD, dA, vA]
      | some n =>
        have n2 := digS_lt hD
        simp [hp, hl, len_txt, hS_sAsgT, asg, asgs, tupOf, es, hn, eD, txt_eq, lit_e, lit_m0, lit_sl, hD, dA, is_rational_ok (n : Int) 1 (by omega) (by decide), is_within_limit_ok]
        by_cases q1 : l = [45, 48] <;> by_cases q3 : 10000000000000000000000000000000000000000 < n <;> simp [q1, q3, vA] <;> omega
  | cons c b =>
    have hw' : l.dropWhile (· != 47) = c :: b := hw
    rw [hw'] at hp
    have hbl2 : b.length ≤ 10000000 := by
      have := (List.dropWhile_sublist (l := l) (· != 47)).length_le
      rw [hw', List.length_cons] at this
      omega
    have eB := read_integer_ok (S := S) hbl2
    have lb : botS (c :: b) = (digS b).bind fun d => if d < 2 then none else some d := rfl
    rw [lb]
    have nls : ¬ TL.tl ("/" : Str) = [] := by rw [lit_s]; simp
    have ne : ¬ (Str.ofString "/" = Str.ofString "") := by decide
    have hul' : (l.takeWhile (· != 47)).length ≤ l.length := hul
    have hu : l.takeWhile (· != 47) = up l := rfl
    rw [hu] at hp
    by_cases hn : l.head? = some 45
    · have hb' := hb hn
      cases hD : digS (bodyS (up l)) with
      | none =>
        cases hE : digS b with
        | none => simp [hp, hl, len_txt, hS_sAsgT, asg, asgs, tupOf, es, hn, cut1, hb', eD, eB, txt_eq, lit_e, lit_m0, lit_sl, hD, hE, dA, vA, ne, Nat.le_trans hul hl]
        | some d => simp [hp, hl, len_txt, hS_sAsgT, asg, asgs, tupOf, es, hn, cut1, hb', eD, eB, txt_eq, lit_e, lit_m0, lit_sl, hD, hE, dA, vA, ne, Nat.le_trans hul hl]
      | some n =>
        have n2 := digS_lt hD
        cases hE : digS b with
        | none => simp [hp, hl, len_txt, hS_sAsgT, asg, asgs, tupOf, es, hn, cut1, hb', eD, eB, txt_eq, lit_e, lit_m0, lit_sl, hD, hE, dA, vA, ne, Nat.le_trans hul hl]
        | some d =>
          have d2 := digS_lt hE
          by_cases h2d : d < 2
          · have h2d' : (d : Int) < 2 := by omega
            simp [hp, hl, len_txt, hS_sAsgT, asg, asgs, tupOf, es, hn, cut1, hb', eD, eB, txt_eq, lit_e, lit_m0, lit_sl, hD, hE, dA, vA, ne, h2d, h2d', Nat.le_trans hul hl]
          · have h2d' : ¬ (d : Int) < 2 := by omega
            have h1d : (1 : Int) ≤ d := by omega
            have e9 : ((d : Int) ≤ 10000000000000000000000000000000000000000) ↔ d ≤ 10000000000000000000000000000000000000000 := by omega
            simp [hp, hl, len_txt, hS_sAsgT, asg, asgs, tupOf, es, hn, cut1, hb', eD, eB, txt_eq, lit_e, lit_m0, lit_sl, hD, hE, dA, ne, h2d, h2d', h1d, e9, Nat.le_trans hul hl, is_rational_ok (-(n : Int)) d (by omega) (by omega), is_within_limit_ok]
            by_cases q1 : up l = [45, 48] <;> by_cases q2 : n.gcd d = 1 <;> by_cases q3 : 10000000000000000000000000000000000000000 < n <;> by_cases q4 : 10000000000000000000000000000000000000000 < d <;> simp [q1, q2, q3, q4, vA] <;> omega
    · have hb' := hb2 hn
      rw [hb'] at eD ⊢
      cases hD : digS (up l) with
      | none =>
        cases hE : digS b with
        | none => simp [hp, hl, len_txt, hS_sAsgT, asg, asgs, tupOf, es, hn, eD, eB, txt_eq, lit_e, lit_m0, lit_sl, hD, hE, dA, vA, ne, Nat.le_trans hul hl]
        | some d => simp [hp, hl, len_txt, hS_sAsgT, asg, asgs, tupOf, es, hn, eD, eB, txt_eq, lit_e, lit_m0, lit_sl, hD, hE, dA, vA, ne, Nat.le_trans hul hl]
      | some n =>
        have n2 := digS_lt hD
        cases hE : digS b with
        | none => simp [hp, hl, len_txt, hS_sAsgT, asg, asgs, tupOf, es, hn, eD, eB, txt_eq, lit_e, lit_m0, lit_sl, hD, hE, dA, vA, ne, Nat.le_trans hul hl]
        | some d =>
          have d2 := digS_lt hE
          by_cases h2d : d < 2
          · have h2d' : (d : Int) < 2 := by omega
            simp [hp, hl, len_txt, hS_sAsgT, asg, asgs, tupOf, es, hn, eD, eB, txt_eq, lit_e, lit_m0, lit_sl, hD, hE, dA, vA, ne, h2d, h2d', Nat.le_trans hul hl]
          · have h2d' : ¬ (d : Int) < 2 := by omega
            have h1d : (1 : Int) ≤ d := by omega
            have e9 : ((d : Int) ≤ 10000000000000000000000000000000000000000) ↔ d ≤ 10000000000000000000000000000000000000000 := by omega
            simp [hp, hl, len_txt, hS_sAsgT, asg, asgs, tupOf, es, hn, eD, eB, txt_eq, lit_e, lit_m0, lit_sl, hD, hE, dA, ne, h2d, h2d', h1d, e9, Nat.le_trans hul hl, is_rational_ok (n : Int) d (by omega) (by omega), is_within_limit_ok]
            by_cases q1 : up l = [45, 48] <;> by_cases q2 : n.gcd d = 1 <;> by_cases q3 : 10000000000000000000000000000000000000000 < n <;> by_cases q4 : 10000000000000000000000000000000000000000 < d <;> simp [q1, q2, q3, q4, vA] <;> omega
end K77
namespace K77
open PySem PySem.Spec PyProof.Rows L2 Mi
theorem eqT2 {a b c d : Int} {S : Sto} : eqG S (.tup [.int a, .int b]) (.tup [.int c, .int d]) = some (a == c && b == d) := by
  unfold eqG eqD toD
  simp [toD0, toD0s, SeqAt.shaped, PyData.canLay0, PyData.canLayAll0, PyData.depth, PyData.depthAll, PyData.eqv, PyData.eqvAll]
theorem take1 {l : List Nat} {c : Nat} : (l.take 1 = [c]) = (l.head? = some c) := by
  cases l <;> simp
theorem split_ne {l : List Nat} : ∃ p r, Txt.split (txt l) "/" = p :: r := by
  rw [split_txt lit_s (by decide)]
  cases l.dropWhile (· != 47) with
  | nil => exact ⟨_, _, rfl⟩
  | cons c b => exact ⟨_, _, rfl⟩
theorem split_parts (l : List Nat) : (dn l = [] ∧ up l = l ∧ Txt.split (txt l) "/" = [txt l]) ∨ (∃ b, dn l = 47 :: b ∧ Txt.split (txt l) "/" = [txt (up l), txt b]) ∨ (∃ b p q r, dn l = 47 :: b ∧ digS b = none ∧ Txt.split (txt l) "/" = txt (up l) :: p :: q :: r) := by
  have hp := split_txt lit_s (by decide) l
  rcases dropWhile_cases 47 l with ⟨a1, a2, a3⟩ | ⟨b, a1, a2, a3⟩
  · rw [a1] at hp
    exact .inl ⟨a1, a3, hp⟩
  · rw [a1] at hp
    dsimp only at hp
    have hq := split_txt lit_s (by decide) b
    rcases dropWhile_cases 47 b with ⟨b1, b2, b3⟩ | ⟨b', b1, b2, b3⟩
    · rw [b1] at hq
      rw [hq] at hp
      exact .inr (.inl ⟨b, a1, hp⟩)
    · rw [b1] at hq
      dsimp only at hq
      obtain ⟨p, r, e⟩ := split_ne (l := b')
      rw [hq, e] at hp
      refine .inr (.inr ⟨b, _, p, r, a1, ?_, hp⟩)
      have h47 : 47 ∈ b := by rw [b2]; simp
      unfold digS
      rw [if_pos]
      refine .inr (.inr (.inl ?_))
      cases hA : b.all fun c => decide (c ∈ ("0123456789" : Str).cps) with
      | false => rfl
      | true =>
        have := mem_DG.mp (of_decide_eq_true (List.all_eq_true.mp hA 47 h47))
        omega
theorem low_one {n d : Nat} (hd : 1 ≤ d) : ((n : Int) / (Nat.gcd n d : Nat) = n ∧ (d : Int) / (Nat.gcd n d : Nat) = d) ↔ Nat.gcd n d = 1 := by
  constructor
  · rintro ⟨_, h⟩
    have h2 : d / Nat.gcd n d = d := by
      have : ((d / Nat.gcd n d : Nat) : Int) = d := by rw [Int.natCast_ediv]; exact h
      omega
    have gp : 0 < Nat.gcd n d := Nat.gcd_pos_of_pos_right _ (by omega)
    have h3 := Nat.div_mul_cancel (Nat.gcd_dvd_right n d)
    rw [h2] at h3
    have h4 : d * Nat.gcd n d = d * 1 := by omega
    exact Nat.eq_of_mul_eq_mul_left (by omega) h4
  · intro h
    rw [h]
    simp
theorem l_number_ok {l : List Nat} {S : Sto} (hl : l.length ≤ 10000000) (hc : ∀ c ∈ l, c < 1000) : f_l_number [.str (txt l)] S = .ok (vA (numS l)) S := by
  apply ok_of_hs
  have hbm : ∀ c ∈ bodyS l, c < 1000 := fun c h => hc c (by
    unfold bodyS at h
    split at h
    · exact List.mem_cons_of_mem _ h
    · exact h)
  have hbl : (bodyS l).length ≤ 10000000 := by
    unfold bodyS
    split
    · rename_i r
      simp only [List.length_cons] at hl
      omega
    · exact hl
  have hb1 : l.head? = some 45 → l.drop 1 = bodyS l := fun e => by
    cases l with
    | nil => rfl
    | cons c r =>
      simp at e
      subst e
      rfl
  have hb2 : ¬ l.head? = some 45 → bodyS l = l := fun e => by
    cases l with
    | nil => rfl
    | cons c r =>
      simp at e
      simp [bodyS, e]
  obtain ⟨u1, u2, u3⟩ := body_up l
  have hul : (up (bodyS l)).length ≤ 10000000 := Nat.le_trans (List.takeWhile_sublist _).length_le hbl
  have hum : ∀ c ∈ up (bodyS l), c < 1000 := fun c h => hbm c ((List.takeWhile_sublist _).subset h)
  have eU := l_digits_ok (S := S) hul hum
  have tm : (txt (l.take 1) = Str.ofString "-") = (l.head? = some 45) := by rw [txt_eq, lit_m', take1]
  have t0 : (txt l = Str.ofString "-0") = (l = [45, 48]) := by rw [txt_eq, lit_m0]
  unfold f_l_number m_l_number
  rcases split_parts (bodyS l) with ⟨h1, h2, h3⟩ | ⟨b, h1, h3⟩ | ⟨b, p, q, r, h1, h2, h3⟩
  · have nn : numS l = (digS (bodyS l)).bind fun n => if l = [45, 48] ∨ Nat.gcd n 1 ≠ 1 ∨ 10 ^ 40 < n ∨ 10 ^ 40 < 1 then none else some (.tup [.int (if l.head? = some 45 then -(n : Int) else n), .int ((1 : Nat) : Int)]) := by
      unfold numS
      rw [h1, h2]
      rfl
    rw [h2] at eU
    rw [nn]
    by_cases hn : l.head? = some 45
    · have hb' := hb1 hn
      cases hD : digS (bodyS l) with
      | none => simp [hl, len_txt, cutTo1, tm, hn, cut1, hb', h3, lit_sl, hbl, atI0, eU, hD, dA, vA]
      | some n =>
        have n2 := digS_lt hD
        have lo := l_lowest_ok (n : Int) 1 (by omega) (by decide) (by decide) S
        simp at lo
        simp [hl, len_txt, cutTo1, tm, hn, cut1, hb', h3, lit_sl, hbl, atI0, eU, hD, dA, lo, hs_ne, eqT2, t0]
        by_cases q1 : l = [45, 48] <;> by_cases q3 : 10000000000000000000000000000000000000000 < n <;> simp [q1, q3, vA] <;> omega
    · have hb' := hb2 hn
      have h3' := h3
      rw [hb'] at h3' eU ⊢
      cases hD : digS l with
      | none => simp [hl, len_txt, cutTo1, tm, hn, h3', lit_sl, hbl, atI0, eU, hD, dA, vA]
      | some n =>
        have n2 := digS_lt hD
        have lo := l_lowest_ok (n : Int) 1 (by omega) (by decide) (by decide) S
        simp at lo
        simp [hl, len_txt, cutTo1, tm, hn, h3', lit_sl, hbl, atI0, eU, hD, dA, lo, hs_ne, eqT2, t0]
        by_cases q1 : l = [45, 48] <;> by_cases q3 : 10000000000000000000000000000000000000000 < n <;> simp [q1, q3, vA] <;> omega
  · have nn : numS l = (digS (up (bodyS l))).bind fun n => (digS b).bind fun d => if d < 2 then none else if l = [45, 48] ∨ Nat.gcd n d ≠ 1 ∨ 10 ^ 40 < n ∨ 10 ^ 40 < d then none else some (.tup [.int (if l.head? = some 45 then -(n : Int) else n), .int d]) := by
      unfold numS
      rw [h1]
      cases digS (up (bodyS l)) with
      | none => rfl
      | some n =>
        simp only [botS, Option.bind_some]
        cases digS b with
        | none => rfl
        | some d =>
          by_cases k : d < 2 <;> simp [k]
    rw [nn]
    have hbs : ∀ c ∈ b, c ∈ bodyS l := fun c h => (List.dropWhile_sublist (l := bodyS l) (· != 47)).subset (by
      have : (bodyS l).dropWhile (· != 47) = 47 :: b := h1
      rw [this]
      exact List.mem_cons_of_mem _ h)
    have hbl2 : b.length ≤ 10000000 := by
      have := (List.dropWhile_sublist (l := bodyS l) (· != 47)).length_le
      have e : (bodyS l).dropWhile (· != 47) = 47 :: b := h1
      rw [e, List.length_cons] at this
      omega
    have eB := l_digits_ok (S := S) hbl2 fun c h => hbm c (hbs c h)
    by_cases hn : l.head? = some 45
    · have hb' := hb1 hn
      cases hD : digS (up (bodyS l)) with
      | none =>
        cases hE : digS b with
        | none => simp [hl, len_txt, cutTo1, tm, hn, cut1, hb', h3, lit_sl, hbl, atI0, atI1, eU, eB, hD, hE, dA, vA]
        | some d => simp [hl, len_txt, cutTo1, tm, hn, cut1, hb', h3, lit_sl, hbl, atI0, atI1, eU, eB, hD, hE, dA, vA]
      | some n =>
        have n2 := digS_lt hD
        cases hE : digS b with
        | none => simp [hl, len_txt, cutTo1, tm, hn, cut1, hb', h3, lit_sl, hbl, atI0, atI1, eU, eB, hD, hE, dA, vA]
        | some d =>
          have d2 := digS_lt hE
          by_cases k1 : d < 1
          · have k2 : (d : Int) < 1 := by omega
            have k3 : d < 2 := by omega
            simp [hl, len_txt, cutTo1, tm, hn, cut1, hb', h3, lit_sl, hbl, atI0, atI1, eU, eB, hD, hE, dA, vA, k2, k3]
          · by_cases k3 : d = 1
            · subst k3
              by_cases q3 : 10000000000000000000000000000000000000000 < n
              · have q3' : 10000000000000000000000000000000000000000 < (n : Int) := by omega
                simp [hl, len_txt, cutTo1, tm, hn, cut1, hb', h3, lit_sl, hbl, atI0, atI1, eU, eB, hD, hE, dA, vA, q3']
              · have q3' : ¬ 10000000000000000000000000000000000000000 < (n : Int) := by omega
                simp [hl, len_txt, cutTo1, tm, hn, cut1, hb', h3, lit_sl, hbl, atI0, atI1, eU, eB, hD, hE, dA, vA, q3']
                try omega
            · have k2 : ¬ (d : Int) < 1 := by omega
              have k4 : ¬ d < 2 := by omega
              have k5 : ¬ (d : Int) = 1 := by omega
              obtain ⟨x, y, lo, he⟩ : ∃ x y, f_l_lowest [.int n, .int d] S = .ok (.tup [.int x, .int y]) S ∧ eqG S (.tup [.int x, .int y]) (.tup [.int n, .int d]) = some (decide (Nat.gcd n d = 1)) := by
                refine ⟨_, _, l_lowest_ok (n : Int) d (by omega) (by omega) (by omega) S, ?_⟩
                rw [eqT2]
                congr 1
                rw [Bool.eq_iff_iff]
                simp only [Bool.and_eq_true, beq_iff_eq, Int.natAbs_natCast, decide_eq_true_eq]
                exact low_one (by omega)
              by_cases q3 : 10000000000000000000000000000000000000000 < n
              · have q3' : 10000000000000000000000000000000000000000 < (n : Int) := by omega
                simp [hl, len_txt, cutTo1, tm, hn, cut1, hb', h3, lit_sl, hbl, atI0, atI1, eU, eB, hD, hE, dA, vA, q3', q3, k2, k4, k5]
              · have q3' : ¬ 10000000000000000000000000000000000000000 < (n : Int) := by omega
                by_cases q4 : 10000000000000000000000000000000000000000 < d
                · have q4' : 10000000000000000000000000000000000000000 < (d : Int) := by omega
                  simp [hl, len_txt, cutTo1, tm, hn, cut1, hb', h3, lit_sl, hbl, atI0, atI1, eU, eB, hD, hE, dA, vA, q3', q3, k2, k4, k5, q4, q4']
                · have q4' : ¬ 10000000000000000000000000000000000000000 < (d : Int) := by omega
                  by_cases q2 : n.gcd d = 1
                  · by_cases q1 : l = [45, 48]
                    · exfalso
                      rw [q1] at h1
                      simp [bodyS, dn] at h1
                    · simp [hl, len_txt, cutTo1, tm, hn, cut1, hb', h3, lit_sl, hbl, atI0, atI1, eU, eB, hD, hE, dA, vA, q3', q3, k2, k4, k5, q4, q4', lo, hs_ne, he, q2, t0, q1]
                  · simp [hl, len_txt, cutTo1, tm, hn, cut1, hb', h3, lit_sl, hbl, atI0, atI1, eU, eB, hD, hE, dA, vA, q3', q3, k2, k4, k5, q4, q4', lo, hs_ne, he, q2, t0]
    · have hb' := hb2 hn
      have h3' := h3
      rw [hb'] at h3' eU ⊢
      cases hD : digS (up l) with
      | none =>
        cases hE : digS b with
        | none => simp [hl, len_txt, cutTo1, tm, hn, h3', lit_sl, hbl, atI0, atI1, eU, eB, hD, hE, dA, vA]
        | some d => simp [hl, len_txt, cutTo1, tm, hn, h3', lit_sl, hbl, atI0, atI1, eU, eB, hD, hE, dA, vA]
      | some n =>
        have n2 := digS_lt hD
        cases hE : digS b with
        | none => simp [hl, len_txt, cutTo1, tm, hn, h3', lit_sl, hbl, atI0, atI1, eU, eB, hD, hE, dA, vA]
        | some d =>
          have d2 := digS_lt hE
          by_cases k1 : d < 1
          · have k2 : (d : Int) < 1 := by omega
            have k3 : d < 2 := by omega
            simp [hl, len_txt, cutTo1, tm, hn, h3', lit_sl, hbl, atI0, atI1, eU, eB, hD, hE, dA, vA, k2, k3]
          · by_cases k3 : d = 1
            · subst k3
              by_cases q3 : 10000000000000000000000000000000000000000 < n
              · have q3' : 10000000000000000000000000000000000000000 < (n : Int) := by omega
                simp [hl, len_txt, cutTo1, tm, hn, h3', lit_sl, hbl, atI0, atI1, eU, eB, hD, hE, dA, vA, q3']
              · have q3' : ¬ 10000000000000000000000000000000000000000 < (n : Int) := by omega
                simp [hl, len_txt, cutTo1, tm, hn, h3', lit_sl, hbl, atI0, atI1, eU, eB, hD, hE, dA, vA, q3']
                try omega
            · have k2 : ¬ (d : Int) < 1 := by omega
              have k4 : ¬ d < 2 := by omega
              have k5 : ¬ (d : Int) = 1 := by omega
              obtain ⟨x, y, lo, he⟩ : ∃ x y, f_l_lowest [.int n, .int d] S = .ok (.tup [.int x, .int y]) S ∧ eqG S (.tup [.int x, .int y]) (.tup [.int n, .int d]) = some (decide (Nat.gcd n d = 1)) := by
                refine ⟨_, _, l_lowest_ok (n : Int) d (by omega) (by omega) (by omega) S, ?_⟩
                rw [eqT2]
                congr 1
                rw [Bool.eq_iff_iff]
                simp only [Bool.and_eq_true, beq_iff_eq, Int.natAbs_natCast, decide_eq_true_eq]
                exact low_one (by omega)
              by_cases q3 : 10000000000000000000000000000000000000000 < n
              · have q3' : 10000000000000000000000000000000000000000 < (n : Int) := by omega
                simp [hl, len_txt, cutTo1, tm, hn, h3', lit_sl, hbl, atI0, atI1, eU, eB, hD, hE, dA, vA, q3', q3, k2, k4, k5]
              · have q3' : ¬ 10000000000000000000000000000000000000000 < (n : Int) := by omega
                by_cases q4 : 10000000000000000000000000000000000000000 < d
                · have q4' : 10000000000000000000000000000000000000000 < (d : Int) := by omega
                  simp [hl, len_txt, cutTo1, tm, hn, h3', lit_sl, hbl, atI0, atI1, eU, eB, hD, hE, dA, vA, q3', q3, k2, k4, k5, q4, q4']
                · have q4' : ¬ 10000000000000000000000000000000000000000 < (d : Int) := by omega
                  by_cases q2 : n.gcd d = 1
                  · by_cases q1 : l = [45, 48]
                    · exfalso
                      rw [q1] at h1
                      simp [bodyS, dn] at h1
                    · simp [hl, len_txt, cutTo1, tm, hn, h3', lit_sl, hbl, atI0, atI1, eU, eB, hD, hE, dA, vA, q3', q3, k2, k4, k5, q4, q4', lo, hs_ne, he, q2, t0, q1]
                  · simp [hl, len_txt, cutTo1, tm, hn, h3', lit_sl, hbl, atI0, atI1, eU, eB, hD, hE, dA, vA, q3', q3, k2, k4, k5, q4, q4', lo, hs_ne, he, q2, t0]
  · have nn : numS l = none := by
      unfold numS
      rw [h1]
      cases digS (up (bodyS l)) with
      | none => rfl
      | some n => simp [botS, h2]
    have e2 : ¬ ((r.length : Int) + 1 + 1 + 1 = 2) := by omega
    have e3 : (2 : Int) < (r.length : Int) + 1 + 1 + 1 := by omega
    rw [nn]
    by_cases hn : l.head? = some 45
    · have hb' := hb1 hn
      simp [hl, len_txt, cutTo1, tm, hn, cut1, hb', h3, lit_sl, hbl, atI0, eU, e2, e3, vA]
    · have hb' := hb2 hn
      have h3' := h3
      rw [hb'] at h3' eU
      simp [hl, len_txt, cutTo1, tm, hn, h3', lit_sl, hbl, atI0, eU, e2, e3, vA]
end K77
namespace K77
open PySem PySem.Spec PyProof.Rows L2 Mi
def leafS (l : List Nat) : Option A :=
  if nameS l = true then some (.tup [.str "column", .str (txt l)])
  else if l = [61, 35, 121, 101, 115] then some (.tup [.str "value", .bl true])
  else if l = [61, 35, 110, 111] then some (.tup [.str "value", .bl false])
  else match l with
    | 61 :: 39 :: r => if nameS r = true then some (.tup [.str "value", .str (txt r)]) else none
    | 61 :: r => (numS r).map fun v => .tup [.str "value", v]
    | _ => none
theorem numS_N (l : List Nat) : isN (vA (numS l)) = !(numS l).isSome := by
  unfold numS
  cases digS (up (bodyS l)) with
  | none => rfl
  | some n =>
    cases botS (dn (bodyS l)) with
    | none => rfl
    | some d =>
      simp only [Option.bind_some]
      split <;> rfl
theorem lit_yes : ("=#yes" : Str).cps.toList = [61, 35, 121, 101, 115] := by decide
theorem lit_no : ("=#no" : Str).cps.toList = [61, 35, 110, 111] := by decide
theorem lit_eq : ("=" : Str).cps.toList = [61] := by decide
theorem lit_q : ("'" : Str).cps.toList = [39] := by decide
theorem lit_eqq : TL.tl ("='" : Str) = [61, 39] := by decide
theorem lit_eq' : TL.tl ("=" : Str) = [61] := by decide
theorem pre2 (s t : Nat) (l : List Nat) : TL.pre [s, t] l = decide (l.take 2 = [s, t]) := by
  rw [Bool.eq_iff_iff]
  simp [TL.pre]
theorem inYN {l : List Nat} {S : Sto} : inG S (.str (txt l)) (.tup [.str "=#yes", .str "=#no"]) = some (decide (l = [61, 35, 121, 101, 115]) || decide (l = [61, 35, 110, 111])) ∧ inG S (.str (txt l)) (.lst [.str "=#yes", .str "=#no"]) = some (decide (l = [61, 35, 121, 101, 115]) || decide (l = [61, 35, 110, 111])) := by
  have e : inF (.str (txt l)) [.str "=#yes", .str "=#no"] = (decide (l = [61, 35, 121, 101, 115]) || decide (l = [61, 35, 110, 111])) := by
    have e1 : (("=#yes" : Str) = txt l) ↔ l = [61, 35, 121, 101, 115] := by rw [eq_comm, txt_eq, lit_yes]
    have e2 : (("=#no" : Str) = txt l) ↔ l = [61, 35, 110, 111] := by rw [eq_comm, txt_eq, lit_no]
    have b1 : (("=#yes" : Str) == txt l) = decide (l = [61, 35, 121, 101, 115]) := by
      rw [Bool.eq_iff_iff]
      simp [e1]
    have b2 : (("=#no" : Str) == txt l) = decide (l = [61, 35, 110, 111]) := by
      rw [Bool.eq_iff_iff]
      simp [e2]
    simp [inF, eqF, b1, b2]
  constructor
  · simp [inG, flatA, e]
  · simp [inG, flatA, lstOf, e]
theorem read_leaf_ok {l : List Nat} {S : Sto} (hl : l.length ≤ 10000000) : f_read_leaf [.str (txt l)] S = .ok (vA (leafS l)) S := by
  apply ok_of_hs
  unfold f_read_leaf m_read_leaf
  have s1 : Txt.startswith (txt l) "='" = decide (l.take 2 = [61, 39]) := by rw [starts_pre (by rw [lit_eqq]; simp), lit_eqq, pre2]
  have s2 : Txt.startswith (txt l) "=" = decide (l.head? = some 61) := by rw [starts_pre (by rw [lit_eq']; simp), lit_eq', pre1]
  have hd2 : (l.drop 2).length ≤ 10000000 := by rw [List.length_drop]; omega
  have hd1 : (l.drop 1).length ≤ 10000000 := by rw [List.length_drop]; omega
  have y1 := (inYN (l := l) (S := S)).1
  cases hn : nameS l with
  | true => simp [is_name_ok hl, hn, leafS, vA]
  | false =>
    by_cases h1 : l = [61, 35, 121, 101, 115]
    · subst h1
      simp [is_name_ok hl, hn, leafS, vA, hs_in y1, txt_eq, lit_yes, len_txt]
    · by_cases h2 : l = [61, 35, 110, 111]
      · subst h2
        simp [is_name_ok hl, hn, leafS, vA, hs_in y1, txt_eq, lit_yes, len_txt]
      · by_cases h3 : l.take 2 = [61, 39]
        · obtain ⟨r, rfl⟩ : ∃ r, l = 61 :: 39 :: r := by
            rcases l with _ | ⟨a, _ | ⟨b, r⟩⟩
            · simp at h3
            · simp at h3
            · simp at h3
              exact ⟨r, by rw [h3.1, h3.2]⟩
          have e : leafS (61 :: 39 :: r) = if nameS r = true then some (.tup [.str "value", .str (txt r)]) else none := by
            unfold leafS
            rw [if_neg (by rw [hn]; simp), if_neg h1, if_neg h2]
            rfl
          have hd2' : r.length ≤ 10000000 := hd2
          simp only [List.length_cons] at hl
          simp [is_name_ok, hl, hn, e, hs_in y1, h1, h2, s1, cut2, len_txt, is_name_ok hd2']
          cases nameS r <;> simp [vA]
        · by_cases h4 : l.head? = some 61
          · obtain ⟨r, rfl⟩ : ∃ r, l = 61 :: r := by
              rcases l with _ | ⟨a, r⟩
              · simp at h4
              · simp at h4
                exact ⟨r, by rw [h4]⟩
            have e : leafS (61 :: r) = (numS r).map fun v => .tup [.str "value", v] := by
              unfold leafS
              rw [if_neg (by rw [hn]; simp), if_neg h1, if_neg h2]
              split
              · rename_i r' q
                cases q
                simp at h3
              · rename_i r' _ q
                cases q
                rfl
              · rename_i q1 q2
                exact absurd rfl (q2 _)
            have hd1' : r.length ≤ 10000000 := hd1
            simp only [List.length_cons] at hl
            have h3' : ¬ r.take 1 = [39] := fun z => h3 (by simp [z])
            simp [is_name_ok, hl, hn, e, hs_in y1, h1, h2, s1, s2, h3', h4, cut1, len_txt, read_number_ok hd1', numS_N]
            cases numS r <;> simp [vA]
          · have e : leafS l = none := by
              unfold leafS
              rw [if_neg (by rw [hn]; simp), if_neg h1, if_neg h2]
              split
              · simp at h4
              · simp at h4
              · rfl
            simp [is_name_ok, hl, hn, e, hs_in y1, h1, h2, s1, s2, h3, h4, len_txt, vA]
theorem l_leaf_of_ok {l : List Nat} {S : Sto} (hl : l.length ≤ 10000000) (hc : ∀ c ∈ l, c < 1000) : f_l_leaf_of [.str (txt l)] S = .ok (vA (leafS l)) S := by
  apply ok_of_hs
  unfold f_l_leaf_of m_l_leaf_of
  have hd2 : (l.drop 2).length ≤ 10000000 := by rw [List.length_drop]; omega
  have hd1 : (l.drop 1).length ≤ 10000000 := by rw [List.length_drop]; omega
  have hc2 : ∀ c ∈ l.drop 2, c < 1000 := fun c h => hc c ((List.drop_sublist _ _).subset h)
  have hc1 : ∀ c ∈ l.drop 1, c < 1000 := fun c h => hc c ((List.drop_sublist _ _).subset h)
  have y1 := (inYN (l := l) (S := S)).2
  have t1 : (txt (l.take 1) = Str.ofString "=") = (l.head? = some 61) := by rw [txt_eq, lit_eq, take1]
  have t2 : (txt ((l.drop 1).take 1) = Str.ofString "'") = ((l.drop 1).head? = some 39) := by rw [txt_eq, lit_q, take1]
  cases hn : nameS l with
  | true => simp [l_is_name_ok hl hc, hn, leafS, vA]
  | false =>
    by_cases h4 : l.head? = some 61
    · by_cases h1 : l = [61, 35, 121, 101, 115]
      · subst h1
        simp [l_is_name_ok hl hc, hn, leafS, vA, hs_in y1, txt_eq, lit_yes, len_txt, cutTo1, lit_eq]
      · by_cases h2 : l = [61, 35, 110, 111]
        · subst h2
          simp [l_is_name_ok hl hc, hn, leafS, vA, hs_in y1, txt_eq, lit_yes, len_txt, cutTo1, lit_eq]
        · obtain ⟨r, rfl⟩ : ∃ r, l = 61 :: r := by
            rcases l with _ | ⟨a, r⟩
            · simp at h4
            · simp at h4
              exact ⟨r, by rw [h4]⟩
          by_cases h3 : r.head? = some 39
          · obtain ⟨q, rfl⟩ : ∃ q, r = 39 :: q := by
              rcases r with _ | ⟨a, q⟩
              · simp at h3
              · simp at h3
                exact ⟨q, by rw [h3]⟩
            have e : leafS (61 :: 39 :: q) = if nameS q = true then some (.tup [.str "value", .str (txt q)]) else none := by
              unfold leafS
              rw [if_neg (by rw [hn]; simp), if_neg h1, if_neg h2]
              rfl
            have hd2' : q.length ≤ 10000000 := hd2
            have hc2' : ∀ c ∈ q, c < 1000 := hc2
            have z1 := l_is_name_ok (S := S) hl hc
            simp only [List.length_cons] at hl
            simp [z1, hl, hn, e, hs_in y1, h1, h2, cut2, cut12, cutTo1, txt_eq, lit_eq, lit_q, len_txt, l_is_name_ok hd2' hc2']
            cases nameS q <;> simp [vA]
          · have e : leafS (61 :: r) = (numS r).map fun v => .tup [.str "value", v] := by
              unfold leafS
              rw [if_neg (by rw [hn]; simp), if_neg h1, if_neg h2]
              split
              · rename_i r' q
                cases q
                simp at h3
              · rename_i r' _ q
                cases q
                rfl
              · rename_i q1 q2
                exact absurd rfl (q2 _)
            have t2' : (txt (r.take 1) = Str.ofString "'") = (r.head? = some 39) := by rw [txt_eq, lit_q, take1]
            have hd1' : r.length ≤ 10000000 := hd1
            have hc1' : ∀ c ∈ r, c < 1000 := hc1
            have z1 := l_is_name_ok (S := S) hl hc
            simp only [List.length_cons] at hl
            simp [z1, hl, hn, e, hs_in y1, h1, h2, t2', h3, cut1, cut12, cutTo1, txt_eq, lit_eq, len_txt, l_number_ok hd1' hc1', numS_N]
            cases numS r <;> simp [vA]
    · have e : leafS l = none := by
        unfold leafS
        rw [if_neg (by rw [hn]; simp), if_neg (by rintro rfl; simp at h4), if_neg (by rintro rfl; simp at h4)]
        split
        · simp at h4
        · simp at h4
        · rfl
      simp [l_is_name_ok hl hc, hl, hn, e, t1, h4, cutTo1, len_txt, vA]
end K77
namespace K77
open PySem PySem.Spec PyProof.Rows L2 Mi
def tokS (l : List Nat) (at_ : Nat) : List Nat := (l.drop at_).takeWhile fun c => !decide (c ∈ (" ()" : Str).cps)
theorem tok_none {l : List Nat} {e : Nat} (h : l[e]? = none) : tokS l e = [] := by
  unfold tokS
  rw [List.drop_eq_nil_of_le (List.getElem?_eq_none_iff.mp h)]
  rfl
theorem tok_stop {l : List Nat} {e c : Nat} (h : l[e]? = some c) (hc : c ∈ (" ()" : Str).cps) : tokS l e = [] := by
  obtain ⟨h1, h2⟩ := List.getElem?_eq_some_iff.mp h
  unfold tokS
  rw [List.drop_eq_getElem_cons h1, h2]
  simp [hc]
theorem tok_go {l : List Nat} {e c : Nat} (h : l[e]? = some c) (hc : c ∉ (" ()" : Str).cps) : tokS l e = c :: tokS l (e + 1) := by
  obtain ⟨h1, h2⟩ := List.getElem?_eq_some_iff.mp h
  unfold tokS
  rw [List.drop_eq_getElem_cons h1, h2]
  simp [hc]
theorem tok_len (l : List Nat) (e : Nat) : (tokS l e).length ≤ l.length - e := by
  unfold tokS
  have := (List.takeWhile_sublist (l := l.drop e) fun c => !decide (c ∈ (" ()" : Str).cps)).length_le
  rw [List.length_drop] at this
  exact this
theorem tok_mem {l : List Nat} {e c : Nat} (h : c ∈ tokS l e) : c ∈ l := (List.drop_sublist _ _).subset ((List.takeWhile_sublist _).subset h)
theorem tok_cut {l : List Nat} {a e : Nat} (h1 : a ≤ e) (h2 : (tokS l a).length = e - a) : (l.drop a).take (e - a) = tokS l a := by
  unfold tokS at *
  rw [← h2]
  generalize l.drop a = m
  induction m with
  | nil => rfl
  | cons c m ih =>
    by_cases hc : c ∈ (" ()" : Str).cps
    · simp [hc]
    · simp [hc, ih]
theorem cutm (l : List Nat) (a e : Nat) : cutS (txt l) (some (a : Int)) (some (e : Int)) = txt ((l.drop a).take (e - a)) := cut_mid l a e
theorem l_token_ok {l : List Nat} {a : Nat} {S : Sto} (hl : l.length ≤ 10000000) : f_l_token [.str (txt l), .int a] S = .ok (.str (txt (tokS l a))) S := by
  apply ok_of_hs
  unfold f_l_token m_l_token
  simp [hS_sWhile]
  refine hS_while (fun m env S' => S' = S ∧ ∃ e : Nat, env = [some (.str (txt l)), some (.int a), some (.int e)] ∧ a ≤ e ∧ m = l.length - e ∧ (tokS l a).length = (e - a) + (tokS l e).length) ?_ FU (l.length - a) _ _ (by unfold FU; omega) ⟨rfl, a, rfl, by omega, rfl, by omega⟩
  rintro m env S' ⟨rfl, e, rfl, h1, rfl, h2⟩
  by_cases he : e < l.length
  · obtain ⟨c, hc, hc'⟩ : ∃ c, l[e]? = some c ∧ l[e] = c := ⟨_, List.getElem?_eq_getElem he, rfl⟩
    by_cases hb : c ∈ (" ()" : Str).cps
    · have h3 := tok_stop hc hb
      have h4 := tok_cut (l := l) (a := a) (e := e) h1 (by rw [h2, h3]; simp)
      simp [len_txt, hl, he, Mi.atI_nat, hc', hb, cutm, h4]
    · have h3 := tok_go hc hb
      simp [len_txt, hl, he, Mi.atI_nat, hc', hb]
      refine ⟨l.length - (e + 1), by omega, e + 1, by omega, by omega, rfl, ?_⟩
      rw [h2, h3, List.length_cons]
      omega
  · have h3 := tok_none (List.getElem?_eq_none_iff.mpr (Nat.le_of_not_lt he))
    have h4 := tok_cut (l := l) (a := a) (e := e) h1 (by rw [h2, h3]; simp)
    simp [len_txt, hl, he, cutm, h4]
/-! ### the reader's own object -/
def frO (l : List Nat) (e : Nat) : AO := .ins "FormReader" [("text", .str (txt l)), ("at", .int e)]
theorem set_same {S : Sto} {n : Nat} {o : AO} (h : S[n]? = some o) : S.set n o = S := by
  obtain ⟨h1, h2⟩ := List.getElem?_eq_some_iff.mp h
  rw [← h2]
  exact List.set_getElem_self h1
theorem fld_text {S : Sto} {o e : Nat} {l : List Nat} (h : S[o]? = some (frO l e)) : fldV S "FormReader" "text" (.loc o) = some (.str (txt l)) := by
  simp only [fldV, h, frO]
  rfl
theorem fld_at {S : Sto} {o e : Nat} {l : List Nat} (h : S[o]? = some (frO l e)) : fldV S "FormReader" "at" (.loc o) = some (.int e) := by
  simp only [fldV, h, frO]
  rfl
theorem put_at (l : List Nat) (e : Nat) (v : A) : putA "at" v ([("text", .str (txt l)), ("at", .int e)] : List (Str × A)) = ([("text", .str (txt l)), ("at", v)] : List (Str × A)) := rfl
theorem hs_iaddI {i j : Int} {S : Sto} {P : A → Sto → Prop} {E : Str → List (Str × A) → Sto → Prop} : Hs (iAdd (.int i) (.int j) S) P E = P (.int (i + j)) S := rfl
theorem frT_ok {l : List Nat} {o a : Nat} {S : Sto} (hl : l.length ≤ 10000000) (h : S[o]? = some (frO l a)) : f_FormReader_token [.loc o] S = .ok (.str (txt (tokS l a))) (S.set o (frO l (a + (tokS l a).length))) := by
  have key : Hs (f_FormReader_token [.loc o] S) (fun x S' => x = .str (txt (tokS l a)) ∧ S' = S.set o (frO l (a + (tokS l a).length))) (fun _ _ _ => False) := by
    have hs : ∀ x : AO, (S.set o x)[o]? = some x := fun x => get_set_self (lt_of_get h)
    unfold f_FormReader_token m_FormReader_token
    simp [hS_sWhile, fld_at h]
    refine hS_while (fun m env S' => ∃ e : Nat, S' = S.set o (frO l e) ∧ env = [some (.loc o), some (.int a)] ∧ a ≤ e ∧ m = l.length - e ∧ (tokS l a).length = (e - a) + (tokS l e).length) ?_ FU (l.length - a) _ _ (by unfold FU; omega) ⟨a, (set_same h).symm, rfl, by omega, rfl, by omega⟩
    rintro m env S' ⟨e, rfl, rfl, h1, rfl, h2⟩
    have h' := hs (frO l e)
    by_cases he : e < l.length
    · obtain ⟨c, hc, hc'⟩ : ∃ c, l[e]? = some c ∧ l[e] = c := ⟨_, List.getElem?_eq_getElem he, rfl⟩
      by_cases hb : c ∈ (" ()" : Str).cps
      · have h3 := tok_stop hc hb
        have h5 : (tokS l a).length = e - a := by rw [h2, h3]; simp
        have h4 := tok_cut (l := l) (a := a) (e := e) h1 h5
        have h6 : a + (tokS l a).length = e := by omega
        simp [len_txt, hl, he, Mi.atI_nat, hc', hb, cutm, h4, fld_at h', fld_text h', h6]
      · have h3 := tok_go hc hb
        simp [len_txt, hl, he, Mi.atI_nat, hc', hb, fld_at h', fld_text h', hs_iaddI]
        refine ⟨_, h', by simp, l.length - (e + 1), by omega, e + 1, ?_, by omega, rfl, ?_⟩
        · rw [put_at, frO]
          simp
        · rw [h2, h3, List.length_cons]
          omega
    · have h3 := tok_none (List.getElem?_eq_none_iff.mpr (Nat.le_of_not_lt he))
      have h5 : (tokS l a).length = e - a := by rw [h2, h3]; simp
      have h4 := tok_cut (l := l) (a := a) (e := e) h1 h5
      have h6 : a + (tokS l a).length = e := by omega
      simp [len_txt, hl, he, cutm, h4, fld_at h', fld_text h', h6]
  revert key
  cases f_FormReader_token [.loc o] S with
  | ok x S' => rintro ⟨rfl, rfl⟩; rfl
  | exn => exact fun h => h.elim
  | bad => exact fun h => h.elim
end K77
namespace K77
open PySem PySem.Spec PyProof.Rows L2 Mi
theorem frE_ok {l : List Nat} {o a s : Nat} {S : Sto} (hl : l.length ≤ 10000000) (h : S[o]? = some (frO l a)) : f_FormReader_expect [.loc o, .str (txt [s])] S = if l[a]? = some s then .ok .non (S.set o (frO l (a + 1))) else .exn "BadText" ([("position", .int a)] : List (Str × A)) S := by
  have key : Hs (f_FormReader_expect [.loc o, .str (txt [s])] S) (fun x S' => l[a]? = some s ∧ x = .non ∧ S' = S.set o (frO l (a + 1))) (fun c fs S' => l[a]? ≠ some s ∧ c = "BadText" ∧ fs = ([("position", .int a)] : List (Str × A)) ∧ S' = S) := by
    unfold f_FormReader_expect m_FormReader_expect
    by_cases he : a < l.length
    · obtain ⟨c, hc, hc'⟩ : ∃ c, l[a]? = some c ∧ l[a] = c := ⟨_, List.getElem?_eq_getElem he, rfl⟩
      have ho : ((⟨#[c]⟩ : Str) = txt [s]) = (c = s) := by
        rw [one_eq]
        simp
      by_cases hb : c = s
      · subst hb
        simp [len_txt, hl, he, Mi.atI_nat, hc', fld_at h, fld_text h, hs_iaddI]
        refine ⟨_, h, by simp, ?_⟩
        rw [put_at, frO]
        simp
      · have hn : ¬ (some c = some s) := fun z => hb (Option.some.inj z)
        simp [len_txt, hl, he, Mi.atI_nat, hc', fld_at h, fld_text h, hs_iaddI, ho, hb]
    · have hn : l[a]? = none := List.getElem?_eq_none_iff.mpr (Nat.le_of_not_lt he)
      have he' : l.length ≤ a := Nat.le_of_not_lt he
      simp [len_txt, hl, he, he', hn, fld_at h, fld_text h]
  revert key
  cases f_FormReader_expect [.loc o, .str (txt [s])] S with
  | ok x S' => rintro ⟨h1, rfl, rfl⟩; rw [if_pos h1]
  | exn => rintro ⟨h1, rfl, rfl, rfl⟩; rw [if_neg h1]
  | bad => exact fun h => h.elim
def opsN (w : List Nat) : Nat := match tbl_OPERANDS.lookup (txt w) with
  | none => 0
  | some ks => ks.length
def opsZ (z : Str) : Nat := match tbl_OPERANDS.lookup z with
  | none => 0
  | some ks => ks.length
theorem l_opsZ {z : Str} {S : Sto} : f_l_operands [.str z] S = .ok (.int (opsZ z)) S := by
  by_cases h0 : z = "plus"
  · subst h0
    rfl
  by_cases h1 : z = "minus"
  · subst h1
    rfl
  by_cases h2 : z = "times"
  · subst h2
    rfl
  by_cases h3 : z = "over"
  · subst h3
    rfl
  by_cases h4 : z = "less"
  · subst h4
    rfl
  by_cases h5 : z = "same"
  · subst h5
    rfl
  by_cases h6 : z = "both"
  · subst h6
    rfl
  by_cases h7 : z = "either"
  · subst h7
    rfl
  by_cases h8 : z = "not"
  · subst h8
    rfl
  by_cases h9 : z = "missing"
  · subst h9
    rfl
  by_cases h10 : z = "if"
  · subst h10
    rfl
  apply ok_of_hs
  unfold f_l_operands m_l_operands
  have b0 : (z == ("plus" : Str)) = false := beq_eq_false_iff_ne.mpr h0
  have c0 : (("plus" : Str) == z) = false := beq_eq_false_iff_ne.mpr fun e => h0 e.symm
  have b1 : (z == ("minus" : Str)) = false := beq_eq_false_iff_ne.mpr h1
  have c1 : (("minus" : Str) == z) = false := beq_eq_false_iff_ne.mpr fun e => h1 e.symm
  have b2 : (z == ("times" : Str)) = false := beq_eq_false_iff_ne.mpr h2
  have c2 : (("times" : Str) == z) = false := beq_eq_false_iff_ne.mpr fun e => h2 e.symm
  have b3 : (z == ("over" : Str)) = false := beq_eq_false_iff_ne.mpr h3
  have c3 : (("over" : Str) == z) = false := beq_eq_false_iff_ne.mpr fun e => h3 e.symm
  have b4 : (z == ("less" : Str)) = false := beq_eq_false_iff_ne.mpr h4
  have c4 : (("less" : Str) == z) = false := beq_eq_false_iff_ne.mpr fun e => h4 e.symm
  have b5 : (z == ("same" : Str)) = false := beq_eq_false_iff_ne.mpr h5
  have c5 : (("same" : Str) == z) = false := beq_eq_false_iff_ne.mpr fun e => h5 e.symm
  have b6 : (z == ("both" : Str)) = false := beq_eq_false_iff_ne.mpr h6
  have c6 : (("both" : Str) == z) = false := beq_eq_false_iff_ne.mpr fun e => h6 e.symm
  have b7 : (z == ("either" : Str)) = false := beq_eq_false_iff_ne.mpr h7
  have c7 : (("either" : Str) == z) = false := beq_eq_false_iff_ne.mpr fun e => h7 e.symm
  have b8 : (z == ("not" : Str)) = false := beq_eq_false_iff_ne.mpr h8
  have c8 : (("not" : Str) == z) = false := beq_eq_false_iff_ne.mpr fun e => h8 e.symm
  have b9 : (z == ("missing" : Str)) = false := beq_eq_false_iff_ne.mpr h9
  have c9 : (("missing" : Str) == z) = false := beq_eq_false_iff_ne.mpr fun e => h9 e.symm
  have b10 : (z == ("if" : Str)) = false := beq_eq_false_iff_ne.mpr h10
  have c10 : (("if" : Str) == z) = false := beq_eq_false_iff_ne.mpr fun e => h10 e.symm
  have e0 : opsZ z = 0 := by
    unfold opsZ tbl_OPERANDS
    simp only [List.lookup, b0, b1, b2, b3, b4, b5, b6, b7, b8, b9, b10]
  have e1 : inG S (.str z) (.lst [.str "not", .str "missing"]) = some false := by
    simp [inG, flatA, lstOf, inF, eqF, c0, c1, c2, c3, c4, c5, c6, c7, c8, c9, c10]
  have e2 : inG S (.str z) (.lst [.str "plus", .str "minus", .str "times", .str "over", .str "less", .str "same", .str "both", .str "either"]) = some false := by
    simp [inG, flatA, lstOf, inF, eqF, c0, c1, c2, c3, c4, c5, c6, c7, c8, c9, c10]
  rw [e0]
  simp [hs_in e1, hs_in e2, h10]
theorem l_operands_ok {w : List Nat} {S : Sto} : f_l_operands [.str (txt w)] S = .ok (.int (opsN w)) S := l_opsZ
end K77
namespace K77
open PySem PySem.Spec PyProof.Rows L2 Mi
inductive Rd1 (α : Type) where
  | err (p : Nat) | ok (a : α) (q : Nat)
def rdN (rec : Nat → Rd1 A) (l : List Nat) : Nat → Nat → List A → Rd1 (List A)
  | 0, q, acc => .ok acc q
  | n + 1, q, acc => if l[q]? = some 32 then (match rec (q + 1) with
    | .err p => .err p
    | .ok a q' => rdN rec l n q' (acc ++ [a])) else .err q
def rd (l : List Nat) : Nat → Nat → Rd1 A
  | 0, at_ => .err at_
  | k + 1, at_ => match l[at_]? with
    | none => .err at_
    | some c => if c = 40 then (if opsN (tokS l (at_ + 1)) = 0 then .err (at_ + 1) else match rdN (rd l k) l (opsN (tokS l (at_ + 1))) (at_ + 1 + (tokS l (at_ + 1)).length) [] with
        | .err p => .err p
        | .ok as q => if l[q]? = some 41 then .ok (.tup (.str (txt (tokS l (at_ + 1))) :: as)) (q + 1) else .err q)
      else match leafS (tokS l at_) with
        | none => .err at_
        | some a => .ok a (at_ + (tokS l at_).length)
theorem lit_o : ("(" : Str).cps.toList = [40] := by decide
theorem ops_some {w : List Nat} : (opsN w = 0 ∧ tbl_OPERANDS.lookup (txt w) = none) ∨ (opsN w ≠ 0 ∧ opsN w ≤ 3 ∧ ∃ ks : List Str, tbl_OPERANDS.lookup (txt w) = some ks ∧ ks.length = opsN w) := by
  cases h : tbl_OPERANDS.lookup (txt w) with
  | none => exact .inl ⟨by unfold opsN; rw [h], rfl⟩
  | some ks =>
    have e : opsN w = ks.length := by unfold opsN; rw [h]
    have g : ∀ (t : List (Str × List Str)) (z : Str) (ks : List Str), t.lookup z = some ks → ∃ p ∈ t, p.2 = ks := by
      intro t
      induction t with
      | nil => intro z ks h; cases h
      | cons p t ih =>
        intro z ks h
        obtain ⟨k, v⟩ := p
        rw [List.lookup] at h
        split at h
        · cases h
          exact ⟨_, List.mem_cons_self .., rfl⟩
        · obtain ⟨p, h1, h2⟩ := ih z ks h
          exact ⟨p, List.mem_cons_of_mem _ h1, h2⟩
    obtain ⟨p, hp, hk⟩ := g _ _ _ h
    have g2 : ∀ p ∈ tbl_OPERANDS, p.2.length ≠ 0 ∧ p.2.length ≤ 3 := by decide
    have := g2 p hp
    rw [hk] at this
    exact .inr ⟨by omega, by omega, ks, rfl, e.symm⟩
theorem hs_notinT {x z : Str} {tbl : List (Str × List Str)} {S : Sto} {P : A → Sto → Prop} {E : Str → List (Str × A) → Sto → Prop} : Hs (opNotInT x tbl (.str z) (.fn x) S) P E = P (.bl (!(tbl.lookup z).isSome)) S := by
  unfold opNotInT
  simp
theorem hs_ixT {x z : Str} {tbl : List (Str × List Str)} {S : Sto} {P : A → Sto → Prop} {E : Str → List (Str × A) → Sto → Prop} : Hs (opIxT x tbl (.fn x) (.str z) S) P E = ∃ ss, tbl.lookup z = some ss ∧ P (.tup (ss.map .str)) S := by
  unfold opIxT
  simp [hs_orBad]
theorem lit_sp : Str.ofString " " = txt [32] := by
  rw [eq_comm, txt_eq]
  decide
theorem lit_cl : Str.ofString ")" = txt [41] := by
  rw [eq_comm, txt_eq]
  decide
theorem leaf_N {l : List Nat} {x : A} (h : leafS l = some x) : isN x = false := by
  unfold leafS at h
  split at h
  · cases h; rfl
  · split at h
    · cases h; rfl
    · split at h
      · cases h; rfl
      · split at h
        · split at h
          · cases h; rfl
          · cases h
        · simp only [Option.map_eq_some_iff] at h
          obtain ⟨v, _, rfl⟩ := h
          rfl
        · cases h
theorem rcv_fr {S : Sto} {o e : Nat} {l : List Nat} {x : Str} (h : S[o]? = some (frO l e)) (hx : (([("text", A.str (txt l)), ("at", .int e)] : List (Str × A)).lookup x).isNone = true) : rcv S "FormReader" x (.loc o) = true := by
  simp only [rcv, h, frO]
  rw [hx]
  rfl
theorem hs_eq2 {r : R A} {x : A} {S : Sto} {P : A → Sto → Prop} {E : Str → List (Str × A) → Sto → Prop} (e : r = .ok x S) : Hs r P E = P x S := by rw [e]; rfl
def Eb (l : List Nat) (r : Rd1 A) (o : Nat) (S : Sto) : Str → List (Str × A) → Sto → Prop := fun c fs S' => c = "BadText" ∧ ∃ p : Nat, fs = ([("position", .int p)] : List (Str × A)) ∧ r = .err p ∧ Fr o S S'
theorem form_ok {l : List Nat} (hl : l.length ≤ 10000000) : ∀ (k : Nat), k ≤ 8 → ∀ (fuel : Nat) (S : Sto) (o a : Nat), k < fuel → S[o]? = some (frO l a) →
    Hs (f_FormReader_form fuel [.loc o, .int (9 - k : Int)] S) (fun x S' => ∃ q, rd l k a = .ok x q ∧ S'[o]? = some (frO l q) ∧ Fr o S S') (Eb l (rd l k a) o S)
  | 0, _, fuel + 1, S, o, a, _, h => by
    unfold f_FormReader_form m_FormReader_form
    simp [fld_at h, fld_text h, Eb, rd]
    exact ⟨a, rfl, rfl, Fr.refl⟩
  | k + 1, hk, fuel + 1, S, o, a, hf, h => by
    have hd : ¬ ((8 : Int) < 9 - ((k : Int) + 1)) := by omega
    unfold f_FormReader_form m_FormReader_form
    cases hc : l[a]? with
    | none =>
      have he : l.length ≤ a := List.getElem?_eq_none_iff.mp hc
      simp [fld_at h, fld_text h, len_txt, hl, he, hd, Eb, rd, hc]
      exact ⟨a, rfl, rfl, Fr.refl⟩
    | some c =>
      have he : ¬ l.length ≤ a := by
        have := (List.getElem?_eq_some_iff.mp hc).1
        omega
      have hcc : ((⟨#[c]⟩ : Str) = "(") = (c = 40) := by
        rw [one_eq, lit_o]
        simp
      by_cases h4 : c = 40
      · subst h4
        have hs : ∀ x : AO, (S.set o x)[o]? = some x := fun x => get_set_self (lt_of_get h)
        have h1 := hs (frO l (a + 1))
        have m1 := @rcv_fr _ o (a + 1) l "token" h1 rfl
        have hrd : rd l (k + 1) a = if opsN (tokS l (a + 1)) = 0 then .err (a + 1) else match rdN (rd l k) l (opsN (tokS l (a + 1))) (a + 1 + (tokS l (a + 1)).length) [] with
            | .err p => .err p
            | .ok as q => if l[q]? = some 41 then .ok (.tup (.str (txt (tokS l (a + 1))) :: as)) (q + 1) else .err q := by
          simp [rd, hc]
        generalize rd l (k + 1) a = R at hrd ⊢
        have htl : (tokS l (a + 1)).length ≤ 10000000 := by
          have := tok_len l (a + 1)
          omega
        simp [fld_at h, fld_text h, len_txt, hl, he, hd, Mi.atI_nat, hc, hcc, hs_iaddI]
        refine ⟨_, h, by simp, ?_⟩
        rw [put_at]
        have e1 : (AO.ins "FormReader" [("text", A.str (txt l)), ("at", .int ((a : Int) + 1))]) = frO l (a + 1) := by rw [frO]; simp
        rw [e1]
        rcases ops_some (w := tokS l (a + 1)) with ⟨n0, lk⟩ | ⟨n0, n3, ks, lk, hks⟩
        · rw [if_pos n0] at hrd
          simp [fld_at h1, m1, frT_ok hl h1, hs_notinT, hs_ixT, lk, Eb, hrd]
          exact ⟨a + 1, by omega, rfl, Fr.refl.set⟩
        · rw [if_neg n0] at hrd
          simp [fld_at h1, m1, frT_ok hl h1, hs_notinT, hs_ixT, lk, itemsW, seqV, tupOf]
          generalize hw : tokS l (a + 1) = w at *
          generalize hN : opsN w = N at *
          have hl0 : (S.set o (frO l (a + 1 + w.length)) ++ [AO.lst []])[S.length]? = some (.lst []) := by simp
          have hl1 : (S.set o (frO l (a + 1 + w.length)) ++ [AO.lst []])[o]? = some (frO l (a + 1 + w.length)) := by
            rw [List.getElem?_append_left (by simpa using lt_of_get h)]
            exact hs _
          refine hS_for (fun as e S' => ∃ (q : Nat) (acc : List A) (x7 : Option A), e = [some (A.loc o), some (A.int (9 - ((k : Int) + 1))), some (A.int a), none, some (A.int ((a : Int) + 1)), some (A.str (txt w)), some (A.loc S.length), x7] ∧ as.length + acc.length = N ∧ S'[o]? = some (frO l q) ∧ S'[S.length]? = some (.lst acc) ∧ Fr o S S' ∧ rdN (rd l k) l N (a + 1 + w.length) [] = rdN (rd l k) l as.length q acc) ?_ ?_ (ks.map A.str) _ _ ⟨_, [], none, rfl, by simp [hks], hl1, hl0, Fr.refl.set.add, by simp [hks]⟩
          · rintro b as e S' ⟨q, acc, x7, rfl, hlen, ho, hr, hfr, hrec⟩
            refine ⟨_, rfl, ?_⟩
            have m2 := @rcv_fr _ o q l "expect" ho rfl
            rw [lit_sp]
            simp [m2, frE_ok hl ho]
            have hlt : o < S.length := lt_of_get h
            have ho1 : (S'.set o (frO l (q + 1)))[o]? = some (frO l (q + 1)) := get_set_self (lt_of_get ho)
            have hr1 : (S'.set o (frO l (q + 1)))[S.length]? = some (.lst acc) := by
              rw [List.getElem?_set_ne (by omega)]
              exact hr
            rw [List.length_cons] at hlen hrec
            by_cases h32 : l[q]? = some 32
            · rw [if_pos h32]
              have hrec2 : rdN (rd l k) l N (a + 1 + w.length) [] = match rd l k (q + 1) with
                  | .err p => .err p
                  | .ok x q' => rdN (rd l k) l as.length q' (acc ++ [x]) := by
                rw [hrec]
                simp only [rdN, h32, if_true]
              refine ⟨tyM_loc hr1, @rcv_fr _ o (q + 1) l "form" ho1 rfl, ?_⟩
              have ed : (9 - ((k : Int) + 1) + 1) = 9 - k := by omega
              rw [ed]
              refine (form_ok hl k (by omega) fuel _ o (q + 1) (by omega) ho1).imp ?_ ?_
              · rintro x S2 ⟨q', e2, ho2, fr2⟩
                have hr2 : S2[S.length]? = some (.lst acc) := fr2.get hr1 (by omega)
                refine ⟨acc, hr2, by omega, q', acc ++ [x], by rw [List.length_append, List.length_singleton]; omega, ?_, get_set_self (lt_of_get hr2), (hfr.set.trans fr2).setN (Nat.le_refl _), ?_⟩
                · rw [List.getElem?_set_ne (by omega)]
                  exact ho2
                · rw [hrec2, e2]
              · rintro c fs S2 ⟨rfl, p, rfl, e2, fr2⟩
                exact ⟨rfl, p, rfl, by rw [hrd, hrec2, e2], hfr.set.trans fr2⟩
            · rw [if_neg h32]
              refine ⟨rfl, q, rfl, ?_, hfr⟩
              rw [hrd, hrec]
              simp only [rdN, h32, if_false]
          · rintro e S' ⟨q, acc, x7, rfl, hlen, ho, hr, hfr, hrec⟩
            have m2 := @rcv_fr _ o q l "expect" ho rfl
            rw [lit_cl]
            simp [m2, frE_ok hl ho]
            have hlt : o < S.length := lt_of_get h
            have ho1 : (S'.set o (frO l (q + 1)))[o]? = some (frO l (q + 1)) := get_set_self (lt_of_get ho)
            have hr1 : (S'.set o (frO l (q + 1)))[S.length]? = some (.lst acc) := by
              rw [List.getElem?_set_ne (by omega)]
              exact hr
            rw [hrec] at hrd
            simp only [List.length_nil, rdN] at hrd hlen
            by_cases h41 : l[q]? = some 41
            · rw [if_pos h41] at hrd ⊢
              exact ⟨acc, hr1, by omega, q + 1, hrd, ho1, hfr.set⟩
            · rw [if_neg h41] at hrd ⊢
              exact ⟨rfl, q, rfl, hrd, hfr⟩
      · have hm := @rcv_fr S o a l "token" h rfl
        have hrd : rd l (k + 1) a = match leafS (tokS l a) with
            | none => .err a
            | some x => .ok x (a + (tokS l a).length) := by
          simp [rd, hc, h4]
        rw [hrd]
        have htl : (tokS l a).length ≤ 10000000 := by
          have := tok_len l a
          omega
        have hs : ∀ x : AO, (S.set o x)[o]? = some x := fun x => get_set_self (lt_of_get h)
        simp [fld_at h, fld_text h, len_txt, hl, he, hd, Mi.atI_nat, hc, hcc, h4, hm, frT_ok hl h, read_leaf_ok htl]
        cases hlf : leafS (tokS l a) with
        | none =>
          simp [vA, Eb]
          exact ⟨a, rfl, rfl, Fr.refl.set⟩
        | some x =>
          simp [vA, leaf_N hlf, hs]
          exact Fr.refl.set
end K77
namespace K77
open PySem PySem.Spec PyProof.Rows L2 Mi
def outL : Rd1 A → A
  | .err p => .lst [.non, .int p]
  | .ok a q => .lst [a, .int q]
theorem rd_N {l : List Nat} : ∀ {k a : Nat} {x : A} {q : Nat}, rd l k a = .ok x q → isN x = false
  | 0, a, x, q, h => by cases h
  | k + 1, a, x, q, h => by
    simp only [rd] at h
    split at h
    · cases h
    · split at h
      · split at h
        · cases h
        · split at h
          · cases h
          · split at h
            · cases h; rfl
            · cases h
      · split at h
        · cases h
        · rename_i hh
          cases h
          exact leaf_N hh
theorem cut_one (l : List Nat) (a : Nat) : (cutS (txt l) (some (a : Int)) (some ((a : Int) + 1)) = txt [32]) = (l[a]? = some 32) ∧ (cutS (txt l) (some (a : Int)) (some ((a : Int) + 1)) = txt [41]) = (l[a]? = some 41) := by
  have e : cutS (txt l) (some (a : Int)) (some ((a : Int) + 1)) = txt ((l.drop a).take 1) := by
    have := cut_mid l a (a + 1)
    rw [show a + 1 - a = 1 by omega] at this
    exact this
  have g : ∀ s : Nat, (txt ((l.drop a).take 1) = txt [s]) = (l[a]? = some s) := fun s => by
    rw [txt_eq, show (txt [s]).cps.toList = [s] from rfl, take1, List.head?_drop]
  rw [e]
  exact ⟨g 32, g 41⟩
theorem l_read_ok {l : List Nat} (hl : l.length ≤ 10000000) (hm : ∀ c ∈ l, c < 1000) : ∀ (k : Nat), k ≤ 8 → ∀ (fuel : Nat) (S : Sto) (a : Nat), k < fuel →
    Hs (f_l_read fuel [.str (txt l), .int a, .int (9 - k : Int)] S) (fun x S' => x = outL (rd l k a) ∧ Fz S S') (fun _ _ _ => False)
  | 0, _, fuel + 1, S, a, _ => by
    unfold f_l_read m_l_read
    simp [rd, outL]
    exact Fz.refl
  | k + 1, hk, fuel + 1, S, a, hf => by
    have hd : ¬ ((8 : Int) < 9 - ((k : Int) + 1)) := by omega
    unfold f_l_read m_l_read
    cases hc : l[a]? with
    | none =>
      have he : l.length ≤ a := List.getElem?_eq_none_iff.mp hc
      simp [len_txt, hl, he, hd, rd, hc, outL]
      exact Fz.refl
    | some c =>
      have he : ¬ l.length ≤ a := by
        have := (List.getElem?_eq_some_iff.mp hc).1
        omega
      have hcc : ((⟨#[c]⟩ : Str) = "(") = (c = 40) := by
        rw [one_eq, lit_o]
        simp
      by_cases h4 : c = 40
      · subst h4
        have hrd : rd l (k + 1) a = if opsN (tokS l (a + 1)) = 0 then .err (a + 1) else match rdN (rd l k) l (opsN (tokS l (a + 1))) (a + 1 + (tokS l (a + 1)).length) [] with
            | .err p => .err p
            | .ok as q => if l[q]? = some 41 then .ok (.tup (.str (txt (tokS l (a + 1))) :: as)) (q + 1) else .err q := by
          simp [rd, hc]
          try rfl
        generalize rd l (k + 1) a = R at hrd ⊢
        have htl : (tokS l (a + 1)).length ≤ 10000000 := by
          have := tok_len l (a + 1)
          omega
        have tk := @l_token_ok l (a + 1) S hl
        have tc : ((a + 1 : Nat) : Int) = (a : Int) + 1 := by omega
        rw [tc] at tk
        rcases ops_some (w := tokS l (a + 1)) with ⟨n0, _⟩ | ⟨n0, n3, _⟩
        · rw [if_pos n0] at hrd
          simp [len_txt, hl, he, hd, Mi.atI_nat, hc, hcc, tk, l_operands_ok, n0, hrd, outL]
          exact Fz.refl
        · rw [if_neg n0] at hrd
          generalize hw : tokS l (a + 1) = w at *
          generalize hN : opsN w = N at *
          have n0' : ¬ ((N : Int) = 0) := by omega
          have n9 : (-1000000000 : Int) ≤ N ∧ (N : Int) ≤ 1000000000 := by omega
          simp [len_txt, hl, he, hd, Mi.atI_nat, hc, hcc, tk, l_operands_ok, hN, n0, n0', htl, iRg, n9]
          refine hS_for (fun as e S' => ∃ (q : Nat) (acc : List A) (x5 x6 : Option A), e = [some (A.str (txt l)), some (A.int q), some (A.int (9 - ((k : Int) + 1))), some (A.loc S.length), some (A.str (txt w)), x5, x6] ∧ as.length + acc.length = N ∧ S'[S.length]? = some (.lst (.str (txt w) :: acc)) ∧ Fz S S' ∧ rdN (rd l k) l N (a + 1 + w.length) [] = rdN (rd l k) l as.length q acc) ?_ ?_ (intsA 0 N) [some (A.str (txt l)), some (A.int ((a : Int) + 1 + w.length)), some (A.int (9 - ((k : Int) + 1))), some (A.loc S.length), some (A.str (txt w)), none, none] (S ++ [AO.lst [A.str (txt w)]]) ⟨a + 1 + w.length, [], none, none, by simp, by simp [intsA], by simp, Fz.refl.add, by simp [intsA]⟩
          · rintro b as e S' ⟨q, acc, x5, x6, rfl, hlen, hr, hfr, hrec⟩
            refine ⟨_, rfl, ?_⟩
            rw [lit_sp]
            simp [(cut_one l q).1, hl, len_txt]
            rw [List.length_cons] at hlen hrec
            by_cases h32 : l[q]? = some 32
            · refine .inl ⟨h32, ?_⟩
              have hrec2 : rdN (rd l k) l N (a + 1 + w.length) [] = match rd l k (q + 1) with
                  | .err p => .err p
                  | .ok x q' => rdN (rd l k) l as.length q' (acc ++ [x]) := by
                rw [hrec]
                simp only [rdN, h32, if_true]
                try rfl
              have ed : (9 - ((k : Int) + 1) + 1) = 9 - k := by omega
              have eq1 : ((q : Int) + 1) = ((q + 1 : Nat) : Int) := by omega
              rw [ed, eq1]
              refine (l_read_ok hl hm k (by omega) fuel S' (q + 1) (by omega)).imp ?_ (fun _ _ _ z => z)
              rintro x S2 ⟨rfl, fr2⟩
              have hr2 := fr2.get hr
              have ty := tyM_loc hr2
              cases hq : rd l k (q + 1) with
              | err p =>
                rw [hq] at hrec2
                have hR : R = .err p := by rw [hrd, hrec2]
                simp [outL, atI0, hR]
                exact hfr.trans fr2
              | ok x q' =>
                rw [hq] at hrec2
                have hgs : ∀ o : AO, (S2.set S.length o)[S.length]? = some o := fun o => get_set_self (lt_of_get hr2)
                simp [outL, atI0, atI1, rd_N hq, ty, hr2, hgs]
                exact ⟨by omega, q', rfl, acc ++ [x], by rw [List.length_append, List.length_singleton]; omega, rfl, (hfr.trans fr2).setN (Nat.le_refl _), hrec2⟩
            · refine .inr ⟨h32, ?_, hfr⟩
              have hR : R = .err q := by
                rw [hrd, hrec]
                simp only [rdN, h32, if_false]
              rw [hR]
              try rfl
          · rintro e S' ⟨q, acc, x5, x6, rfl, hlen, hr, hfr, hrec⟩
            rw [lit_cl]
            simp [(cut_one l q).2, hl, len_txt]
            rw [hrec] at hrd
            simp only [List.length_nil, rdN] at hrd hlen
            by_cases h41 : l[q]? = some 41
            · rw [if_pos h41] at hrd
              refine .inr ⟨h41, _, hr, ?_, hfr⟩
              rw [hrd]
              try rfl
            · rw [if_neg h41] at hrd
              refine .inl ⟨h41, ?_, hfr⟩
              rw [hrd]
              try rfl
      · have hrd : rd l (k + 1) a = match leafS (tokS l a) with
            | none => .err a
            | some x => .ok x (a + (tokS l a).length) := by
          simp [rd, hc, h4]
          try rfl
        rw [hrd]
        have htl : (tokS l a).length ≤ 10000000 := by
          have := tok_len l a
          omega
        have tk := @l_token_ok l a S hl
        simp [len_txt, hl, he, hd, Mi.atI_nat, hc, hcc, h4, tk, l_leaf_of_ok htl fun c h => hm c (tok_mem h), htl]
        cases hlf : leafS (tokS l a) with
        | none =>
          simp [vA, outL]
          exact Fz.refl
        | some x =>
          simp [vA, leaf_N hlf, outL]
          exact Fz.refl
end K77
namespace K77
open PySem PySem.Spec PyProof.Rows L2 Mi
def resS (l : List Nat) : A := match rd l 8 0 with
  | .err p => .lst [.str "bad", .int p, .bl true]
  | .ok a q => if q < l.length then .lst [.str "bad", .int q, .bl true] else .lst [.str "read", a]
theorem due_ok {l : List Nat} {S : Sto} (hl : l.length ≤ 10000000) (hm : ∀ c ∈ l, c < 1000) : Hs (f_l_due [.str (txt l)] S) (fun x S' => x = resS l ∧ Fz S S') (fun _ _ _ => False) := by
  unfold f_l_due m_l_due
  simp
  refine (l_read_ok hl hm 8 (by decide) 12 S 0 (by decide)).imp ?_ (fun _ _ _ z => z)
  rintro x S' ⟨rfl, fr⟩
  unfold resS
  cases h : rd l 8 0 with
  | err p => simp [outL, atI0, atI1, fr]
  | ok a q =>
    by_cases hq : q < l.length
    · simp [outL, atI0, atI1, fr, rd_N h, hq, len_txt, hl]
    · simp [outL, atI0, atI1, fr, rd_N h, hq, len_txt, hl]
theorem hs_xf {fs : List (Str × A)} {f : Str} {env : Mi.Env} {S : Sto} {P : A → Sto → Prop} {E : Str → List (Str × A) → Sto → Prop} : Hs (eXf fs f env S) P E = ∃ v, fs.lookup f = some v ∧ P v S := by
  unfold eXf
  rw [hs_orBad]
  rfl
theorem fz_fr {S S1 S2 : Sto} {o : Nat} (a : Fz S S1) (b : Fr o S1 S2) (h : S.length ≤ o) : Fz S S2 := ⟨Nat.le_trans a.1 b.1, fun m h1 => (b.2 m (Nat.lt_of_lt_of_le h1 a.1) (by omega)).trans (a.2 m h1)⟩
theorem told_ok {l : List Nat} {S : Sto} (hl : l.length ≤ 10000000) : Hs (f_l_told [.str (txt l)] S) (fun x S' => x = resS l ∧ Fz S S') (fun _ _ _ => False) := by
  unfold f_l_told m_l_told f_read_expression m_read_expression f_FormReader_init m_FormReader_init
  have tne : ¬ (("text" : Str) = "at") := by decide
  simp [putA, tne]
  have e0 : AO.ins "FormReader" [("text", A.str (txt l)), ("at", A.int 0)] = frO l 0 := rfl
  rw [e0]
  have h0 : (S ++ [frO l 0])[S.length]? = some (frO l 0) := by simp
  refine ⟨@rcv_fr _ S.length 0 l "form" h0 rfl, ?_⟩
  have key := form_ok hl 8 (by decide) 12 (S ++ [frO l 0]) S.length 0 (by decide) h0
  refine key.imp ?_ ?_
  · rintro x S1 ⟨q, hq, ho, fr⟩
    have fz := fz_fr (Fz.refl.add (l := [frO l 0])) fr (Nat.le_refl _)
    by_cases h : q < l.length
    · simp [fld_at ho, len_txt, hl, h, hs_xf, resS, hq, fz]
    · simp [fld_at ho, len_txt, hl, h, hs_xf, resS, hq, fz]
  · rintro c fs S1 ⟨rfl, p, rfl, hq, fr⟩
    have fz := fz_fr (Fz.refl.add (l := [frO l 0])) fr (Nat.le_refl _)
    simp [hs_xf, resS, hq, fz]
end K77
namespace K77
open PySem PySem.Spec PyProof.Rows L2 Mi
theorem told_odd {x : A} {S : Sto} (hx : x = .non ∨ x = .int 5 ∨ x = .lst [.str "a"] ∨ x = .tup [.str "a"] ∨ x = .bl true) : f_l_told [x] S = .ok (.lst [.str "bad", .int 0, .bl true]) S := by
  have k1 : kitB "NoneType" "str" = some false := by decide +kernel
  have k2 : kitB "int" "str" = some false := by decide +kernel
  have k3 : kitB "list" "str" = some false := by decide +kernel
  have k4 : kitB "tuple" "str" = some false := by decide +kernel
  have k5 : kitB "bool" "str" = some false := by decide +kernel
  apply ok_of_hs
  unfold f_l_told m_l_told f_read_expression m_read_expression
  rcases hx with rfl | rfl | rfl | rfl | rfl <;> simp [k1, k2, k3, k4, k5, hs_xf]
theorem name_len {l : List Nat} (h : nameS l = true) : l.length ≤ 12 := by
  cases l with
  | nil => simp
  | cons c r =>
    simp [nameS] at h
    rw [List.length_cons]
    omega
theorem numS_sh {l : List Nat} {a : A} (h : numS l = some a) : Sh 1 100 a := by
  unfold numS at h
  simp only [Option.bind_eq_some_iff] at h
  obtain ⟨n, _, d, _, h3⟩ := h
  split at h3
  · cases h3
  · rename_i q
    simp only [not_or] at q
    cases h3
    have h1 : (if l.head? = some 45 then -(n : Int) else n).natAbs < 10 ^ 41 := by
      split <;> omega
    have h2 : ((d : Nat) : Int).natAbs < 10 ^ 41 := by omega
    exact (Sh.tup (Shs.cons (Sh.int (by decide) (by decide) h1) (Shs.cons (Sh.int (by decide) (by decide) h2) Shs.nil))).mono (Nat.le_refl _) (by simp)
theorem leaf_sh {l : List Nat} {a : A} (hm : ∀ c ∈ l, c < 1000) (h : leafS l = some a) : Sh 2 208 a := by
  have sc : Sh 0 62 (.str "column") := Sh.strZ (n := 6) (by decide) (by decide)
  have sv : Sh 0 52 (.str "value") := Sh.strZ (n := 5) (by decide) (by decide)
  unfold leafS at h
  split at h
  · rename_i hn
    cases h
    exact (Sh.tup (Shs.cons sc (Shs.cons (Sh.str hm) Shs.nil))).mono (by decide) (by have := name_len hn; simp; omega)
  · split at h
    · cases h
      exact (Sh.tup (Shs.cons sv (Shs.cons Sh.bl Shs.nil))).mono (by decide) (by simp)
    · split at h
      · cases h
        exact (Sh.tup (Shs.cons sv (Shs.cons Sh.bl Shs.nil))).mono (by decide) (by simp)
      · split at h
        · rename_i r _ _
          split at h
          · rename_i hn
            cases h
            exact (Sh.tup (Shs.cons sv (Shs.cons (Sh.str fun c hc => hm c (List.mem_cons_of_mem _ (List.mem_cons_of_mem _ hc))) Shs.nil))).mono (by decide) (by have := name_len hn; simp; omega)
          · cases h
        · simp only [Option.map_eq_some_iff] at h
          obtain ⟨v, hv, rfl⟩ := h
          exact (Sh.tup (Shs.cons (sv.mono (Nat.zero_le 1) (Nat.le_refl _)) (Shs.cons (numS_sh hv) Shs.nil))).mono (by decide) (by simp)
        · cases h
theorem ops_len {w : List Nat} (h : opsN w ≠ 0) : w.length ≤ 7 := by
  rcases ops_some (w := w) with ⟨h1, _⟩ | ⟨_, _, ks, h1, _⟩
  · exact absurd h1 h
  · have g : ∀ (t : List (Str × List Str)) (z : Str) (ks : List Str), t.lookup z = some ks → ∃ p ∈ t, p.1 = z := by
      intro t
      induction t with
      | nil => intro z ks h; cases h
      | cons p t ih =>
        intro z ks h
        obtain ⟨k, v⟩ := p
        rw [List.lookup] at h
        split at h
        · rename_i hz
          exact ⟨_, List.mem_cons_self .., (beq_iff_eq.mp hz).symm⟩
        · obtain ⟨p, h1, h2⟩ := ih z ks h
          exact ⟨p, List.mem_cons_of_mem _ h1, h2⟩
    obtain ⟨p, hp, hk⟩ := g _ _ _ h1
    have g2 : ∀ p ∈ tbl_OPERANDS, p.1.cps.toList.length ≤ 7 := by decide
    have := g2 p hp
    rw [hk] at this
    exact this
def Lw (k : Nat) : Nat := 250 * 3 ^ k - 42
theorem Lw_s (k : Nat) : 3 * Lw k + 83 ≤ Lw (k + 1) ∧ 208 ≤ Lw k := by
  have h : 0 < 3 ^ k := Nat.pow_pos (by decide)
  unfold Lw
  rw [Nat.pow_succ]
  omega
theorem rdN_sh {rec : Nat → Rd1 A} {l : List Nat} {m w : Nat} (hr : ∀ q a q', rec q = .ok a q' → Sh m w a) : ∀ (n q : Nat) (acc as : List A) (q' : Nat), Shs m (acc.length * w) acc → rdN rec l n q acc = .ok as q' → Shs m (as.length * w) as ∧ as.length = n + acc.length
  | 0, q, acc, as, q', h, e => by
    simp only [rdN] at e
    cases e
    exact ⟨h, by omega⟩
  | n + 1, q, acc, as, q', h, e => by
    simp only [rdN] at e
    split at e
    · split at e
      · cases e
      · rename_i a q2 hq
        have := rdN_sh hr n q2 (acc ++ [a]) as q' ((h.snoc (hr _ _ _ hq)).mono (Nat.le_refl _) (by rw [List.length_append, List.length_singleton, Nat.add_mul]; omega)) e
        rw [List.length_append, List.length_singleton] at this
        exact ⟨this.1, by omega⟩
    · cases e
theorem rd_sh {l : List Nat} (hm : ∀ c ∈ l, c < 1000) : ∀ (k a : Nat) (x : A) (q : Nat), rd l k a = .ok x q → Sh (k + 2) (Lw k) x
  | 0, a, x, q, h => by cases h
  | k + 1, a, x, q, h => by
    simp only [rd] at h
    split at h
    · cases h
    · split at h
      · split at h
        · cases h
        · rename_i h0
          split at h
          · cases h
          · rename_i as q' hN
            split at h
            · cases h
              obtain ⟨h1, h2⟩ := rdN_sh (fun q a q' => rd_sh hm k q a q') _ _ _ _ _ (Shs.nil.mono (Nat.le_refl _) (Nat.zero_le _)) hN
              have hw := ops_len h0
              have h3 : opsN (tokS l (a + 1)) ≤ 3 := by
                rcases ops_some (w := tokS l (a + 1)) with ⟨z, _⟩ | ⟨_, z, _⟩ <;> omega
              rw [List.length_nil] at h2
              have h4 : as.length * Lw k ≤ 3 * Lw k := Nat.mul_le_mul_right _ (by omega)
              have h5 := Lw_s k
              have h6 : Sh (k + 2) (10 * (tokS l (a + 1)).length + 2) (.str (txt (tokS l (a + 1)))) := (Sh.str fun c hc => hm c (tok_mem hc)).mono (Nat.zero_le _) (Nat.le_refl _)
              have h7 := Sh.tup (Shs.cons h6 h1)
              rw [List.length_cons] at h7
              exact h7.mono (Nat.le_refl _) (by omega)
            · cases h
      · split at h
        · cases h
        · rename_i hh
          cases h
          exact (leaf_sh (fun c hc => hm c (tok_mem hc)) hh).mono (by omega) (Lw_s (k + 1)).2
def PosR {α : Type} (n : Nat) : Rd1 α → Prop
  | .err p => p ≤ n
  | .ok _ q => q ≤ n
theorem rdN_pos {rec : Nat → Rd1 A} {l : List Nat} (hr : ∀ q, q ≤ l.length → PosR l.length (rec q)) : ∀ (n q : Nat) (acc : List A), q ≤ l.length → PosR l.length (rdN rec l n q acc)
  | 0, q, acc, h => h
  | n + 1, q, acc, h => by
    simp only [rdN]
    split
    · rename_i h32
      have hq := (List.getElem?_eq_some_iff.mp h32).1
      have := hr (q + 1) hq
      split
      · rename_i p e
        rw [e] at this
        exact this
      · rename_i a q2 e
        rw [e] at this
        exact rdN_pos hr n q2 _ this
    · exact h
theorem rd_posR {l : List Nat} : ∀ (k a : Nat), a ≤ l.length → PosR l.length (rd l k a)
  | 0, a, h => h
  | k + 1, a, h => by
    simp only [rd]
    split
    · exact h
    · rename_i c hc
      have ha := (List.getElem?_eq_some_iff.mp hc).1
      split
      · split
        · exact ha
        · have h1 := tok_len l (a + 1)
          have := rdN_pos (l := l) (fun q hq => rd_posR k q hq) (opsN (tokS l (a + 1))) (a + 1 + (tokS l (a + 1)).length) [] (by omega)
          split
          · rename_i p e
            rw [e] at this
            exact this
          · rename_i as q e
            rw [e] at this
            split
            · rename_i h41
              exact (List.getElem?_eq_some_iff.mp h41).1
            · exact this
      · split
        · exact h
        · have h1 := tok_len l a
          show _ ≤ _
          omega
theorem rd_pos {l : List Nat} (k a : Nat) (h : a ≤ l.length) : (∀ p, rd l k a = .err p → p ≤ l.length) ∧ (∀ x q, rd l k a = .ok x q → q ≤ l.length) := by
  have := rd_posR k a h
  constructor
  · intro p e
    rw [e] at this
    exact this
  · intro x q e
    rw [e] at this
    exact this
theorem res_repr {l : List Nat} (hl : l.length ≤ 10000000) (hm : ∀ c ∈ l, c < 1000) : ∃ T : Str, ∀ S, bRepr [resS l] S = .ok (.str T) S := by
  have sb : Sh 0 32 (.str "bad") := Sh.strZ (n := 3) (by decide) (by decide)
  have sr : Sh 0 42 (.str "read") := Sh.strZ (n := 4) (by decide) (by decide)
  have hp := rd_pos (l := l) 8 0 (Nat.zero_le _)
  have bad : ∀ p : Nat, p ≤ l.length → ∃ T : Str, ∀ S, bRepr [.lst [.str "bad", .int p, .bl true]] S = .ok (.str T) S := fun p h => by
    have h2 : ((p : Nat) : Int).natAbs < 10 ^ 8 := by omega
    exact repr_of (Sh.lst (Shs.cons sb (Shs.cons (Sh.int (by decide) (by decide) h2) (Shs.cons Sh.bl Shs.nil)))) rfl (by decide) (by simp)
  unfold resS
  split
  · rename_i p h
    exact bad p (hp.1 p h)
  · rename_i a q h
    split
    · exact bad q (hp.2 a q h)
    · have := rd_sh hm 8 0 a q h
      exact repr_of (Sh.lst (Shs.cons (sr.mono (Nat.zero_le _) (Nat.le_refl _)) (Shs.cons this Shs.nil))) rfl (by decide) (by simp [Lw])
end K77
namespace K77
open PySem PySem.Spec PyProof.Rows L2 Mi
theorem letter {d : Int} (h0 : 0 ≤ d) (h : d < 36) : ∃ c, atI ("abcdefghijklmnopqrstuvwxyz0123456789" : Str).cps.toList d = some c ∧ c < 1000 := by
  have e : ∀ k : Nat, k < 36 → ∃ c, ("abcdefghijklmnopqrstuvwxyz0123456789" : Str).cps.toList[k]? = some c ∧ c < 1000 := fun k hk => by
    have hl : ("abcdefghijklmnopqrstuvwxyz0123456789" : Str).cps.toList.length = 36 := by decide +kernel
    have ha : ∀ c ∈ ("abcdefghijklmnopqrstuvwxyz0123456789" : Str).cps.toList, c < 1000 := by decide +kernel
    exact ⟨_, List.getElem?_eq_getElem (by omega), ha _ (List.getElem_mem _)⟩
  rw [atI_pos h0]
  exact e _ (by omega)
theorem txA : Tx 1 ("a" : Str) := Tx.lit (by decide)
theorem len36 : ("abcdefghijklmnopqrstuvwxyz0123456789" : Str).length = 36 := by decide +kernel
theorem iRg_ok {env : Mi.Env} {S : Sto} {m : AM} {PL : List A → Sto → Prop} {E : Str → List (Str × A) → Sto → Prop} : Hs (iRg m env S) PL E = Hs (m env S) (fun as S1 => ∃ n : Int, as = [.int n] ∧ (-1000000000 ≤ n ∧ n ≤ 1000000000) ∧ PL (intsA 0 n.toNat) S1) E := by
  unfold iRg
  rw [hs_bind]
  congr 1
  funext as S1
  rcases as with _ | ⟨x, _ | ⟨y, r⟩⟩
  · simp
  · cases x with
    | int n => by_cases h : -1000000000 ≤ n ∧ n ≤ 1000000000 <;> simp [h]
    | _ => simp
  · simp
theorem name_ok {t n : Nat} {S : Sto} {P : A → Sto → Prop} {E : Str → List (Str × A) → Sto → Prop} (h : Tp t n S) (hn : n < 10 ^ 14)
    (k : ∀ z S', Tx 12 z → Tp t (n + 20) S' → Fr t S S' → P (.str z) S') : Hs (f_l_name [.loc t] S) P E := by
  unfold f_l_name m_l_name
  simp -implicitDefEqProofs
  refine draw_ok h (by omega) (by decide) (by decide) fun d S1 d0 d1 h1 f1 => ?_
  simp -implicitDefEqProofs
  refine draw_ok h1 (by omega) (by decide) (by decide) fun e S2 e0 e1 h2 f2 => ?_
  have la : ("a" : Str).length = 1 := by decide
  have lg : ∀ b : Prop, ∀ _ : Decidable b, (if b then (1 : Int) else 0).natAbs.log2 < 999 := fun b _ => by split <;> decide
  have l10 : Nat.log2 10 = 3 := by decide
  by_cases he : e = 0
  · simp -implicitDefEqProofs [he]
    refine draw_ok h2 (by omega) (by omega) (by omega) fun p S3 p0 p1 h3 f3 => ?_
    simp -implicitDefEqProofs
    refine ⟨by have := lg (0 < p) inferInstance; omega, ?_⟩
    refine draw_ok h3 (by omega) (by split <;> omega) (by split <;> omega) fun q S4 q0 q1 h4 f4 => ?_
    obtain ⟨c, hc, hc2⟩ := letter q0 (by split at q1 <;> omega)
    have t1 := Tx.mul txA p p0
    have t2 := Tx.mul txA (1 + d - 1 - p) (by omega)
    have t3 := Tx.app (Tx.app t1 (Tx.one hc2)) t2
    have t1l := t1.len
    have t2l := t2.len
    have t12 := (Tx.app t1 (Tx.one hc2)).len
    simp -implicitDefEqProofs [hc, la, len36]
    refine ⟨⟨by omega, by omega⟩, ?_, ⟨by omega, by omega⟩, ?_, ?_⟩
    · show _ + 1 ≤ _
      omega
    · omega
    · exact k _ _ (t3.mono (by omega)) (h4.mono (by omega)) (((f1.trans f2).trans f3).trans f4)
  · simp -implicitDefEqProofs [he, iRg_ok]
    refine ⟨by omega, by simp [intsA]; omega, ?_⟩
    refine hs_lcM (fun as acc S' => ∃ zs : List Str, acc = zs.map .str ∧ (∀ z ∈ zs, Tx 1 z) ∧ (∀ a ∈ as, ∃ i : Int, a = .int i) ∧ as.length + zs.length = (1 + d).toNat ∧ Tp t (n + 2 + zs.length) S' ∧ Fr t S S') ?_ ?_ _ _ _ ⟨[], rfl, by simp, ?_, ?_, h2, f1.trans f2⟩
    · rintro a as acc S' ⟨zs, rfl, hz, ha, hl, ht, hf⟩
      obtain ⟨i, rfl⟩ := ha _ (List.mem_cons_self ..)
      rw [List.length_cons] at hl
      refine ⟨_, rfl, ?_⟩
      simp -implicitDefEqProofs [wipeE]
      refine ⟨by have := lg (0 < i) inferInstance; omega, ?_⟩
      refine draw_ok ht (by omega) (by split <;> omega) (by split <;> omega) fun q S4 q0 q1 h4 f4 => ?_
      obtain ⟨c, hc, hc2⟩ := letter q0 (by split at q1 <;> omega)
      simp -implicitDefEqProofs [hc, len36]
      refine ⟨zs ++ [⟨#[c]⟩], by simp, ?_, fun a h => ha a (List.mem_cons_of_mem _ h), by simp; omega, h4.mono (by simp; omega), hf.trans f4⟩
      intro z hzz
      rcases List.mem_append.mp hzz with y | y
      · exact hz z y
      · rw [List.mem_singleton.mp y]
        exact Tx.one hc2
    · rintro acc S' ⟨zs, rfl, hz, ha, hl, ht, hf⟩
      have ze : Tx 0 ("" : Str) := Tx.lit (by decide)
      have l0 : ("" : Str).length = 0 := by decide
      have sl := sum_len zs hz
      rw [List.length_nil] at hl
      rw [hs_joinL (by rw [l0]; omega)]
      exact k _ _ ((Tx.join ze hz).mono (by omega)) (ht.mono (by omega)) hf
    · intro a ha
      obtain ⟨j, _, rfl⟩ := List.mem_map.mp ha
      exact ⟨_, rfl⟩
    · simp [intsA]
end K77
namespace K77
open PySem PySem.Spec PyProof.Rows L2 Mi
theorem inN {S : Sto} {m : Nat} {xs : List A} {z : Str} (h : S[m]? = some (.lst xs)) (hx : xs.all flatA = true) : inG S (.str z) (.loc m) = some (inF (.str z) xs) := by
  simp only [inG, lstOf, h]
  rw [if_pos ⟨rfl, hx⟩]
theorem hs_listT {xs : List A} {f : Bool} {S : Sto} {P : A → Sto → Prop} {E : Str → List (Str × A) → Sto → Prop} : Hs (bList f [.tup xs] S) P E = Hs (newL f xs S) P E := rfl
theorem items_str {z : Str} {S : Sto} : itemsW S (.str z) = some (Mi.signs z) := rfl
theorem letters_ok : ∀ a ∈ Mi.signs ("abcdefghijklmnopqrstuvwxyz0123456789" : Str), ∃ c, a = .str ⟨#[c]⟩ ∧ c < 1000 := by
  intro a ha
  obtain ⟨c, hc, rfl⟩ := List.mem_map.mp ha
  have : ∀ c ∈ ("abcdefghijklmnopqrstuvwxyz0123456789" : Str).cps.toList, c < 1000 := by decide +kernel
  exact ⟨c, rfl, this c hc⟩
theorem fresh_ok {t n m : Nat} {S : Sto} {xs : List A} {P : A → Sto → Prop} {E : Str → List (Str × A) → Sto → Prop} (h : Tp t n S) (hn : n < 10 ^ 14) (hm : S[m]? = some (.lst xs)) (hmt : m ≠ t) (hx : xs.all flatA = true)
    (k : ∀ z S', Tx 13 z → Tp t (n + 20) S' → Fr t S S' → P (.str z) S') : Hs (f_l_fresh [.loc t, .loc m] S) P E := by
  unfold f_l_fresh m_l_fresh
  simp -implicitDefEqProofs
  refine name_ok h hn fun z S1 hz h1 f1 => ?_
  have hm1 := f1.get hm hmt
  have key := @inN S1 m xs z hm1 hx
  have zl := hz.len
  cases hk : inF (.str z) xs with
  | false =>
    rw [hk] at key
    simp -implicitDefEqProofs [hs_notin key]
    exact k _ _ (hz.mono (by decide)) h1 f1
  | true =>
    rw [hk] at key
    simp -implicitDefEqProofs [hs_notin key, items_str]
    refine hS_for (fun as e S' => S' = S1 ∧ (∀ a ∈ as, ∃ c, a = .str ⟨#[c]⟩ ∧ c < 1000) ∧ ∃ x3, e = [some (A.loc t), some (A.loc m), some (A.str z), x3]) ?_ ?_ _ _ _ ⟨rfl, letters_ok, none, rfl⟩
    · rintro a as e S' ⟨rfl, ha, x3, rfl⟩
      obtain ⟨c, rfl, hc⟩ := ha _ (List.mem_cons_self ..)
      refine ⟨_, rfl, ?_⟩
      have tz := Tx.app (hz.cut none (some 11)) (Tx.one hc)
      have key2 := @inN S' m xs (cutS z none (some 11) ++ ⟨#[c]⟩) hm1 hx
      have tl := (hz.cut none (some 11)).len
      have l1 : (⟨#[c]⟩ : Str).length = 1 := rfl
      have z10 : z.length ≤ 10000000 := by omega
      have z11 : (cutS z none (some 11)).length ≤ 9999999 := by omega
      cases hk2 : inF (.str (cutS z none (some 11) ++ ⟨#[c]⟩)) xs with
      | false =>
        rw [hk2] at key2
        simp -implicitDefEqProofs [l1, hs_notin key2, z10, z11]
        exact k _ _ tz h1 f1
      | true =>
        rw [hk2] at key2
        simp -implicitDefEqProofs [l1, hs_notin key2, z10, z11]
        exact fun a h => ha a (List.mem_cons_of_mem _ h)
    · rintro e S' ⟨rfl, _, x3, rfl⟩
      simp -implicitDefEqProofs
      exact k _ _ (hz.mono (by decide)) h1 f1
theorem kindIx {d : Int} (h0 : 0 ≤ d) (h : d < 3) : ∃ z : Str, atI [A.str "number", A.str "word", A.str "flag"] d = some (.str z) ∧ (z = "number" ∨ z = "word" ∨ z = "flag") := by
  rw [atI_pos h0]
  have : d.toNat = 0 ∨ d.toNat = 1 ∨ d.toNat = 2 := by omega
  rcases this with e | e | e <;> rw [e]
  · exact ⟨_, rfl, .inl rfl⟩
  · exact ⟨_, rfl, .inr (.inl rfl)⟩
  · exact ⟨_, rfl, .inr (.inr rfl)⟩
def Cols (cols : List A) : Prop := cols.length ≤ 10 ∧ ∀ c ∈ cols, ∃ z k : Str, c = .tup [.str z, .str k] ∧ Tx 13 z
theorem columns_ok {t : Nat} {S : Sto} {P : A → Sto → Prop} {E : Str → List (Str × A) → Sto → Prop} (h : Tp t 0 S)
    (k : ∀ cols S', Cols cols → Tp t 1000 S' → Fr t S S' → P (.tup cols) S') : Hs (f_l_columns [.loc t, .tup [.str "number"], .int 5, .tup []] S) P E := by
  have lt := h.lt
  unfold f_l_columns m_l_columns
  simp -implicitDefEqProofs [hs_listT, iRg_ok]
  have ap : ∀ j : Nat, (S ++ [AO.lst [], AO.lst [], AO.lst [A.str "number"]])[S.length + j]? = [AO.lst [], AO.lst [], AO.lst [A.str "number"]][j]? := fun j => by
    rw [List.getElem?_append_right (by omega)]
    congr 1
    omega
  have h0 := h.fz (Fz.refl.add (l := [AO.lst [], AO.lst [], AO.lst [A.str "number"]]))
  refine draw_ok h0 (by omega) (by decide) (by decide) fun d S1 d0 d1 h1 f1 => ?_
  refine ⟨d, rfl, ⟨by omega, by omega⟩, ?_⟩
  have g0 := f1.get (ap 0) (by omega)
  have g1 := f1.get (ap 1) (by omega)
  have g2 := f1.get (ap 2) (by omega)
  have ff : Fr t S S1 := ((Fz.refl.add (l := [AO.lst [], AO.lst [], AO.lst [A.str "number"]])).fr).trans f1
  refine hS_for (fun as e S' => ∃ (x7 : Option A) (ks : List A), e = [some (A.loc t), some (A.tup [A.str "number"]), some (A.int 5), some (A.tup []), some (A.loc S.length), some (A.loc (S.length + 1)), some (A.loc (S.length + 1 + 1)), x7, none] ∧ ks.length + as.length ≤ 6 ∧ (∀ a ∈ ks, ∃ z, a = A.str z) ∧ S'[S.length]? = some (.lst []) ∧ S'[S.length + 1]? = some (.lst []) ∧ S'[S.length + 1 + 1]? = some (.lst ks) ∧ Tp t ks.length S' ∧ Fr t S S') ?_ ?_ (intsA 0 d.toNat) _ _ ⟨none, [.str "number"], rfl, by simp [intsA]; omega, by simp, g0, g1, g2, h1, ff⟩
  · rintro a as e S' ⟨x7, ks, rfl, hl, hk, g0, g1, g2, ht, hf⟩
    rw [List.length_cons] at hl
    refine ⟨_, rfl, ?_⟩
    simp -implicitDefEqProofs [tyM_loc g2]
    refine draw_ok ht (by omega) (by decide) (by decide) fun q S4 q0 q1 h4 f4 => ?_
    obtain ⟨z, hz, _⟩ := kindIx q0 q1
    have g0' := f4.get g0 (by omega)
    have g1' := f4.get g1 (by omega)
    have g2' := f4.get g2 (by omega)
    simp -implicitDefEqProofs [hz, g2']
    refine ⟨by omega, ks ++ [.str z], by rw [List.length_append, List.length_singleton]; omega, ?_, ?_, g1', ?_, ?_, ?_⟩
    · intro a ha
      rcases List.mem_append.mp ha with y | y
      · exact hk a y
      · rw [List.mem_singleton.mp y]
        exact ⟨z, rfl⟩
    · rw [List.getElem?_set_ne (by omega)]
      exact g0'
    · exact get_set_self (lt_of_get g2')
    · obtain ⟨a1, a2, a3, a4, a5, a6, a7⟩ := h4
      exact ⟨a1, a2, a3, a4, by rw [List.getElem?_set_ne (by omega)]; exact a5, a6, by rw [List.length_append, List.length_singleton]; omega⟩
    · exact (hf.trans f4).setN (by omega)
  · rintro e S' ⟨x7, ks, rfl, hl, hk, g0, g1, g2, ht, hf⟩
    simp -implicitDefEqProofs
    rw [List.length_nil] at hl
    refine hS_forN (xs := ks) (fun i e S' => ∃ (x8 : Option A) (ns cs : List A), e = [some (A.loc t), some (A.tup [A.str "number"]), some (A.int 5), some (A.tup []), some (A.loc S.length), some (A.loc (S.length + 1)), some (A.loc (S.length + 1 + 1)), x7, x8] ∧ S'[S.length]? = some (.lst ns) ∧ S'[S.length + 1]? = some (.lst cs) ∧ S'[S.length + 1 + 1]? = some (.lst ks) ∧ ns.length = i ∧ cs.length = i ∧ ns.all flatA = true ∧ (∀ c ∈ cs, ∃ z k : Str, c = .tup [.str z, .str k] ∧ Tx 13 z) ∧ Tp t (10 + 20 * i) S' ∧ Fr t S S') ?_ ?_ ?_ FU 0 _ _ (by unfold FU; omega) (Nat.zero_le _) ⟨none, [], [], rfl, g0, g1, g2, rfl, rfl, rfl, by simp, ht.mono (by omega), hf⟩
    · rintro i e S2 ⟨x8, ns, cs, _, _, _, g, _⟩
      exact g
    · rintro i a e S2 hia ⟨x8, ns, cs, rfl, g0, g1, g2, hn, hc, hfl, hcs, ht, hf⟩
      have hi := (List.getElem?_eq_some_iff.mp hia).1
      obtain ⟨kk, rfl⟩ := hk a (List.mem_of_getElem? hia)
      refine ⟨_, rfl, ?_⟩
      simp -implicitDefEqProofs [tyM_loc g0, tyM_loc g1]
      refine fresh_ok ht (by omega) g0 (by omega) hfl fun z S4 hz h4 f4 => ?_
      have g0' := f4.get g0 (by omega)
      have g1' := f4.get g1 (by omega)
      have g2' := f4.get g2 (by omega)
      have gs : ∀ o : AO, (S4.set S.length o)[S.length]? = some o := fun o => get_set_self (lt_of_get g0')
      have gs1 : ∀ o : AO, (S4.set S.length o)[S.length + 1]? = some (.lst cs) := fun o => by
        rw [List.getElem?_set_ne (by omega)]
        exact g1'
      refine ⟨ns, g0', by omega, tyM_loc (gs1 _), _, gs _, _, Mi.atI_last _ _, cs, g1', by omega, ns ++ [.str z], gs _, cs ++ [.tup [.str z, .str kk]], ?_, ?_, by rw [List.length_append, List.length_singleton]; omega, by rw [List.length_append, List.length_singleton]; omega, ?_, ?_, ?_, ?_⟩
      · exact get_set_self (by simpa using lt_of_get g1')
      · rw [List.getElem?_set_ne (by omega)]
        exact g2'
      · intro x hx
        rcases List.mem_append.mp hx with y | y
        · exact List.all_eq_true.mp hfl x y
        · rw [List.mem_singleton.mp y]
          rfl
      · intro c hcc
        rcases List.mem_append.mp hcc with y | y
        · obtain ⟨z, k, e, tz⟩ := hcs c y
          exact ⟨z, ⟨k, e⟩, tz⟩
        · rw [List.mem_singleton.mp y]
          exact ⟨z, ⟨kk, rfl⟩, hz⟩
      · obtain ⟨a1, a2, a3, a4, a5, a6, a7⟩ := h4
        exact ⟨a1, a2, a3, a4, by rw [List.getElem?_set_ne (by omega), List.getElem?_set_ne (by omega)]; exact a5, a6, by omega⟩
      · exact ((hf.trans f4).setN (by omega)).setN (by omega)
    · rintro e S2 ⟨x8, ns, cs, rfl, g0, g1, g2, hn, hc, hfl, hcs, ht, hf⟩
      simp -implicitDefEqProofs [g1]
      exact k cs S2 ⟨by omega, hcs⟩ (ht.mono (by omega)) hf
end K77
namespace K77
open PySem PySem.Spec PyProof.Rows L2 Mi
theorem gcd_div_le {n d : Int} (h : 1 ≤ d) (hn : n.natAbs ≤ 1000) (hd : d.natAbs ≤ 1000) : (n / (Nat.gcd n.natAbs d.natAbs : Nat)).natAbs < 10 ^ 4 ∧ (d / (Nat.gcd n.natAbs d.natAbs : Nat)).natAbs < 10 ^ 4 := by
  have gp : 0 < Nat.gcd n.natAbs d.natAbs := Nat.gcd_pos_of_pos_right _ (by omega)
  generalize Nat.gcd n.natAbs d.natAbs = g at *
  have gi : (0 : Int) < g := by omega
  constructor
  · have h1 : n / (g : Int) ≤ 1000 := by
      refine Int.ediv_le_of_le_mul gi ?_
      have : (1000 : Int) * 1 ≤ 1000 * g := Int.mul_le_mul_of_nonneg_left (by omega) (by omega)
      omega
    have h2 : -1000 ≤ n / (g : Int) := by
      refine (Int.le_ediv_iff_mul_le gi).mpr ?_
      have : (1000 : Int) * 1 ≤ 1000 * g := Int.mul_le_mul_of_nonneg_left (by omega) (by omega)
      omega
    omega
  · have h1 : d / (g : Int) ≤ 1000 := by
      refine Int.ediv_le_of_le_mul gi ?_
      have : (1000 : Int) * 1 ≤ 1000 * g := Int.mul_le_mul_of_nonneg_left (by omega) (by omega)
      omega
    have h2 : 0 ≤ d / (g : Int) := Int.ediv_nonneg (by omega) (by omega)
    omega
theorem rational_ok {t n : Nat} {S : Sto} {P : A → Sto → Prop} {E : Str → List (Str × A) → Sto → Prop} (h : Tp t n S) (hn : n < 10 ^ 14)
    (k : ∀ (a b : Int) S', a.natAbs < 10 ^ 4 → b.natAbs < 10 ^ 4 → Tp t (n + 5) S' → Fr t S S' → P (.tup [.int a, .int b]) S') : Hs (f_l_rational [.loc t, .bl false] S) P E := by
  unfold f_l_rational m_l_rational
  have l2 : Nat.log2 2 = 1 := by decide
  have l0 : Nat.log2 0 = 0 := by decide
  simp -implicitDefEqProofs [l2, l0]
  refine draw_ok h (by omega) (by decide) (by decide) fun d S1 d0 d1 h1 f1 => ?_
  by_cases h4 : d < 4
  · simp -implicitDefEqProofs [h4]
    refine draw_ok h1 (by omega) (by decide) (by decide) fun e S2 e0 e1 h2 f2 => ?_
    simp -implicitDefEqProofs
    exact k _ _ _ (by omega) (by decide) (h2.mono (by omega)) (f1.trans f2)
  · have h6 : d < 6 := d1
    simp -implicitDefEqProofs [h4, h6]
    refine draw_ok h1 (by omega) (by decide) (by decide) fun e S2 e0 e1 h2 f2 => ?_
    simp -implicitDefEqProofs
    refine draw_ok h2 (by omega) (by decide) (by decide) fun g S3 g0 g1 h3 f3 => ?_
    simp -implicitDefEqProofs
    refine hs_of_ok (l_lowest_ok (e - 200) (1 + g) (by omega) (by omega) (by omega) S3) ?_
    obtain ⟨q1, q2⟩ := gcd_div_le (n := e - 200) (d := 1 + g) (by omega) (by omega) (by omega)
    exact k _ _ _ q1 q2 (h3.mono (by omega)) ((f1.trans f2).trans f3)
/-! ### what is shown -/
theorem hs_js_nil {acc : Str} {env : Mi.Env} {S : Sto} {P : A → Sto → Prop} {E : Str → List (Str × A) → Sto → Prop} : Hs (jsM [] acc env S) P E = P (.str acc) S := rfl
theorem hs_js_cons {m : EM} {ms : List EM} {acc : Str} {env : Mi.Env} {S : Sto} {P : A → Sto → Prop} {E : Str → List (Str × A) → Sto → Prop} : Hs (jsM (m :: ms) acc env S) P E = Hs (m env S) (fun a S1 => ∃ y, a = .str y ∧ (acc ++ y).length ≤ 10000000 ∧ Hs (jsM ms (acc ++ y) env S1) P E) E := by
  conv => lhs; unfold jsM
  rw [hs_bind]
  congr 1
  funext a S1
  cases a with
  | str y => by_cases h : (acc ++ y).length ≤ 10000000 <;> simp [h]
  | _ => simp
theorem hs_fmt {m : EM} {env : Mi.Env} {S : Sto} {P : A → Sto → Prop} {E : Str → List (Str × A) → Sto → Prop} : Hs (eFmt m env S) P E = Hs (m env S) (fun a S1 => (∃ y, a = .str y ∧ y.length ≤ 10000000 ∧ P (.str y) S1) ∨ (∃ i : Int, a = .int i ∧ i.natAbs.log2 < 1920 ∧ P (.str (toString i)) S1)) E := by
  unfold eFmt
  rw [hs_bind]
  congr 1
  funext a S1
  cases a with
  | str y => by_cases h : y.length ≤ 10000000 <;> simp [h]
  | int i => by_cases h : i.natAbs.log2 < 1920 <;> simp [h]
  | _ => simp
def Wd (d : Nat) : Nat := 100 * 5 ^ d
def ShX (d : Nat) (a : A) : Prop := ∀ fuel, d ≤ fuel → ∀ S, ∃ z, Tx (Wd d) z ∧ f_show_expression fuel [a] S = .ok (.str z) S
theorem Wd_s (d : Nat) : 4 * (Wd d + 1) + 2 ≤ Wd (d + 1) ∧ 100 ≤ Wd d ∧ Wd d ≤ Wd (d + 1) := by
  have h : 0 < 5 ^ d := Nat.pow_pos (by decide)
  unfold Wd
  rw [Nat.pow_succ]
  omega
theorem ShX.mono {d : Nat} {a : A} (h : ShX d a) : ShX (d + 1) a := fun fuel hf S => by
  obtain ⟨z, h1, h2⟩ := h fuel (by omega) S
  exact ⟨z, h1.mono (Wd_s d).2.2, h2⟩
theorem ShX.up {a : A} (h : ShX 1 a) : ∀ d, ShX (d + 1) a
  | 0 => h
  | d + 1 => (ShX.up h d).mono
theorem cv : ¬ (("value" : Str) = "column") := by decide
theorem shx_col {z : Str} (h : Tx 13 z) : ShX 1 (.tup [.str "column", .str z]) := fun fuel hf S => by
  cases fuel with
  | zero => omega
  | succ f =>
    refine ⟨z, h.mono (by decide), ?_⟩
    apply ok_of_hs
    unfold f_show_expression m_show_expression
    simp -implicitDefEqProofs [atI0, atI1]
theorem shx_val {v : A} {z : Str} (h : Tx 50 z) (hv : ∀ S, f_show_value [v] S = .ok (.str z) S) : ShX 1 (.tup [.str "value", v]) := fun fuel hf S => by
  cases fuel with
  | zero => omega
  | succ f =>
    have t1 : Tx 1 ("=" : Str) := Tx.lit (by decide)
    refine ⟨"=" ++ z, (t1.app h).mono (by decide), ?_⟩
    have l1 : ("=" : Str).length = 1 := by decide
    have lz := h.len
    apply ok_of_hs
    unfold f_show_expression m_show_expression
    simp -implicitDefEqProofs [atI0, atI1, cv, hv, l1]
    omega
theorem sv_bl (b : Bool) (S : Sto) : f_show_value [.bl b] S = .ok (.str (if b then "#yes" else "#no")) S := by
  apply ok_of_hs
  unfold f_show_value m_show_value
  cases b <;> simp -implicitDefEqProofs
theorem sv_str {y : Str} (h : Tx 13 y) (S : Sto) : f_show_value [.str y] S = .ok (.str ("'" ++ y)) S := by
  apply ok_of_hs
  unfold f_show_value m_show_value
  have l1 : ("'" : Str).length = 1 := by decide
  have := h.len
  simp -implicitDefEqProofs [l1]
  omega
theorem sv_num {a b : Int} (ha : a.natAbs < 10 ^ 4) (hb : b.natAbs < 10 ^ 4) : ∃ z, Tx 30 z ∧ ∀ S, f_show_value [.tup [.int a, .int b]] S = .ok (.str z) S := by
  have ta := Tx.int (i := a) (k := 4) (by decide) ha
  have tb := Tx.int (i := b) (k := 4) (by decide) hb
  have la : a.natAbs.log2 < 1920 := log_lt (k := 14) (by omega) (by decide) (by decide)
  have lb : b.natAbs.log2 < 1920 := log_lt (k := 14) (by omega) (by decide) (by decide)
  have kt : kitB "tuple" "str" = some false := by decide +kernel
  have ts : Tx 1 ("/" : Str) := Tx.lit (by decide)
  by_cases h : b = 1
  · refine ⟨_, ta.mono (by decide), fun S => ?_⟩
    apply ok_of_hs
    unfold f_show_value m_show_value f_show_number m_show_number
    simp -implicitDefEqProofs [kt, atI0, atI1, h, la]
  · have hz := ((Tx.lit (n := 0) (z := Str.empty) (by decide)).app ta).app ts |>.app tb
    refine ⟨_, hz.mono (by decide), fun S => ?_⟩
    have l1 := ((Tx.lit (n := 0) (z := Str.empty) (by decide)).app ta).len
    have l2 := (((Tx.lit (n := 0) (z := Str.empty) (by decide)).app ta).app ts).len
    have l3 := hz.len
    apply ok_of_hs
    unfold f_show_value m_show_value f_show_number m_show_number
    simp -implicitDefEqProofs [kt, atI0, atI1, h, la, lb, hs_js_nil, hs_js_cons, hs_fmt]
    exact ⟨Nat.le_trans l1 (by decide), Nat.le_trans l2 (by decide), Nat.le_trans l3 (by decide)⟩
theorem cut_fromG {α : Type} (l : List α) (a : Nat) : cutG l (some (a : Int)) none = l.drop a := by
  show (l.drop (HT.sIx l.length 0 (some (a : Int)))).take (l.length - HT.sIx l.length 0 (some (a : Int))) = _
  rw [HT.sIx_nat]
  by_cases h : a ≤ l.length
  · rw [Nat.min_eq_left h, List.take_of_length_le (by rw [List.length_drop]; omega)]
  · rw [Nat.min_eq_right (by omega), List.drop_eq_nil_of_le (Nat.le_refl _), List.drop_eq_nil_of_le (by omega)]
    simp
theorem flat_words : ∀ w ∈ ["if", "plus", "minus", "times", "over", "not", "missing", "same", "less", "both", "either"], Tx 7 (w : Str) ∧ ¬ ((w : Str) = "column") ∧ ¬ ((w : Str) = "value") := by
  intro w hw
  simp only [List.mem_cons, List.not_mem_nil, or_false] at hw
  rcases hw with rfl | rfl | rfl | rfl | rfl | rfl | rfl | rfl | rfl | rfl | rfl <;> exact ⟨Tx.lit (by decide), by decide, by decide⟩
theorem shx_op {w : Str} {as : List A} {d : Nat} (hw : Tx 7 w ∧ ¬ (w = "column") ∧ ¬ (w = "value")) (hl : as.length ≤ 3) (h : ∀ a ∈ as, ShX d a) (hd : d ≤ 6) : ShX (d + 1) (.tup (.str w :: as)) := fun fuel hf S => by
  cases fuel with
  | zero => omega
  | succ f =>
    obtain ⟨w1, w2, w3⟩ := hw
    have key : Hs (f_show_expression (f + 1) [.tup (.str w :: as)] S) (fun x S' => S' = S ∧ ∃ z, x = .str z ∧ Tx (Wd (d + 1)) z) (fun _ _ _ => False) := by
      unfold f_show_expression m_show_expression
      have e1 : cutG (A.str w :: as) (some 1) none = as := by
        have := cut_fromG (A.str w :: as) 1
        exact this
      simp -implicitDefEqProofs [atI0, w2, w3, e1, itemsW, seqV, tupOf]
      refine ⟨by omega, ?_⟩
      have hW := Wd_s d
      have hW5 : Wd d ≤ 100 * 5 ^ 6 := Nat.mul_le_mul_left _ (Nat.pow_le_pow_right (by decide) hd)
      have n56 : 100 * 5 ^ 6 = 1562500 := by decide
      have tsp : Tx 1 (" " : Str) := Tx.lit (by decide)
      have top : Tx 1 ("(" : Str) := Tx.lit (by decide)
      have tcl : Tx 1 (")" : Str) := Tx.lit (by decide)
      refine hs_lcM (fun bs acc S' => S' = S ∧ (∀ a ∈ bs, ShX d a) ∧ ∃ zs : List Str, acc = zs.map .str ∧ (∀ z ∈ zs, Tx (Wd d) z) ∧ zs.length + bs.length = as.length) ?_ ?_ _ _ _ ⟨rfl, h, [], rfl, by simp, by simp⟩
      · rintro b bs acc S' ⟨rfl, hb, zs, rfl, hz, hlen⟩
        obtain ⟨z, tz, ez⟩ := hb b (List.mem_cons_self ..) f (by omega) S'
        refine ⟨_, rfl, ?_⟩
        simp -implicitDefEqProofs [wipeE, ez]
        refine ⟨fun a ha => hb a (List.mem_cons_of_mem _ ha), zs ++ [z], by simp, ?_, by rw [List.length_append, List.length_singleton]; rw [List.length_cons] at hlen; omega⟩
        intro y hy
        rcases List.mem_append.mp hy with q | q
        · exact hz y q
        · rw [List.mem_singleton.mp q]
          exact tz
      · rintro acc S' ⟨rfl, _, zs, rfl, hz, hlen⟩
        rw [List.length_nil] at hlen
        have hz' : ∀ z ∈ w :: zs, Tx (Wd d) z := fun z hm => by
          rcases List.mem_cons.mp hm with rfl | q
          · exact w1.mono (by omega)
          · exact hz z q
        have sl := sum_len (w :: zs) hz'
        have ls : (" " : Str).length = 1 := by decide
        have lo : ("(" : Str).length = 1 := by decide
        have lc : (")" : Str).length = 1 := by decide
        have tj := Tx.join tsp hz'
        have t1 := top.app tj
        have t2 := t1.app tcl
        have hlen4 : (w :: zs).length ≤ 4 := by rw [List.length_cons]; omega
        have m1 : (w :: zs).length * Wd d ≤ 4 * Wd d := Nat.mul_le_mul_right _ hlen4
        have m2 : (w :: zs).length * (Wd d + 1) ≤ 4 * (Wd d + 1) := Nat.mul_le_mul_right _ hlen4
        have jl := tj.len
        have j1 := t1.len
        refine ⟨by rw [List.length_map]; omega, ?_⟩
        rw [show (A.str w :: zs.map A.str) = (w :: zs).map A.str from rfl, hs_joinL (by rw [ls]; omega)]
        simp -implicitDefEqProofs [lo, lc]
        refine ⟨by omega, ?_, t2.mono (by omega)⟩
        have : (("(" : Str) ++ Txt.join " " (w :: zs)).length + 1 ≤ 10000000 := by omega
        omega
    revert key
    cases f_show_expression (f + 1) [.tup (.str w :: as)] S with
    | ok x S' => rintro ⟨rfl, z, rfl, hz⟩; exact ⟨z, hz, rfl⟩
    | exn => exact fun h => h.elim
    | bad => exact fun h => h.elim
end K77
namespace K77
open PySem PySem.Spec PyProof.Rows L2 Mi
def KindZ (z : Str) : Prop := z = "number" ∨ z = "word" ∨ z = "flag"
def pSame (kind : Str) : A → Bool
  | .tup [_, .str k] => decide (k = kind)
  | _ => false
def fSame : A → A
  | .tup [z, _] => z
  | _ => .non
theorem litIx4 {a b c d : A} {i : Int} (h0 : 0 ≤ i) (h : i < 4) : ∃ x, atI [a, b, c, d] i = some x ∧ (x = a ∨ x = b ∨ x = c ∨ x = d) := by
  rw [atI_pos h0]
  have : i.toNat = 0 ∨ i.toNat = 1 ∨ i.toNat = 2 ∨ i.toNat = 3 := by omega
  rcases this with e | e | e | e <;> rw [e] <;> simp
theorem litIx2 {a b : A} {i : Int} (h0 : 0 ≤ i) (h : i < 2) : ∃ x, atI [a, b] i = some x ∧ (x = a ∨ x = b) := by
  rw [atI_pos h0]
  have : i.toNat = 0 ∨ i.toNat = 1 := by omega
  rcases this with e | e <;> rw [e] <;> simp
theorem leaf_ok {t n : Nat} {S : Sto} {cols : List A} {kind : Str} {P : A → Sto → Prop} {E : Str → List (Str × A) → Sto → Prop} (h : Tp t n S) (hn : n < 10 ^ 13) (hc : Cols cols)
    (k : ∀ a S', ShX 1 a → Tp t (n + 10) S' → Fr t S S' → P a S') : Hs (f_l_leaf [.loc t, .tup cols, .str kind] S) P E := by
  have hlc : lcM (.tp [.nm 4, .nm 5]) (tOf (eOp opEq (eVar 5) (eVar 2))) (eVar 4) [some (A.loc t), some (A.tup cols), some (A.str kind), none, none, none] cols [] S = .ok ((cols.filter (pSame kind)).map fSame) S := by
    rw [lcM_pure (pSame kind) fSame cols [] fun a ha => by
      obtain ⟨z, k, rfl, _⟩ := hc.2 a ha
      refine ⟨_, rfl, ?_, fun _ => rfl⟩
      show asB (ansB (eqG S (.str k) (.str kind)) S) = _
      simp [eqG, ansB, asB, R.bind, pSame]]
    rfl
  have hall : ∀ a ∈ (cols.filter (pSame kind)).map fSame, ∃ z, a = .str z ∧ Tx 13 z := by
    intro a ha
    obtain ⟨c, hc1, rfl⟩ := List.mem_map.mp ha
    obtain ⟨z, k, rfl, hz⟩ := hc.2 c (List.mem_filter.mp hc1).1
    exact ⟨z, rfl, hz⟩
  have hlen : ((cols.filter (pSame kind)).map fSame).length ≤ 10 := by
    rw [List.length_map]
    exact Nat.le_trans (List.length_filter_le _ _) hc.1
  generalize hs : (cols.filter (pSame kind)).map fSame = same at *
  have hcl := hc.1
  unfold f_l_leaf m_l_leaf
  simp -implicitDefEqProofs [itemsW, seqV, tupOf, wipeE, hlc]
  refine ⟨by omega, ?_⟩
  have vnum : ∀ (a b : Int), a.natAbs < 10 ^ 4 → b.natAbs < 10 ^ 4 → ShX 1 (.tup [.str "value", .tup [.int a, .int b]]) := fun a b ha hb => by
    obtain ⟨z, h1, h2⟩ := sv_num ha hb
    exact shx_val (h1.mono (by decide)) h2
  have vbl : ∀ b : Bool, ShX 1 (.tup [.str "value", .bl b]) := fun b => shx_val (z := if b then "#yes" else "#no") (by cases b <;> exact Tx.lit (by decide)) (sv_bl b)
  have vstr : ∀ z : Str, Tx 13 z → ShX 1 (.tup [.str "value", .str z]) := fun z hz => shx_val (((Tx.lit (n := 1) (z := "'") (by decide)).app hz).mono (by decide)) (sv_str hz)
  have tail : ∀ (S1 : Sto), Tp t (n + 1) S1 → Fr t S S1 → ((¬kind = Str.ofString "number" ∧
          ((¬kind = Str.ofString "flag" ∧
              Hs (f_l_draw [A.loc t, A.int 4] S1) (fun y S2 => Hs (opIx (A.lst [A.str (Str.ofString "a"), A.str (Str.ofString "b"), A.str (Str.ofString "ab"), A.str (Str.ofString "b0")]) y S2)
                    (fun x S1 => P (A.tup [A.str (Str.ofString "value"), x]) S1) fun c fs S => E c fs S) fun c fs S => E c fs S) ∨
            kind = Str.ofString "flag" ∧
              Hs (f_l_draw [A.loc t, A.int 2] S1) (fun x S1 => Hs (opEq x (A.int 1) S1) (fun x S1 => P (A.tup [A.str (Str.ofString "value"), x]) S1) fun c fs S => E c fs S) fun c fs S => E c fs S)) ∨
        kind = Str.ofString "number" ∧ Hs (f_l_rational [A.loc t, A.bl false] S1) (fun x S1 => P (A.tup [A.str (Str.ofString "value"), x]) S1) fun c fs S => E c fs S) := by
    intro S1 h1 f1
    by_cases k1 : kind = "number"
    · exact .inr ⟨k1, rational_ok h1 (by omega) fun a b S2 ha hb h2 f2 => k _ _ (vnum a b ha hb) (h2.mono (by omega)) (f1.trans f2)⟩
    · refine .inl ⟨k1, ?_⟩
      by_cases k2 : kind = "flag"
      · refine .inr ⟨k2, draw_ok h1 (by omega) (by decide) (by decide) fun d S2 d0 d1 h2 f2 => ?_⟩
        simp -implicitDefEqProofs
        exact k _ _ (vbl _) (h2.mono (by omega)) (f1.trans f2)
      · refine .inl ⟨k2, draw_ok h1 (by omega) (by decide) (by decide) fun d S2 d0 d1 h2 f2 => ?_⟩
        obtain ⟨x, hx, hx2⟩ := litIx4 (a := A.str "a") (b := A.str "b") (c := A.str "ab") (d := A.str "b0") d0 d1
        simp -implicitDefEqProofs [hx]
        refine k _ _ ?_ (h2.mono (by omega)) (f1.trans f2)
        rcases hx2 with rfl | rfl | rfl | rfl <;> exact vstr _ (Tx.lit (by decide))
  by_cases he : same = []
  · exact .inl ⟨he, tail S (h.mono (by omega)) Fr.refl⟩
  · refine .inr ⟨he, draw_ok h (by omega) (by decide) (by decide) fun d S1 d0 d1 h1 f1 => ?_⟩
    by_cases hd : 0 < d
    · have hp : 0 < same.length := List.length_pos_iff.mpr he
      simp -implicitDefEqProofs [hd]
      refine draw_ok h1 (by omega) (by omega) (by omega) fun e S2 e0 e1 h2 f2 => ?_
      have hi : atI same e = some (same[e.toNat]'(by omega)) := by
        rw [atI_pos e0]
        exact List.getElem?_eq_getElem (by omega)
      obtain ⟨z, hz, tz⟩ := hall _ (List.getElem_mem (l := same) (n := e.toNat) (by omega))
      rw [hz] at hi
      simp -implicitDefEqProofs [hi]
      exact k _ _ (shx_col tz) (h2.mono (by omega)) (f1.trans f2)
    · simp -implicitDefEqProofs [hd]
      have := tail S1 h1 f1
      simpa using this
end K77
namespace K77
open PySem PySem.Spec PyProof.Rows L2 Mi
def Bg (d : Nat) : Nat := 30 * 4 ^ d
theorem Bg_s (d : Nat) : 3 * Bg d + 5 ≤ Bg (d + 1) ∧ 11 ≤ Bg d := by
  have h : 0 < 4 ^ d := Nat.pow_pos (by decide)
  unfold Bg
  rw [Nat.pow_succ]
  omega
theorem expr_ok {t : Nat} {cols : List A} (hc : Cols cols) : ∀ (d : Nat), d ≤ 5 → ∀ (fuel n : Nat) (S : Sto) (kind : Str) (P : A → Sto → Prop) (E : Str → List (Str × A) → Sto → Prop), d < fuel → Tp t n S → n + Bg d < 10 ^ 12 → KindZ kind →
    (∀ a S', ShX (d + 1) a → Tp t (n + Bg d) S' → Fr t S S' → P a S') → Hs (f_l_expression fuel [.loc t, .tup cols, .str kind, .int (d + 1 : Int)] S) P E
  | 0, _, fuel + 1, n, S, kind, P, E, _, h, hn, hk, k => by
    have hb := Bg_s 0
    unfold f_l_expression m_l_expression
    simp -implicitDefEqProofs
    refine draw_ok h (by omega) (by decide) (by decide) fun q S1 q0 q1 h1 f1 => ?_
    try simp -implicitDefEqProofs
    exact leaf_ok h1 (by omega) hc fun a S2 ha h2 f2 => k a S2 ha (h2.mono (by omega)) (f1.trans f2)
  | d + 1, hd, fuel + 1, n, S, kind, P, E, hf, h, hn, hk, k => by
    have hb := Bg_s d
    have ed : (((d + 1 : Nat) : Int) + 1 - 1) = (d : Int) + 1 := by omega
    have hd1 : ¬ ((d : Int) + 1 + 1 ≤ 1) := by omega
    have hd2 : (1 : Int) < (d : Int) + 1 + 1 := by omega
    have sub : ∀ (m : Nat) (S1 : Sto) (kd : Str) (P' : A → Sto → Prop), Tp t m S1 → m + Bg d < 10 ^ 12 → KindZ kd → (∀ a S', ShX (d + 1) a → Tp t (m + Bg d) S' → Fr t S1 S' → P' a S') → Hs (f_l_expression fuel [.loc t, .tup cols, .str kd, .int ((d : Int) + 1)] S1) P' E :=
      fun m S1 kd P' h1 h2 h3 h4 => expr_ok hc d (by omega) fuel m S1 kd P' E (by omega) h1 h2 h3 h4
    have kf : KindZ "flag" := .inr (.inr rfl)
    have kn : KindZ "number" := .inl rfl
    have leafK : ∀ S1 : Sto, Tp t (n + 1) S1 → Fr t S S1 → Hs (f_l_leaf [.loc t, .tup cols, .str kind] S1) P E := fun S1 h1 f1 =>
      leaf_ok h1 (by omega) hc fun a S2 ha h2 f2 => k a S2 (ha.up _) (h2.mono (by omega)) (f1.trans f2)
    have one : ∀ {w : Str} {x : A} {m : Nat} {S1 : Sto}, w ∈ ["if", "plus", "minus", "times", "over", "not", "missing", "same", "less", "both", "either"].map (fun s : String => (s : Str)) → ShX (d + 1) x → Tp t m S1 → m ≤ n + Bg (d + 1) → Fr t S S1 → P (.tup [.str w, x]) S1 := fun hw hx h1 hm f1 => by
      obtain ⟨s, hs, rfl⟩ := List.mem_map.mp hw
      exact k _ _ (shx_op (flat_words _ hs) (by simp) (by simpa using hx) (by omega)) (h1.mono hm) f1
    have two : ∀ {w : Str} {x y : A} {m : Nat} {S1 : Sto}, w ∈ ["if", "plus", "minus", "times", "over", "not", "missing", "same", "less", "both", "either"].map (fun s : String => (s : Str)) → ShX (d + 1) x → ShX (d + 1) y → Tp t m S1 → m ≤ n + Bg (d + 1) → Fr t S S1 → P (.tup [.str w, x, y]) S1 := fun hw hx hy h1 hm f1 => by
      obtain ⟨s, hs, rfl⟩ := List.mem_map.mp hw
      exact k _ _ (shx_op (flat_words _ hs) (by simp) (by simp [hx, hy]) (by omega)) (h1.mono hm) f1
    have three : ∀ {w : Str} {x y z : A} {m : Nat} {S1 : Sto}, w ∈ ["if", "plus", "minus", "times", "over", "not", "missing", "same", "less", "both", "either"].map (fun s : String => (s : Str)) → ShX (d + 1) x → ShX (d + 1) y → ShX (d + 1) z → Tp t m S1 → m ≤ n + Bg (d + 1) → Fr t S S1 → P (.tup [.str w, x, y, z]) S1 := fun hw hx hy hz h1 hm f1 => by
      obtain ⟨s, hs, rfl⟩ := List.mem_map.mp hw
      exact k _ _ (shx_op (flat_words _ hs) (by simp) (by simp [hx, hy, hz]) (by omega)) (h1.mono hm) f1
    unfold f_l_expression m_l_expression
    simp -implicitDefEqProofs
    refine draw_ok h (by omega) (by decide) (by decide) fun q S1 q0 q1 h1 f1 => ?_
    by_cases c1 : q < 2
    · simp -implicitDefEqProofs [ed, hd1, hd2, c1]
      exact leafK S1 h1 f1
    · by_cases c2 : q = 2
      · simp -implicitDefEqProofs [ed, hd1, hd2, c1, c2]
        refine sub _ _ _ _ h1 (by omega) kf fun x S2 hx h2 f2 => ?_
        refine sub _ _ _ _ h2 (by omega) hk fun y S3 hy h3 f3 => ?_
        refine sub _ _ _ _ h3 (by omega) hk fun z S4 hz h4 f4 => ?_
        exact three (List.mem_map.mpr ⟨"if", by simp, rfl⟩) hx hy hz h4 (by omega) (((f1.trans f2).trans f3).trans f4)
      · by_cases c3 : kind = "word"
        · simp -implicitDefEqProofs [ed, hd1, hd2, c1, c2, c3]
          rw [c3] at leafK
          exact leafK S1 h1 f1
        · by_cases c4 : kind = "number"
          · have nw : ¬ (("number" : Str) = "word") := by decide
            simp -implicitDefEqProofs [ed, hd1, hd2, c1, c2, c4, nw]
            refine draw_ok h1 (by omega) (by decide) (by decide) fun e S2 e0 e1 h2 f2 => ?_
            obtain ⟨x, hx, hx2⟩ := litIx4 (a := A.str "plus") (b := A.str "minus") (c := A.str "times") (d := A.str "over") e0 e1
            simp -implicitDefEqProofs [hx]
            refine sub _ _ _ _ h2 (by omega) kn fun y S3 hy h3 f3 => ?_
            refine sub _ _ _ _ h3 (by omega) kn fun z S4 hz h4 f4 => ?_
            rcases hx2 with rfl | rfl | rfl | rfl
            · exact two (List.mem_map.mpr ⟨"plus", by simp, rfl⟩) hy hz h4 (by omega) (((f1.trans f2).trans f3).trans f4)
            · exact two (List.mem_map.mpr ⟨"minus", by simp, rfl⟩) hy hz h4 (by omega) (((f1.trans f2).trans f3).trans f4)
            · exact two (List.mem_map.mpr ⟨"times", by simp, rfl⟩) hy hz h4 (by omega) (((f1.trans f2).trans f3).trans f4)
            · exact two (List.mem_map.mpr ⟨"over", by simp, rfl⟩) hy hz h4 (by omega) (((f1.trans f2).trans f3).trans f4)
          · by_cases c5 : q = 3
            · simp -implicitDefEqProofs [ed, hd1, hd2, c3, c4, c5]
              refine sub _ _ _ _ h1 (by omega) kf fun x S2 hx h2 f2 => ?_
              exact one (List.mem_map.mpr ⟨"not", by simp, rfl⟩) hx h2 (by omega) (f1.trans f2)
            · simp -implicitDefEqProofs [ed, hd1, hd2, c1, c2, c3, c4, c5]
              refine draw_ok h1 (by omega) (by decide) (by decide) fun e S2 e0 e1 h2 f2 => ?_
              obtain ⟨z, hz, hz2⟩ := kindIx e0 e1
              by_cases c6 : q = 4
              · simp -implicitDefEqProofs [hz, c6]
                refine sub _ _ _ _ h2 (by omega) hz2 fun x S3 hx h3 f3 => ?_
                exact one (List.mem_map.mpr ⟨"missing", by simp, rfl⟩) hx h3 (by omega) ((f1.trans f2).trans f3)
              · by_cases c7 : q = 5
                · simp -implicitDefEqProofs [hz, c7]
                  refine sub _ _ _ _ h2 (by omega) hz2 fun x S3 hx h3 f3 => ?_
                  refine sub _ _ _ _ h3 (by omega) hz2 fun y S4 hy h4 f4 => ?_
                  exact two (List.mem_map.mpr ⟨"same", by simp, rfl⟩) hx hy h4 (by omega) (((f1.trans f2).trans f3).trans f4)
                · by_cases c8 : q < 8
                  · have c9 : ¬ (8 ≤ q) := by omega
                    simp -implicitDefEqProofs [hz, c6, c7, c8, c9]
                    refine sub _ _ _ _ h2 (by omega) kn fun x S3 hx h3 f3 => ?_
                    refine sub _ _ _ _ h3 (by omega) kn fun y S4 hy h4 f4 => ?_
                    exact two (List.mem_map.mpr ⟨"less", by simp, rfl⟩) hx hy h4 (by omega) (((f1.trans f2).trans f3).trans f4)
                  · have c9 : 8 ≤ q := by omega
                    simp -implicitDefEqProofs [hz, c6, c7, c8, c9]
                    refine draw_ok h2 (by omega) (by decide) (by decide) fun g S3 g0 g1 h3 f3 => ?_
                    obtain ⟨x, hx, hx2⟩ := litIx2 (a := A.str "both") (b := A.str "either") g0 g1
                    simp -implicitDefEqProofs [hx]
                    refine sub _ _ _ _ h3 (by omega) kf fun y S4 hy h4 f4 => ?_
                    refine sub _ _ _ _ h4 (by omega) kf fun z S5 hz h5 f5 => ?_
                    rcases hx2 with rfl | rfl
                    · exact two (List.mem_map.mpr ⟨"both", by simp, rfl⟩) hy hz h5 (by omega) ((((f1.trans f2).trans f3).trans f4).trans f5)
                    · exact two (List.mem_map.mpr ⟨"either", by simp, rfl⟩) hy hz h5 (by omega) ((((f1.trans f2).trans f3).trans f4).trans f5)
end K77
namespace K77
open PySem PySem.Spec PyProof.Rows L2 Mi
theorem bent_sign {d : Int} (h0 : 0 ≤ d) (h : d < 16) : ∃ c, atI (" ()=#'/-0129az\nA" : Str).cps.toList d = some c ∧ c < 1000 := by
  have hl : (" ()=#'/-0129az\nA" : Str).cps.toList.length = 16 := by decide +kernel
  have ha : ∀ c ∈ (" ()=#'/-0129az\nA" : Str).cps.toList, c < 1000 := by decide +kernel
  rw [atI_pos h0]
  exact ⟨_, List.getElem?_eq_getElem (by omega), ha _ (List.getElem_mem _)⟩
theorem len16 : (" ()=#'/-0129az\nA" : Str).length = 16 := by decide +kernel
theorem bent_ok {t n N : Nat} {S : Sto} {z : Str} {P : A → Sto → Prop} {E : Str → List (Str × A) → Sto → Prop} (h : Tp t n S) (hn : n < 10 ^ 14) (hz : Tx N z) (hN : N ≤ 1000000)
    (k : ∀ y S', Tx (2 * N + 1) y → Tp t (n + 3) S' → Fr t S S' → P (.str y) S') : Hs (f_l_bent [.loc t, .str z] S) P E := by
  have zl := hz.len
  have z10 : z.length ≤ 10000000 := by omega
  unfold f_l_bent m_l_bent
  simp -implicitDefEqProofs [z10]
  refine draw_ok h (by omega) (by omega) (by omega) fun a S1 a0 a1 h1 f1 => ?_
  simp -implicitDefEqProofs
  refine draw_ok h1 (by omega) (by decide) (by decide) fun b S2 b0 b1 h2 f2 => ?_
  obtain ⟨c, hc, hc2⟩ := bent_sign b0 b1
  have t1 := hz.cut none (some a)
  have t2 := hz.cut (some a) none
  have t3 := hz.cut (some (a + 1)) none
  have s1 := Tx.one hc2
  have l1 := t1.len
  have l2 := t2.len
  have l3 := t3.len
  have l4 := (t1.app s1).len
  have lc : (⟨#[c]⟩ : Str).length = 1 := rfl
  have t4 := t1.app s1
  have t5 := t4.app t2
  have t6 := t1.app t3
  have t7 := t4.app t3
  have l5 := t5.len
  have l6 := t6.len
  have l7 := t7.len
  simp -implicitDefEqProofs [hc, len16, z10, lc]
  refine ⟨_, _, ⟨rfl, rfl⟩, ?_⟩
  simp -implicitDefEqProofs [lc]
  refine ⟨by omega, by omega, by omega, by omega, by omega, ?_⟩
  refine draw_ok h2 (by omega) (by decide) (by decide) fun d S3 d0 d1 h3 f3 => ?_
  obtain ⟨x, hx, hx2⟩ := litIx4 (a := A.str (cutS z none (some a) ++ ⟨#[c]⟩ ++ cutS z (some a) none)) (b := A.str (cutS z none (some a) ++ cutS z (some (a + 1)) none)) (c := A.str (cutS z none (some a) ++ ⟨#[c]⟩ ++ cutS z (some (a + 1)) none)) (d := A.str (cutS z none (some a))) d0 d1
  simp -implicitDefEqProofs [hx]
  have ff := (f1.trans f2).trans f3
  rcases hx2 with rfl | rfl | rfl | rfl
  · exact k _ _ (t5.mono (by omega)) (h3.mono (by omega)) ff
  · exact k _ _ (t6.mono (by omega)) (h3.mono (by omega)) ff
  · exact k _ _ (t7.mono (by omega)) (h3.mono (by omega)) ff
  · exact k _ _ (t1.mono (by omega)) (h3.mono (by omega)) ff
theorem eqBad {S : Sto} : eqG S (.lst [.str "bad", .int 0, .bl true]) (.lst [.str "bad", .int 0, .bl true]) = some true := by
  unfold eqG eqD toD
  simp [toD0, toD0s, SeqAt.shaped, PyData.canLay0, PyData.canLayAll0, PyData.depth, PyData.depthAll, PyData.eqv, PyData.eqvAll]
  decide +kernel
theorem cmp_ok {z : Str} {N : Nat} {S : Sto} {P : A → Sto → Prop} {E : Str → List (Str × A) → Sto → Prop} (hz : Tx N z) (hN : N ≤ 10000000) (k : ∀ S', Fz S S' → P (.bl false) S') :
    Hs (f_l_told [.str z] S) (fun x S1 => Hs (bRepr [x] S1) (fun y S2 => Hs (f_l_due [.str z] S2) (fun u S3 => Hs (bRepr [u] S3) (fun v S4 => Hs (opNe y v S4) P E) E) E) E) E := by
  have hl : z.cps.toList.length ≤ 10000000 := Nat.le_trans hz.1 hN
  obtain ⟨T, hT⟩ := res_repr hl hz.2
  rw [← txt_tl z]
  refine (told_ok hl).imp ?_ (fun _ _ _ q => q.elim)
  rintro x S1 ⟨rfl, f1⟩
  rw [hT]
  simp only [hs_ok]
  refine (due_ok hl hz.2).imp ?_ (fun _ _ _ q => q.elim)
  rintro x S2 ⟨rfl, f2⟩
  rw [hT]
  simp only [hs_ok, hs_neS, decide_true, Bool.not_true]
  exact k _ (f1.trans f2)
theorem hs_listL {xs : List A} {f : Bool} {S : Sto} {P : A → Sto → Prop} {E : Str → List (Str × A) → Sto → Prop} : Hs (bList f [.lst xs] S) P E = Hs (newL f xs S) P E := rfl
theorem pure_law (ns : List Int) (hns : ns.length ≤ 63) : ∃ S, f_law [.scr ns] [] = .ok (.bl true) S := by
  have key : Hs (f_law [.scr ns] []) (fun x _ => x = .bl true) (fun _ _ _ => False) := by
    unfold f_law m_law f_l_tape m_l_tape
    have n9 : ("9" : Str).length = 1 := by decide
    have n1 : ("1" : Str).length = 1 := by decide
    have na : ("a" : Str).length = 1 := by decide
    have n0 : ("0" : Str).length = 1 := by decide
    have no : ("(" : Str).length = 1 := by decide
    have nc : (")" : Str).length = 1 := by decide
    have nn : ("(not " : Str).length = 5 := by decide
    have ne : ("=" : Str).length = 1 := by decide
    have ne1 : ("=1" : Str).length = 2 := by decide
    have nes : ("=1/" : Str).length = 3 := by decide
    have m1 : ∀ (z : Str) (k : Int) (n m : Nat), (decide (z.cps.toList.length ≤ n) && z.cps.toList.all fun c => decide (c < 1000)) = true → 0 ≤ k → n * k.toNat = m → Tx m (Txt.mul z k) := fun z k n m h1 h2 h3 => by
      rw [← h3]
      exact Tx.mul (Tx.lit h1) k h2
    have a9 := m1 "9" 41 1 41 (by decide) (by decide) (by decide)
    have a1 := m1 "1" 5000 1 5000 (by decide) (by decide) (by decide)
    have aa := m1 "a" 13 1 13 (by decide) (by decide) (by decide)
    have a0 := m1 "0" 40 1 40 (by decide) (by decide) (by decide)
    have ao := m1 "(" 3 1 3 (by decide) (by decide) (by decide)
    have b7 := m1 "(not " 7 5 35 (by decide) (by decide) (by decide)
    have c7 := m1 ")" 7 1 7 (by decide) (by decide) (by decide)
    have b8 := m1 "(not " 8 5 40 (by decide) (by decide) (by decide)
    have c8 := m1 ")" 8 1 8 (by decide) (by decide) (by decide)
    have ta : Tx 1 ("a" : Str) := Tx.lit (by decide)
    have te : Tx 1 ("=" : Str) := Tx.lit (by decide)
    have te1 : Tx 2 ("=1" : Str) := Tx.lit (by decide)
    have tes : Tx 3 ("=1/" : Str) := Tx.lit (by decide)
    have r9 := (te.app a9)
    have r9s := (tes.app a9)
    have r1 := (te.app a1)
    have r0 := (te1.app a0)
    have r7 := (b7.app ta).app c7
    have r8 := (b8.app ta).app c8
    have q1 := a9.len
    have q2 := a1.len
    have q3 := a0.len
    have q4 := b7.len
    have q5 := c7.len
    have q6 := b8.len
    have q7 := c8.len
    have q8 := (b7.app ta).len
    have q9 := (b8.app ta).len
    obtain ⟨ms, hms⟩ : ∃ ms : List Int, cutG (ns.map A.int) none (some 63) = ms.map A.int := ⟨cutG ns none (some 63), by simp [cutG, List.map_take, List.map_drop]⟩
    simp -implicitDefEqProofs [n9, n1, na, n0, no, nc, nn, ne, ne1, nes, opSl, lstOf, hs_orBad, hms, hs_listL]
    refine columns_ok (t := 0) ⟨ms, 0, 0, 17, rfl, by decide, by decide, by decide, by decide, by decide⟩ fun cols S1 hc h1 f1 => ?_
    generalize Txt.mul (Str.ofString "9") 41 = s9 at *
    generalize Txt.mul (Str.ofString "1") 5000 = s1 at *
    generalize Txt.mul (Str.ofString "0") 40 = s0 at *
    generalize Txt.mul (Str.ofString "a") 13 = sa at *
    generalize Txt.mul (Str.ofString "(") 3 = so at *
    generalize Txt.mul (Str.ofString "(not ") 7 = sb7 at *
    generalize Txt.mul (Str.ofString ")") 7 = sc7 at *
    generalize Txt.mul (Str.ofString "(not ") 8 = sb8 at *
    generalize Txt.mul (Str.ofString ")") 8 = sc8 at *
    refine ⟨by omega, by omega, by omega, by omega, by omega, by omega, by omega, by omega, _, rfl, ?_⟩
    refine hS_for (fun as e S' => (∃ v3 x4, e = [some (A.scr ns), some (A.loc 0), some (A.tup cols), v3, x4, none, none, none, none, none]) ∧ Tp 0 1000 S' ∧ ∀ a ∈ as, ∃ z, a = .str z ∧ Tx 10000 z) ?_ ?_ _ _ _ ⟨⟨_, _, rfl⟩, h1, ?_⟩
    · rintro a as e S' ⟨⟨v3, x4, rfl⟩, ht, ha⟩
      obtain ⟨z, rfl, hz⟩ := ha _ (List.mem_cons_self ..)
      refine ⟨_, rfl, ?_⟩
      simp -implicitDefEqProofs
      refine cmp_ok hz (by decide) fun S2 f2 => ?_
      simp -implicitDefEqProofs
      exact ⟨ht.fz f2, fun a h => ha a (List.mem_cons_of_mem _ h)⟩
    · rintro e S' ⟨⟨v3, x4, rfl⟩, ht, _⟩
      simp -implicitDefEqProofs [itemsW, seqV, lstOf]
      refine hS_for (fun as e S' => (∃ v3 x4 x5, e = [some (A.scr ns), some (A.loc 0), some (A.tup cols), v3, x4, x5, none, none, none, none]) ∧ Tp 0 1000 S' ∧ ∀ x ∈ as, x = A.non ∨ x = .int 5 ∨ x = .lst [.str "a"] ∨ x = .tup [.str "a"] ∨ x = .bl true) ?_ ?_ _ _ _ ⟨⟨_, _, _, rfl⟩, ht, by simp⟩
      · rintro a as e S' ⟨⟨v3, x4, x5, rfl⟩, ht, ha⟩
        refine ⟨_, rfl, ?_⟩
        simp -implicitDefEqProofs [told_odd (ha _ (List.mem_cons_self ..)), hs_ne, eqBad]
        exact ⟨ht, fun x h => ha x (List.mem_cons_of_mem _ h)⟩
      · rintro e S' ⟨⟨v3, x4, x5, rfl⟩, ht, _⟩
        simp -implicitDefEqProofs [iRg_ok]
        refine hS_for (fun as e S' => (∃ v3 x4 x5 x6 x7 x8 x9, e = [some (A.scr ns), some (A.loc 0), some (A.tup cols), v3, x4, x5, x6, x7, x8, x9]) ∧ ∃ j, j + as.length = 16 ∧ Tp 0 (1000 + 31000 * j) S') ?_ ?_ _ _ _ ⟨⟨_, _, _, _, _, _, _, rfl⟩, 0, rfl, ht⟩
        · rintro a as e S' ⟨⟨v3, x4, x5, x6, x7, x8, x9, rfl⟩, j, hj, ht⟩
          rw [List.length_cons] at hj
          have bg4 : Bg 4 = 7680 := by decide
          have wd5 : Wd 5 = 312500 := by decide
          refine ⟨_, rfl, ?_⟩
          simp -implicitDefEqProofs
          refine draw_ok ht (by omega) (by decide) (by decide) fun d S2 d0 d1 h2 f2 => ?_
          obtain ⟨kd, hkd, hkd2⟩ := kindIx d0 d1
          simp -implicitDefEqProofs [hkd]
          refine expr_ok hc 4 (by decide) 7 _ _ _ _ _ (by decide) h2 (by omega) hkd2 fun x S3 hx h3 f3 => ?_
          obtain ⟨z, hz, ez⟩ := hx 8 (by decide) S3
          rw [wd5] at hz
          simp -implicitDefEqProofs [ez]
          refine bent_ok h3 (by omega) hz (by decide) fun y S4 hy h4 f4 => ?_
          try simp -implicitDefEqProofs
          refine bent_ok h4 (by omega) hy (by decide) fun y2 S5 hy2 h5 f5 => ?_
          simp -implicitDefEqProofs [itemsW, seqV, lstOf]
          refine hS_for (fun as2 e S' => (∃ v3 x4 x5 x6 x7 x8 x9, e = [some (A.scr ns), some (A.loc 0), some (A.tup cols), v3, x4, x5, x6, x7, x8, x9]) ∧ Tp 0 (1000 + 31000 * (j + 1)) S' ∧ ∀ a ∈ as2, ∃ z, a = A.str z ∧ Tx 2000000 z) ?_ ?_ _ _ _ ⟨⟨_, _, _, _, _, _, _, rfl⟩, h5.mono (by omega), ?_⟩
          · rintro a as2 e S' ⟨⟨v3, x4, x5, x6, x7, x8, x9, rfl⟩, ht, ha⟩
            obtain ⟨z, rfl, hz⟩ := ha _ (List.mem_cons_self ..)
            refine ⟨_, rfl, ?_⟩
            simp -implicitDefEqProofs
            refine cmp_ok hz (by decide) fun S2 f2 => ?_
            simp -implicitDefEqProofs
            exact ⟨ht.fz f2, fun a h => ha a (List.mem_cons_of_mem _ h)⟩
          · rintro e S' ⟨⟨v3, x4, x5, x6, x7, x8, x9, rfl⟩, ht, ha⟩
            exact ⟨⟨_, _, _, _, _, _, _, rfl⟩, j + 1, by omega, ht⟩
          · simp only [List.forall_mem_cons]
            exact ⟨⟨_, rfl, hy.mono (by decide)⟩, ⟨_, rfl, hy2.mono (by decide)⟩, fun _ h => nomatch h⟩
        · rintro e S' _
          first
            | rfl
            | trivial
            | simp
    · simp only [List.forall_mem_cons]
      refine ⟨?_, ?_, ?_, ?_, ?_, ?_, ?_, ?_, ?_, ?_, ?_, ?_, ?_, ?_, ?_, ?_, ?_, ?_, ?_, ?_, ?_, ?_, ?_, ?_, ?_, ?_, ?_, ?_, ?_, ?_, ?_, ?_, ?_, ?_, ?_, ?_, ?_, ?_, ?_, fun _ h => nomatch h⟩
      all_goals first
        | exact ⟨_, rfl, r9.mono (by decide)⟩
        | exact ⟨_, rfl, r9s.mono (by decide)⟩
        | exact ⟨_, rfl, r1.mono (by decide)⟩
        | exact ⟨_, rfl, r0.mono (by decide)⟩
        | exact ⟨_, rfl, r7.mono (by decide)⟩
        | exact ⟨_, rfl, r8.mono (by decide)⟩
        | exact ⟨_, rfl, aa.mono (by decide)⟩
        | exact ⟨_, rfl, ao.mono (by decide)⟩
        | exact ⟨_, rfl, Tx.lit (by decide +kernel)⟩
  revert key
  cases f_law [.scr ns] [] with
  | ok x S => rintro rfl; exact ⟨S, rfl⟩
  | exn => exact fun h => h.elim
  | bad => exact fun h => h.elim
end K77
namespace K77
open PySem PySem.Spec PyProof.Rows L2 Mi
abbrev R : PySem.W.OpenRow := PySem.W.OpenLaw.row PySem.Challenge.rw_liveclaims_k77_forms_that_are_not_read
abbrev hk : PySem.W.Hook := He.hookX 6 fa fn ts [] ex
def ob (s : PySem.W.SharedT) : He.AlX := He.obsX 6 fa fn ts [] ex (HandSHeadRun.getT s)
theorem ob_eq (s : PySem.W.SharedT) : ob s = hk.obs s.abs := He.obsX_eq (HandSHeadRun.getT_eq s)
def names0 : List PySem.Str := ["__name__", "BadText", "is_integer", "common_divisor", "is_rational", "LETTERS", "SIGNS", "LIMIT", "MOST_NAME", "is_name", "is_within_limit", "MOST_DEPTH", "OPERANDS", "DIGITS", "MOST_DIGITS", "read_integer", "read_number", "read_leaf", "FormReader", "read_expression", "show_number", "show_value", "show_expression"]
def names1 : List PySem.Str := ["_law_tape", "_law_draw", "_law_lowest", "_law_rational", "_law_name", "_law_fresh", "_law_columns", "_law_leaf", "_law_expression", "_law_operands", "_law_digits", "_law_is_name", "_law_number", "_law_leaf_of", "_law_token", "_law_read", "_law_due", "_law_told", "_law_bent"]
def names : List PySem.Str := names0 ++ names1
theorem run1 (w : World) : HandSHeadRun.RunEq R (PySem.W.view R.prog [47]) hk ob 2000 names (w.withFollow "special-get-raises" true) := by
  intro os
  kernel_rfl
theorem run2 (w : World) : HandSHeadRun.RunEq R (PySem.W.view R.prog [47]) hk ob 2000 names (w.withFollow "special-get-raises" false) := by
  intro os
  kernel_rfl
theorem run (w : World) : HandSHeadRun.RunEq R (PySem.W.view R.prog [47]) hk ob 2000 names w := PySem.W.byRow2 "special-get-raises" (P := fun w => HandSHeadRun.RunEq R (PySem.W.view R.prog [47]) hk ob 2000 names w) run2 run1 w
end K77
open PySem PySem.W PySem.Calls PyProof.Rows
theorem PySem.Challenge.cw_liveclaims_k77_forms_that_are_not_read_holds : PySem.Challenge.rw_liveclaims_k77_forms_that_are_not_read.Holds := by
  w_on; o_law
  refine HandSHeadRun.head_any (r := OpenLaw.row PySem.Challenge.rw_liveclaims_k77_forms_that_are_not_read) (q := view (OpenLaw.row PySem.Challenge.rw_liveclaims_k77_forms_that_are_not_read).prog [47]) (H := K77.hk) (ob := K77.ob) (M := 2000) (loose := K77.names) (d := HandSHeadRun.topDef (OpenLaw.row PySem.Challenge.rw_liveclaims_k77_forms_that_are_not_read).prog 47) (kwd := []) K77.ob_eq
    (by kernel_rfl) (fun s => by kernel_rfl) K77.run (by kernel_rfl) (by kernel_rfl) (by kernel_rfl) (by rfl) (by first | assumption | decide +kernel) (by decide +kernel) ⟨rfl, rfl, rfl, rfl, rfl, by decide +kernel⟩ ?hw ?hc
  case hw => w_witness2
  case hc =>
    refine Mi.law_end (l := PySem.Challenge.rw_liveclaims_k77_forms_that_are_not_read) (n := 63) (k := 23) (x := "_law_script") rfl (by decide) (by kernel_rfl) ⟨rfl, by decide, by decide⟩ ?F
    intro w mg fa h Y G hmg0
    obtain ⟨K, KX, c⟩ := Y
    have e : (HandSHeadRun.topDef (OpenLaw.row PySem.Challenge.rw_liveclaims_k77_forms_that_are_not_read).prog 47).name = ("law" : PySem.Str) := by kernel_rfl
    rw [e] at hmg0
    have F : K77.FC w K mg := ⟨⟨h, KX, G⟩, c.t, c.more⟩
    obtain ⟨fd, hb, hF⟩ := K77.ok_law (P := (PySem.Challenge.rw_liveclaims_k77_forms_that_are_not_read).prog) F
    have ef : fa = He.ga K "law" := by
      have z := hmg0.symm.trans (K77.law_glo F)
      exact Value.ref.inj (Option.some.inj z)
    subst ef
    exact ⟨K, fd, K77.f_law, KX, hb, K77.pure_law, fun base _ _ => hF base⟩

