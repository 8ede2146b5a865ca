import PyProof.Rows.All
import Wide.All
import OpenK.AllK
import Wide.FinOn
import HandS.ForMost
import HandS.Lambda
import HandS.HeadHook4
import HandS.Exc
import HandS.ExcInit
import HandS.ExcOwn
import HandS.ExcField
import HandS.TryOnly
import HandS.TryMany
import HandS.HeadWalk
import KE.KMinKey
import HandS.Defaults
import HandS.Star
import HandS.Deep
import HandS.TupLe
import HandS.TupAny
import HandS.IsInst
import HandS.More
import HandS.TupLen
import HandS.Zip
import KE.GoesEnum
import KE.SortData
import HandS.Dict
import KE.KDictCopyH
import KE.KDictSum
import HandS.DictComp
import HandS.DictTup
import HandS.Conv
import HandS.Strs
import KE.KDictPairs
import HandS.ClsMeth
import PyProof.ReprRoads
import PyProof.CallFns
import KE.DataMinMax
import KE.KStateDown
import HandS.Head0
import HandS.Head1
import HandS.Head2
import HandS.HeadEnd
import PySem.Challenge.RW_idleclauses_k09_whole_readings
section G1_
set_option Elab.async false
set_option linter.all false
set_option maxRecDepth 100000
set_option maxHeartbeats 1000000
namespace L2
namespace G
open PySem PySem.Spec PyProof.Rows

/-! ### data, stores, results -/
inductive D where
  | non
  | bl (b : Bool)
  | int (i : Int)
  | str (x : Str)
  | tup (xs : List D)
  | lst (xs : List D)
  | dct (t : Bool) (ks vs : List D)
  | ref (n : Nat)
  /-- a tuple whose object is known: of the text, or frozen -/
  | ftup (xs : List D)

inductive Cell where
  | lst (xs : List D)
  | dct (t : Bool) (ks vs : List D)
  /-- the table of code objects of the def x -/
  | tbl (x : Str)
abbrev Store := List Cell
structure Ex where
  cls : Str
  fs : List (Str × D)
inductive Res (α : Type) where
  | ok (a : α) (s : Store)
  | exc (x : Ex) (s : Store)
  | bad
def M (α : Type) := Store → Res α
def ret {α : Type} (a : α) : M α := fun s => .ok a s
def bad {α : Type} : M α := fun _ => .bad
def bnd {α β : Type} (m : M α) (k : α → M β) : M β := fun s => match m s with
  | .ok a s' => k a s'
  | .exc x s' => .exc x s'
  | .bad => .bad
def lift {α : Type} : Option α → M α
  | some a => ret a
  | none => bad
/-- what is said of a result -/
def Ev {α : Type} (r : Res α) (P : α → Store → Prop) (Z : Ex → Store → Prop) : Prop := match r with
  | .ok a s => P a s
  | .exc x s => Z x s
  | .bad => False
theorem Ev.bnd {α β : Type} {m : M α} {k : α → M β} {s : Store} {P : β → Store → Prop} {Z : Ex → Store → Prop} (h : Ev (bnd m k s) P Z) : Ev (m s) (fun a s' => Ev (k a s') P Z) Z := by
  unfold G.bnd at h
  cases e : m s with
  | ok a s' => rw [e] at h; exact h
  | exc x s' => rw [e] at h; exact h
  | bad => rw [e] at h; exact h
theorem Ev.mono {α : Type} {r : Res α} {P P' : α → Store → Prop} {Z Z' : Ex → Store → Prop} (h : Ev r P Z) (hp : ∀ a s, P a s → P' a s) (hz : ∀ x s, Z x s → Z' x s) : Ev r P' Z' := by
  cases r with
  | ok a s => exact hp _ _ h
  | exc x s => exact hz _ _ h
  | bad => exact h
theorem Ev.lift {α : Type} {o : Option α} {s : Store} {P : α → Store → Prop} {Z : Ex → Store → Prop} (h : Ev (lift o s) P Z) : ∃ a, o = some a ∧ P a s := by
  cases o with
  | none => exact h.elim
  | some a => exact ⟨a, rfl, h⟩

/-! ### how data lie in the heap -/
def WrT (K : PySem.W.Frag) (a : Addr) (xs : List V) : Prop := ∃ (o : Obj) (its : Array Value) (n : Nat), K.lookup a = some o ∧ o.cls = .type "tuple" ∧ o.data = .seq its n ∧ its.size ≤ sizeLine ∧ Vals xs its.toList
def WrL (K : PySem.W.Frag) (a : Addr) (xs : List V) : Prop := ∃ (o : Obj) (its : Array Value) (n : Nat), K.lookup a = some o ∧ o.cls = .type "list" ∧ o.dict = none ∧ o.data = .seq its n ∧ its.size ≤ sizeLine ∧ Vals xs its.toList
def LstAt (K : PySem.W.Frag) (F : Addr → Prop) (H : Hp) (a : Addr) (xs : List V) : Prop := (¬ F a ∧ Rd H a (.lst xs)) ∨ WrL K a xs
theorem LstAt.sq {K : PySem.W.Frag} {F : Addr → Prop} {H : Hp} {a : Addr} {xs : List V} (h : LstAt K F H a xs) : SqL K H a xs := h.elim (fun q => .inl q.2) .inr
/-- a tuple whose object is known -/
def FT (K : PySem.W.Frag) (H : Hp) (a : Addr) (xs : List V) : Prop := (∃ o, o.cls = .type "tuple" ∧ o.dict = none ∧ H a = some (.frz o (.tup xs))) ∨ ∃ (o : Obj) (its : Array Value) (n : Nat), K.lookup a = some o ∧ o.cls = .type "tuple" ∧ o.dict = none ∧ o.data = .seq its n ∧ its.size ≤ sizeLine ∧ Vals xs its.toList
theorem FT.sq {K : PySem.W.Frag} {H : Hp} {a : Addr} {xs : List V} (h : FT K H a xs) : SqT K H a xs := by
  rcases h with ⟨o, _, _, h⟩ | ⟨o, its, n, h1, h2, _, h3, h4, h5⟩
  · exact .inl (.inr ⟨o, h⟩)
  · exact .inr ⟨o, its, n, h1, h2, h3, h4, h5⟩
/-- keys -/
def kD : Key → D
  | .inl i => .int i
  | .inr x => .str x
def tkD (k : List Key) : D := .tup (k.map kD)
/-- a dict's object -/
def DctO (o : HO) (t : Bool) (ks : List D) (vs : List V) : Prop := (∃ kvs : List (Key × V), t = false ∧ o = .dK kvs ∧ ks = kvs.map (fun p => kD p.1) ∧ vs = kvs.map (·.2)) ∨ (∃ kvs : List (List Key × V), t = true ∧ o = .dT kvs ∧ ks = kvs.map (fun p => tkD p.1) ∧ vs = kvs.map (·.2))
mutual
inductive Rep (K : PySem.W.Frag) (F : Addr → Prop) (as : List Addr) (H : Hp) : V → D → Prop
  | non : Rep K F as H .non .non
  | bl (b : Bool) : Rep K F as H (.bl b) (.bl b)
  | int (i : Int) : Rep K F as H (.int i) (.int i)
  | str (x : Str) : Rep K F as H (.str x) (.str x)
  | tup {a : Addr} {xs : List V} {ds : List D} : H a = some (.tup xs) → Reps K F as H xs ds → Rep K F as H (.ref a) (.tup ds)
  | lst {a : Addr} {xs : List V} {ds : List D} : LstAt K F H a xs → Reps K F as H xs ds → Rep K F as H (.ref a) (.lst ds)
  | dct {a : Addr} {o : HO} {xs : List V} {t : Bool} {ks ds : List D} : ¬ F a → Rd H a o → DctO o t ks xs → Reps K F as H xs ds → Rep K F as H (.ref a) (.dct t ks ds)
  | ref {a : Addr} {n : Nat} : as[n]? = some a → Rep K F as H (.ref a) (.ref n)
  | ftup {a : Addr} {xs : List V} {ds : List D} : FT K H a xs → Reps K F as H xs ds → Rep K F as H (.ref a) (.ftup ds)
inductive Reps (K : PySem.W.Frag) (F : Addr → Prop) (as : List Addr) (H : Hp) : List V → List D → Prop
  | nil : Reps K F as H [] []
  | cons {v : V} {vs : List V} {d : D} {ds : List D} : Rep K F as H v d → Reps K F as H vs ds → Reps K F as H (v :: vs) (d :: ds)
end
def TupO : HO → Prop
  | .tup _ => True
  | .frz _ (.tup _) => True
  | .ext _ => True
  | _ => False
section
variable {K : PySem.W.Frag} {F F' : Addr → Prop} {as as' : List Addr} {H H' : Hp}
theorem sqT_frame {a : Addr} {xs : List V} (k : ∀ b o, H b = some o → TupO o → H' b = some o) (h : SqT K H a xs) : SqT K H' a xs := by
  rcases h with (h | ⟨o, h⟩) | h
  · exact .inl (.inl (k _ _ h trivial))
  · exact .inl (.inr ⟨o, k _ _ h trivial⟩)
  · exact .inr h
theorem FT.frame {a : Addr} {xs : List V} (k : ∀ b o, H b = some o → TupO o → H' b = some o) (h : FT K H a xs) : FT K H' a xs := by
  rcases h with ⟨o, c, d, h⟩ | h
  · exact .inl ⟨o, c, d, k _ _ h trivial⟩
  · exact .inr h
theorem LstAt.frame {a : Addr} {xs : List V} (k : ∀ b o, H b = some o → ¬ F b → H' b = some o) (h : LstAt K F H a xs) : LstAt K F H' a xs := by
  rcases h with ⟨n, h | ⟨o, h⟩⟩ | h
  · exact .inl ⟨n, .inl (k _ _ h n)⟩
  · exact .inl ⟨n, .inr ⟨o, k _ _ h n⟩⟩
  · exact .inr h
theorem LstAt.weak {a : Addr} {xs : List V} (k : ∀ a o, H a = some o → F' a → F a) (h : LstAt K F H a xs) : LstAt K F' H a xs := by
  rcases h with ⟨n, h | ⟨o, h⟩⟩ | h
  · exact .inl ⟨fun q => n (k _ _ h q), .inl h⟩
  · exact .inl ⟨fun q => n (k _ _ h q), .inr ⟨o, h⟩⟩
  · exact .inr h
theorem rd_frame {a : Addr} {o : HO} (k : ∀ b o, H b = some o → ¬ F b → H' b = some o) (n : ¬ F a) (h : Rd H a o) : Rd H' a o := h.elim (fun h => .inl (k _ _ h n)) fun ⟨u, h⟩ => .inr ⟨u, k _ _ h n⟩
theorem rd_weak {a : Addr} {o : HO} (k : ∀ a o, H a = some o → F' a → F a) (n : ¬ F a) (h : Rd H a o) : ¬ F' a := h.elim (fun h q => n (k _ _ h q)) fun ⟨u, h⟩ q => n (k _ _ h q)
mutual
theorem Rep.frame {v : V} {d : D} (k : ∀ b o, H b = some o → ¬ F b → H' b = some o) (kt : ∀ b o, H b = some o → TupO o → H' b = some o) (p : ∀ (n : Nat) (a : Addr), as[n]? = some a → as'[n]? = some a) : Rep K F as H v d → Rep K F as' H' v d
  | .non => .non
  | .bl b => .bl b
  | .int i => .int i
  | .str x => .str x
  | .tup h r => .tup (kt _ _ h trivial) (r.frame k kt p)
  | .lst h r => .lst (h.frame k) (r.frame k kt p)
  | .dct n h o r => .dct n (rd_frame k n h) o (r.frame k kt p)
  | .ref h => .ref (p _ _ h)
  | .ftup h r => .ftup (h.frame kt) (r.frame k kt p)
theorem Reps.frame {vs : List V} {ds : List D} (k : ∀ b o, H b = some o → ¬ F b → H' b = some o) (kt : ∀ b o, H b = some o → TupO o → H' b = some o) (p : ∀ (n : Nat) (a : Addr), as[n]? = some a → as'[n]? = some a) : Reps K F as H vs ds → Reps K F as' H' vs ds
  | .nil => .nil
  | .cons h r => .cons (h.frame k kt p) (r.frame k kt p)
end
mutual
theorem Rep.weak {v : V} {d : D} (k : ∀ a o, H a = some o → F' a → F a) : Rep K F as H v d → Rep K F' as H v d
  | .non => .non
  | .bl b => .bl b
  | .int i => .int i
  | .str x => .str x
  | .tup h r => .tup h (r.weak k)
  | .lst h r => .lst (h.weak k) (r.weak k)
  | .dct n h o r => .dct (rd_weak k n h) h o (r.weak k)
  | .ref h => .ref h
  | .ftup h r => .ftup h (r.weak k)
theorem Reps.weak {vs : List V} {ds : List D} (k : ∀ a o, H a = some o → F' a → F a) : Reps K F as H vs ds → Reps K F' as H vs ds
  | .nil => .nil
  | .cons h r => .cons (h.weak k) (r.weak k)
end
theorem Reps.length {vs : List V} {ds : List D} : Reps K F as H vs ds → vs.length = ds.length
  | .nil => rfl
  | .cons _ r => by simp [r.length]
theorem Reps.append {vs vs' : List V} {ds ds' : List D} : Reps K F as H vs ds → Reps K F as H vs' ds' → Reps K F as H (vs ++ vs') (ds ++ ds')
  | .nil, r => r
  | .cons h t, r => .cons h (t.append r)
theorem Reps.get {vs : List V} {ds : List D} {i : Nat} {v : V} : Reps K F as H vs ds → vs[i]? = some v → ∃ d, ds[i]? = some d ∧ Rep K F as H v d
  | .nil, e => by simp at e
  | .cons h t, e => by
    cases i with
    | zero => simp at e; subst e; exact ⟨_, rfl, h⟩
    | succ i => exact t.get (i := i) (by simpa using e)
theorem Reps.get' {vs : List V} {ds : List D} {i : Nat} {d : D} : Reps K F as H vs ds → ds[i]? = some d → ∃ v, vs[i]? = some v ∧ Rep K F as H v d
  | .nil, e => by simp at e
  | .cons h t, e => by
    cases i with
    | zero => simp at e; subst e; exact ⟨_, rfl, h⟩
    | succ i => exact t.get' (i := i) (by simpa using e)
end

/-! ### immutable data -/
mutual
def D.imm : D → Bool
  | .tup xs => D.imms xs
  | .ftup xs => D.imms xs
  | .lst _ => false
  | .dct _ _ _ => false
  | _ => true
def D.imms : List D → Bool
  | [] => true
  | d :: ds => d.imm && D.imms ds
end
mutual
theorem Rep.of_imm {K : PySem.W.Frag} {F F' : Addr → Prop} {as : List Addr} {H : Hp} {v : V} {d : D} (i : d.imm = true) : Rep K F as H v d → Rep K F' as H v d
  | .non => .non
  | .bl b => .bl b
  | .int i => .int i
  | .str x => .str x
  | .tup h r => .tup h (r.of_imm (by simpa [D.imm] using i))
  | .lst h r => by simp [D.imm] at i
  | .dct n h o r => by simp [D.imm] at i
  | .ref h => .ref h
  | .ftup h r => .ftup h (r.of_imm (by simpa [D.imm] using i))
theorem Reps.of_imm {K : PySem.W.Frag} {F F' : Addr → Prop} {as : List Addr} {H : Hp} {vs : List V} {ds : List D} (i : D.imms ds = true) : Reps K F as H vs ds → Reps K F' as H vs ds
  | .nil => .nil
  | .cons h r => by
    simp only [D.imms, Bool.and_eq_true] at i
    exact .cons (h.of_imm i.1) (r.of_imm i.2)
end

/-! ### the store -/
def CellAt (K : PySem.W.Frag) (as : List Addr) (H : Hp) (a : Addr) : Cell → Prop
  | .lst xs => ∃ vs, H a = some (.lst vs) ∧ Reps K (fun _ => True) as H vs xs
  | .dct t ks xs => ∃ o vs, H a = some o ∧ DctO o t ks vs ∧ Reps K (fun _ => True) as H vs xs
  | .tbl x => a = (He.cT K (x, none)).2 ∧ LamX.TabS H a (x ++ (".<locals>." : Str) ++ ("<lambda>" : Str))
structure SRep (K : PySem.W.Frag) (as : List Addr) (st : Store) (H : Hp) : Prop where
  nd : as.Nodup
  len : as.length = st.length
  at_ : ∀ (i : Nat) (a : Addr) (c : Cell), as[i]? = some a → st[i]? = some c → CellAt K as H a c
theorem DctO.notTup {o : HO} {t : Bool} {ks : List D} {vs : List V} (h : DctO o t ks vs) : ¬ TupO o := by
  rcases h with ⟨_, _, rfl, _⟩ | ⟨_, _, rfl, _⟩ <;> exact fun z => z
theorem SRep.mem {K : PySem.W.Frag} {as : List Addr} {st : Store} {H : Hp} (h : SRep K as st H) {a : Addr} (ha : a ∈ as) : ∃ o, H a = some o ∧ ¬ TupO o := by
  obtain ⟨i, hi, e⟩ := List.getElem_of_mem ha
  have hi' : i < st.length := by rw [← h.len]; exact hi
  have q := h.at_ i a st[i] (by rw [List.getElem?_eq_getElem hi, e]) (List.getElem?_eq_getElem hi')
  cases hc : st[i] with
  | lst xs => rw [hc] at q; obtain ⟨vs, q, _⟩ := q; exact ⟨_, q, fun z => z⟩
  | dct t ks xs => rw [hc] at q; obtain ⟨o, vs, q, r, _⟩ := q; exact ⟨_, q, r.notTup⟩
  | tbl y => rw [hc] at q; obtain ⟨_, ps, q, _⟩ := q; exact ⟨_, q, fun z => z⟩
structure Grow (as : List Addr) (H : Hp) (as' : List Addr) (H' : Hp) : Prop where
  pre : ∀ (n : Nat) (a : Addr), as[n]? = some a → as'[n]? = some a
  keep : ∀ b o, H b = some o → b ∉ as → H' b = some o
  fre : ∀ a ∈ as', a ∉ as → H a = none
theorem Grow.refl (as : List Addr) (H : Hp) : Grow as H as H := ⟨fun _ _ h => h, fun _ _ h _ => h, fun _ h n => absurd h n⟩
theorem Grow.sub {as : List Addr} {H : Hp} {as' : List Addr} {H' : Hp} (g : Grow as H as' H') {a : Addr} (h : a ∈ as) : a ∈ as' := by
  obtain ⟨i, hi, e⟩ := List.getElem_of_mem h
  exact List.mem_of_getElem? (g.pre i a (by rw [List.getElem?_eq_getElem hi, e]))
theorem Grow.trans {as as1 as2 : List Addr} {H H1 H2 : Hp} (g : Grow as H as1 H1) (k : Grow as1 H1 as2 H2) : Grow as H as2 H2 where
  pre := fun n a h => k.pre n a (g.pre n a h)
  keep := fun b o h n => k.keep b o (g.keep b o h n) fun q => by
    have := g.fre b q n
    rw [h] at this
    cases this
  fre := fun a h n => by
    by_cases q : a ∈ as1
    · exact g.fre a q n
    · cases e : H a with
      | none => rfl
      | some o =>
        have := k.fre a h q
        rw [g.keep a o e n] at this
        cases this
/-- a new object that is no cell -/
theorem Grow.new {as : List Addr} {H : Hp} {p : Addr} {o : HO} (n : H p = none) : Grow as H as (upd H p o) := ⟨fun _ _ h => h, fun b u h _ => by rw [upd_ne (ne_of_none h n)]; exact h, fun _ h q => absurd h q⟩
theorem SRep.frame {K : PySem.W.Frag} {as : List Addr} {st : Store} {H H' : Hp} (h : SRep K as st H) (k : ∀ b o, H b = some o → (b ∈ as ∨ TupO o) → H' b = some o) : SRep K as st H' where
  nd := h.nd
  len := h.len
  at_ := fun i a c ha hc => by
    have q := h.at_ i a c ha hc
    have hm : a ∈ as := List.mem_of_getElem? ha
    cases c with
    | lst xs =>
      obtain ⟨vs, e, r⟩ := q
      exact ⟨vs, k _ _ e (.inl hm), r.frame (fun _ _ _ n => absurd trivial n) (fun b o e t => k b o e (.inr t)) fun _ _ h => h⟩
    | dct t ks xs =>
      obtain ⟨o, vs, e, d, r⟩ := q
      exact ⟨o, vs, k _ _ e (.inl hm), d, r.frame (fun _ _ _ n => absurd trivial n) (fun b o e t => k b o e (.inr t)) fun _ _ h => h⟩
    | tbl y =>
      obtain ⟨hx, ps, e, t, c⟩ := q
      refine ⟨hx, ps, k _ _ e (.inl hm), t, fun pos cv hcv => ?_⟩
      obtain ⟨c, e1, e2⟩ := c pos cv hcv
      exact ⟨c, e1, k _ _ e2 (.inr trivial)⟩
theorem SRep.new {K : PySem.W.Frag} {as : List Addr} {st : Store} {H : Hp} {p : Addr} {o : HO} (h : SRep K as st H) (n : H p = none) : SRep K as st (upd H p o) :=
  h.frame fun b u e _ => by rw [upd_ne (ne_of_none e n)]; exact e
end G
end L2
end G1_
section G2_
set_option Elab.async false
set_option linter.all false
set_option maxRecDepth 100000
set_option maxHeartbeats 1000000
namespace L2
namespace G
open PySem PySem.Spec PyProof.Rows

abbrev Env := List (Option D)
def ownA (O : List Nat) (σ : St) (a : Addr) : Prop := ∃ i, i ∈ O ∧ σ[i]? = some (some (.ref a))
/-- what must not be shared -/
def Ff (B : Addr → Prop) (as : List Addr) (O : List Nat) (σ : St) (a : Addr) : Prop := B a ∨ a ∈ as ∨ ownA O σ a
inductive Own (K : PySem.W.Frag) (F : Addr → Prop) (as : List Addr) (H : Hp) : V → D → Prop
  | lst {p : Addr} {vs : List V} {ds : List D} : H p = some (.lst vs) → Reps K F as H vs ds → Own K F as H (.ref p) (.lst ds)
  | dct {p : Addr} {o : HO} {vs : List V} {t : Bool} {ks ds : List D} : H p = some o → DctO o t ks vs → Reps K F as H vs ds → Own K F as H (.ref p) (.dct t ks ds)
  | sca {v : V} {d : D} : Rep K F as H v d → (∀ p, v ≠ .ref p) → Own K F as H v d
structure Wf (K : PySem.W.Frag) (O : List Nat) (B : Addr → Prop) (H0 : Hp) (as0 as : List Addr) (ρ : Env) (σ : St) (H : Hp) : Prop where
  len : σ.length = ρ.length
  var : ∀ i d, ρ[i]? = some (some d) → i ∉ O → ∃ v, σ[i]? = some (some v) ∧ Rep K (Ff B as O σ) as H v d
  own : ∀ i d, ρ[i]? = some (some d) → i ∈ O → ∃ v, σ[i]? = some (some v) ∧ Own K (Ff B as O σ) as H v d
  slot : ∀ i a, i ∈ O → σ[i]? = some (some (.ref a)) → H0 a = none ∧ a ∉ as ∧ ¬ B a ∧ ∃ o, H a = some o ∧ ¬ TupO o
  dis : ∀ i j a, i ∈ O → j ∈ O → σ[i]? = some (some (.ref a)) → σ[j]? = some (some (.ref a)) → i = j
  trB : ∀ a, B a → ∃ o, H a = some o
  gr : Grow as0 H0 as H
inductive RepT (K : PySem.W.Frag) (F : Addr → Prop) (as : List Addr) (H : Hp) (v : V) (d : D) : Prop
  | rep : Rep K F as H v d → RepT K F as H v d
  | own : Own K F as H v d → (∀ p, v = .ref p → p ∉ as) → RepT K F as H v d
section
variable {K : PySem.W.Frag} {O : List Nat} {B : Addr → Prop} {H0 : Hp} {as0 as as' : List Addr} {ρ : Env} {σ : St} {H H' : Hp} {st : Store} {v : V} {d : D}
theorem Wf.tr (w : Wf K O B H0 as0 as ρ σ H) (s : SRep K as st H) : ∀ a, Ff B as O σ a → ∃ o, H a = some o := by
  rintro a (h | h | ⟨i, hi, h⟩)
  · exact w.trB a h
  · obtain ⟨o, h, _⟩ := s.mem h; exact ⟨o, h⟩
  · obtain ⟨_, _, _, o, h, _⟩ := w.slot i a hi h; exact ⟨o, h⟩
theorem ff_grow (g : Grow as H as' H') : ∀ a o, H a = some o → Ff B as' O σ a → Ff B as O σ a := by
  rintro a o e (h | h | h)
  · exact .inl h
  · by_cases q : a ∈ as
    · exact .inr (.inl q)
    · rw [g.fre a h q] at e; cases e
  · exact .inr (.inr h)
theorem grow_k (g : Grow as H as' H') : ∀ b o, H b = some o → ¬ Ff B as' O σ b → H' b = some o := fun b o e n => g.keep b o e fun q => n (.inr (.inl (g.sub q)))
theorem grow_t (s : SRep K as st H) (g : Grow as H as' H') : ∀ b o, H b = some o → TupO o → H' b = some o := fun b o e t => g.keep b o e fun q => by
  obtain ⟨o', e', n⟩ := s.mem q
  rw [e] at e'; cases e'
  exact n t
theorem Rep.grow (s : SRep K as st H) (g : Grow as H as' H') (r : Rep K (Ff B as O σ) as H v d) : Rep K (Ff B as' O σ) as' H' v d :=
  (r.weak (ff_grow g)).frame (grow_k g) (grow_t s g) g.pre
theorem Reps.grow {vs : List V} {ds : List D} (s : SRep K as st H) (g : Grow as H as' H') (r : Reps K (Ff B as O σ) as H vs ds) : Reps K (Ff B as' O σ) as' H' vs ds :=
  (r.weak (ff_grow g)).frame (grow_k g) (grow_t s g) g.pre
theorem Own.grow (s : SRep K as st H) (g : Grow as H as' H') (n : ∀ p, v = .ref p → p ∉ as) (r : Own K (Ff B as O σ) as H v d) : Own K (Ff B as' O σ) as' H' v d := by
  cases r with
  | lst h r => exact .lst (g.keep _ _ h (n _ rfl)) (r.grow s g)
  | dct h o r => exact .dct (g.keep _ _ h (n _ rfl)) o (r.grow s g)
  | sca r q => exact .sca (r.grow s g) q
theorem RepT.grow (s : SRep K as st H) (g : Grow as H as' H') (r : RepT K (Ff B as O σ) as H v d) : RepT K (Ff B as' O σ) as' H' v d := by
  cases r with
  | rep r => exact .rep (r.grow s g)
  | own r n =>
    refine .own (r.grow s g n) fun p e q => ?_
    have hp := n p e
    have hn := g.fre p q hp
    subst e
    cases r with
    | lst h _ => rw [h] at hn; cases hn
    | dct h _ _ => rw [h] at hn; cases hn
    | sca _ z => exact z p rfl
theorem Wf.grow {st' : Store} (w : Wf K O B H0 as0 as ρ σ H) (s : SRep K as st H) (g : Grow as H as' H') (s' : SRep K as' st' H') : Wf K O B H0 as0 as' ρ σ H' where
  len := w.len
  var := fun i d e n => let ⟨v, h, r⟩ := w.var i d e n; ⟨v, h, r.grow s g⟩
  own := fun i d e m => by
    obtain ⟨v, h, r⟩ := w.own i d e m
    exact ⟨v, h, r.grow s g fun p z => by subst z; exact (w.slot i p m h).2.1⟩
  slot := fun i a m e => by
    obtain ⟨h1, h2, h3, o, h4, h5⟩ := w.slot i a m e
    refine ⟨h1, fun q => ?_, h3, o, g.keep a o h4 h2, h5⟩
    have := g.fre a q h2
    rw [h4] at this
    cases this
  dis := w.dis
  trB := fun a b => by
    obtain ⟨o, h⟩ := w.trB a b
    by_cases q : a ∈ as
    · obtain ⟨o, h, _⟩ := s'.mem (g.sub q); exact ⟨o, h⟩
    · exact ⟨o, g.keep a o h q⟩
  gr := w.gr.trans g
/-! ### views -/
section
variable {F : Addr → Prop}
theorem RepT.t_int {i : Int} (r : RepT K F as H v (.int i)) : v = .int i := by
  cases r with
  | rep r => cases r; rfl
  | own r => cases r with | sca r => cases r; rfl
theorem RepT.t_bl {b : Bool} (r : RepT K F as H v (.bl b)) : v = .bl b := by
  cases r with
  | rep r => cases r; rfl
  | own r => cases r with | sca r => cases r; rfl
theorem RepT.t_str {x : Str} (r : RepT K F as H v (.str x)) : v = .str x := by
  cases r with
  | rep r => cases r; rfl
  | own r => cases r with | sca r => cases r; rfl
theorem RepT.t_non (r : RepT K F as H v .non) : v = .non := by
  cases r with
  | rep r => cases r; rfl
  | own r => cases r with | sca r => cases r; rfl
theorem RepT.t_lst {ds : List D} (r : RepT K F as H v (.lst ds)) : ∃ a xs, v = .ref a ∧ SqL K H a xs ∧ Reps K F as H xs ds := by
  cases r with
  | rep r => cases r with | lst h r => exact ⟨_, _, rfl, h.sq, r⟩
  | own r => cases r with
    | lst h r => exact ⟨_, _, rfl, .inl (.inl h), r⟩
    | sca r z => cases r; exact absurd rfl (z _)
theorem RepT.t_tup {ds : List D} (r : RepT K F as H v (.tup ds)) : ∃ a xs, v = .ref a ∧ H a = some (.tup xs) ∧ Reps K F as H xs ds := by
  cases r with
  | rep r => cases r with | tup h r => exact ⟨_, _, rfl, h, r⟩
  | own r => cases r with
    | sca r z => cases r; exact absurd rfl (z _)
theorem RepT.t_ftup {ds : List D} (r : RepT K F as H v (.ftup ds)) : ∃ a xs, v = .ref a ∧ FT K H a xs ∧ Reps K F as H xs ds := by
  cases r with
  | rep r => cases r with | ftup h r => exact ⟨_, _, rfl, h, r⟩
  | own r => cases r with
    | sca r z => cases r; exact absurd rfl (z _)
theorem RepT.t_dct {t : Bool} {ks ds : List D} (r : RepT K F as H v (.dct t ks ds)) : ∃ a o xs, v = .ref a ∧ Rd H a o ∧ DctO o t ks xs ∧ Reps K F as H xs ds := by
  cases r with
  | rep r => cases r with | dct n h o r => exact ⟨_, _, _, rfl, h, o, r⟩
  | own r => cases r with
    | dct h o r => exact ⟨_, _, _, rfl, .inl h, o, r⟩
    | sca r z => cases r; exact absurd rfl (z _)
theorem RepT.t_ref {n : Nat} (r : RepT K F as H v (.ref n)) : ∃ a, v = .ref a ∧ as[n]? = some a := by
  cases r with
  | rep r => cases r with | ref h => exact ⟨_, rfl, h⟩
  | own r => cases r with
    | sca r z => cases r; exact absurd rfl (z _)
end
end

/-! ### the judgements -/
abbrev ZT := (Addr → Prop) → Ex → Store → List Addr → L2.St → Hp → Prop
def Zc (K : PySem.W.Frag) (O : List Nat) (B : Addr → Prop) (H0 : Hp) (as0 : List Addr) (Z : ZT) (x : Ex) (st' : Store) : Prop := ∀ as' ρ' σ' H' (B' : Addr → Prop), (∀ a, B a → B' a) → Wf K O B H0 as0 as' ρ' σ' H' → SRep K as' st' H' → Z B' x st' as' σ' H'
/-- what stands: the ghosts of a reading -/
structure Gh where
  B : Addr → Prop
  H0 : Hp
  as0 : List Addr
  as : List Addr
  ρ : Env
  st : Store
structure Gh.ok (K : PySem.W.Frag) (O : List Nat) (g : Gh) (σ : L2.St) (H : Hp) : Prop where
  wf : Wf K O g.B g.H0 g.as0 g.as g.ρ σ H
  sr : SRep K g.as g.st H
def tE (K : PySem.W.Frag) (O : List Nat) (Z : ZT) (f : Env → M D) : TE := fun σ H Q => ∃ g : Gh, g.ok K O σ H ∧ Ev (f g.ρ g.st) (fun d st' => ∀ as' v H', Grow g.as H as' H' → SRep K as' st' H' → Rep K (Ff g.B as' O σ) as' H' v d → Q v H') (Zc K O g.B g.H0 g.as0 Z)
def tU (K : PySem.W.Frag) (O : List Nat) (Z : ZT) (f : Env → M D) : TE := fun σ H Q => ∃ g : Gh, g.ok K O σ H ∧ Ev (f g.ρ g.st) (fun d st' => ∀ as' v H', Grow g.as H as' H' → SRep K as' st' H' → RepT K (Ff g.B as' O σ) as' H' v d → Q v H') (Zc K O g.B g.H0 g.as0 Z)
/-- a new list or dict, or what is no object -/
def tN (K : PySem.W.Frag) (O : List Nat) (Z : ZT) (f : Env → M D) : TE := fun σ H Q => ∃ g : Gh, g.ok K O σ H ∧ Ev (f g.ρ g.st) (fun d st' => ∀ as' v H', Grow g.as H as' H' → SRep K as' st' H' → Own K (fun a => Ff g.B as' O σ a ∨ v = .ref a) as' H' v d → (∀ p, v = .ref p → H p = none ∧ p ∉ as') → Q v H') (Zc K O g.B g.H0 g.as0 Z)
def tA (K : PySem.W.Frag) (O : List Nat) (Z : ZT) (f : Env → M (List D)) : TA := fun σ H Q => ∃ g : Gh, g.ok K O σ H ∧ Ev (f g.ρ g.st) (fun ds st' => ∀ as' vs H', Grow g.as H as' H' → SRep K as' st' H' → Reps K (Ff g.B as' O σ) as' H' vs ds → Q vs H') (Zc K O g.B g.H0 g.as0 Z)
def tT (K : PySem.W.Frag) (O : List Nat) (Z : ZT) (f : Env → M Bool) : TT := fun σ H Q => ∃ g : Gh, g.ok K O σ H ∧ Ev (f g.ρ g.st) (fun b st' => ∀ as' H', Grow g.as H as' H' → SRep K as' st' H' → Q b H') (Zc K O g.B g.H0 g.as0 Z)
inductive Fl where
  | next | brk | cont | ret (d : D)
/-- what statements leave as it was -/
structure Step (O : List Nat) (as : List Addr) (σ : L2.St) (H : Hp) (as' : List Addr) (σ' : L2.St) (H' : Hp) : Prop where
  pre : ∀ (n : Nat) (a : Addr), as[n]? = some a → as'[n]? = some a
  keep : ∀ b o, H b = some o → b ∉ as → ¬ ownA O σ b → H' b = some o
  fre : ∀ a ∈ as', a ∉ as → H a = none
  own : ∀ a, ownA O σ' a → ownA O σ a ∨ H a = none
  trk : ∀ b o, H b = some o → ∃ o', H' b = some o'
theorem Grow.step {K : PySem.W.Frag} {O : List Nat} {as : List Addr} {σ : L2.St} {H : Hp} {as' : List Addr} {H' : Hp} {st' : Store} (g : Grow as H as' H') (s' : SRep K as' st' H') : Step O as σ H as' σ H' :=
  ⟨g.pre, fun b o h n _ => g.keep b o h n, g.fre, fun _ h => .inl h, fun b o h => by
    by_cases q : b ∈ as
    · obtain ⟨o', h, _⟩ := s'.mem (g.sub q); exact ⟨o', h⟩
    · exact ⟨o, g.keep b o h q⟩⟩
theorem Step.refl (O : List Nat) (as : List Addr) (σ : L2.St) (H : Hp) : Step O as σ H as σ H := ⟨fun _ _ h => h, fun _ _ h _ _ => h, fun _ h n => absurd h n, fun _ h => .inl h, fun _ o h => ⟨o, h⟩⟩
theorem Step.back {O : List Nat} {as as1 : List Addr} {σ σ1 : L2.St} {H H1 : Hp} (g : Step O as σ H as1 σ1 H1) {a : Addr} (h : H1 a = none) : H a = none := by
  cases e : H a with
  | none => rfl
  | some o =>
    obtain ⟨o', e'⟩ := g.trk a o e
    rw [h] at e'; cases e'
theorem Step.trans {O : List Nat} {as as1 as2 : List Addr} {σ σ1 σ2 : L2.St} {H H1 H2 : Hp} (g : Step O as σ H as1 σ1 H1) (k : Step O as1 σ1 H1 as2 σ2 H2) : Step O as σ H as2 σ2 H2 where
  pre := fun n a h => k.pre n a (g.pre n a h)
  keep := fun b o h n m => k.keep b o (g.keep b o h n m) (fun q => by
    have := g.fre b q n
    rw [h] at this
    cases this) fun q => by
    rcases g.own b q with q | q
    · exact m q
    · rw [h] at q; cases q
  fre := fun a h n => by
    by_cases q : a ∈ as1
    · exact g.fre a q n
    · exact g.back (k.fre a h q)
  own := fun a h => by
    rcases k.own a h with h | h
    · exact g.own a h
    · exact .inr (g.back h)
  trk := fun b o h => by
    obtain ⟨o1, h1⟩ := g.trk b o h
    exact k.trk b o1 h1
def tS (K : PySem.W.Frag) (O : List Nat) (Z : ZT) (f : Env → M (Fl × Env)) : TS := fun E σ H => ∃ g : Gh, g.ok K O σ H ∧ Ev (f g.ρ g.st) (fun r st' => ∀ as' σ' H', Step O g.as σ H as' σ' H' → Wf K O g.B g.H0 g.as0 as' r.2 σ' H' → SRep K as' st' H' → match r.1 with
  | .next => E.nx σ' H'
  | .brk => E.bk σ' H'
  | .cont => E.ct σ' H'
  | .ret d => ∀ v, Rep K (fun a => g.B a ∨ a ∈ as') as' H' v d → E.rt v H') (Zc K O g.B g.H0 g.as0 Z)
abbrev DE (X : Cx) (O : List Nat) (Z : ZT) (e : Expr) (f : Env → M D) : Prop := PE X e (tE X.K O Z f)
abbrev DU (X : Cx) (O : List Nat) (Z : ZT) (e : Expr) (f : Env → M D) : Prop := PE X e (tU X.K O Z f)
abbrev DN (X : Cx) (O : List Nat) (Z : ZT) (e : Expr) (f : Env → M D) : Prop := PE X e (tN X.K O Z f)
abbrev DA (X : Cx) (O : List Nat) (Z : ZT) (es : List Expr) (f : Env → M (List D)) : Prop := PA X es (tA X.K O Z f)
abbrev DT (X : Cx) (O : List Nat) (Z : ZT) (e : Expr) (f : Env → M Bool) : Prop := PT X e (tT X.K O Z f)
abbrev DW (X : Cx) (O : List Nat) (Z : ZT) (e : Expr) (f : Env → M Bool) : Prop := PW X e (tT X.K O Z f)
abbrev DS (X : Cx) (O : List Nat) (Z : ZT) (s : Stmt) (f : Env → M (Fl × Env)) : Prop := PS X s (tS X.K O Z f)
abbrev DSs (X : Cx) (O : List Nat) (Z : ZT) (s : List Stmt) (f : Env → M (Fl × Env)) : Prop := PSs X s (tS X.K O Z f)
theorem PE.imp {X : Cx} {e : Expr} {t t' : TE} (h : PE X e t) (k : ∀ σ H Q, t' σ H Q → t σ H Q) : PE X e t' := ⟨fun pins s σ H Q I q => h.run pins s σ H Q I (k σ H Q q)⟩
theorem PA.imp {X : Cx} {e : List Expr} {t t' : TA} (h : PA X e t) (k : ∀ σ H Q, t' σ H Q → t σ H Q) : PA X e t' := ⟨fun pos pins s σ H Q I q => h.run pos pins s σ H Q I (k σ H Q q)⟩
theorem PT.imp {X : Cx} {e : Expr} {t t' : TT} (h : PT X e t) (k : ∀ σ H Q, t' σ H Q → t σ H Q) : PT X e t' := ⟨fun pins s σ H Q I q => h.run pins s σ H Q I (k σ H Q q)⟩
theorem PW.imp {X : Cx} {e : Expr} {t t' : TT} (h : PW X e t) (k : ∀ σ H Q, t' σ H Q → t σ H Q) : PW X e t' := ⟨fun wh pins s σ H Q I q => h.run wh pins s σ H Q I (k σ H Q q)⟩
theorem PS.imp {X : Cx} {e : Stmt} {t t' : TS} (h : PS X e t) (k : ∀ D σ H, t' D σ H → t D σ H) : PS X e t' := ⟨fun pins s σ H D I q => h.run pins s σ H D I (k D σ H q)⟩
theorem PSs.imp {X : Cx} {e : List Stmt} {t t' : TS} (h : PSs X e t) (k : ∀ D σ H, t' D σ H → t D σ H) : PSs X e t' := ⟨fun pins s σ H D I q => h.run pins s σ H D I (k D σ H q)⟩
section
variable {X : Cx} {O : List Nat} {Z : ZT} {e a b c : Expr} {es : List Expr} {f fa fb fc : Env → M D} {pos : Pos}
theorem DE.du (h : DE X O Z e f) : DU X O Z e f := PE.imp h fun σ H Q ⟨g, ok, q⟩ => ⟨g, ok, q.mono (fun d st' q as' v H' gr s r => q as' v H' gr s (.rep r)) fun _ _ z => z⟩
theorem DN.de (h : DN X O Z e f) : DE X O Z e f := PE.imp h fun σ H Q ⟨g, ok, q⟩ => ⟨g, ok, q.mono (fun d st' q as' v H' gr s r n => q as' v H' gr s (by
  have nF : ∀ p, v = .ref p → ¬ Ff g.B as' O σ p := fun p e z => by
    obtain ⟨n1, n2⟩ := n p e
    rcases z with z | z | ⟨i, hi, z⟩
    · obtain ⟨o, z⟩ := ok.wf.trB p z; rw [n1] at z; cases z
    · exact n2 z
    · obtain ⟨_, _, _, o, z, _⟩ := ok.wf.slot i p hi z; rw [n1] at z; cases z
  cases r with
  | lst h r => exact .lst (.inl ⟨nF _ rfl, .inl h⟩) (r.weak fun _ _ _ z => .inl z)
  | dct h o r => exact .dct (nF _ rfl) (.inl h) o (r.weak fun _ _ _ z => .inl z)
  | sca r _ => exact r.weak fun _ _ _ z => .inl z)) fun _ _ z => z⟩
theorem DN.du (h : DN X O Z e f) : DU X O Z e f := DE.du (DN.de h)
/-- the ghosts behind an expression -/
def Gh.at (g : Gh) (as' : List Addr) (st' : Store) : Gh := { g with as := as', st := st' }
theorem Gh.ok.step {K : PySem.W.Frag} {g : Gh} {σ : L2.St} {H H' : Hp} {as' : List Addr} {st' : Store} (ok : g.ok K O σ H) (gr : Grow g.as H as' H') (s : SRep K as' st' H') : (g.at as' st').ok K O σ H' := ⟨ok.wf.grow ok.sr gr s, s⟩

/-! ### combinators -/
def E.var (i : Nat) : Env → M D := fun ρ => match ρ[i]? with
  | some (some d) => ret d
  | _ => bad
def E.cst (d : D) : Env → M D := fun _ => ret d
def E.op2 (g : D → D → Option D) (a b : Env → M D) : Env → M D := fun ρ => bnd (a ρ) fun x => bnd (b ρ) fun y => lift (g x y)
def E.op1 (g : D → Option D) (a : Env → M D) : Env → M D := fun ρ => bnd (a ρ) fun x => lift (g x)
def A.nil : Env → M (List D) := fun _ => ret []
def A.cons (a : Env → M D) (r : Env → M (List D)) : Env → M (List D) := fun ρ => bnd (a ρ) fun x => bnd (r ρ) fun xs => ret (x :: xs)
def E.tup (r : Env → M (List D)) : Env → M D := fun ρ => bnd (r ρ) fun xs => ret (.tup xs)
def E.lst (r : Env → M (List D)) : Env → M D := fun ρ => bnd (r ρ) fun xs => ret (.lst xs)
def T.val (a : Env → M D) : Env → M Bool := fun ρ => bnd (a ρ) fun x => match x with
  | .bl b => ret b
  | _ => bad
def T.not (a : Env → M Bool) : Env → M Bool := fun ρ => bnd (a ρ) fun b => ret (!b)
def T.and (a b : Env → M Bool) : Env → M Bool := fun ρ => bnd (a ρ) fun x => if x = true then b ρ else ret false
def T.or (a b : Env → M Bool) : Env → M Bool := fun ρ => bnd (a ρ) fun x => if x = true then ret true else b ρ
def E.and (a b : Env → M D) : Env → M D := fun ρ => bnd (a ρ) fun x => match x with
  | .bl true => b ρ
  | .bl false => ret (.bl false)
  | _ => bad
def E.or (a b : Env → M D) : Env → M D := fun ρ => bnd (a ρ) fun x => match x with
  | .bl false => b ρ
  | .bl true => ret (.bl true)
  | _ => bad
def E.not (a : Env → M D) : Env → M D := fun ρ => bnd (a ρ) fun x => match x with
  | .bl b => ret (.bl (!b))
  | _ => bad
def E.ifx (t : Env → M Bool) (a b : Env → M D) : Env → M D := fun ρ => bnd (t ρ) fun c => if c = true then a ρ else b ρ

/-! ### rules: names, constants -/
theorem du_var (i : Nat) {x : Str} {pos : Pos} (hN : X.N[i]? = some x := by rfl) (hv : Vis X.env.scope x := by first | exact Or.inl rfl | exact Or.inr (Or.inl rfl) | exact Or.inr (Or.inr rfl)) (hd : (x == ("__debug__" : Str)) = false := by decide)
    (hcd : (x == ("__classdict__" : Str)) = false := by decide) : DU X O Z (.Name x pos) (E.var i) := PE.imp (pe_var hN hv hd hcd) fun σ H Q ⟨g, ok, q⟩ => by
  unfold E.var at q
  cases e : g.ρ[i]? with
  | none => rw [e] at q; exact q.elim
  | some o =>
    rw [e] at q
    cases o with
    | none => exact q.elim
    | some d =>
      by_cases m : i ∈ O
      · obtain ⟨v, h, r⟩ := ok.wf.own i d e m
        exact ⟨v, h, q _ v H (Grow.refl _ _) ok.sr (.own r fun p z => by subst z; exact (ok.wf.slot i p m h).2.1)⟩
      · obtain ⟨v, h, r⟩ := ok.wf.var i d e m
        exact ⟨v, h, q _ v H (Grow.refl _ _) ok.sr (.rep r)⟩
theorem de_var (i : Nat) {x : Str} {pos : Pos} (hO : i ∉ O := by decide) (hN : X.N[i]? = some x := by rfl) (hv : Vis X.env.scope x := by first | exact Or.inl rfl | exact Or.inr (Or.inl rfl) | exact Or.inr (Or.inr rfl)) (hd : (x == ("__debug__" : Str)) = false := by decide)
    (hcd : (x == ("__classdict__" : Str)) = false := by decide) : DE X O Z (.Name x pos) (E.var i) := PE.imp (pe_var hN hv hd hcd) fun σ H Q ⟨g, ok, q⟩ => by
  unfold E.var at q
  cases e : g.ρ[i]? with
  | none => rw [e] at q; exact q.elim
  | some o =>
    rw [e] at q
    cases o with
    | none => exact q.elim
    | some d =>
      obtain ⟨v, h, r⟩ := ok.wf.var i d e hO
      exact ⟨v, h, q _ v H (Grow.refl _ _) ok.sr r⟩
theorem dn_int {i j pos} : DN X O Z (.Constant (.int i) j pos) (E.cst (.int i)) := PE.imp pe_int fun σ H Q ⟨g, ok, q⟩ => q _ _ H (Grow.refl _ _) ok.sr (.sca (.int i) fun p z => nomatch z) fun p z => nomatch z
theorem dn_str {x j pos} : DN X O Z (.Constant (.str x) j pos) (E.cst (.str x)) := PE.imp pe_str fun σ H Q ⟨g, ok, q⟩ => q _ _ H (Grow.refl _ _) ok.sr (.sca (.str x) fun p z => nomatch z) fun p z => nomatch z
theorem dn_bl {b j pos} : DN X O Z (.Constant (.bool b) j pos) (E.cst (.bl b)) := PE.imp pe_bl fun σ H Q ⟨g, ok, q⟩ => q _ _ H (Grow.refl _ _) ok.sr (.sca (.bl b) fun p z => nomatch z) fun p z => nomatch z
theorem dn_non {j pos} : DN X O Z (.Constant .none j pos) (E.cst .non) := PE.imp pe_non fun σ H Q ⟨g, ok, q⟩ => q _ _ H (Grow.refl _ _) ok.sr (.sca .non fun p z => nomatch z) fun p z => nomatch z
end
end G
end L2
end G2_
section G3_
set_option Elab.async false
set_option linter.all false
set_option maxRecDepth 100000
set_option maxHeartbeats 1000000
namespace L2
namespace G
open PySem PySem.Spec PyProof.Rows
section
variable {X : Cx} {O : List Nat} {Z : ZT} {e a b c : Expr} {es : List Expr} {f fa fb fc : Env → M D} {pos : Pos}

/-! ### operators, by values -/
/-- g told of data is what f does of values -/
def Op2 (X : Cx) (f : Value → Value → Sem Value) (g : D → D → Option D) : Prop := ∃ r : R2, OpR X f r ∧ ∀ (F : Addr → Prop) (as : List Addr) (H : Hp) (x y : V) (d1 d2 d : D) (Q : VK), (∀ a, F a → ∃ o, H a = some o) →
  RepT X.K F as H x d1 → RepT X.K F as H y d2 → g d1 d2 = some d → (∀ v H', Same H H' → Rep X.K F as H' v d → Q v H') → r x y H Q
theorem grow_same {as : List Addr} {H H' : Hp} (s : Same H H') : Grow as H as H' := ⟨fun _ _ h => h, fun b o h _ => s b o h, fun _ h n => absurd h n⟩
theorem SRep.same {K : PySem.W.Frag} {as : List Addr} {st : Store} {H H' : Hp} (h : SRep K as st H) (s : Same H H') : SRep K as st H' := h.frame fun b o e _ => s b o e
/-- two expressions in a row, then what is told of both -/
theorem two {σ : L2.St} {H : Hp} {g : Gh} {P : D → Store → Prop} {ZZ : Ex → Store → Prop} {k : D → D → M D} {R : V → V → Hp → Prop} (ok : g.ok X.K O σ H)
    (q : Ev (bnd (fa g.ρ) (fun x => bnd (fb g.ρ) fun y => k x y) g.st) P (Zc X.K O g.B g.H0 g.as0 Z))
    (hR : ∀ d1 d2 x y as' st' H', Grow g.as H as' H' → SRep X.K as' st' H' → RepT X.K (Ff g.B as' O σ) as' H' x d1 → RepT X.K (Ff g.B as' O σ) as' H' y d2 → Ev (k d1 d2 st') P (Zc X.K O g.B g.H0 g.as0 Z) → R x y H') :
    tU X.K O Z fa σ H fun x H1 => tU X.K O Z fb σ H1 fun y H2 => R x y H2 := by
  refine ⟨g, ok, q.bnd.mono (fun d1 st1 q1 as1 x H1 g1 s1 r1 => ?_) fun _ _ z => z⟩
  refine ⟨g.at as1 st1, ok.step g1 s1, q1.bnd.mono (fun d2 st2 q2 as2 y H2 g2 s2 r2 => ?_) fun _ _ z => z⟩
  exact hR d1 d2 x y as2 st2 H2 (g1.trans g2) s2 (r1.grow s1 g2) r2 q2
theorem op2_fin {σ : L2.St} {H : Hp} {g : Gh} {r : R2} {h : D → D → Option D} {Q : VK} (ok : g.ok X.K O σ H)
    (hr : ∀ (F : Addr → Prop) (as : List Addr) (H : Hp) (x y : V) (d1 d2 d : D) (Q : VK), (∀ a, F a → ∃ o, H a = some o) →
      RepT X.K F as H x d1 → RepT X.K F as H y d2 → h d1 d2 = some d → (∀ v H', Same H H' → Rep X.K F as H' v d → Q v H') → r x y H Q)
    (q : Ev (E.op2 h fa fb g.ρ g.st) (fun d st' => ∀ as' v H', Grow g.as H as' H' → SRep X.K as' st' H' → Rep X.K (Ff g.B as' O σ) as' H' v d → Q v H') (Zc X.K O g.B g.H0 g.as0 Z)) :
    tU X.K O Z fa σ H fun x H1 => tU X.K O Z fb σ H1 fun y H2 => r x y H2 Q := by
  refine two (k := fun x y => lift (h x y)) (ZZ := fun _ _ => True) ok q fun d1 d2 x y as' st' H' g1 s1 r1 r2 q => ?_
  obtain ⟨d, e, q⟩ := q.lift
  exact hr _ as' H' x y d1 d2 d Q ((ok.step g1 s1).wf.tr s1) r1 r2 e fun v H2 sm rv => q as' v H2 (g1.trans (grow_same sm)) (s1.same sm) rv
theorem de_bin {op : Operator} {g : D → D → Option D} (ho : Op2 X (binaryOp op) g) (ha : DU X O Z a fa) (hb : DU X O Z b fb) : DE X O Z (.BinOp a op b pos) (E.op2 g fa fb) := by
  obtain ⟨r, ho, hr⟩ := ho
  exact PE.imp (pe_op ho ha hb) fun σ H Q ⟨g, ok, q⟩ => op2_fin ok hr q
theorem de_cmp {op : CmpOp} {g : D → D → Option D} (ho : Op2 X (compareOp op) g) (ha : DU X O Z a fa) (hb : DU X O Z b fb) (hm : behindInMarks op b = false) : DE X O Z (.Compare a [op] [b] pos) (E.op2 g fa fb) := by
  obtain ⟨r, ho, hr⟩ := ho
  exact PE.imp (pe_cmpR ho ha hb hm) fun σ H Q ⟨g, ok, q⟩ => op2_fin ok hr q
theorem test_fin {σ : L2.St} {g : Gh} {H : Hp} {Q : Bool → Hp → Prop} (ok : g.ok X.K O σ H) (q : Ev (T.val f g.ρ g.st) (fun b st' => ∀ as' H', Grow g.as H as' H' → SRep X.K as' st' H' → Q b H') (Zc X.K O g.B g.H0 g.as0 Z)) :
    Ev (f g.ρ g.st) (fun d st' => ∀ as' v H', Grow g.as H as' H' → SRep X.K as' st' H' → Rep X.K (Ff g.B as' O σ) as' H' v d → ∃ k, v = .bl k ∧ Q k H') (Zc X.K O g.B g.H0 g.as0 Z) := by
  refine (Ev.bnd q).mono (fun d st' q as' v H' gr s r => ?_) fun _ _ z => z
  cases d with
  | bl b => cases r; exact ⟨b, rfl, q as' H' gr s⟩
  | _ => exact q.elim
theorem dt_cmp {op : CmpOp} {g : D → D → Option D} (ho : Op2 X (compareOp op) g) (ha : DU X O Z a fa) (hb : DU X O Z b fb) (hm : behindInMarks op b = false) : DT X O Z (.Compare a [op] [b] pos) (T.val (E.op2 g fa fb)) := by
  obtain ⟨r, ho, hr⟩ := ho
  exact PT.imp (pt_cmpR ho ha hb hm) fun σ H Q ⟨g, ok, q⟩ => op2_fin (Q := fun x H' => ∃ k, x = .bl k ∧ Q k H') ok hr (test_fin ok q)
/-- an expression as a test -/
theorem dt_val (h : DE X O Z e f) (he : ∀ whole, isTrue e X.env whole = (do let v ← whole; standAt e.pos; holding [v] (truthy v)) := by intro _; rfl) : DT X O Z e (T.val f) :=
  PT.imp (pt_val h he) fun σ H Q ⟨g, ok, q⟩ => ⟨g, ok, test_fin ok q⟩
theorem dt_not {t : Env → M Bool} (h : DT X O Z a t) : DT X O Z (.UnaryOp .Not a pos) (T.not t) := PT.imp (pt_not h) fun σ H Q ⟨g, ok, q⟩ => ⟨g, ok, (Ev.bnd q).mono (fun b st' q as' H' gr s => q as' H' gr s) fun _ _ z => z⟩
theorem dw_and1 {t : Env → M Bool} (h : DT X O Z a t) : DW X O Z (.BoolOp .And [a] pos) t := pw_and1 h
theorem dw_or1 {t : Env → M Bool} (h : DT X O Z a t) : DW X O Z (.BoolOp .Or [a] pos) t := pw_or1 h
theorem dw_and {t u : Env → M Bool} (h : DT X O Z a t) (k : DW X O Z (.BoolOp .And (b :: es) pos) u) : DW X O Z (.BoolOp .And (a :: b :: es) pos) (T.and t u) := PW.imp (pw_and h k) fun σ H Q ⟨g, ok, q⟩ =>
  ⟨g, ok, (Ev.bnd q).mono (fun x st' q as' H' gr s => by
    cases x with
    | true => exact ⟨g.at as' st', ok.step gr s, q.mono (fun y st2 q as2 H2 g2 s2 => q as2 H2 (gr.trans g2) s2) fun _ _ z => z⟩
    | false => exact q as' H' gr s) fun _ _ z => z⟩
theorem dw_or {t u : Env → M Bool} (h : DT X O Z a t) (k : DW X O Z (.BoolOp .Or (b :: es) pos) u) : DW X O Z (.BoolOp .Or (a :: b :: es) pos) (T.or t u) := PW.imp (pw_or h k) fun σ H Q ⟨g, ok, q⟩ =>
  ⟨g, ok, (Ev.bnd q).mono (fun x st' q as' H' gr s => by
    cases x with
    | true => exact q as' H' gr s
    | false => exact ⟨g.at as' st', ok.step gr s, q.mono (fun y st2 q as2 H2 g2 s2 => q as2 H2 (gr.trans g2) s2) fun _ _ z => z⟩) fun _ _ z => z⟩
theorem dt_w {t : Env → M Bool} (h : DW X O Z e t) : DT X O Z e t := PW.pt h
theorem de_one {op} (h : DE X O Z a f) : DE X O Z (.BoolOp op [a] pos) f := pe_one h
theorem de_and (h : DE X O Z a fa) (k : DE X O Z (.BoolOp .And (b :: es) pos) fb) : DE X O Z (.BoolOp .And (a :: b :: es) pos) (E.and fa fb) := PE.imp (pe_and h k) fun σ H Q ⟨g, ok, q⟩ =>
  ⟨g, ok, (Ev.bnd q).mono (fun d st' q as' v H' gr s r => by
    cases d with
    | bl x =>
      cases r
      cases x with
      | true => exact ⟨true, rfl, g.at as' st', ok.step gr s, q.mono (fun y st2 q as2 v H2 g2 s2 => q as2 v H2 (gr.trans g2) s2) fun _ _ z => z⟩
      | false => exact ⟨false, rfl, q as' _ H' gr s (.bl false)⟩
    | _ => exact q.elim) fun _ _ z => z⟩
theorem de_or (h : DE X O Z a fa) (k : DE X O Z (.BoolOp .Or (b :: es) pos) fb) : DE X O Z (.BoolOp .Or (a :: b :: es) pos) (E.or fa fb) := PE.imp (pe_or h k) fun σ H Q ⟨g, ok, q⟩ =>
  ⟨g, ok, (Ev.bnd q).mono (fun d st' q as' v H' gr s r => by
    cases d with
    | bl x =>
      cases r
      cases x with
      | false => exact ⟨false, rfl, g.at as' st', ok.step gr s, q.mono (fun y st2 q as2 v H2 g2 s2 => q as2 v H2 (gr.trans g2) s2) fun _ _ z => z⟩
      | true => exact ⟨true, rfl, q as' _ H' gr s (.bl true)⟩
    | _ => exact q.elim) fun _ _ z => z⟩
theorem de_not (h : DE X O Z a f) : DE X O Z (.UnaryOp .Not a pos) (E.not f) := PE.imp (pe_not h) fun σ H Q ⟨g, ok, q⟩ =>
  ⟨g, ok, (Ev.bnd q).mono (fun d st' q as' v H' gr s r => by
    cases d with
    | bl x => cases r; exact ⟨x, rfl, q as' _ H' gr s (.bl _)⟩
    | _ => exact q.elim) fun _ _ z => z⟩
theorem de_ifx {t : Env → M Bool} (h : DT X O Z c t) (ha : DE X O Z a fa) (hb : DE X O Z b fb) : DE X O Z (.IfExp c a b pos) (E.ifx t fa fb) := PE.imp (pe_ifExp h ha hb) fun σ H Q ⟨g, ok, q⟩ =>
  ⟨g, ok, (Ev.bnd q).mono (fun x st' q as' H' gr s => by
    cases x with
    | true => exact ⟨g.at as' st', ok.step gr s, q.mono (fun y st2 q as2 v H2 g2 s2 => q as2 v H2 (gr.trans g2) s2) fun _ _ z => z⟩
    | false => exact ⟨g.at as' st', ok.step gr s, q.mono (fun y st2 q as2 v H2 g2 s2 => q as2 v H2 (gr.trans g2) s2) fun _ _ z => z⟩) fun _ _ z => z⟩
theorem du_ifx {t : Env → M Bool} (h : DT X O Z c t) (ha : DU X O Z a fa) (hb : DU X O Z b fb) : DU X O Z (.IfExp c a b pos) (E.ifx t fa fb) := PE.imp (pe_ifExp h ha hb) fun σ H Q ⟨g, ok, q⟩ =>
  ⟨g, ok, (Ev.bnd q).mono (fun x st' q as' H' gr s => by
    cases x with
    | true => exact ⟨g.at as' st', ok.step gr s, q.mono (fun y st2 q as2 v H2 g2 s2 => q as2 v H2 (gr.trans g2) s2) fun _ _ z => z⟩
    | false => exact ⟨g.at as' st', ok.step gr s, q.mono (fun y st2 q as2 v H2 g2 s2 => q as2 v H2 (gr.trans g2) s2) fun _ _ z => z⟩) fun _ _ z => z⟩

/-! ### arguments, displays -/
variable {r : Env → M (List D)}
theorem da_nil : DA X O Z [] A.nil := PA.imp pa_nil fun σ H Q ⟨g, ok, q⟩ => q _ _ H (Grow.refl _ _) ok.sr .nil
theorem da_cons (ha : DE X O Z e f) (hr : DA X O Z es r) (hs : starEach (e :: es) X.env = (false, eval e X.env) :: starEach es X.env := by rfl) : DA X O Z (e :: es) (A.cons f r) := PA.imp (pa_cons ha hr hs) fun σ H Q ⟨g, ok, q⟩ =>
  ⟨g, ok, (Ev.bnd q).mono (fun d st1 q as1 v H1 g1 s1 r1 => ⟨g.at as1 st1, ok.step g1 s1, (Ev.bnd q).mono (fun ds st2 q as2 vs H2 g2 s2 r2 => q as2 _ H2 (g1.trans g2) s2 (.cons (r1.grow s1 g2) r2)) fun _ _ z => z⟩) fun _ _ z => z⟩
theorem not_ff {K : PySem.W.Frag} {g : Gh} {σ : L2.St} {H : Hp} {p : Addr} (ok : g.ok K O σ H) (n : H p = none) : ¬ Ff g.B g.as O σ p := fun z => by
  obtain ⟨o, z⟩ := ok.wf.tr ok.sr p z
  rw [n] at z; cases z
theorem not_as {K : PySem.W.Frag} {g : Gh} {σ : L2.St} {H : Hp} {p : Addr} (ok : g.ok K O σ H) (n : H p = none) : p ∉ g.as := fun z => by
  obtain ⟨o, z, _⟩ := ok.sr.mem z
  rw [n] at z; cases z
theorem de_tup {x1} (h : DA X O Z es r) (hn : ∀ ρ s ds s', r ρ s = .ok ds s' → ds.length ≤ sizeLine) : DE X O Z (.Tuple es x1 pos) (E.tup r) := PE.imp (pe_tup h) fun σ H Q ⟨g, ok, q⟩ => by
  refine ⟨g, ok, ?_⟩
  have q := Ev.bnd q
  cases e : r g.ρ g.st with
  | ok ds st' =>
    rw [e] at q
    refine fun as' vs H' gr s rs => ⟨by rw [rs.length]; exact hn _ _ _ _ e, fun p np => ?_⟩
    have ok' := ok.step gr s
    exact q as' _ _ (gr.trans (Grow.new np)) (s.new np) (.tup upd_same (rs.grow s (Grow.new np)))
  | exc x st' => rw [e] at q; exact q
  | bad => rw [e] at q; exact q
theorem dn_lst (h : DA X O Z es r) (hn : ∀ ρ s ds s', r ρ s = .ok ds s' → ds.length ≤ sizeLine) : DN X O Z (.List es pos) (E.lst r) := PE.imp (pe_lst h) fun σ H Q ⟨g, ok, q⟩ => by
  refine ⟨g, ok, ?_⟩
  have q := Ev.bnd q
  cases e : r g.ρ g.st with
  | ok ds st' =>
    rw [e] at q
    refine fun as' vs H' gr s rs => ⟨by rw [rs.length]; exact hn _ _ _ _ e, fun p np => ?_⟩
    have ok' := ok.step gr s
    refine q as' _ _ (gr.trans (Grow.new np)) (s.new np) (.lst upd_same ?_) fun p' e' => ?_
    · refine (rs.weak fun a o ha z => ?_).frame (fun b o e _ => by rw [upd_ne (ne_of_none e np)]; exact e) (fun b o e _ => by rw [upd_ne (ne_of_none e np)]; exact e) fun _ _ h => h
      rcases z with z | z
      · exact z
      · cases z; rw [np] at ha; cases ha
    cases e'
    refine ⟨?_, not_as ok' np⟩
    cases z : H p with
    | none => rfl
    | some o => 
      by_cases m : p ∈ g.as
      · exact absurd (gr.sub m) (not_as ok' np)
      · have := gr.keep p o z m
        rw [np] at this; cases this
  | exc x st' => rw [e] at q; exact q
  | bad => rw [e] at q; exact q
end
end G
end L2
end G3_
section G4_
set_option Elab.async false
set_option linter.all false
set_option maxRecDepth 100000
set_option maxHeartbeats 1000000
namespace L2
namespace G
open PySem PySem.Spec PyProof.Rows

/-! ### arguments that may be owned; built-in functions -/
inductive RepTs (K : PySem.W.Frag) (F : Addr → Prop) (as : List Addr) (H : Hp) : List V → List D → Prop
  | nil : RepTs K F as H [] []
  | cons {v : V} {vs : List V} {d : D} {ds : List D} : RepT K F as H v d → RepTs K F as H vs ds → RepTs K F as H (v :: vs) (d :: ds)
theorem RepTs.grow {K : PySem.W.Frag} {O : List Nat} {B : Addr → Prop} {as as' : List Addr} {σ : L2.St} {H H' : Hp} {st : Store} {vs : List V} {ds : List D} (s : SRep K as st H) (g : Grow as H as' H') : RepTs K (Ff B as O σ) as H vs ds → RepTs K (Ff B as' O σ) as' H' vs ds
  | .nil => .nil
  | .cons h r => .cons (h.grow s g) (r.grow s g)
def tAU (K : PySem.W.Frag) (O : List Nat) (Z : ZT) (f : Env → M (List D)) : TA := fun σ H Q => ∃ g : Gh, g.ok K O σ H ∧ Ev (f g.ρ g.st) (fun ds st' => ∀ as' vs H', Grow g.as H as' H' → SRep K as' st' H' → RepTs K (Ff g.B as' O σ) as' H' vs ds → Q vs H') (Zc K O g.B g.H0 g.as0 Z)
abbrev DAU (X : Cx) (O : List Nat) (Z : ZT) (es : List Expr) (f : Env → M (List D)) : Prop := PA X es (tAU X.K O Z f)
/-- g told of data is what the call of f does -/
def Bl (X : Cx) (f : Value) (g : List D → Option D) : Prop := ∃ r : List V → Hp → VK → Prop, CallR X f r ∧ ∀ (F : Addr → Prop) (as : List Addr) (H : Hp) (xs : List V) (ds : List D) (d : D) (Q : VK), (∀ a, F a → ∃ o, H a = some o) →
  RepTs X.K F as H xs ds → g ds = some d → (∀ v H', Same H H' → Rep X.K F as H' v d → Q v H') → r xs H Q
/-- .. a new list or dict, or what is no object -/
def BlN (X : Cx) (f : Value) (g : List D → Option D) : Prop := ∃ r : List V → Hp → VK → Prop, CallR X f r ∧ ∀ (F : Addr → Prop) (as : List Addr) (H : Hp) (xs : List V) (ds : List D) (d : D) (Q : VK), (∀ a, F a → ∃ o, H a = some o) →
  RepTs X.K F as H xs ds → g ds = some d → (∀ v H', Same H H' → Own X.K (fun a => F a ∨ v = .ref a) as H' v d → (∀ p, v = .ref p → H p = none) → Q v H') → r xs H Q
def E.blt (g : List D → Option D) (r : Env → M (List D)) : Env → M D := fun ρ => bnd (r ρ) fun xs => lift (g xs)
def noexc {α : Type} (m : M α) : M α := fun s => match m s with
  | .exc _ _ => .bad
  | r => r
theorem Ev.noexc {α : Type} {m : M α} {s : Store} {P : α → Store → Prop} {Z Z' : Ex → Store → Prop} (h : Ev (noexc m s) P Z) : Ev (noexc m s) P Z' := by
  unfold G.noexc at h ⊢
  cases e : m s with
  | ok a s' => rw [e] at h; exact h
  | exc x s' => rw [e] at h; exact h.elim
  | bad => rw [e] at h; exact h
/-- a call of a def that lets nothing out -/
def E.app (φ : List D → M D) (r : Env → M (List D)) : Env → M D := fun ρ => bnd (r ρ) fun xs => noexc (φ xs)
/-- .. of arguments that may be owned: what comes is immutable -/
def E.appI (φ : List D → M D) (r : Env → M (List D)) : Env → M D := fun ρ => bnd (r ρ) fun xs => bnd (noexc (φ xs)) fun d => if d.imm = true then ret d else bad
section
variable {X : Cx} {O : List Nat} {Z : ZT} {e a b c : Expr} {es : List Expr} {f fa fb fc : Env → M D} {r : Env → M (List D)} {pos p : Pos} {x : Str}
theorem dau_nil : DAU X O Z [] A.nil := PA.imp pa_nil fun σ H Q ⟨g, ok, q⟩ => q _ _ H (Grow.refl _ _) ok.sr .nil
theorem dau_cons (ha : DU X O Z e f) (hr : DAU X O Z es r) (hs : starEach (e :: es) X.env = (false, eval e X.env) :: starEach es X.env := by rfl) : DAU X O Z (e :: es) (A.cons f r) := PA.imp (pa_cons ha hr hs) fun σ H Q ⟨g, ok, q⟩ =>
  ⟨g, ok, (Ev.bnd q).mono (fun d st1 q as1 v H1 g1 s1 r1 => ⟨g.at as1 st1, ok.step g1 s1, (Ev.bnd q).mono (fun ds st2 q as2 vs H2 g2 s2 r2 => q as2 _ H2 (g1.trans g2) s2 (.cons (r1.grow s1 g2) r2)) fun _ _ z => z⟩) fun _ _ z => z⟩
theorem blt_fin {σ : L2.St} {H : Hp} {g : Gh} {rr : List V → Hp → VK → Prop} {h : List D → Option D} {Q : VK} (ok : g.ok X.K O σ H)
    (hr : ∀ (F : Addr → Prop) (as : List Addr) (H : Hp) (xs : List V) (ds : List D) (d : D) (Q : VK), (∀ a, F a → ∃ o, H a = some o) →
      RepTs X.K F as H xs ds → h ds = some d → (∀ v H', Same H H' → Rep X.K F as H' v d → Q v H') → rr xs H Q)
    (q : Ev (E.blt h r g.ρ g.st) (fun d st' => ∀ as' v H', Grow g.as H as' H' → SRep X.K as' st' H' → Rep X.K (Ff g.B as' O σ) as' H' v d → Q v H') (Zc X.K O g.B g.H0 g.as0 Z)) :
    tAU X.K O Z r σ H fun vs H1 => rr vs H1 Q := by
  refine ⟨g, ok, (Ev.bnd q).mono (fun ds st' q as' vs H' gr s rs => ?_) fun _ _ z => z⟩
  obtain ⟨d, e, q⟩ := q.lift
  exact hr _ as' H' vs ds d Q ((ok.step gr s).wf.tr s) rs e fun v H2 sm rv => q as' v H2 (gr.trans (grow_same sm)) (s.same sm) rv
theorem blt_finN {σ : L2.St} {H : Hp} {g : Gh} {rr : List V → Hp → VK → Prop} {h : List D → Option D} {Q : VK} (ok : g.ok X.K O σ H)
    (hr : ∀ (F : Addr → Prop) (as : List Addr) (H : Hp) (xs : List V) (ds : List D) (d : D) (Q : VK), (∀ a, F a → ∃ o, H a = some o) →
      RepTs X.K F as H xs ds → h ds = some d → (∀ v H', Same H H' → Own X.K (fun a => F a ∨ v = .ref a) as H' v d → (∀ p, v = .ref p → H p = none) → Q v H') → rr xs H Q)
    (q : Ev (E.blt h r g.ρ g.st) (fun d st' => ∀ as' v H', Grow g.as H as' H' → SRep X.K as' st' H' → Own X.K (fun a => Ff g.B as' O σ a ∨ v = .ref a) as' H' v d → (∀ p, v = .ref p → H p = none ∧ p ∉ as') → Q v H') (Zc X.K O g.B g.H0 g.as0 Z)) :
    tAU X.K O Z r σ H fun vs H1 => rr vs H1 Q := by
  refine ⟨g, ok, (Ev.bnd q).mono (fun ds st' q as' vs H' gr s rs => ?_) fun _ _ z => z⟩
  obtain ⟨d, e, q⟩ := q.lift
  refine hr _ as' H' vs ds d Q ((ok.step gr s).wf.tr s) rs e fun v H2 sm rv n => q as' v H2 (gr.trans (grow_same sm)) (s.same sm) rv fun p z => ?_
  have np := n p z
  have m : p ∉ as' := fun m => by
    obtain ⟨o, m, _⟩ := s.mem m
    rw [np] at m; cases m
  refine ⟨?_, m⟩
  cases y : H p with
  | none => rfl
  | some o =>
    have := gr.keep p o y fun k => m (gr.sub k)
    rw [np] at this; cases this
theorem de_bltB {id : String} {g : List D → Option D} (hc : Bl X (.builtin id) g) (hg : Gl X x) (hm : X.mg x = none) (hv : bootBuiltins x = some (.builtin id)) (ha : DAU X O Z (e :: es) r) (hn : x ≠ "__name__" := by decide) (hdb : (x == ("__debug__" : Str)) = false := by decide)
    (he : starEach (e :: es) X.env = (false, eval e X.env) :: starEach es X.env := by rfl) (hpl : (backTo pos (starEach es X.env)).any (·.1) = false := by rfl) : DE X O Z (.Call (.Name x p) (e :: es) [] pos) (E.blt g r) := by
  obtain ⟨rr, hc, hr⟩ := hc
  exact PE.imp (pe_callB hc hg hm hv ha hn hdb he hpl) fun σ H Q ⟨g, ok, q⟩ => blt_fin ok hr q
theorem de_bltT {T : String} {g : List D → Option D} (hc : Bl X (.type T) g) (hg : Gl X x) (hm : X.mg x = none) (hv : bootBuiltins x = some (.type T)) (ha : DAU X O Z (e :: es) r) (hn : x ≠ "__name__" := by decide) (hdb : (x == ("__debug__" : Str)) = false := by decide)
    (he : starEach (e :: es) X.env = (false, eval e X.env) :: starEach es X.env := by rfl) (hpl : (backTo pos (starEach es X.env)).any (·.1) = false := by rfl) : DE X O Z (.Call (.Name x p) (e :: es) [] pos) (E.blt g r) := by
  obtain ⟨rr, hc, hr⟩ := hc
  exact PE.imp (pe_callTy hc hg hm hv ha hn hdb he hpl) fun σ H Q ⟨g, ok, q⟩ => blt_fin ok hr q
theorem dn_bltB {id : String} {g : List D → Option D} (hc : BlN X (.builtin id) g) (hg : Gl X x) (hm : X.mg x = none) (hv : bootBuiltins x = some (.builtin id)) (ha : DAU X O Z (e :: es) r) (hn : x ≠ "__name__" := by decide) (hdb : (x == ("__debug__" : Str)) = false := by decide)
    (he : starEach (e :: es) X.env = (false, eval e X.env) :: starEach es X.env := by rfl) (hpl : (backTo pos (starEach es X.env)).any (·.1) = false := by rfl) : DN X O Z (.Call (.Name x p) (e :: es) [] pos) (E.blt g r) := by
  obtain ⟨rr, hc, hr⟩ := hc
  exact PE.imp (pe_callB hc hg hm hv ha hn hdb he hpl) fun σ H Q ⟨g, ok, q⟩ => blt_finN ok hr q
theorem dn_bltT {T : String} {g : List D → Option D} (hc : BlN X (.type T) g) (hg : Gl X x) (hm : X.mg x = none) (hv : bootBuiltins x = some (.type T)) (ha : DAU X O Z (e :: es) r) (hn : x ≠ "__name__" := by decide) (hdb : (x == ("__debug__" : Str)) = false := by decide)
    (he : starEach (e :: es) X.env = (false, eval e X.env) :: starEach es X.env := by rfl) (hpl : (backTo pos (starEach es X.env)).any (·.1) = false := by rfl) : DN X O Z (.Call (.Name x p) (e :: es) [] pos) (E.blt g r) := by
  obtain ⟨rr, hc, hr⟩ := hc
  exact PE.imp (pe_callTy hc hg hm hv ha hn hdb he hpl) fun σ H Q ⟨g, ok, q⟩ => blt_finN ok hr q

/-! ### room, and no guard of repr -/
structure Rm (k : Nat) (A : Around) : Prop where
  rm : Room k A
  gd : A.guards = some []
theorem Rm.mono {j k : Nat} {A : Around} (r : Rm k A) (h : j ≤ k) : Rm j A := ⟨r.rm.mono h, r.gd⟩
theorem Rm.deeper {k : Nat} {A : Around} (r : Rm (k + 1) A) (env : PySem.Env) : Rm k (A.deeper env) := ⟨r.rm.deeper env, r.gd⟩
theorem Rm.in1 {k : Nat} {A : Around} (r : Rm (k + 1) A) : Rm k A.in1 := ⟨r.rm.in1, r.gd⟩
/-! ### exceptions -/
/-- the exception (its class, its own dict) stands for x -/
def ExR (K : PySem.W.Frag) (F : Addr → Prop) (as : List Addr) (H : Hp) (cls : Value) (d : Option Addr) (x : Ex) : Prop :=
  cls = .ref (He.ga K x.cls) ∧ ∃ (dd : Addr) (fs : List (Str × V)), d = some dd ∧ H dd = some (.xd fs) ∧ fs.map (·.1) = x.fs.map (·.1) ∧ Reps K F as H (fs.map (·.2)) (x.fs.map (·.2))
theorem ExR.weak {K : PySem.W.Frag} {F F' : Addr → Prop} {as : List Addr} {H : Hp} {cls : Value} {d : Option Addr} {x : Ex} (k : ∀ a o, H a = some o → F' a → F a) (h : ExR K F as H cls d x) : ExR K F' as H cls d x :=
  let ⟨a, dd, fs, b, c, e, r⟩ := h; ⟨a, dd, fs, b, c, e, r.weak k⟩
/-- what a body wishes of exceptions, by Z -/
def WZ (K : PySem.W.Frag) (Z : ZT) : WX := fun cls d σ H => ∃ (B : Addr → Prop) (x : Ex) (st : Store) (as : List Addr), ExR K (fun a => B a ∨ a ∈ as) as H cls d x ∧ Z B x st as σ H
/-! ### defs -/
/-- a def keeps the promise, wherever there is room and no guard -/
structure FnG (P : Program) (w : World) (K : PySem.W.Frag) (mg : Str → Option Value) (base : Heap) (k : Nat) (f : Addr) (fd : FuncData) (ps : List Str) (sp : Sp) : Prop where
  len : ∀ vs H Q E, sp vs H Q E → vs.length = ps.length
  run : ∀ (A : Around) (outer : List PySem.Env) (s : Shared) (H : Hp) (args : Args) (us : List Value) (vs : List V) (Q : VK) (E : XK), Rm k A → Env0 P w K mg base A outer s H → BindsTo s fd args (ps.zip us) → Vals vs us → sp vs H Q E →
    codeAny (model P w) A (.call (.ref f) args) (CR (L2.CX P w) outer P w H s Q E) s
/-- a def does what φ says -/
def spD (K : PySem.W.Frag) (n : Nat) (φ : List D → M D) : Sp := fun vs H Q E => ∃ (B : Addr → Prop) (as : List Addr) (st : Store) (ds : List D), vs.length = n ∧ (∀ a, B a → ∃ o, H a = some o) ∧ SRep K as st H ∧ Reps K (fun a => B a ∨ a ∈ as) as H vs ds ∧
  Ev (φ ds st) (fun d st' => ∀ as' v H', Grow as H as' H' → SRep K as' st' H' → Rep K (fun a => B a ∨ a ∈ as') as' H' v d → Q v H')
    (fun x st' => ∀ as' H' cls d, Grow as H as' H' → SRep K as' st' H' → ExR K (fun a => B a ∨ a ∈ as') as' H' cls d x → E cls d H')
/-- a def as it is called -/
structure Dn (X : Cx) (x : Str) (n k : Nat) (φ : List D → M D) : Prop where
  ex : ∃ f fd ps, FnG X.prog X.w X.K X.mg X.base k f fd ps (spD X.K n φ) ∧ X.mg x = some (.ref f) ∧ PySem.W.keepIn X.K (.ref f) = true ∧ Binds X.K fd ps []
theorem run_fnG {k : Nat} {f : Addr} {fd : FuncData} {ps : List Str} {sp : Sp} {E : XK} {pins : List (Addr × Obj)} {σ : L2.St} {H : Hp} {s : Shared} {Q : VK} {us : List Value} {vs : List V} (F : FnG X.prog X.w X.K X.mg X.base k f fd ps sp) (hr : Rm k X.A) (hb : Binds X.K fd ps [])
    (hx : PassesAt (L2.CX X.prog X.w) X σ E) (I : Inv X pins σ H s) (rv : Vals vs us) (h : sp vs H Q E) : wpAny (model X.prog X.w) X.A (call (.ref f) us) (EP X pins σ Q) X.xe s := by
  have len : us.length = ps.length := rv.length ▸ F.len _ _ _ _ h
  have bound : BindsTo s fd ⟨us, []⟩ (ps.zip us) := by
    have b := hb s us I.kIn (by simpa using len)
    simpa using b
  refine wpAny_call (codeAny_mono (F.run _ _ s H _ us vs Q E hr I.env0 bound rv h) fun res s' hq => ?_)
  match res, hq with
  | .error e, hq => exact hx pins H s e s' I hq
  | .ok (.ret u), hq => exact I.after hq
theorem pe_callG {k : Nat} {f : Addr} {fd : FuncData} {ps : List Str} {sp : Sp} {E : L2.St → XK} {t : TA} (F : FnG X.prog X.w X.K X.mg X.base k f fd ps sp) (hr : Rm k X.A) (hg : Gl X x) (hm : X.mg x = some (.ref f)) (hk : PySem.W.keepIn X.K (.ref f) = true)
    (hb : Binds X.K fd ps []) (hx : ∀ σ, PassesAt (L2.CX X.prog X.w) X σ (E σ)) (ha : PA X (e :: es) t) (hdb : (x == ("__debug__" : Str)) = false := by decide)
    (he : starEach (e :: es) X.env = (false, eval e X.env) :: starEach es X.env := by rfl) (hpl : (backTo pos (starEach es X.env)).any (·.1) = false := by rfl) :
    PE X (.Call (.Name x p) (e :: es) [] pos) (tCallS sp E t) := ⟨fun pins s σ H Q I h => by
  refine wpAny_Call_Name_kw (ld_glob I hg hm ?_ hdb)
  exact PySem.W.callWith_K (h₀ := X.base) I.ok.mod.kin hk (thn (ha.run pos pins s σ H _ I h) fun us s1 ⟨vs, H1, I1, rv, q⟩ => ⟨I1.kIn, run_fnG F hr hb (hx σ) I1 rv q⟩) he hpl⟩
theorem pe_callG0 {k : Nat} {f : Addr} {fd : FuncData} {ps : List Str} {sp : Sp} {E : L2.St → XK} (F : FnG X.prog X.w X.K X.mg X.base k f fd ps sp) (hr : Rm k X.A) (hg : Gl X x) (hm : X.mg x = some (.ref f)) (hk : PySem.W.keepIn X.K (.ref f) = true)
    (hb : Binds X.K fd ps []) (hx : ∀ σ, PassesAt (L2.CX X.prog X.w) X σ (E σ)) (hdb : (x == ("__debug__" : Str)) = false := by decide) :
    PE X (.Call (.Name x p) [] [] pos) (fun σ H Q => sp [] H Q (E σ)) := ⟨fun pins s σ H Q I h => by
  refine wpAny_Call_Name_kw (ld_glob I hg hm ?_ hdb)
  exact PySem.W.callWith_K0 I.kIn hk (run_fnG F hr hb (hx σ) I .nil h)⟩
def XE0 : XK := fun _ _ _ => False
theorem pass_none {σ : L2.St} : PassesAt (L2.CX X.prog X.w) X σ XE0 := fun _ _ _ _ _ _ c => by
  obtain ⟨_, _, _, _, _, _, _, _, _, _, _, _, z⟩ := c
  exact z.elim
/-- a call of a def, what it raises goes on -/
def E.appX (φ : List D → M D) (r : Env → M (List D)) : Env → M D := fun ρ => bnd (r ρ) fun xs => φ xs
theorem Ev.of_noexc {α : Type} {m : M α} {s : Store} {P : α → Store → Prop} {Z Z' : Ex → Store → Prop} (h : Ev (G.noexc m s) P Z) : Ev (m s) P Z' := by
  unfold G.noexc at h
  cases e : m s with
  | ok a s' => rw [e] at h; exact h
  | exc x s' => rw [e] at h; exact h.elim
  | bad => rw [e] at h; exact h
theorem app_fin {n : Nat} {φ : List D → M D} {σ : L2.St} {H : Hp} {g : Gh} {Q : VK} (ok : g.ok X.K O σ H) (hl : ∀ ρ s ds s', r ρ s = .ok ds s' → ds.length = n)
    (q : Ev (E.app φ r g.ρ g.st) (fun d st' => ∀ as' v H', Grow g.as H as' H' → SRep X.K as' st' H' → Rep X.K (Ff g.B as' O σ) as' H' v d → Q v H') (Zc X.K O g.B g.H0 g.as0 Z)) :
    tA X.K O Z r σ H fun vs H1 => spD X.K n φ vs H1 Q XE0 := by
  refine ⟨g, ok, ?_⟩
  have q := Ev.bnd q
  cases e : r g.ρ g.st with
  | ok ds st' =>
    rw [e] at q
    intro as' vs H' gr s rs
    have ok' := ok.step gr s
    refine ⟨fun a => g.B a ∨ ownA O σ a, as', st', ds, by rw [rs.length]; exact hl _ _ _ _ e, fun a z => ?_, s, rs.weak fun a o _ z => ?_, ?_⟩
    · rcases z with z | z
      · exact ok'.wf.tr s a (.inl z)
      · exact ok'.wf.tr s a (.inr (.inr z))
    · rcases z with (z | z) | z
      · exact .inl z
      · exact .inr (.inr z)
      · exact .inr (.inl z)
    · refine Ev.of_noexc (Z := Zc X.K O g.B g.H0 g.as0 Z) (Ev.mono q (fun d st2 q as2 v H2 g2 s2 rv => q as2 v H2 (gr.trans g2) s2 (rv.weak fun a o _ z => ?_)) fun _ _ z => z)
      rcases z with z | z | z
      · exact .inl (.inl z)
      · exact .inr z
      · exact .inl (.inr z)
  | exc x st' => rw [e] at q; exact q
  | bad => rw [e] at q; exact q
theorem appX_fin {n : Nat} {φ : List D → M D} {σ : L2.St} {H : Hp} {g : Gh} {Q : VK} (ok : g.ok X.K O σ H) (hl : ∀ ρ s ds s', r ρ s = .ok ds s' → ds.length = n)
    (q : Ev (E.appX φ r g.ρ g.st) (fun d st' => ∀ as' v H', Grow g.as H as' H' → SRep X.K as' st' H' → Rep X.K (Ff g.B as' O σ) as' H' v d → Q v H') (Zc X.K O g.B g.H0 g.as0 Z)) :
    tA X.K O Z r σ H fun vs H1 => spD X.K n φ vs H1 Q (WE (WZ X.K Z) σ) := by
  refine ⟨g, ok, ?_⟩
  have q := Ev.bnd q
  cases e : r g.ρ g.st with
  | ok ds st' =>
    rw [e] at q
    intro as' vs H' gr s rs
    have ok' := ok.step gr s
    refine ⟨fun a => g.B a ∨ ownA O σ a, as', st', ds, by rw [rs.length]; exact hl _ _ _ _ e, fun a z => ?_, s, rs.weak fun a o _ z => ?_, ?_⟩
    · rcases z with z | z
      · exact ok'.wf.tr s a (.inl z)
      · exact ok'.wf.tr s a (.inr (.inr z))
    · rcases z with (z | z) | z
      · exact .inl z
      · exact .inr (.inr z)
      · exact .inr (.inl z)
    · refine Ev.mono q (fun d st2 q as2 v H2 g2 s2 rv => q as2 v H2 (gr.trans g2) s2 (rv.weak fun a o _ z => ?_)) fun x st2 z as2 H2 cls d g2 s2 ex => ?_
      · rcases z with z | z | z
        · exact .inl (.inl z)
        · exact .inr z
        · exact .inl (.inr z)
      · refine ⟨g.B, x, st2, as2, ex.weak fun a o _ y => ?_, z as2 g.ρ σ H2 g.B (fun _ h => h) (ok'.wf.grow s g2 s2) s2⟩
        rcases y with y | y
        · exact .inl (.inl y)
        · exact .inr y
  | exc x st' => rw [e] at q; exact q
  | bad => rw [e] at q; exact q
theorem de_app {n k : Nat} {φ : List D → M D} (F : Dn X x n k φ) (hr : Rm k X.A) (hg : Gl X x) (ha : DA X O Z (e :: es) r) (hl : ∀ ρ s ds s', r ρ s = .ok ds s' → ds.length = n) (hdb : (x == ("__debug__" : Str)) = false := by decide)
    (he : starEach (e :: es) X.env = (false, eval e X.env) :: starEach es X.env := by rfl) (hpl : (backTo pos (starEach es X.env)).any (·.1) = false := by rfl) : DE X O Z (.Call (.Name x p) (e :: es) [] pos) (E.app φ r) := by
  obtain ⟨f, fd, ps, F, hm, hk, hb⟩ := F.ex
  exact PE.imp (pe_callG (E := fun _ => XE0) F hr hg hm hk hb (fun _ => pass_none) ha hdb he hpl) fun σ H Q ⟨g, ok, q⟩ => app_fin ok hl q
theorem de_appX {n k : Nat} {φ : List D → M D} (F : Dn X x n k φ) (tk : Takes X (WZ X.K Z)) (hr : Rm k X.A) (hg : Gl X x) (ha : DA X O Z (e :: es) r) (hl : ∀ ρ s ds s', r ρ s = .ok ds s' → ds.length = n) (hdb : (x == ("__debug__" : Str)) = false := by decide)
    (he : starEach (e :: es) X.env = (false, eval e X.env) :: starEach es X.env := by rfl) (hpl : (backTo pos (starEach es X.env)).any (·.1) = false := by rfl) : DE X O Z (.Call (.Name x p) (e :: es) [] pos) (E.appX φ r) := by
  obtain ⟨f, fd, ps, F, hm, hk, hb⟩ := F.ex
  exact PE.imp (pe_callG (E := WE (WZ X.K Z)) F hr hg hm hk hb (fun σ => passAt tk σ) ha hdb he hpl) fun σ H Q ⟨g, ok, q⟩ => appX_fin ok hl q
/-- a call without arguments -/
theorem de_app0 {k : Nat} {φ : List D → M D} (F : Dn X x 0 k φ) (hr : Rm k X.A) (hg : Gl X x) (hdb : (x == ("__debug__" : Str)) = false := by decide) : DE X O Z (.Call (.Name x p) [] [] pos) (E.app φ A.nil) := by
  obtain ⟨f, fd, ps, F, hm, hk, hb⟩ := F.ex
  refine PE.imp (pe_callG0 (E := fun _ => XE0) F hr hg hm hk hb (fun _ => pass_none) hdb) fun σ H Q ⟨g, ok, q⟩ => ?_
  have q' : Ev (noexc (φ []) g.st) _ _ := q
  refine ⟨fun a => g.B a ∨ ownA O σ a, g.as, g.st, [], rfl, fun a z => ?_, ok.sr, .nil, ?_⟩
  · rcases z with z | z
    · exact ok.wf.tr ok.sr a (.inl z)
    · exact ok.wf.tr ok.sr a (.inr (.inr z))
  · refine Ev.of_noexc (Z := Zc X.K O g.B g.H0 g.as0 Z) (Ev.mono q' (fun d st2 q as2 v H2 g2 s2 rv => q as2 v H2 g2 s2 (rv.weak fun a o _ z => ?_)) fun _ _ z => z)
    rcases z with z | z | z
    · exact .inl (.inl z)
    · exact .inr z
    · exact .inl (.inr z)
theorem RepT.bare {K : PySem.W.Frag} {F : Addr → Prop} {as : List Addr} {H : Hp} {v : V} {d : D} (sub : ∀ a ∈ as, F a) (r : RepT K F as H v d) : Rep K (fun a => False ∨ a ∈ as) as H v d := by
  have w : ∀ a o, H a = some o → (False ∨ a ∈ as) → F a := fun a o _ z => z.elim False.elim (sub a)
  cases r with
  | rep r => exact r.weak w
  | own r n =>
    cases r with
    | lst h r => exact .lst (.inl ⟨fun z => z.elim id (n _ rfl), .inl h⟩) (r.weak w)
    | dct h o r => exact .dct (fun z => z.elim id (n _ rfl)) (.inl h) o (r.weak w)
    | sca r _ => exact r.weak w
theorem RepTs.bare {K : PySem.W.Frag} {F : Addr → Prop} {as : List Addr} {H : Hp} {vs : List V} {ds : List D} (sub : ∀ a ∈ as, F a) : RepTs K F as H vs ds → Reps K (fun a => False ∨ a ∈ as) as H vs ds
  | .nil => .nil
  | .cons h r => .cons (h.bare sub) (r.bare sub)
theorem RepTs.length {K : PySem.W.Frag} {F : Addr → Prop} {as : List Addr} {H : Hp} {vs : List V} {ds : List D} : RepTs K F as H vs ds → vs.length = ds.length
  | .nil => rfl
  | .cons _ r => by simp [r.length]
theorem appI_fin {n : Nat} {φ : List D → M D} {σ : L2.St} {H : Hp} {g : Gh} {Q : VK} (ok : g.ok X.K O σ H) (hl : ∀ ρ s ds s', r ρ s = .ok ds s' → ds.length = n)
    (q : Ev (E.appI φ r g.ρ g.st) (fun d st' => ∀ as' v H', Grow g.as H as' H' → SRep X.K as' st' H' → Rep X.K (Ff g.B as' O σ) as' H' v d → Q v H') (Zc X.K O g.B g.H0 g.as0 Z)) :
    tAU X.K O Z r σ H fun vs H1 => spD X.K n φ vs H1 Q XE0 := by
  refine ⟨g, ok, ?_⟩
  have q := Ev.bnd q
  cases e : r g.ρ g.st with
  | ok ds st' =>
    rw [e] at q
    intro as' vs H' gr s rs
    refine ⟨fun _ => False, as', st', ds, by rw [rs.length]; exact hl _ _ _ _ e, fun a z => z.elim, s, rs.bare fun a h => .inr (.inl h), ?_⟩
    refine Ev.of_noexc (Z := Zc X.K O g.B g.H0 g.as0 Z) (Ev.mono (Ev.bnd q) (fun d st2 q as2 v H2 g2 s2 rv => ?_) fun _ _ z => z)
    by_cases i : d.imm = true
    · rw [if_pos i] at q
      exact q as2 v H2 (gr.trans g2) s2 (rv.of_imm i)
    · rw [if_neg i] at q
      exact q.elim
  | exc x st' => rw [e] at q; exact q
  | bad => rw [e] at q; exact q
theorem de_appI {n k : Nat} {φ : List D → M D} (F : Dn X x n k φ) (hr : Rm k X.A) (hg : Gl X x) (ha : DAU X O Z (e :: es) r) (hl : ∀ ρ s ds s', r ρ s = .ok ds s' → ds.length = n) (hdb : (x == ("__debug__" : Str)) = false := by decide)
    (he : starEach (e :: es) X.env = (false, eval e X.env) :: starEach es X.env := by rfl) (hpl : (backTo pos (starEach es X.env)).any (·.1) = false := by rfl) : DE X O Z (.Call (.Name x p) (e :: es) [] pos) (E.appI φ r) := by
  obtain ⟨f, fd, ps, F, hm, hk, hb⟩ := F.ex
  exact PE.imp (pe_callG (E := fun _ => XE0) F hr hg hm hk hb (fun _ => pass_none) ha hdb he hpl) fun σ H Q ⟨g, ok, q⟩ => appI_fin ok hl q
theorem alen_nil : ∀ ρ s ds s', A.nil ρ s = .ok ds s' → ds.length = 0 := fun ρ s ds s' h => by cases h; rfl
theorem alen_cons {n : Nat} (h : ∀ ρ s ds s', r ρ s = .ok ds s' → ds.length = n) : ∀ ρ s ds s', A.cons f r ρ s = .ok ds s' → ds.length = n + 1 := fun ρ s ds s' z => by
  unfold A.cons bnd at z
  cases e : f ρ s with
  | ok d s1 =>
    rw [e] at z
    dsimp only at z
    cases e2 : r ρ s1 with
    | ok ds2 s2 =>
      rw [e2] at z
      cases z
      rw [List.length_cons, h _ _ _ _ e2]
    | exc x s2 => rw [e2] at z; cases z
    | bad => rw [e2] at z; cases z
  | exc x s1 => rw [e] at z; cases z
  | bad => rw [e] at z; cases z
end
end G
end L2
end G4_
section G5_
set_option Elab.async false
set_option linter.all false
set_option maxRecDepth 100000
set_option maxHeartbeats 1000000
namespace L2
namespace G
open PySem PySem.Spec PyProof.Rows

/-! ### slots are set -/
theorem ownA_set {O : List Nat} {σ : L2.St} {i : Nat} {o : Option V} (h : i ∉ O) (a : Addr) : ownA O (σ.set i o) a ↔ ownA O σ a := by
  constructor
  · rintro ⟨j, hj, e⟩
    rw [List.getElem?_set_ne (fun z => h (by rw [z]; exact hj))] at e
    exact ⟨j, hj, e⟩
  · rintro ⟨j, hj, e⟩
    exact ⟨j, hj, by rw [List.getElem?_set_ne (fun z => h (by rw [z]; exact hj))]; exact e⟩
theorem ff_set {B : Addr → Prop} {as : List Addr} {O : List Nat} {σ : L2.St} {i : Nat} {o : Option V} (h : i ∉ O) : Ff B as O (σ.set i o) = Ff B as O σ := by
  funext a
  apply propext
  unfold Ff
  rw [ownA_set h]
theorem get_set_some {α : Type} {l : List (Option α)} {i j : Nat} {x : Option α} {d : α} (e : (l.set i x)[j]? = some (some d)) : (j = i ∧ x = some d ∧ i < l.length) ∨ (j ≠ i ∧ l[j]? = some (some d)) := by
  rw [List.getElem?_set] at e
  by_cases h : i = j
  · rw [if_pos h] at e
    by_cases q : i < l.length
    · rw [if_pos q] at e
      exact .inl ⟨h.symm, Option.some.inj e, q⟩
    · rw [if_neg q] at e; cases e
  · rw [if_neg h] at e
    exact .inr ⟨fun z => h z.symm, e⟩
section
variable {K : PySem.W.Frag} {O : List Nat} {B : Addr → Prop} {H0 : Hp} {as0 as as' : List Addr} {ρ : Env} {σ : L2.St} {H H' : Hp} {st st' : Store} {v : V} {d : D} {i : Nat}
theorem Wf.set (w : Wf K O B H0 as0 as ρ σ H) (hi : i ∉ O) (r : Rep K (Ff B as O σ) as H v d) : Wf K O B H0 as0 as (ρ.set i (some d)) (σ.set i (some v)) H where
  len := by rw [List.length_set, List.length_set]; exact w.len
  var := fun j d' e n => by
    rw [ff_set hi]
    rcases get_set_some e with ⟨rfl, e, l⟩ | ⟨ne, e⟩
    · cases e
      exact ⟨v, by rw [List.getElem?_set_self (by rw [w.len]; exact l)], r⟩
    · obtain ⟨u, h, q⟩ := w.var j d' e n
      exact ⟨u, by rw [List.getElem?_set_ne (Ne.symm ne)]; exact h, q⟩
  own := fun j d' e m => by
    rw [ff_set hi]
    have ne : j ≠ i := fun z => hi (z ▸ m)
    rw [List.getElem?_set_ne (Ne.symm ne)] at e ⊢
    exact w.own j d' e m
  slot := fun j a m e => by
    have ne : j ≠ i := fun z => hi (z ▸ m)
    rw [List.getElem?_set_ne (Ne.symm ne)] at e
    exact w.slot j a m e
  dis := fun j k a mj mk ej ek => by
    rw [List.getElem?_set_ne (fun z => hi (by rw [z]; exact mj))] at ej
    rw [List.getElem?_set_ne (fun z => hi (by rw [z]; exact mk))] at ek
    exact w.dis j k a mj mk ej ek
  trB := w.trB
  gr := w.gr
/-- a slot is forgotten -/
theorem Wf.drop (w : Wf K O B H0 as0 as ρ σ H) (hi : i ∉ O) (o : Option V) : Wf K O B H0 as0 as (ρ.set i none) (σ.set i o) H where
  len := by rw [List.length_set, List.length_set]; exact w.len
  var := fun j d' e n => by
    rw [ff_set hi]
    rcases get_set_some e with ⟨_, e, _⟩ | ⟨ne, e⟩
    · cases e
    · obtain ⟨u, h, q⟩ := w.var j d' e n
      exact ⟨u, by rw [List.getElem?_set_ne (Ne.symm ne)]; exact h, q⟩
  own := fun j d' e m => by
    rw [ff_set hi]
    have ne : j ≠ i := fun z => hi (z ▸ m)
    rw [List.getElem?_set_ne (Ne.symm ne)] at e ⊢
    exact w.own j d' e m
  slot := fun j a m e => by
    have ne : j ≠ i := fun z => hi (z ▸ m)
    rw [List.getElem?_set_ne (Ne.symm ne)] at e
    exact w.slot j a m e
  dis := fun j k a mj mk ej ek => by
    rw [List.getElem?_set_ne (fun z => hi (by rw [z]; exact mj))] at ej
    rw [List.getElem?_set_ne (fun z => hi (by rw [z]; exact mk))] at ek
    exact w.dis j k a mj mk ej ek
  trB := w.trB
  gr := w.gr
theorem Step.set (hi : i ∉ O) (o : Option V) : Step O as σ H as (σ.set i o) H := ⟨fun _ _ h => h, fun _ _ h _ _ => h, fun _ h n => absurd h n, fun a h => .inl ((ownA_set hi a).mp h), fun _ o h => ⟨o, h⟩⟩
/-- an owned slot takes a new list or dict -/
theorem Wf.setN (w : Wf K O B H0 as0 as ρ σ H) (s : SRep K as st H) (g : Grow as H as' H') (s' : SRep K as' st' H') (hi : i ∈ O) (r : Own K (fun a => Ff B as' O σ a ∨ v = .ref a) as' H' v d) (n : ∀ p, v = .ref p → H p = none ∧ p ∉ as') :
    Wf K O B H0 as0 as' (ρ.set i (some d)) (σ.set i (some v)) H' ∧ Step O as σ H as' (σ.set i (some v)) H' := by
  have w' := w.grow s g s'
  -- the new set of what is owned
  have own' : ∀ a, ownA O (σ.set i (some v)) a → ownA O σ a ∨ v = .ref a := by
    rintro a ⟨j, hj, e⟩
    rcases get_set_some e with ⟨_, e, _⟩ | ⟨_, e⟩
    · exact .inr (Option.some.inj e)
    · exact .inl ⟨j, hj, e⟩
  have ffw : ∀ a o, H a = some o → Ff B as' O (σ.set i (some v)) a → Ff B as O σ a := fun a o e z => by
    rcases z with z | z | z
    · exact .inl z
    · exact ff_grow g a o e (.inr (.inl z))
    · rcases own' a z with z | z
      · exact .inr (.inr z)
      · rw [(n a z).1] at e; cases e
  have kk : ∀ b o, H b = some o → ¬ Ff B as' O (σ.set i (some v)) b → H' b = some o := fun b o e z => g.keep b o e fun q => z (.inr (.inl (g.sub q)))
  have repw : ∀ {u : V} {dd : D}, Rep K (Ff B as O σ) as H u dd → Rep K (Ff B as' O (σ.set i (some v))) as' H' u dd := fun h => (h.weak ffw).frame kk (grow_t s g) g.pre
  have repsw : ∀ {us : List V} {dds : List D}, Reps K (Ff B as O σ) as H us dds → Reps K (Ff B as' O (σ.set i (some v))) as' H' us dds := fun h => (h.weak ffw).frame kk (grow_t s g) g.pre
  refine ⟨⟨by rw [List.length_set, List.length_set]; exact w.len, fun j d' e nj => ?_, fun j d' e mj => ?_, fun j a mj e => ?_, fun j k a mj mk ej ek => ?_, w'.trB, w'.gr⟩, g.pre, fun b o h nb _ => g.keep b o h nb, g.fre, fun a h => ?_, (g.step (O := O) (σ := σ) s').trk⟩
  · have ne : j ≠ i := fun z => nj (z ▸ hi)
    rw [List.getElem?_set_ne (Ne.symm ne)] at e
    obtain ⟨u, h, q⟩ := w.var j d' e nj
    exact ⟨u, by rw [List.getElem?_set_ne (Ne.symm ne)]; exact h, repw q⟩
  · rcases get_set_some e with ⟨rfl, e, l⟩ | ⟨ne, e⟩
    · cases e
      refine ⟨v, by rw [List.getElem?_set_self (by rw [w.len]; exact l)], ?_⟩
      have wk : ∀ a o, H' a = some o → Ff B as' O (σ.set j (some v)) a → (Ff B as' O σ a ∨ v = .ref a) := fun a o _ z => by
        rcases z with z | z | z
        · exact .inl (.inl z)
        · exact .inl (.inr (.inl z))
        · rcases own' a z with z | z
          · exact .inl (.inr (.inr z))
          · exact .inr z
      cases r with
      | lst h r => exact .lst h (r.weak wk)
      | dct h o r => exact .dct h o (r.weak wk)
      | sca r q => exact .sca (r.weak wk) q
    · obtain ⟨u, h, q⟩ := w.own j d' e mj
      refine ⟨u, by rw [List.getElem?_set_ne (Ne.symm ne)]; exact h, ?_⟩
      have hp : ∀ p, u = .ref p → p ∉ as := fun p z => by subst z; exact (w.slot j p mj h).2.1
      cases q with
      | lst hh r => exact .lst (g.keep _ _ hh (hp _ rfl)) (repsw r)
      | dct hh o r => exact .dct (g.keep _ _ hh (hp _ rfl)) o (repsw r)
      | sca r q => exact .sca (repw r) q
  · rcases get_set_some e with ⟨rfl, e, l⟩ | ⟨ne, e⟩
    · cases e
      obtain ⟨n1, n2⟩ := n a rfl
      refine ⟨?_, n2, fun z => ?_, ?_⟩
      · cases q : H0 a with
        | none => rfl
        | some o =>
          by_cases m : a ∈ as0
          · obtain ⟨o', z, _⟩ := s.mem (w.gr.sub m)
            rw [n1] at z; cases z
          · have := w.gr.keep a o q m
            rw [n1] at this; cases this
      · obtain ⟨o, z⟩ := w.trB a z
        rw [n1] at z; cases z
      · cases r with
        | lst h r => exact ⟨_, h, fun z => z⟩
        | dct h o r => exact ⟨_, h, o.notTup⟩
        | sca r q => exact absurd rfl (q a)
    · exact w'.slot j a mj e
  · rcases get_set_some ej with ⟨rfl, e1, l1⟩ | ⟨ne1, e1⟩ <;> rcases get_set_some ek with ⟨rfl, e2, l2⟩ | ⟨ne2, e2⟩
    · rfl
    · cases e1
      obtain ⟨_, _, _, o, z, _⟩ := w.slot k a mk e2
      rw [(n a rfl).1] at z; cases z
    · cases e2
      obtain ⟨_, _, _, o, z, _⟩ := w.slot j a mj e1
      rw [(n a rfl).1] at z; cases z
    · exact w.dis j k a mj mk e1 e2
  · rcases own' a h with h | h
    · exact .inl h
    · exact .inr (n a h).1
/-- an owned object is changed -/
theorem Wf.write {p : Addr} {o : HO} (w : Wf K O B H0 as0 as ρ σ H) (s : SRep K as st H) (hi : i ∈ O) (e : σ[i]? = some (some (.ref p))) (no : ¬ TupO o)
    (r : (∃ vs ds, o = .lst vs ∧ d = .lst ds ∧ Reps K (Ff B as O σ) as H vs ds) ∨ ∃ vs t ks ds, DctO o t ks vs ∧ d = .dct t ks ds ∧ Reps K (Ff B as O σ) as H vs ds) :
    Wf K O B H0 as0 as (ρ.set i (some d)) σ (upd H p o) ∧ SRep K as st (upd H p o) ∧ Step O as σ H as σ (upd H p o) := by
  obtain ⟨n0, n1, n2, o0, h0, t0⟩ := w.slot i p hi e
  have fp : Ff B as O σ p := .inr (.inr ⟨i, hi, e⟩)
  have kk : ∀ b u, H b = some u → ¬ Ff B as O σ b → upd H p o b = some u := fun b u h n => by rw [upd_ne (fun (z : b = p) => n (by rw [z]; exact fp))]; exact h
  have kt : ∀ b u, H b = some u → TupO u → upd H p o b = some u := fun b u h t => by
    rw [upd_ne (fun z => by subst z; rw [h] at h0; cases h0; exact t0 t)]; exact h
  have trk : ∀ b u, H b = some u → ∃ u', upd H p o b = some u' := fun b u h => by
    by_cases z : b = p
    · subst z; exact ⟨o, upd_same⟩
    · exact ⟨u, by rw [upd_ne z]; exact h⟩
  refine ⟨⟨by rw [List.length_set]; exact w.len, fun j d' ej nj => ?_, fun j d' ej mj => ?_, fun j a mj ej => ?_, w.dis, fun a b => ?_, ⟨w.gr.pre, fun b u h n => ?_, w.gr.fre⟩⟩, s.frame fun b u h c => ?_, fun _ _ h => h, fun b u h nb nw => ?_, fun _ h n => absurd h n, fun _ h => .inl h, trk⟩
  · have ne : j ≠ i := fun z => nj (z ▸ hi)
    rw [List.getElem?_set_ne (Ne.symm ne)] at ej
    obtain ⟨u, h, q⟩ := w.var j d' ej nj
    exact ⟨u, h, q.frame kk kt fun _ _ h => h⟩
  · rcases get_set_some ej with ⟨rfl, e', l⟩ | ⟨ne, e'⟩
    · cases e'
      refine ⟨.ref p, e, ?_⟩
      rcases r with ⟨vs, ds, rfl, rfl, r⟩ | ⟨vs, t, ks, ds, dd, rfl, r⟩
      · exact .lst upd_same (r.frame kk kt fun _ _ h => h)
      · exact .dct upd_same dd (r.frame kk kt fun _ _ h => h)
    · obtain ⟨u, h, q⟩ := w.own j d' e' mj
      refine ⟨u, h, ?_⟩
      have hp : ∀ q, u = .ref q → q ≠ p := fun q z y => by
        subst z; subst y
        exact ne (w.dis j i _ mj hi h e)
      cases q with
      | lst hh r => exact .lst (by rw [upd_ne (hp _ rfl)]; exact hh) (r.frame kk kt fun _ _ h => h)
      | dct hh o r => exact .dct (by rw [upd_ne (hp _ rfl)]; exact hh) o (r.frame kk kt fun _ _ h => h)
      | sca r q => exact .sca (r.frame kk kt fun _ _ h => h) q
  · obtain ⟨a1, a2, a3, oa, a4, a5⟩ := w.slot j a mj ej
    refine ⟨a1, a2, a3, ?_⟩
    by_cases z : a = p
    · subst z; exact ⟨o, upd_same, no⟩
    · exact ⟨oa, by rw [upd_ne z]; exact a4, a5⟩
  · obtain ⟨u, h⟩ := w.trB a b
    exact trk a u h
  · rw [upd_ne (ne_of_none h n0)]
    exact w.gr.keep b u h n
  · rcases c with c | c
    · rw [upd_ne (fun (z : b = p) => n1 (by rw [← z]; exact c))]; exact h
    · exact kt b u h c
  · rw [upd_ne (fun z => nw ⟨i, hi, by rw [z]; exact e⟩)]; exact h
end

/-! ### statements: combinators -/
abbrev SD := Env → M (Fl × Env)
def S.nil : SD := fun ρ => ret (.next, ρ)
def S.seq (s r : SD) : SD := fun ρ => bnd (s ρ) fun q => match q.1 with
  | .next => r q.2
  | .brk => ret (.brk, q.2)
  | .cont => ret (.cont, q.2)
  | .ret d => ret (.ret d, q.2)
def S.bad : SD := fun _ => G.bad
def S.brk : SD := fun ρ => ret (.brk, ρ)
def S.cont : SD := fun ρ => ret (.cont, ρ)
def S.ret (e : Env → M D) : SD := fun ρ => bnd (e ρ) fun d => G.ret (.ret d, ρ)
def S.retN : SD := fun ρ => G.ret (.ret .non, ρ)
def S.expr (e : Env → M D) : SD := fun ρ => bnd (e ρ) fun _ => G.ret (.next, ρ)
def S.ite (t : Env → M Bool) (a b : SD) : SD := fun ρ => bnd (t ρ) fun c => if c = true then a ρ else b ρ
def S.set (i : Nat) (e : Env → M D) : SD := fun ρ => bnd (e ρ) fun d => G.ret (.next, List.set ρ i (some d))
section
variable {X : Cx} {O : List Nat} {Z : ZT} {e a b c : Expr} {es : List Expr} {f fa fb fc : Env → M D} {r : Env → M (List D)} {pos p : Pos} {x : Str} {st : Stmt} {ss ss' : List Stmt} {s s' : SD}
def Gh.on (g : Gh) (as' : List Addr) (ρ' : Env) (st' : Store) : Gh := { g with as := as', ρ := ρ', st := st' }
theorem dss_nil : DSs X O Z [] S.nil := PSs.imp pss_nil fun D σ H ⟨g, ok, q⟩ => q _ _ _ (Step.refl ..) ok.wf ok.sr
theorem dss_cons (h : DS X O Z st s) (k : DSs X O Z ss s') : DSs X O Z (st :: ss) (S.seq s s') := PSs.imp (pss_cons h k) fun D σ H ⟨g, ok, q⟩ => by
  refine ⟨g, ok, (Ev.bnd q).mono (fun r st1 q as1 σ1 H1 sp1 w1 s1 => ?_) fun _ _ z => z⟩
  obtain ⟨fl, ρ1⟩ := r
  cases fl with
  | next =>
    exact ⟨g.on as1 ρ1 st1, ⟨w1, s1⟩, Ev.mono q (fun r2 st2 q as2 σ2 H2 sp2 w2 s2 => q as2 σ2 H2 (sp1.trans sp2) w2 s2) fun _ _ z => z⟩
  | brk => exact q as1 σ1 H1 sp1 w1 s1
  | cont => exact q as1 σ1 H1 sp1 w1 s1
  | ret d => exact q as1 σ1 H1 sp1 w1 s1
theorem ds_pass : DS X O Z (.Pass pos) S.nil := PS.imp ps_pass fun D σ H ⟨g, ok, q⟩ => q _ _ _ (Step.refl ..) ok.wf ok.sr
theorem ds_break : DS X O Z (.Break pos) S.brk := PS.imp ps_break fun D σ H ⟨g, ok, q⟩ => q _ _ _ (Step.refl ..) ok.wf ok.sr
theorem ds_continue : DS X O Z (.Continue pos) S.cont := PS.imp ps_continue fun D σ H ⟨g, ok, q⟩ => q _ _ _ (Step.refl ..) ok.wf ok.sr
theorem ds_bad : DS X O Z st S.bad := PS.imp ps_never fun D σ H ⟨g, ok, q⟩ => q.elim
theorem dss_bad : DSs X O Z ss S.bad := PSs.imp pss_never fun D σ H ⟨g, ok, q⟩ => q.elim
theorem ds_expr (h : DU X O Z e f) (hs : swapsWith e none pos.line X.env = pure false := by rfl) : DS X O Z (.Expr e pos) (S.expr f) := PS.imp (ps_expr h hs) fun D σ H ⟨g, ok, q⟩ =>
  ⟨g, ok, (Ev.bnd q).mono (fun d st' q as' v H' gr s _ => q as' σ H' (gr.step s) (ok.wf.grow ok.sr gr s) s) fun _ _ z => z⟩
theorem ds_ret (h : DE X O Z e f) : DS X O Z (.Return (some e) pos) (S.ret f) := PS.imp (ps_ret h) fun D σ H ⟨g, ok, q⟩ =>
  ⟨g, ok, (Ev.bnd q).mono (fun d st' q as' v H' gr s r => q as' σ H' (gr.step s) (ok.wf.grow ok.sr gr s) s v (r.weak fun a o _ z => by
    rcases z with z | z
    · exact .inl z
    · exact .inr (.inl z))) fun _ _ z => z⟩
theorem ds_retN : DS X O Z (.Return none pos) S.retN := PS.imp ps_retN fun D σ H ⟨g, ok, q⟩ => q _ σ H (Step.refl ..) ok.wf ok.sr .non .non
/-- return x, x an owned name -/
theorem ds_retV (i : Nat) {x : Str} {p : Pos} (hO : i ∈ O := by decide) (hN : X.N[i]? = some x := by rfl) (hv : Vis X.env.scope x := by first | exact Or.inl rfl | exact Or.inr (Or.inl rfl) | exact Or.inr (Or.inr rfl)) (hd : (x == ("__debug__" : Str)) = false := by decide)
    (hcd : (x == ("__classdict__" : Str)) = false := by decide) : DS X O Z (.Return (some (.Name x p)) pos) (S.ret (E.var i)) := PS.imp (ps_ret (pe_var hN hv hd hcd)) fun D σ H ⟨g, ok, q⟩ => by
  have q := Ev.bnd q
  unfold E.var at q
  cases e : g.ρ[i]? with
  | none => rw [e] at q; exact q.elim
  | some o =>
    rw [e] at q
    cases o with
    | none => exact q.elim
    | some d =>
      obtain ⟨v, h, r⟩ := ok.wf.own i d e hO
      refine ⟨v, h, q _ σ H (Step.refl ..) ok.wf ok.sr v ?_⟩
      have wk : ∀ a o, H a = some o → (g.B a ∨ a ∈ g.as) → Ff g.B g.as O σ a := fun a o _ z => by
        rcases z with z | z
        · exact .inl z
        · exact .inr (.inl z)
      have nn : ∀ p, v = .ref p → ¬ (g.B p ∨ p ∈ g.as) := fun p z y => by
        subst z
        obtain ⟨_, n1, n2, _⟩ := ok.wf.slot i p hO h
        rcases y with y | y
        · exact n2 y
        · exact n1 y
      cases r with
      | lst hh r => exact .lst (.inl ⟨nn _ rfl, .inl hh⟩) (r.weak wk)
      | dct hh o r => exact .dct (nn _ rfl) (.inl hh) o (r.weak wk)
      | sca r _ => exact r.weak wk
theorem ds_if {t : Env → M Bool} (h : DT X O Z c t) (ha : DSs X O Z ss s) (hb : DSs X O Z ss' s') : DS X O Z (.If c ss ss' pos) (S.ite t s s') := PS.imp (ps_if h ha hb) fun D σ H ⟨g, ok, q⟩ =>
  ⟨g, ok, (Ev.bnd q).mono (fun x st' q as' H' gr s1 => by
    have st := gr.step (O := O) (σ := σ) s1
    cases x with
    | true => exact ⟨g.at as' st', ok.step gr s1, Ev.mono q (fun r2 st2 q as2 σ2 H2 sp2 w2 s2 => q as2 σ2 H2 (st.trans sp2) w2 s2) fun _ _ z => z⟩
    | false => exact ⟨g.at as' st', ok.step gr s1, Ev.mono q (fun r2 st2 q as2 σ2 H2 sp2 w2 s2 => q as2 σ2 H2 (st.trans sp2) w2 s2) fun _ _ z => z⟩) fun _ _ z => z⟩
/-- x = e -/
theorem ds_set (i : Nat) {x : Str} {pos' : Pos} (hO : i ∉ O) (hN : X.N.Nodup) (hi : X.N[i]? = some x) (hx : Loc X.env.scope x) (he : DE X O Z e f) (hs : swapsWith e (some (.Name x pos')) pos.line X.env = pure false := by rfl)
    (hf : X.fn x = true ∨ X.env.scope.names.lookup x = some .local := by first | exact .inl rfl | exact .inr rfl | assumption) : DS X O Z (.Assign [.Name x pos'] e pos) (S.set i f) := PS.imp (ps_set hN hi hx he hs hf) fun D σ H ⟨g, ok, q⟩ =>
  ⟨g, ok, (Ev.bnd q).mono (fun d st' q as' v H' gr s r => q as' _ H' ((gr.step s).trans (Step.set hO _)) ((ok.wf.grow ok.sr gr s).set hO r) s) fun _ _ z => z⟩
theorem ds_setN (i : Nat) {x : Str} {pos' : Pos} (hO : i ∈ O) (hN : X.N.Nodup) (hi : X.N[i]? = some x) (hx : Loc X.env.scope x) (he : DN X O Z e f) (hs : swapsWith e (some (.Name x pos')) pos.line X.env = pure false := by rfl)
    (hf : X.fn x = true ∨ X.env.scope.names.lookup x = some .local := by first | exact .inl rfl | exact .inr rfl | assumption) : DS X O Z (.Assign [.Name x pos'] e pos) (S.set i f) := PS.imp (ps_set hN hi hx he hs hf) fun D σ H ⟨g, ok, q⟩ =>
  ⟨g, ok, (Ev.bnd q).mono (fun d st' q as' v H' gr s r n => by
    obtain ⟨w, sp⟩ := ok.wf.setN ok.sr gr s hO r n
    exact q as' _ H' sp w s) fun _ _ z => z⟩
end

/-! ### a def's body -/
def fnD (N : Nat) (b : SD) : List D → M D := fun ds s => match b (ds.map some ++ List.replicate (N - ds.length) none) s with
  | .ok q s' => (match q.1 with
    | .ret d => .ok d s'
    | .next => .ok .non s'
    | _ => .bad)
  | .exc x s' => .exc x s'
  | .bad => .bad
def Z0 : ZT := fun _ _ _ _ _ _ => False
theorem Reps.at {K : PySem.W.Frag} {F : Addr → Prop} {as : List Addr} {H : Hp} {vs : List V} {ds : List D} (r : Reps K F as H vs ds) (n : Nat) {i : Nat} {d : D} (e : (ds.map some ++ List.replicate n none)[i]? = some (some d)) :
    ∃ v, (vs.map some ++ List.replicate n (none : Option V))[i]? = some (some v) ∧ Rep K F as H v d := by
  rw [List.getElem?_append] at e
  by_cases l : i < (ds.map some).length
  · rw [if_pos l, List.getElem?_map] at e
    cases q : ds[i]? with
    | none => rw [q] at e; cases e
    | some d' =>
      rw [q] at e
      cases e
      obtain ⟨v, h, rv⟩ := r.get' q
      refine ⟨v, ?_, rv⟩
      have l' : i < (vs.map some).length := by rw [List.length_map, r.length]; rw [List.length_map] at l; exact l
      rw [List.getElem?_append, if_pos l', List.getElem?_map, h]
      rfl
  · rw [if_neg l, List.getElem?_replicate] at e
    split at e <;> cases e
/-- the way out of a def, as a wish -/
def zE (K : PySem.W.Frag) (E : XK) : ZT := fun B x _ as _ H => ∀ cls d, ExR K (fun a => B a ∨ a ∈ as) as H cls d x → E cls d H
theorem zE_takes {X : Cx} {E : XK} (t : Takes X fun cls d _ H => E cls d H) : Takes X (WZ X.K (zE X.K E)) := t.imp fun cls d σ H ⟨B, x, st, as, ex, z⟩ => z cls d ex
theorem fn_body {P : Program} {w : World} {K : PySem.W.Frag} {mg : Str → Option Value} {base : Heap} {x : Str} {st : Stmt} {f : Addr} {N ps : List Str} {O : List Nat} {b : SD} {cdv : Value} {A : Around} {outer : List PySem.Env} {s : Shared} {H : Hp} {E : XK} {vs : List V} {Q : VK}
    (S : FnScope N ps (defScope st)) (hO : ∀ i ∈ O, ps.length ≤ i) (hb : ∀ {Z : ZT}, Takes (cxOf (L2.CX P w) P w K mg base N x (defScope st) f cdv A outer s H E) (WZ K Z) → DSs (cxOf (L2.CX P w) P w K mg base N x (defScope st) f cdv A outer s H E) O Z (defBody st) b) (h : spD K ps.length (fnD N.length b) vs H Q E) :
    ∃ t, PSs (cxOf (L2.CX P w) P w K mg base N x (defScope st) f cdv A outer s H E) (defBody st) t ∧ t { nx := fun _ H' => Q .non H', rt := Q } (start N vs) H := by
  obtain ⟨B, as, st0, ds, hl, tr, sr, rs, q⟩ := h
  refine ⟨_, hb (zE_takes (takes_of rfl rfl rfl rfl)), ⟨B, H, as, as, ds.map some ++ List.replicate (N.length - ds.length) none, st0⟩, ⟨⟨?_, fun i d e n => ?_, fun i d e m => ?_, fun i a m e => ?_, fun i j a m _ e _ => ?_, tr, Grow.refl _ _⟩, sr⟩, ?_⟩
  · unfold start
    rw [List.length_append, List.length_append, List.length_map, List.length_map, List.length_replicate, List.length_replicate, rs.length]
  · unfold start
    rw [rs.length]
    obtain ⟨v, h, r⟩ := rs.at (N.length - ds.length) e
    refine ⟨v, h, r.weak fun a o _ z => ?_⟩
    rcases z with z | z | ⟨j, hj, z⟩
    · exact .inl z
    · exact .inr z
    · exfalso
      have := hO j hj
      rw [List.getElem?_append, if_neg (by rw [List.length_map, hl]; omega), List.getElem?_replicate] at z
      split at z <;> cases z
  · exfalso
    have := hO i m
    rw [List.getElem?_append, if_neg (by rw [List.length_map, ← rs.length, hl]; omega), List.getElem?_replicate] at e
    split at e <;> cases e
  · exfalso
    have := hO i m
    unfold start at e
    rw [List.getElem?_append, if_neg (by rw [List.length_map, hl]; omega), List.getElem?_replicate] at e
    split at e <;> cases e
  · exfalso
    have := hO i m
    unfold start at e
    rw [List.getElem?_append, if_neg (by rw [List.length_map, hl]; omega), List.getElem?_replicate] at e
    split at e <;> cases e
  · unfold fnD at q
    cases e : b (ds.map some ++ List.replicate (N.length - ds.length) none) st0 with
    | ok r st1 =>
      rw [e] at q
      obtain ⟨fl, ρ1⟩ := r
      cases fl with
      | next => exact fun as1 σ1 H1 sp1 w1 s1 => q as1 .non H1 w1.gr s1 .non
      | ret d => exact fun as1 σ1 H1 sp1 w1 s1 v r => q as1 v H1 w1.gr s1 r
      | brk => exact q.elim
      | cont => exact q.elim
    | exc x st1 =>
      rw [e] at q
      exact fun as1 ρ1 σ1 H1 B1 hB w1 s1 cls d ex => q as1 H1 cls d w1.gr s1 (ex.weak fun a o _ z => z.elim (fun z => .inl (hB a z)) .inr)
    | bad => rw [e] at q; exact q.elim
theorem fn_ok {P : Program} {w : World} {K : PySem.W.Frag} {mg : Str → Option Value} {base : Heap} {x : Str} {st : Stmt} {f : Addr} {fd : FuncData} {N ps : List Str} {k : Nat} {O : List Nat} {b : SD}
    (F : FunD K x x (defArgs st) (defBody st) (defScope st) [] [] f fd) (S : FnScope N ps (defScope st)) (hO : ∀ i ∈ O, ps.length ≤ i)
    (hb : ∀ (cdv : Value) (A : Around) (outer : List PySem.Env) (s : Shared) (H : Hp) (E : XK) {Z : ZT}, fd.code = cdv → Rm k (A.deeper (envOfC x (defScope st) s.heap.objs.size f cdv)) → Takes (cxOf (L2.CX P w) P w K mg base N x (defScope st) f cdv A outer s H E) (WZ K Z) → DSs (cxOf (L2.CX P w) P w K mg base N x (defScope st) f cdv A outer s H E) O Z (defBody st) b) :
    FnG P w K mg base (k + 1) f fd ps (spD K ps.length (fnD N.length b)) := by
  obtain ⟨oc, od, dV, kV, doc, pm, an, cdv, ct, osl, rfl, lk, hcd, _, _⟩ := F.ex
  have len : ∀ vs H Q E, spD K ps.length (fnD N.length b) vs H Q E → vs.length = ps.length := fun vs H Q E h => by obtain ⟨_, _, _, _, h, _⟩ := h; exact h
  exact ⟨len, fun A outer s H args us vs Q E hr e0 bd rv h => LamX.run_ofS lk hcd S hr.rm e0 bd rv (len _ _ _ _ h) fun hr' => fn_body S hO (fun tk => hb cdv A outer s H E rfl ⟨hr', hr.gd⟩ tk) h⟩
end G
end L2
end G5_
section G6_
set_option Elab.async false
set_option linter.all false
set_option maxRecDepth 100000
set_option maxHeartbeats 1000000
namespace L2
namespace G
open PySem PySem.Spec PyProof.Rows

/-! ### an owned list: append, extend, pop -/
def LIM : Nat := 1000000
theorem lim_line : LIM < sizeLine := by rw [sizeLine_eq]; decide
def S.append (i : Nat) (e : Env → M D) : SD := fun ρ => match ρ[i]? with
  | some (some (.lst ds)) => bnd (e ρ) fun d => if ds.length < LIM then G.ret (.next, List.set ρ i (some (.lst (ds ++ [d])))) else G.bad
  | _ => G.bad
def S.extend (i : Nat) (e : Env → M D) : SD := fun ρ => match ρ[i]? with
  | some (some (.lst ds)) => bnd (e ρ) fun d => (match d with
    | .lst xs => if ds.length + xs.length < LIM then G.ret (.next, List.set ρ i (some (.lst (ds ++ xs)))) else G.bad
    | _ => G.bad)
  | _ => G.bad
/-- y = x.pop() -/
def S.pop (i j : Nat) : SD := fun ρ => match ρ[i]? with
  | some (some (.lst ds)) => (match ds[ds.length - 1]? with
    | some d => G.ret (.next, List.set (List.set ρ i (some (.lst ds.dropLast))) j (some d))
    | none => G.bad)
  | _ => G.bad
/-- y = x.pop(e) -/
def S.popAt (i j : Nat) (e : Env → M D) : SD := fun ρ => match ρ[i]? with
  | some (some (.lst ds)) => bnd (e ρ) fun k => (match k with
    | .int k => if 0 ≤ k ∧ k < 1000000 then (match ds[k.toNat]? with
      | some d => G.ret (.next, List.set (List.set ρ i (some (.lst (ds.eraseIdx k.toNat)))) j (some d))
      | none => G.bad) else G.bad
    | _ => G.bad)
  | _ => G.bad
theorem slot_lst {ρ : Env} {i : Nat} {k : List D → M (Fl × Env)} {st : Store} {P : (Fl × Env) → Store → Prop} {ZZ : Ex → Store → Prop} (q : Ev ((match ρ[i]? with
  | some (some (.lst ds)) => k ds
  | _ => G.bad) st) P ZZ) : ∃ ds, ρ[i]? = some (some (.lst ds)) ∧ Ev (k ds st) P ZZ := by
  cases e : ρ[i]? with
  | none => rw [e] at q; exact q.elim
  | some o =>
    rw [e] at q
    cases o with
    | none => exact q.elim
    | some d =>
      cases d with
      | lst ds => exact ⟨ds, rfl, q⟩
      | _ => exact q.elim
theorem Wf.lst_at {K : PySem.W.Frag} {O : List Nat} {B : Addr → Prop} {H0 : Hp} {as0 as : List Addr} {ρ : Env} {σ : L2.St} {H : Hp} {i : Nat} {ds : List D} (w : Wf K O B H0 as0 as ρ σ H) (hO : i ∈ O) (e : ρ[i]? = some (some (.lst ds))) :
    ∃ p vs, σ[i]? = some (some (.ref p)) ∧ H p = some (.lst vs) ∧ Reps K (Ff B as O σ) as H vs ds := by
  obtain ⟨v, h, r⟩ := w.own i _ e hO
  cases r with
  | lst hh r => exact ⟨_, _, h, hh, r⟩
  | sca r z => cases r; exact absurd rfl (z _)
section
variable {X : Cx} {O : List Nat} {Z : ZT} {e a b c : Expr} {es : List Expr} {f fa fb fc : Env → M D} {r : Env → M (List D)} {pos p : Pos} {x : Str} {st : Stmt} {ss ss' : List Stmt} {s s' : SD}
/-- x.append(e) -/
theorem ds_append (i : Nat) {x : Str} {p apos cpos : Pos} (hO : i ∈ O) (hN : X.N[i]? = some x) (hv : Vis X.env.scope x) (he : DE X O Z e f)
    (hd : (x == ("__debug__" : Str)) = false := by decide) (hcd : (x == ("__classdict__" : Str)) = false := by decide)
    (hbase : attributeBase (.Name x p) "append" X.env (eval (.Name x p) X.env) = eval (.Name x p) X.env := by rfl) (hline : (apos.endLine == cpos.line) = true := by rfl) (hs1 : starEach [e] X.env = (false, eval e X.env) :: starEach [] X.env := by rfl)
    (hfew : ((backTo cpos (starEach [e] X.env)).all (fun x => !x.1) && (backToKw cpos (keywordEach [] X.env)).all (fun x => x.1.isSome)
      && decide (([e] : List Expr).length + ([] : List Keyword).length + (if ([] : List Keyword).isEmpty then 0 else 1) < 30)) = true := by rfl) :
    DS X O Z (.Expr (.Call (.Attribute (.Name x p) "append" apos) [e] [] cpos) pos) (S.append i f) := by
  refine PS.imp (ps_expr (pe_bm PySem.F.plainAttrs_list PySem.F.slot_list_append PySem.F.type_list_append mt_append (pe_var (i := i) hN hv hd hcd) (pa_cons he pa_nil hs1) hbase hfew hline hs1) rfl) fun D σ H ⟨g, ok, q⟩ => ?_
  unfold S.append at q
  obtain ⟨ds, er, q⟩ : ∃ ds, g.ρ[i]? = some (some (.lst ds)) ∧ Ev (bnd (f g.ρ) (fun d => if ds.length < LIM then G.ret (Fl.next, List.set g.ρ i (some (.lst (ds ++ [d])))) else G.bad) g.st) _ _ := slot_lst q
  obtain ⟨p, vs, hσ, hp, rs⟩ := ok.wf.lst_at hO er
  refine ⟨.ref p, hσ, .inl ⟨rfl, _, .inl (.inl hp)⟩, g, ok, (Ev.bnd q).mono (fun d st1 q as1 v H1 g1 s1 rv => ?_) fun _ _ z => z⟩
  have ok1 := ok.step g1 s1
  obtain ⟨p', vs1, hσ1, hp1, rs1⟩ := ok1.wf.lst_at hO er
  cases (hσ.symm.trans hσ1)
  by_cases hl : ds.length < LIM
  · rw [if_pos hl] at q
    refine ⟨p, vs1, v, rfl, rfl, hp1, by rw [rs1.length]; exact Nat.lt_trans hl lim_line, ?_⟩
    obtain ⟨w, s, sp⟩ := ok1.wf.write (d := .lst (ds ++ [d])) (o := .lst (vs1 ++ [v])) ok1.sr hO hσ (fun z => z) (.inl ⟨_, _, rfl, rfl, rs1.append (.cons rv .nil)⟩)
    exact q as1 σ _ ((g1.step s1).trans sp) w s
  · rw [if_neg hl] at q
    exact q.elim
/-- x.extend(e), e a new list -/
theorem ds_extend (i : Nat) {x : Str} {p apos cpos : Pos} (hO : i ∈ O) (hN : X.N[i]? = some x) (hv : Vis X.env.scope x) (he : DN X O Z e f)
    (hd : (x == ("__debug__" : Str)) = false := by decide) (hcd : (x == ("__classdict__" : Str)) = false := by decide)
    (hbase : attributeBase (.Name x p) "extend" X.env (eval (.Name x p) X.env) = eval (.Name x p) X.env := by rfl) (hline : (apos.endLine == cpos.line) = true := by rfl) (hs1 : starEach [e] X.env = (false, eval e X.env) :: starEach [] X.env := by rfl)
    (hfew : ((backTo cpos (starEach [e] X.env)).all (fun x => !x.1) && (backToKw cpos (keywordEach [] X.env)).all (fun x => x.1.isSome)
      && decide (([e] : List Expr).length + ([] : List Keyword).length + (if ([] : List Keyword).isEmpty then 0 else 1) < 30)) = true := by rfl) :
    DS X O Z (.Expr (.Call (.Attribute (.Name x p) "extend" apos) [e] [] cpos) pos) (S.extend i f) := by
  refine PS.imp (ps_expr (pe_bm PySem.F.plainAttrs_list PySem.F.slot_list_extend PySem.F.type_list_extend mt_extend (pe_var (i := i) hN hv hd hcd) (pa_cons he pa_nil hs1) hbase hfew hline hs1) rfl) fun D σ H ⟨g, ok, q⟩ => ?_
  unfold S.extend at q
  obtain ⟨ds, er, q⟩ := slot_lst q
  obtain ⟨p, vs, hσ, hp, rs⟩ := ok.wf.lst_at hO er
  refine ⟨.ref p, hσ, .inl ⟨rfl, _, .inl (.inl hp)⟩, g, ok, (Ev.bnd q).mono (fun d st1 q as1 v H1 g1 s1 rv nv => ?_) fun _ _ z => z⟩
  have ok1 := ok.step g1 s1
  obtain ⟨p', vs1, hσ1, hp1, rs1⟩ := ok1.wf.lst_at hO er
  cases (hσ.symm.trans hσ1)
  cases rv with
  | lst hb rb =>
    rename_i b ws xs
    dsimp only at q
    by_cases hl : ds.length + xs.length < LIM
    · rw [if_pos hl] at q
      refine ⟨p, b, vs1, ws, rfl, rfl, hp1, hb, by rw [rs1.length, rb.length]; exact Nat.le_of_lt (Nat.lt_trans hl lim_line), ?_⟩
      obtain ⟨w, s, sp⟩ := ok1.wf.write (d := .lst (ds ++ xs)) (o := .lst (vs1 ++ ws)) ok1.sr hO hσ (fun z => z) (.inl ⟨_, _, rfl, rfl, rs1.append (rb.weak fun _ _ _ z => .inl z)⟩)
      exact q as1 σ _ ((g1.step s1).trans sp) w s
    · rw [if_neg hl] at q
      exact q.elim
  | dct hb o rb => exact q.elim
  | sca r z =>
    cases r with
    | lst => exact absurd rfl (z _)
    | _ => exact q.elim
end
end G
end L2
end G6_
section G7_
set_option Elab.async false
set_option linter.all false
set_option maxRecDepth 100000
set_option maxHeartbeats 1000000
namespace L2
namespace G
open PySem PySem.Spec PyProof.Rows

/-! ### shifting -/
section
variable {K : PySem.W.Frag} {F F' : Addr → Prop} {as as' : List Addr} {H H' : Hp}
theorem LstAt.shift {a : Addr} {xs : List V} (k : ∀ b o, H b = some o → ¬ F b → H' b = some o ∧ ¬ F' b) (h : LstAt K F H a xs) : LstAt K F' H' a xs := by
  rcases h with ⟨n, h | ⟨o, h⟩⟩ | h
  · exact .inl ⟨(k _ _ h n).2, .inl (k _ _ h n).1⟩
  · exact .inl ⟨(k _ _ h n).2, .inr ⟨o, (k _ _ h n).1⟩⟩
  · exact .inr h
theorem rd_shift {a : Addr} {o : HO} (k : ∀ b o, H b = some o → ¬ F b → H' b = some o ∧ ¬ F' b) (n : ¬ F a) (h : Rd H a o) : Rd H' a o ∧ ¬ F' a := h.elim (fun h => ⟨.inl (k _ _ h n).1, (k _ _ h n).2⟩) fun ⟨u, h⟩ => ⟨.inr ⟨u, (k _ _ h n).1⟩, (k _ _ h n).2⟩
mutual
theorem Rep.shift {v : V} {d : D} (k : ∀ b o, H b = some o → ¬ F b → H' b = some o ∧ ¬ F' b) (kt : ∀ b o, H b = some o → TupO o → H' b = some o) (p : ∀ (n : Nat) (a : Addr), as[n]? = some a → as'[n]? = some a) : Rep K F as H v d → Rep K F' as' H' v d
  | .non => .non
  | .bl b => .bl b
  | .int i => .int i
  | .str x => .str x
  | .tup h r => .tup (kt _ _ h trivial) (r.shift k kt p)
  | .lst h r => .lst (h.shift k) (r.shift k kt p)
  | .dct n h o r => .dct (rd_shift k n h).2 (rd_shift k n h).1 o (r.shift k kt p)
  | .ref h => .ref (p _ _ h)
  | .ftup h r => .ftup (h.frame kt) (r.shift k kt p)
theorem Reps.shift {vs : List V} {ds : List D} (k : ∀ b o, H b = some o → ¬ F b → H' b = some o ∧ ¬ F' b) (kt : ∀ b o, H b = some o → TupO o → H' b = some o) (p : ∀ (n : Nat) (a : Addr), as[n]? = some a → as'[n]? = some a) : Reps K F as H vs ds → Reps K F' as' H' vs ds
  | .nil => .nil
  | .cons h r => .cons (h.shift k kt p) (r.shift k kt p)
end
end

/-! ### targets -/
theorem PG.imp {X : Cx} {e : Expr} {t t' : TG} (h : PG X e t) (k : ∀ v σ H Q, t' v σ H Q → t v σ H Q) : PG X e t' := ⟨fun pins s σ H v u Q I r q => h.run pins s σ H v u Q I r (k v σ H Q q)⟩
theorem PGs.imp {X : Cx} {e : List Expr} {t t' : TGs} (h : PGs X e t) (k : ∀ v σ H Q, t' v σ H Q → t v σ H Q) : PGs X e t' := ⟨fun pins s σ H v u Q I r q => h.run pins s σ H v u Q I r (k v σ H Q q)⟩
/-- what a target leaves: the slots vs alone change -/
def Tgd (K : PySem.W.Frag) (O : List Nat) (vs : List Nat) (g : Gh) (σ : L2.St) (H : Hp) (ρ' : Env) (Q : L2.St → Hp → Prop) : Prop :=
  ∀ σ', Wf K O g.B g.H0 g.as0 g.as ρ' σ' H → (∀ a, ownA O σ' a ↔ ownA O σ a) → σ'.length = σ.length → (∀ j, j ∉ vs → σ'[j]? = σ[j]?) → Q σ' H
def tG (K : PySem.W.Frag) (O : List Nat) (vs : List Nat) (t : D → Env → Option Env) : TG := fun v σ H Q => ∃ (g : Gh) (d : D) (ρ' : Env), g.ok K O σ H ∧ Rep K (Ff g.B g.as O σ) g.as H v d ∧ t d g.ρ = some ρ' ∧ Tgd K O vs g σ H ρ' Q
def tGs (K : PySem.W.Frag) (O : List Nat) (vs : List Nat) (t : List D → Env → Option Env) : TGs := fun v σ H Q => ∃ (g : Gh) (d : List D) (ρ' : Env), g.ok K O σ H ∧ Reps K (Ff g.B g.as O σ) g.as H v d ∧ t d g.ρ = some ρ' ∧ Tgd K O vs g σ H ρ' Q
abbrev DG (X : Cx) (O : List Nat) (vs : List Nat) (e : Expr) (t : D → Env → Option Env) : Prop := PG X e (tG X.K O vs t)
abbrev DGs (X : Cx) (O : List Nat) (vs : List Nat) (e : List Expr) (t : List D → Env → Option Env) : Prop := PGs X e (tGs X.K O vs t)
def Gt.name (i : Nat) : D → Env → Option Env := fun d ρ => some (List.set ρ i (some d))
def Gt.nil : List D → Env → Option Env := fun ds ρ => match ds with
  | [] => some ρ
  | _ => none
def Gt.cons (t : D → Env → Option Env) (u : List D → Env → Option Env) : List D → Env → Option Env := fun ds ρ => match ds with
  | d :: r => (t d ρ).bind (u r)
  | [] => none
def Gt.tup (n : Nat) (u : List D → Env → Option Env) : D → Env → Option Env := fun d ρ => match d with
  | .tup ds => if ds.length = n then u ds ρ else none
  | _ => none
section
variable {X : Cx} {O : List Nat} {Z : ZT} {e : Expr} {es : List Expr} {vs : List Nat} {pos : Pos}
theorem dg_name (i : Nat) {x : Str} (hO : i ∉ O) (hv : i ∈ vs) (hN : X.N.Nodup) (hi : X.N[i]? = some x) (hx : Loc X.env.scope x) (hf : X.fn x = true ∨ X.env.scope.names.lookup x = some .local := by first | exact .inl rfl | exact .inr rfl | assumption) :
    DG X O vs (.Name x pos) (Gt.name i) := PG.imp (pg_name hN hi hx hf) fun v σ H Q ⟨g, d, ρ', ok, r, e, q⟩ => by
  cases e
  exact q _ (ok.wf.set hO r) (fun a => ownA_set hO a) (List.length_set ..) fun j hj => List.getElem?_set_ne fun (z : i = j) => hj (by rw [← z]; exact hv)
theorem dgs_nil : DGs X O vs [] Gt.nil := PGs.imp pgs_nil fun v σ H Q ⟨g, d, ρ', ok, r, e, q⟩ => by
  cases r with
  | nil => cases e; exact ⟨rfl, q σ ok.wf (fun _ => Iff.rfl) rfl fun _ _ => rfl⟩
  | cons _ _ => cases e
theorem dgs_cons {t : D → Env → Option Env} {u : List D → Env → Option Env} (h : DG X O vs e t) (k : DGs X O vs es u)
    (hs : (assignEach (e :: es) X.env).map (·.2) = assign e X.env :: (assignEach es X.env).map (·.2) := by rfl) : DGs X O vs (e :: es) (Gt.cons t u) := PGs.imp (pgs_cons h k hs) fun v σ H Q ⟨g, d, ρ', ok, r, e, q⟩ => by
  cases r with
  | nil => cases e
  | cons r1 rr =>
    have e : (t _ g.ρ).bind (u _) = some ρ' := e
    obtain ⟨ρ1, e1, e2⟩ := Option.bind_eq_some_iff.mp e
    refine ⟨_, _, rfl, g, _, ρ1, ok, r1, e1, fun σ1 w1 o1 l1 j1 => ?_⟩
    have ff1 : ∀ a, Ff g.B g.as O σ1 a ↔ Ff g.B g.as O σ a := fun a => or_congr Iff.rfl (or_congr Iff.rfl (o1 a))
    refine ⟨g.on g.as ρ1 g.st, _, ρ', ⟨w1, ok.sr⟩, rr.weak fun a o _ z => (ff1 a).mp z, e2, fun σ2 w2 o2 l2 j2 => ?_⟩
    exact q σ2 w2 (fun a => (o2 a).trans (o1 a)) (l2.trans l1) fun j hj => (j2 j hj).trans (j1 j hj)
theorem dg_tup {k : Nat} {u : List D → Env → Option Env} {n : Nat} (hc : X.calm = true) (h : DGs X O vs es u) (hn : (assignEach es X.env).length = n := by rfl) (hst : (assignEach es X.env).findIdx? (·.1) = none := by rfl) :
    DG X O vs (.Tuple es k pos) (Gt.tup n u) := PG.imp (pg_tup hc h hn hst) fun v σ H Q ⟨g, d, ρ', ok, r, e, q⟩ => by
  cases d with
  | tup ds =>
    unfold Gt.tup at e
    cases r with
    | tup hs rs =>
      by_cases hl : ds.length = n
      · dsimp only at e
        rw [if_pos hl] at e
        exact ⟨_, _, rfl, SqT.of hs, by rw [rs.length]; exact hl, g, ds, ρ', ok, rs, e, q⟩
      · dsimp only at e
        rw [if_neg hl] at e; cases e
  | _ => cases e
end

/-! ### what is walked -/
def Stay (F : Addr → Prop) (H H1 : Hp) : Prop := (∀ b o, H b = some o → ¬ F b → H1 b = some o) ∧ ∀ b o, H b = some o → TupO o → H1 b = some o
structure Walk (K : PySem.W.Frag) (F : Addr → Prop) (as : List Addr) (H : Hp) (J : It) (ds : List D) : Prop where
  len : ds.length ≤ sizeLine
  go : ∀ i H1, Stay F H H1 → i < ds.length → J.go i H1
  yl : ∀ i H1 x H2 d (F1 : Addr → Prop) as1, Stay F H H1 → (∀ (n : Nat) (a : Addr), as[n]? = some a → as1[n]? = some a) → (∀ a o, H a = some o → F1 a → F a) → J.yld i H1 x H2 → ds[i]? = some d → Same H1 H2 ∧ Rep K F1 as1 H2 x d
  stop : ∀ i H1, Stay F H H1 → ds.length = i → J.stop i H1
def tI (K : PySem.W.Frag) (O : List Nat) (Z : ZT) (f : Env → M (List D)) : TI := fun σ H R => ∃ g : Gh, g.ok K O σ H ∧ Ev (f g.ρ g.st) (fun ds st' => ∀ as' H' J, Grow g.as H as' H' → SRep K as' st' H' → Walk K (Ff g.B as' O σ) as' H' J ds → R J H') (Zc K O g.B g.H0 g.as0 Z)
abbrev DI (X : Cx) (O : List Nat) (Z : ZT) (tg e : Expr) (f : Env → M (List D)) : Prop := PI X tg e (tI X.K O Z f)
/-- .. in a comprehension: what is owned stays, too -/
structure WalkC (K : PySem.W.Frag) (F S : Addr → Prop) (as : List Addr) (H : Hp) (J : It) (ds : List D) : Prop where
  len : ds.length ≤ sizeLine
  go : ∀ i H1, Stay S H H1 → i < ds.length → J.go i H1
  yl : ∀ i H1 x H2 d (F1 : Addr → Prop) as1, Stay S H H1 → (∀ (n : Nat) (a : Addr), as[n]? = some a → as1[n]? = some a) → (∀ a o, H a = some o → F1 a → F a) → J.yld i H1 x H2 → ds[i]? = some d → Same H1 H2 ∧ Rep K F1 as1 H2 x d
  stop : ∀ i H1, Stay S H H1 → ds.length = i → J.stop i H1
theorem Stay.up {F S : Addr → Prop} {H H1 : Hp} (s : Stay S H H1) (h : ∀ a, S a → F a) : Stay F H H1 := ⟨fun b o e n => s.1 b o e fun z => n (h b z), s.2⟩
theorem Walk.c {K : PySem.W.Frag} {F S : Addr → Prop} {as : List Addr} {H : Hp} {J : It} {ds : List D} (w : Walk K F as H J ds) (h : ∀ a, S a → F a) : WalkC K F S as H J ds :=
  ⟨w.len, fun i H1 st => w.go i H1 (st.up h), fun i H1 x H2 d F1 as1 st => w.yl i H1 x H2 d F1 as1 (st.up h), fun i H1 st => w.stop i H1 (st.up h)⟩
def tIc (K : PySem.W.Frag) (O : List Nat) (Z : ZT) (f : Env → M (List D)) : TI := fun σ H R => ∃ g : Gh, g.ok K O σ H ∧ Ev (f g.ρ g.st) (fun ds st' => ∀ as' H' J, Grow g.as H as' H' → SRep K as' st' H' → WalkC K (Ff g.B as' O σ) (· ∈ as') as' H' J ds → R J H') (Zc K O g.B g.H0 g.as0 Z)
abbrev DIc (X : Cx) (O : List Nat) (Z : ZT) (tg e : Expr) (f : Env → M (List D)) : Prop := PI X tg e (tIc X.K O Z f)
theorem PI.imp {X : Cx} {tg e : Expr} {t t' : TI} (h : PI X tg e t) (k : ∀ σ H R, t' σ H R → t σ H R) : PI X tg e t' := ⟨fun pins s σ H R I q => h.run pins s σ H R I (k σ H R q)⟩
def Lens (K : PySem.W.Frag) (H : Hp) : Prop := ∀ a xs, (SqL K H a xs ∨ SqT K H a xs) → xs.length ≤ sizeLine
theorem Inv.lens {X : Cx} {pins : List (Addr × Obj)} {σ : L2.St} {H : Hp} {s : Shared} (I : Inv X pins σ H s) : Lens X.K H := fun a xs h => by
  rcases h with h | h
  · obtain ⟨_, _, _, z⟩ := I.list h; exact z
  · obtain ⟨_, _, _, z⟩ := I.tuple h; exact z
theorem DI.c {X : Cx} {O : List Nat} {Z : ZT} {tg e : Expr} {f : Env → M (List D)} (h : DI X O Z tg e f) : DIc X O Z tg e f := PI.imp h fun σ H R ⟨g, ok, q⟩ => ⟨g, ok, q.mono (fun ds st' q as' H' J gr s w => q as' H' J gr s (w.c fun a z => .inr (.inl z))) fun _ _ z => z⟩
/-- the lengths of what stands are bounded -/
theorem pi_len {X : Cx} {tg e : Expr} {t : TI} (h : PI X tg e t) : PI X tg e (fun σ H R => t σ H fun J H' => Lens X.K H' → R J H') := ⟨fun pins s σ H R I q => thn (h.run pins s σ H _ I q) fun v s1 h1 => thn h1 fun itv s2 h2 => by
  obtain ⟨it, fp, tn, J, H', e, I2, T, t0, fo, r⟩ := h2
  exact ⟨it, fp, tn, J, H', e, I2, T, t0, fo, r (Inv.lens I2)⟩⟩
theorem pe_len {X : Cx} {e : Expr} {t : TE} (h : PE X e t) : PE X e (fun σ H Q => t σ H fun v H' => Lens X.K H' → Q v H') := ⟨fun pins s σ H Q I q => thn (h.run pins s σ H _ I q) fun u s1 ⟨v, H1, I1, r1, q1⟩ => ⟨v, H1, I1, r1, q1 (Inv.lens I1)⟩⟩
theorem pi_seq {X : Cx} {tg l : Expr} {tl : TE} (hl : PE X l tl) : PI X tg l (fun σ H R => tl σ H fun x H1 => ∃ a xs, x = .ref a ∧ ((SqL X.K H1 a xs ∧ R (Itl X.K a) H1) ∨ (SqT X.K H1 a xs ∧ R (Itt X.K a) H1))) := by
  refine ⟨fun pins s σ H R I h => ?_⟩
  refine thn (hl.run pins s σ H _ I h) fun v s1 ⟨x, H1, I1, r1, q1⟩ => ?_
  obtain ⟨a, xs, e, ⟨hq, q⟩ | ⟨hq, q⟩⟩ := q1
  · subst e
    cases r1
    obtain ⟨its, rv, p, hz⟩ := I1.list hq
    refine wpAny_pyIter_list p.isList ?_
    refine ⟨s1.heap.objs.size, [s1.heap.objs.size], _, _, H1, rfl, I1.kept (t' := s1.toks) fun b o e => Heap.get?_push_of_some _ e, turn_list a _, ⟨_, Heap.get?_push_size _ rfl, rfl, rfl⟩, fun b hb => ?_, q⟩
    have e : b = s1.heap.objs.size := by simpa using hb
    subst e
    exact I1.fpOk (Nat.le_refl _) (I1.hok.fresh (Nat.le_refl _))
  · subst e
    cases r1
    obtain ⟨its, rv, p, hz⟩ := I1.tuple hq
    refine wpAny_pyIter_tuple (show s1.heap.IsTuple a its.toArray from p) ?_
    refine ⟨s1.heap.objs.size, [s1.heap.objs.size], _, _, H1, rfl, I1.kept (t' := s1.toks) fun b o e => Heap.get?_push_of_some _ e, turn_tuple a _, ⟨_, Heap.get?_push_size _ rfl, rfl, rfl⟩, fun b hb => ?_, q⟩
    have e : b = s1.heap.objs.size := by simpa using hb
    subst e
    exact I1.fpOk (Nat.le_refl _) (I1.hok.fresh (Nat.le_refl _))
def seqD : D → Option (List D)
  | .lst ds => some ds
  | .tup ds => some ds
  | .ftup ds => some ds
  | _ => none
def I.seq (e : Env → M D) : Env → M (List D) := fun ρ => bnd (e ρ) fun d => lift (seqD d)
theorem rep_stay {K : PySem.W.Frag} {F F1 : Addr → Prop} {as as1 : List Addr} {H H1 : Hp} {v : V} {d : D} (st : Stay F H H1) (p : ∀ (n : Nat) (a : Addr), as[n]? = some a → as1[n]? = some a) (k : ∀ a o, H a = some o → F1 a → F a) (r : Rep K F as H v d) : Rep K F1 as1 H1 v d :=
  r.shift (fun b o h n => ⟨st.1 b o h n, fun z => n (k b o h z)⟩) st.2 p
theorem walk_lst {K : PySem.W.Frag} {F : Addr → Prop} {as : List Addr} {H : Hp} {a : Addr} {xs : List V} {ds : List D} (hl : xs.length ≤ sizeLine) (h : LstAt K F H a xs) (r : Reps K F as H xs ds) : Walk K F as H (Itl K a) ds where
  len := by rw [← r.length]; exact hl
  go := fun i H1 st hi => ⟨xs, xs[i]'(by rw [r.length]; exact hi), (h.frame st.1).sq, by simp⟩
  yl := fun i H1 x H2 d F1 as1 st p k y e => by
    obtain ⟨rfl, y⟩ := y
    have y := y xs (h.frame st.1).sq
    obtain ⟨d', e', rv⟩ := r.get y
    rw [e] at e'; cases e'
    exact ⟨Same.refl _, rep_stay st p k rv⟩
  stop := fun i H1 st hi => ⟨xs, (h.frame st.1).sq, by rw [r.length, hi]; exact Nat.le_refl _⟩
theorem walk_tup {K : PySem.W.Frag} {F : Addr → Prop} {as : List Addr} {H : Hp} {a : Addr} {xs : List V} {ds : List D} (hl : xs.length ≤ sizeLine) (h : SqT K H a xs) (r : Reps K F as H xs ds) : Walk K F as H (Itt K a) ds where
  len := by rw [← r.length]; exact hl
  go := fun i H1 st hi => ⟨xs, xs[i]'(by rw [r.length]; exact hi), sqT_frame st.2 h, by simp⟩
  yl := fun i H1 x H2 d F1 as1 st p k y e => by
    obtain ⟨rfl, y⟩ := y
    have y := y xs (sqT_frame st.2 h)
    obtain ⟨d', e', rv⟩ := r.get y
    rw [e] at e'; cases e'
    exact ⟨Same.refl _, rep_stay st p k rv⟩
  stop := fun i H1 st hi => ⟨xs, sqT_frame st.2 h, by rw [r.length, hi]; exact Nat.le_refl _⟩
end G
end L2
end G7_
section G8_
set_option Elab.async false
set_option linter.all false
set_option maxRecDepth 100000
set_option maxHeartbeats 1000000
namespace L2
namespace G
open PySem PySem.Spec PyProof.Rows

/-! ### iterables -/
section
variable {X : Cx} {O : List Nat} {Z : ZT} {e a b c tg : Expr} {es : List Expr} {f fa fb fc : Env → M D} {r : Env → M (List D)} {pos p : Pos} {x : Str} {st : Stmt} {ss ss' : List Stmt} {s s' : SD}
theorem di_seq (h : DE X O Z e f) : DI X O Z tg e (I.seq f) := PI.imp (pi_len (pi_seq h)) fun σ H R ⟨g, ok, q⟩ => by
  refine ⟨g, ok, (Ev.bnd q).mono (fun d st' q as' v H' gr s r => ?_) fun _ _ z => z⟩
  obtain ⟨ds, e, q⟩ := q.lift
  cases d with
  | lst xs =>
    cases e
    cases r with
    | lst h r => exact ⟨_, _, rfl, .inl ⟨h.sq, fun L => q as' H' _ gr s (walk_lst (L _ _ (.inl h.sq)) h r)⟩⟩
  | tup xs =>
    cases e
    cases r with
    | tup h r => exact ⟨_, _, rfl, .inr ⟨SqT.of h, fun L => q as' H' _ gr s (walk_tup (L _ _ (.inr (SqT.of h))) (SqT.of h) r)⟩⟩
  | ftup xs =>
    cases e
    cases r with
    | ftup h r => exact ⟨_, _, rfl, .inr ⟨h.sq, fun L => q as' H' _ gr s (walk_tup (L _ _ (.inr h.sq)) h.sq r)⟩⟩
  | _ => cases e
/-- range -/
def rangeD (lo hi : Int) : List D := (List.range (hi - lo).toNat).map fun k => .int (lo + (k : Nat))
def rng1 (xs : List D) : Option (List D) := match xs with
  | [.int j] => if -1000000 ≤ j ∧ j ≤ 1000000 then some (rangeD 0 j) else none
  | _ => none
def rng2 (xs : List D) : Option (List D) := match xs with
  | [.int i, .int j] => if -1000000 ≤ i ∧ i ≤ 1000000 ∧ -1000000 ≤ j ∧ j ≤ 1000000 then some (rangeD i j) else none
  | _ => none
def rng3 (xs : List D) : Option (List D) := match xs with
  | [.int i, .int j, .int c] => if -1000000 ≤ i ∧ i ≤ 1000000 ∧ j = -1 ∧ c = -1 then some ((List.range (i + 1).toNat).map fun k => .int (i - (k : Nat))) else none
  | _ => none
def I.range (h : List D → Option (List D)) (r : Env → M (List D)) : Env → M (List D) := fun ρ => bnd (r ρ) fun xs => lift (h xs)
theorem walk_rng {K : PySem.W.Frag} {F : Addr → Prop} {as : List Addr} {H : Hp} {lo hi : Int} (h : (hi - lo).toNat ≤ sizeLine) : Walk K F as H (Itr lo (hi - lo).toNat) (rangeD lo hi) where
  len := by unfold rangeD; rw [List.length_map, List.length_range]; exact h
  go := fun i H1 _ hi => by unfold rangeD at hi; rw [List.length_map, List.length_range] at hi; exact hi
  yl := fun i H1 x H2 d F1 as1 st p k y e => by
    obtain ⟨rfl, rfl⟩ := y
    unfold rangeD at e
    rw [List.getElem?_map] at e
    cases q : (List.range (hi - lo).toNat)[i]? with
    | none => rw [q] at e; cases e
    | some j =>
      rw [q] at e
      cases e
      obtain ⟨_, q⟩ := List.getElem?_eq_some_iff.mp q
      rw [List.getElem_range] at q
      subst q
      exact ⟨Same.refl _, .int _⟩
  stop := fun i H1 _ hi => by unfold rangeD at hi; rw [List.length_map, List.length_range] at hi; exact Nat.le_of_eq hi
theorem line_million : 3000000 ≤ sizeLine := by rw [sizeLine_eq]; decide
theorem di_range1 (hg : Gl X "range") (hm : X.mg "range" = none) (ha : DAU X O Z [a] r) (hs : starEach [a] X.env = [(false, eval a X.env)] := by rfl) : DI X O Z tg (.Call (.Name "range" p) [a] [] pos) (I.range rng1 r) := PI.imp (pi_range1 hg hm ha hs) fun σ H R ⟨g, ok, q⟩ => by
  refine ⟨g, ok, (Ev.bnd q).mono (fun ds st' q as' vs H' gr s rs => ?_) fun _ _ z => z⟩
  obtain ⟨xs, e, q⟩ := q.lift
  unfold rng1 at e
  split at e
  · rename_i j
    split at e
    · rename_i h
      cases e
      cases rs with
      | cons r1 rr =>
        cases rr
        rw [r1.t_int]
        refine ⟨j, rfl, by omega, by omega, ?_⟩
        have : (j - 0).toNat = j.toNat := by rw [Int.sub_zero]
        rw [← this]
        exact q as' H' _ gr s (walk_rng (by have := line_million; omega))
    · cases e
  · cases e
theorem di_range2 (hg : Gl X "range") (hm : X.mg "range" = none) (ha : DAU X O Z [a, b] r) (hs : starEach [a, b] X.env = [(false, eval a X.env), (false, eval b X.env)] := by rfl) (hs2 : starEach [b] X.env = [(false, eval b X.env)] := by rfl) : DI X O Z tg (.Call (.Name "range" p) [a, b] [] pos) (I.range rng2 r) := PI.imp (pi_range2 hg hm ha hs hs2) fun σ H R ⟨g, ok, q⟩ => by
  refine ⟨g, ok, (Ev.bnd q).mono (fun ds st' q as' vs H' gr s rs => ?_) fun _ _ z => z⟩
  obtain ⟨xs, e, q⟩ := q.lift
  unfold rng2 at e
  split at e
  · rename_i i j
    split at e
    · rename_i h
      cases e
      cases rs with
      | cons r1 rr =>
        cases rr with
        | cons r2 rr =>
          cases rr
          rw [r1.t_int, r2.t_int]
          exact ⟨i, j, rfl, ⟨by omega, by omega, by omega, by omega⟩, q as' H' _ gr s (walk_rng (by have := line_million; omega))⟩
    · cases e
  · cases e

/-! ### for -/
def forL (t : D → Env → Option Env) (b : SD) : List D → SD
  | [], ρ => G.ret (.next, ρ)
  | d :: r, ρ => bnd (lift (t d ρ)) fun ρ1 => bnd (b ρ1) fun q => match q.1 with
    | .next => forL t b r q.2
    | .cont => forL t b r q.2
    | .brk => G.ret (.next, q.2)
    | .ret d => G.ret (.ret d, q.2)
def S.for_ (i : Env → M (List D)) (t : D → Env → Option Env) (b : SD) : SD := fun ρ => bnd (i ρ) fun ds => forL t b ds ρ
theorem Step.stay {K : PySem.W.Frag} {B : Addr → Prop} {H0 : Hp} {as0 as as1 : List Addr} {ρ : Env} {σ σ1 : L2.St} {H H1 : Hp} {st : Store} (w : Wf K O B H0 as0 as ρ σ H) (s : SRep K as st H) (sp : Step O as σ H as1 σ1 H1) :
    Stay (Ff B as O σ) H H1 ∧ ∀ a o, H a = some o → Ff B as1 O σ1 a → Ff B as O σ a := by
  refine ⟨⟨fun b o h n => sp.keep b o h (fun z => n (.inr (.inl z))) fun z => n (.inr (.inr z)), fun b o h t => sp.keep b o h (fun z => ?_) fun z => ?_⟩, fun a o h z => ?_⟩
  · obtain ⟨o', e, n⟩ := s.mem z
    rw [h] at e; cases e
    exact n t
  · obtain ⟨i, hi, z⟩ := z
    obtain ⟨_, _, _, o', e, n⟩ := w.slot i b hi z
    rw [h] at e; cases e
    exact n t
  · rcases z with z | z | z
    · exact .inl z
    · by_cases m : a ∈ as
      · exact .inr (.inl m)
      · rw [sp.fre a z m] at h; cases h
    · rcases sp.own a z with z | z
      · exact .inr (.inr z)
      · rw [h] at z; cases z
theorem Step.of_same {as : List Addr} {σ σ1 : L2.St} {H H1 : Hp} (s : Same H H1) (o : ∀ a, ownA O σ1 a ↔ ownA O σ a) : Step O as σ H as σ1 H1 := ⟨fun _ _ h => h, fun b o h _ _ => s b o h, fun _ h n => absurd h n, fun a h => .inl ((o a).mp h), fun b o h => ⟨o, s b o h⟩⟩
theorem ds_for {fi : Env → M (List D)} {t : D → Env → Option Env} {vs : List Nat} (hp : PassesOwn (model X.prog X.w) X.A X.env X.xe) (hc : X.calm = true) (hi : DI X O Z tg e fi) (hg : DG X O vs tg t) (hb : DSs X O Z ss s)
    (hs : ∀ x, foldedSetIterable e X.env x = pure x := by intro _; rfl) : DS X O Z (.For tg e ss [] pos) (S.for_ fi t s) := PS.imp (ps_for hp hc hi hg hb hs) fun D σ H ⟨g, ok, q⟩ => by
  refine ⟨g, ok, (Ev.bnd q).mono (fun ds st1 q as1 H1 J g1 s1 wk => ?_) fun _ _ z => z⟩
  have w1 := ok.wf.grow ok.sr g1 s1
  refine ⟨fun i m σ2 H2 => m = ds.length - i ∧ i ≤ ds.length ∧ ∃ as2 ρ2 st2, Wf X.K O g.B g.H0 g.as0 as2 ρ2 σ2 H2 ∧ SRep X.K as2 st2 H2 ∧ Step O as1 σ H1 as2 σ2 H2 ∧ Ev (forL t s (ds.drop i) ρ2 st2) _ (Zc X.K O g.B g.H0 g.as0 Z), ⟨_, rfl, Nat.zero_le _, as1, g.ρ, st1, w1, s1, Step.refl .., q⟩, ?_⟩
  rintro i m σ2 H2 ⟨rfl, hi, as2, ρ2, st2, w2, s2, sp2, q2⟩
  obtain ⟨stay, ffs⟩ := sp2.stay w1 s1
  by_cases hlt : i < ds.length
  · refine .inr ⟨wk.go i H2 stay hlt, ?_⟩
    rw [List.drop_eq_getElem_cons hlt] at q2
    obtain ⟨ρ3, e3, q3⟩ := (Ev.bnd q2).lift
    have q3 := Ev.bnd q3
    refine ⟨fun σ' H' => ∃ as2 ρ2 st2, Wf X.K O g.B g.H0 g.as0 as2 ρ2 σ' H' ∧ SRep X.K as2 st2 H' ∧ Step O as1 σ H1 as2 σ' H' ∧ Ev (forL t s (ds.drop (i + 1)) ρ2 st2) _ (Zc X.K O g.B g.H0 g.as0 Z), fun σ' H' n => ⟨ds.length - (i + 1), by omega, rfl, hlt, n⟩, fun x H3 y => ?_⟩
    obtain ⟨sm, rx⟩ := wk.yl i H2 x H3 _ (Ff g.B as2 O σ2) as2 stay sp2.pre ffs y (List.getElem?_eq_getElem hlt)
    have s3 := s2.same sm
    have w3 := w2.grow s2 (grow_same sm) s3
    refine ⟨g.on as2 ρ2 st2, _, ρ3, ⟨w3, s3⟩, rx, e3, fun σ4 w4 o4 l4 j4 => ?_⟩
    have sp4 : Step O as1 σ H1 as2 σ4 H3 := sp2.trans (Step.of_same sm o4)
    refine ⟨g.on as2 ρ3 st2, ⟨w4, s3⟩, Ev.mono q3 (fun r st5 q5 as5 σ5 H5 sp5 w5 s5 => ?_) fun _ _ z => z⟩
    obtain ⟨fl, ρ5⟩ := r
    cases fl with
    | next => exact ⟨as5, ρ5, st5, w5, s5, sp4.trans sp5, q5⟩
    | cont => exact ⟨as5, ρ5, st5, w5, s5, sp4.trans sp5, q5⟩
    | brk => exact q5 as5 σ5 H5 ((g1.step s1).trans (sp4.trans sp5)) w5 s5
    | ret d => exact q5 as5 σ5 H5 ((g1.step s1).trans (sp4.trans sp5)) w5 s5
  · have e : i = ds.length := by omega
    subst e
    rw [List.drop_length] at q2
    exact .inl ⟨wk.stop _ H2 stay rfl, q2 as2 σ2 H2 ((g1.step s1).trans sp2) w2 s2⟩

/-! ### while -/
def whileN (c : Env → M Bool) (b : SD) : Nat → SD
  | 0, _ => G.bad
  | n + 1, ρ => bnd (c ρ) fun k => if k = true then bnd (b ρ) fun q => (match q.1 with
      | .next => whileN c b n q.2
      | .cont => whileN c b n q.2
      | .brk => G.ret (.next, q.2)
      | .ret d => G.ret (.ret d, q.2)) else G.ret (.next, ρ)
theorem ds_while (n : Nat) {c : Expr} {t : Env → M Bool} (hp : PassesOwn (model X.prog X.w) X.A X.env X.xe) (hc : DT X O Z c t) (hb : DSs X O Z ss s) : DS X O Z (.While c ss [] pos) (whileN t s n) := PS.imp (ps_while hp hc hb) fun D σ H ⟨g, ok, q⟩ => by
  refine ⟨fun m σ2 H2 => ∃ as2 ρ2 st2, Wf X.K O g.B g.H0 g.as0 as2 ρ2 σ2 H2 ∧ SRep X.K as2 st2 H2 ∧ Step O g.as σ H as2 σ2 H2 ∧ Ev (whileN t s m ρ2 st2) _ (Zc X.K O g.B g.H0 g.as0 Z), ⟨n, g.as, g.ρ, g.st, ok.wf, ok.sr, Step.refl .., q⟩, ?_⟩
  rintro m σ2 H2 ⟨as2, ρ2, st2, w2, s2, sp2, q2⟩
  cases m with
  | zero => exact q2.elim
  | succ m =>
    refine ⟨g.on as2 ρ2 st2, ⟨w2, s2⟩, (Ev.bnd q2).mono (fun k st3 q3 as3 H3 g3 s3 => ?_) fun _ _ z => z⟩
    have w3 := w2.grow s2 g3 s3
    have sp3 := sp2.trans (g3.step s3)
    cases k with
    | false => exact q3 as3 σ2 H3 sp3 w3 s3
    | true =>
      refine ⟨fun σ' H' => ∃ as2 ρ2 st2, Wf X.K O g.B g.H0 g.as0 as2 ρ2 σ' H' ∧ SRep X.K as2 st2 H' ∧ Step O g.as σ H as2 σ' H' ∧ Ev (whileN t s m ρ2 st2) _ (Zc X.K O g.B g.H0 g.as0 Z), fun σ' H' n => ⟨m, Nat.lt_succ_self _, n⟩, ?_⟩
      refine ⟨g.on as3 ρ2 st3, ⟨w3, s3⟩, (Ev.bnd q3).mono (fun r st5 q5 as5 σ5 H5 sp5 w5 s5 => ?_) fun _ _ z => z⟩
      obtain ⟨fl, ρ5⟩ := r
      cases fl with
      | next => exact ⟨as5, ρ5, st5, w5, s5, sp3.trans sp5, q5⟩
      | cont => exact ⟨as5, ρ5, st5, w5, s5, sp3.trans sp5, q5⟩
      | brk => exact q5 as5 σ5 H5 (sp3.trans sp5) w5 s5
      | ret d => exact q5 as5 σ5 H5 (sp3.trans sp5) w5 s5
end
end G
end L2
end G8_
section G9_
set_option Elab.async false
set_option linter.all false
set_option maxRecDepth 100000
set_option maxHeartbeats 1000000
namespace L2
namespace G
open PySem PySem.Spec PyProof.Rows

/-! ### list comprehensions -/
def wipeD (ρ : Env) : List Nat → Env
  | [] => ρ
  | v :: vs => List.set (wipeD ρ vs) v none
def compL (ρ : Env) (t : D → Env → Option Env) (c : Env → M Bool) (e : Env → M D) : List D → M (List D)
  | [] => ret []
  | d :: r => bnd (lift (t d ρ)) fun ρ1 => bnd (c ρ1) fun k => if k = true then bnd (e ρ1) fun y => bnd (compL ρ t c e r) fun ys => ret (y :: ys) else compL ρ t c e r
def E.comp (i : Env → M (List D)) (vs : List Nat) (t : D → Env → Option Env) (c : Env → M Bool) (e : Env → M D) : Env → M D := fun ρ => bnd (i ρ) fun ds => bnd (compL (wipeD ρ vs) t c e ds) fun rs => ret (.lst rs)
def T.yes : Env → M Bool := fun _ => ret true
abbrev DTs (X : Cx) (O : List Nat) (Z : ZT) (es : List Expr) (f : Env → M Bool) : Prop := PTs X es (tT X.K O Z f)
theorem PTs.imp {X : Cx} {e : List Expr} {t t' : TT} (h : PTs X e t) (k : ∀ σ H Q, t' σ H Q → t σ H Q) : PTs X e t' := ⟨fun pins s σ H Q I q => h.run pins s σ H Q I (k σ H Q q)⟩
section
variable {K : PySem.W.Frag} {O : List Nat} {B : Addr → Prop} {H0 : Hp} {as0 as as' : List Addr} {ρ : Env} {σ : L2.St} {H H' : Hp} {st st' : Store} {v : V} {d : D} {i : Nat}
theorem Wf.wipe (w : Wf K O B H0 as0 as ρ σ H) : ∀ {vs : List Nat}, (∀ i ∈ vs, i ∉ O) → Wf K O B H0 as0 as (wipeD ρ vs) (L2.wipe σ vs) H
  | [], _ => w
  | v :: vs, h => (Wf.wipe w fun i hi => h i (List.mem_cons_of_mem _ hi)).drop (h v (List.mem_cons_self ..)) none
theorem ownA_wipe : ∀ {vs : List Nat}, (∀ i ∈ vs, i ∉ O) → ∀ a, ownA O (L2.wipe σ vs) a ↔ ownA O σ a
  | [], _, _ => Iff.rfl
  | v :: vs, h, a => (ownA_set (h v (List.mem_cons_self ..)) a).trans (ownA_wipe (fun i hi => h i (List.mem_cons_of_mem _ hi)) a)
theorem wipe_same {vs : List Nat} {σ1 σ2 : L2.St} (l : σ2.length = σ1.length) (h : ∀ j, j ∉ vs → σ2[j]? = σ1[j]?) : L2.wipe σ2 vs = L2.wipe σ1 vs := by
  apply List.ext_getElem?
  intro j
  by_cases m : j ∈ vs
  · have key : ∀ (us : List Nat) (τ : L2.St), j ∈ us → (L2.wipe τ us)[j]? = if j < τ.length then some none else none := by
      intro us τ hm
      induction us with
      | nil => cases hm
      | cons u us ih =>
        unfold L2.wipe
        by_cases e : u = j
        · subst e
          rw [List.getElem?_set]
          rw [if_pos rfl, wipe_length]
        · rw [List.getElem?_set_ne e]
          rcases List.mem_cons.mp hm with z | z
          · exact absurd z.symm e
          · exact ih z
    rw [key vs σ2 m, key vs σ1 m, l]
  · rw [wipe_out m, wipe_out m]
    exact h j m
theorem wipe_wipe {vs : List Nat} : L2.wipe (L2.wipe σ vs) vs = L2.wipe σ vs := wipe_same (wipe_length _ _) fun j m => wipe_out m
theorem Wf.growB {D0 : Addr} (w : Wf K O B H0 as0 as ρ σ H) (s : SRep K as st H) (n : H D0 = none) (g : Grow as H as' H') (s' : SRep K as' st' H') (hD : ∃ o, H' D0 = some o) : Wf K O (fun a => B a ∨ a = D0) H0 as0 as' ρ σ H' := by
  have w' := w.grow s g s'
  have ffw : ∀ a o, H a = some o → Ff (fun a => B a ∨ a = D0) as' O σ a → Ff B as O σ a := fun a o e z => by
    rcases z with (z | z) | z | z
    · exact .inl z
    · rw [z, n] at e; cases e
    · exact ff_grow g a o e (.inr (.inl z))
    · exact .inr (.inr z)
  have kk : ∀ b o, H b = some o → ¬ Ff (fun a => B a ∨ a = D0) as' O σ b → H' b = some o := fun b o e z => g.keep b o e fun q => z (.inr (.inl (g.sub q)))
  refine ⟨w.len, fun i d e ni => ?_, fun i d e m => ?_, fun i a m e => ?_, w.dis, fun a z => ?_, w'.gr⟩
  · obtain ⟨v, h, r⟩ := w.var i d e ni
    exact ⟨v, h, (r.weak ffw).frame kk (grow_t s g) g.pre⟩
  · obtain ⟨v, h, r⟩ := w.own i d e m
    refine ⟨v, h, ?_⟩
    have hp : ∀ p, v = .ref p → p ∉ as := fun p z => by subst z; exact (w.slot i p m h).2.1
    cases r with
    | lst hh r => exact .lst (g.keep _ _ hh (hp _ rfl)) ((r.weak ffw).frame kk (grow_t s g) g.pre)
    | dct hh o r => exact .dct (g.keep _ _ hh (hp _ rfl)) o ((r.weak ffw).frame kk (grow_t s g) g.pre)
    | sca r q => exact .sca ((r.weak ffw).frame kk (grow_t s g) g.pre) q
  · obtain ⟨h1, h2, h3, h4⟩ := w'.slot i a m e
    refine ⟨h1, h2, fun z => ?_, h4⟩
    rcases z with z | z
    · exact h3 z
    · obtain ⟨_, _, _, o, y, _⟩ := w.slot i a m e
      rw [z, n] at y; cases y
  · rcases z with z | z
    · exact w'.trB a z
    · rw [z]; exact hD
theorem Wf.mono {B' : Addr → Prop} (w : Wf K O B' H0 as0 as ρ σ H) (h : ∀ a, B a → B' a) : Wf K O B H0 as0 as ρ σ H := by
  have ffw : ∀ a o, H a = some o → Ff B as O σ a → Ff B' as O σ a := fun a o _ z => z.elim (fun z => .inl (h a z)) .inr
  refine ⟨w.len, fun i d e ni => ?_, fun i d e m => ?_, fun i a m e => ?_, w.dis, fun a z => w.trB a (h a z), w.gr⟩
  · obtain ⟨v, h, r⟩ := w.var i d e ni
    exact ⟨v, h, r.weak ffw⟩
  · obtain ⟨v, h, r⟩ := w.own i d e m
    refine ⟨v, h, ?_⟩
    cases r with
    | lst hh r => exact .lst hh (r.weak ffw)
    | dct hh o r => exact .dct hh o (r.weak ffw)
    | sca r q => exact .sca (r.weak ffw) q
  · obtain ⟨h1, h2, h3, h4⟩ := w.slot i a m e
    exact ⟨h1, h2, fun z => h3 (h a z), h4⟩
theorem Zc.mono {Z : ZT} {B' : Addr → Prop} (h : ∀ a, B a → B' a) {x : Ex} {st' : Store} (z : Zc K O B H0 as0 Z x st') : Zc K O B' H0 as0 Z x st' := fun as' ρ' σ' H' B2 hB w s => z as' ρ' σ' H' B2 (fun a q => hB a (h a q)) (w.mono h) s
end
section
variable {X : Cx} {O : List Nat} {Z : ZT} {e a b c tg iter elt : Expr} {es ifs : List Expr} {f fa fb fc fe : Env → M D} {fi r : Env → M (List D)} {fc : Env → M Bool} {t : D → Env → Option Env} {pos p : Pos} {x : Str} {scope : Scope} {own : List (Str × Nat)}
theorem dts_nil : DTs X O Z [] T.yes := PTs.imp pts_nil fun σ H Q ⟨g, ok, q⟩ => q _ H (Grow.refl _ _) ok.sr
theorem dts_one (h : DT X O Z c fc) : DTs X O Z [c] fc := pts_one h
def lcB (g : TG) (tt : TT) (te : TE) (vs : List Nat) (σ : L2.St) (Q : VK) (J : It) (H1 : Hp) : Prop := ∀ D, H1 D = none → ∃ W : Nat → Nat → Hp → Prop, (∃ m, W 0 m (upd H1 D (.lst []))) ∧ ∀ i m H, W i m H →
  (J.stop i H ∧ Q (.ref D) H) ∨ (J.go i H ∧ ∃ Nx : Hp → Prop, (∀ H', Nx H' → ∃ m', m' < m ∧ W (i + 1) m' H') ∧ ∀ x H', J.yld i H x H' → g x (L2.wipe σ vs) H' fun σ2 H2 => L2.wipe σ2 vs = L2.wipe σ vs ∧ tt σ2 H2 fun b H3 =>
    if b = true then te σ2 H3 fun y H4 => ∃ acc, H4 D = some (.lst acc) ∧ acc.length < sizeLine ∧ Nx (upd H4 D (.lst (acc ++ [y]))) else Nx H3)
theorem comp_core {vs : List Nat} {σ : L2.St} {H H1 : Hp} {g : Gh} {Q : VK} {ds : List D} {st1 : Store} {as1 : List Addr} {J : It} (hO : ∀ i ∈ vs, i ∉ O) (ok : g.ok X.K O σ H) (g1 : Grow g.as H as1 H1) (s1 : SRep X.K as1 st1 H1) (wk : WalkC X.K (Ff g.B as1 O σ) (· ∈ as1) as1 H1 J ds)
    (q : Ev (bnd (compL (wipeD g.ρ vs) t fc fe ds) (fun rs => ret (.lst rs)) st1) (fun d st' => ∀ as' v H', Grow g.as H as' H' → SRep X.K as' st' H' → Own X.K (fun a => Ff g.B as' O σ a ∨ v = .ref a) as' H' v d → (∀ p, v = .ref p → H p = none ∧ p ∉ as') → Q v H') (Zc X.K O g.B g.H0 g.as0 Z)) :
    lcB (tG X.K O vs t) (tT X.K O Z fc) (tE X.K O Z fe) vs σ Q J H1 := by
  intro D nD
  have q := Ev.bnd q
  have ok1 := ok.step g1 s1
  have w1 : Wf X.K O g.B g.H0 g.as0 as1 (wipeD g.ρ vs) (L2.wipe σ vs) H1 := ok1.wf.wipe hO
  have own1 := ownA_wipe (σ := σ) hO
  have ff1 : ∀ (as : List Addr) a, Ff g.B as O (L2.wipe σ vs) a ↔ Ff g.B as O σ a := fun as a => or_congr Iff.rfl (or_congr Iff.rfl (own1 a))
  have nDH : H D = none := by
    cases z : H D with
    | none => rfl
    | some o =>
      by_cases m : D ∈ g.as
      · exact absurd (g1.sub m) (not_as ok1 nD)
      · have := g1.keep D o z m
        rw [nD] at this; cases this
  -- what stands at a turn
  have wD : ∀ {as2 : List Addr} {H2 : Hp} {st2 : Store} {acc : List V}, Grow as1 H1 as2 H2 → SRep X.K as2 st2 H2 → H2 D = some (.lst acc) → Wf X.K O (fun a => g.B a ∨ a = D) g.H0 g.as0 as2 (wipeD g.ρ vs) (L2.wipe σ vs) H2 := fun g2 s2 hD => w1.growB s1 nD g2 s2 ⟨_, hD⟩
  refine ⟨fun i m H2 => m = ds.length - i ∧ i ≤ ds.length ∧ ∃ as2 st2 acc accD, SRep X.K as2 st2 H2 ∧ Grow as1 H1 as2 H2 ∧ H2 D = some (.lst acc) ∧ D ∉ as2 ∧ acc.length ≤ i ∧
    Reps X.K (Ff (fun a => g.B a ∨ a = D) as2 O (L2.wipe σ vs)) as2 H2 acc accD ∧
    Ev (compL (wipeD g.ρ vs) t fc fe (ds.drop i) st2) (fun ys st' => ∀ as' v H', Grow g.as H as' H' → SRep X.K as' st' H' → Own X.K (fun a => Ff g.B as' O σ a ∨ v = .ref a) as' H' v (.lst (accD ++ ys)) → (∀ p, v = .ref p → H p = none ∧ p ∉ as') → Q v H') (Zc X.K O g.B g.H0 g.as0 Z),
    ⟨_, rfl, Nat.zero_le _, as1, st1, [], [], s1.new nD, Grow.new nD, upd_same, not_as ok1 nD, Nat.le_refl _, .nil, ?_⟩, ?_⟩
  · exact Ev.mono q (fun ys st' q as' v H' a b c d => q as' v H' a b c d) fun _ _ z => z
  · rintro i m H2 ⟨rfl, hi, as2, st2, acc, accD, s2, g2, hD, nA, hl, rs, q2⟩
    have w2 := wD g2 s2 hD
    obtain ⟨_, ffs0⟩ := Step.stay (σ1 := σ) ok1.wf s1 (g2.step s2)
    have stay0 : Stay (· ∈ as1) H1 H2 := ⟨fun b o h n => g2.keep b o h n, grow_t s1 g2⟩
    have ffs : ∀ a o, H1 a = some o → Ff (fun a => g.B a ∨ a = D) as2 O (L2.wipe σ vs) a → Ff g.B as1 O σ a := fun a o h z => by
      rcases z with (z | z) | z | z
      · exact .inl z
      · rw [z, nD] at h; cases h
      · exact ffs0 a o h (.inr (.inl z))
      · exact .inr (.inr ((own1 a).mp z))
    by_cases hlt : i < ds.length
    · refine .inr ⟨wk.go i H2 stay0 hlt, ?_⟩
      rw [List.drop_eq_getElem_cons hlt] at q2
      obtain ⟨ρ3, e3, q3⟩ := (Ev.bnd q2).lift
      have q3 := Ev.bnd q3
      refine ⟨fun H3 => ∃ as2 st2 acc accD, SRep X.K as2 st2 H3 ∧ Grow as1 H1 as2 H3 ∧ H3 D = some (.lst acc) ∧ D ∉ as2 ∧ acc.length ≤ i + 1 ∧
        Reps X.K (Ff (fun a => g.B a ∨ a = D) as2 O (L2.wipe σ vs)) as2 H3 acc accD ∧ Ev (compL (wipeD g.ρ vs) t fc fe (ds.drop (i + 1)) st2) (fun ys st' => ∀ as' v H', Grow g.as H as' H' → SRep X.K as' st' H' → Own X.K (fun a => Ff g.B as' O σ a ∨ v = .ref a) as' H' v (.lst (accD ++ ys)) → (∀ p, v = .ref p → H p = none ∧ p ∉ as') → Q v H') (Zc X.K O g.B g.H0 g.as0 Z), fun H' n => ⟨ds.length - (i + 1), by omega, rfl, hlt, n⟩, fun x H3 y => ?_⟩
      obtain ⟨sm, rx⟩ := wk.yl i H2 x H3 _ (Ff (fun a => g.B a ∨ a = D) as2 O (L2.wipe σ vs)) as2 stay0 g2.pre ffs y (List.getElem?_eq_getElem hlt)
      have s3 := s2.same sm
      have w3 := w2.grow s2 (grow_same sm) s3
      refine ⟨⟨fun a => g.B a ∨ a = D, g.H0, g.as0, as2, wipeD g.ρ vs, st2⟩, _, ρ3, ⟨w3, s3⟩, rx, e3, fun σ4 w4 o4 l4 j4 => ⟨?_, ?_⟩⟩
      · rw [wipe_same l4 j4, wipe_wipe]
      have ff4 : ∀ (as : List Addr) a, Ff (fun a => g.B a ∨ a = D) as O σ4 a ↔ Ff (fun a => g.B a ∨ a = D) as O (L2.wipe σ vs) a := fun as a => or_congr Iff.rfl (or_congr Iff.rfl (o4 a))
      have hD3 := sm D _ hD
      have g3 := g2.trans (grow_same (as := as2) sm)
      have rs3 : Reps X.K (Ff (fun a => g.B a ∨ a = D) as2 O (L2.wipe σ vs)) as2 H3 acc accD := rs.grow s2 (grow_same sm)
      have grows : ∀ {as5 : List Addr} {H5 : Hp} {st5 : Store}, Grow as2 H3 as5 H5 → SRep X.K as5 st5 H5 → H5 D = some (.lst acc) ∧ D ∉ as5 ∧ Reps X.K (Ff (fun a => g.B a ∨ a = D) as5 O (L2.wipe σ vs)) as5 H5 acc accD := by
        intro as5 H5 st5 g5 s5
        refine ⟨g5.keep D _ hD3 nA, fun z => ?_, rs3.grow s3 g5⟩
        have := g5.fre D z nA
        rw [hD3] at this; cases this
      refine ⟨⟨fun a => g.B a ∨ a = D, g.H0, g.as0, as2, ρ3, st2⟩, ⟨w4, s3⟩, Ev.mono q3 (fun k st5 q5 as5 H5 g5 s5 => ?_) fun _ _ z => z.mono fun _ z => .inl z⟩
      obtain ⟨d5, n5, r5⟩ := grows g5 s5
      cases k with
      | false =>
        exact ⟨as5, st5, acc, accD, s5, g3.trans g5, d5, n5, Nat.le_succ_of_le hl, r5, q5⟩
      | true =>
        have w4' := w4.grow s3 g5 s5
        refine ⟨⟨fun a => g.B a ∨ a = D, g.H0, g.as0, as5, ρ3, st5⟩, ⟨w4', s5⟩, (Ev.bnd q5).mono (fun y st6 q6 as6 yv H6 g6 s6 ry => ?_) fun _ _ z => z.mono fun _ z => .inl z⟩
        have g36 := g5.trans g6
        obtain ⟨d6, n6, r6⟩ := grows g36 s6
        have sl : acc.length < sizeLine := Nat.lt_of_lt_of_le (Nat.lt_of_le_of_lt hl hlt) wk.len
        have ry' : Rep X.K (Ff (fun a => g.B a ∨ a = D) as6 O (L2.wipe σ vs)) as6 H6 yv y := ry.weak fun a o _ z => (ff4 as6 a).mpr z
        have kD : ∀ b o, H6 b = some o → ¬ Ff (fun a => g.B a ∨ a = D) as6 O (L2.wipe σ vs) b → upd H6 D (.lst (acc ++ [yv])) b = some o := fun b o h n => by rw [upd_ne (fun (z : b = D) => n (.inl (.inr z)))]; exact h
        have kT : ∀ b o, H6 b = some o → TupO o → upd H6 D (.lst (acc ++ [yv])) b = some o := fun b o h t => by
          rw [upd_ne (fun (z : b = D) => by rw [z, d6] at h; cases h; exact t)]; exact h
        refine ⟨acc, d6, sl, as6, st6, acc ++ [yv], accD ++ [y], ?_, ?_, upd_same, n6, by rw [List.length_append, List.length_singleton]; omega, (r6.append (.cons ry' .nil)).frame kD kT fun _ _ h => h, (Ev.bnd q6).mono (fun ys st7 q7 as7 v7 H7 a7 b7 c7 e7 => q7 as7 v7 H7 a7 b7 (by rw [List.append_assoc] at c7; exact c7) e7) fun _ _ z => z⟩
        · refine s6.frame fun b o h z => ?_
          rcases z with z | z
          · rw [upd_ne (fun (y : b = D) => n6 (by rw [← y]; exact z))]; exact h
          · exact kT b o h z
        · have gg := g3.trans g36
          exact ⟨gg.pre, fun b o h n => by rw [upd_ne (ne_of_none h nD)]; exact gg.keep b o h n, gg.fre⟩
    · have e : i = ds.length := by omega
      subst e
      rw [List.drop_length] at q2
      refine .inl ⟨wk.stop _ H2 stay0 rfl, q2 as2 (.ref D) H2 (g1.trans g2) s2 ?_ fun p e => ?_⟩
      · refine .lst hD ?_
        rw [List.append_nil]
        refine rs.weak fun a o _ z => ?_
        rcases z with (z | z | z) | z
        · exact .inl (.inl z)
        · exact .inr (.inl z)
        · exact .inr (.inr ((own1 a).mpr z))
        · cases z; exact .inl (.inr rfl)
      · cases e
        exact ⟨nDH, nA⟩
theorem comp_fin {vs : List Nat} {σ : L2.St} {H : Hp} {g : Gh} {Q : VK} (hO : ∀ i ∈ vs, i ∉ O) (ok : g.ok X.K O σ H)
    (q : Ev (E.comp fi vs t fc fe g.ρ g.st) (fun d st' => ∀ as' v H', Grow g.as H as' H' → SRep X.K as' st' H' → Own X.K (fun a => Ff g.B as' O σ a ∨ v = .ref a) as' H' v d → (∀ p, v = .ref p → H p = none ∧ p ∉ as') → Q v H') (Zc X.K O g.B g.H0 g.as0 Z)) :
    tLc (tIc X.K O Z fi) (tG X.K O vs t) (tT X.K O Z fc) (tE X.K O Z fe) vs σ H Q :=
  ⟨g, ok, (Ev.bnd q).mono (fun ds st1 q as1 H1 J g1 s1 wk => comp_core hO ok g1 s1 wk q) fun _ _ z => z⟩
theorem dn_comp (hc : X.calm = true) (hN : X.N.Nodup) (hi : DIc X O Z tg iter fi) (ok : BlkOk X.N X.env.scope scope own) (hO : ∀ i ∈ own.map (·.2), i ∉ O)
    (hg : ∀ (s : Shared) (H : Hp) (C : Addr) (cl : List (Str × Addr)) (fp : List Addr), DG (X.blk s H scope (compEnvC scope cl C X.env) fp) O (own.map (·.2)) tg t) (ht : ∀ (s : Shared) (H : Hp) (C : Addr) (cl : List (Str × Addr)) (fp : List Addr), DTs (X.blk s H scope (compEnvC scope cl C X.env) fp) O Z ifs fc)
    (he : ∀ (s : Shared) (H : Hp) (C : Addr) (cl : List (Str × Addr)) (fp : List Addr), DE (X.blk s H scope (compEnvC scope cl C X.env) fp) O Z elt fe) (hs : ∀ x, foldedSetIterable iter X.env x = pure x := by intro _; rfl) :
    DN X O Z (.ListComp elt [⟨tg, iter, ifs, 0⟩] scope pos) (E.comp fi (own.map (·.2)) t fc fe) :=
  PE.imp (pe_lc hc hN hi ok hg ht he hs) fun σ H Q ⟨g, ok, q⟩ => comp_fin hO ok q
theorem ds_setComp (i : Nat) {y : Str} {py spos : Pos} (hyO : i ∉ O) (hc : X.calm = true) (hN : X.N.Nodup) (hy : X.N[i]? = some y) (hyl : X.env.scope.names.lookup y = some .local)
    (hsw : swapsWith (.ListComp elt [⟨tg, iter, ifs, 0⟩] scope pos) (some (.Name y py)) spos.line X.env = pure true) (hi : DIc X O Z tg iter fi) (ok : BlkOk X.N X.env.scope scope own) (hO : ∀ i ∈ own.map (·.2), i ∉ O)
    (hg : ∀ (s : Shared) (H : Hp) (C : Addr) (cl : List (Str × Addr)) (fp : List Addr), DG (X.blk s H scope (compEnvC scope cl C X.env) fp) O (own.map (·.2)) tg t) (ht : ∀ (s : Shared) (H : Hp) (C : Addr) (cl : List (Str × Addr)) (fp : List Addr), DTs (X.blk s H scope (compEnvC scope cl C X.env) fp) O Z ifs fc)
    (he : ∀ (s : Shared) (H : Hp) (C : Addr) (cl : List (Str × Addr)) (fp : List Addr), DE (X.blk s H scope (compEnvC scope cl C X.env) fp) O Z elt fe) (hs : ∀ x, foldedSetIterable iter X.env x = pure x := by intro _; rfl) :
    DS X O Z (.Assign [.Name y py] (.ListComp elt [⟨tg, iter, ifs, 0⟩] scope pos) spos) (S.set i (E.comp fi (own.map (·.2)) t fc fe)) :=
  PS.imp (ps_setLc hc hN hy hyl hsw hi ok hg ht he hs) fun D σ H ⟨g, ok, q⟩ => by
    refine comp_fin (X := X) (Z := Z) hO ok ((Ev.bnd q).mono (fun d st' q as' v H' gr s r n => ?_) fun _ _ z => z)
    have nF : ∀ p, v = .ref p → ¬ Ff g.B as' O σ p := fun p e z => by
      obtain ⟨n1, n2⟩ := n p e
      rcases z with z | z | ⟨i, hi, z⟩
      · obtain ⟨o, z⟩ := ok.wf.trB p z; rw [n1] at z; cases z
      · exact n2 z
      · obtain ⟨_, _, _, o, z, _⟩ := ok.wf.slot i p hi z; rw [n1] at z; cases z
    have r' : Rep X.K (Ff g.B as' O σ) as' H' v d := by
      cases r with
      | lst h r => exact .lst (.inl ⟨nF _ rfl, .inl h⟩) (r.weak fun _ _ _ z => .inl z)
      | dct h o r => exact .dct (nF _ rfl) (.inl h) o (r.weak fun _ _ _ z => .inl z)
      | sca r _ => exact r.weak fun _ _ _ z => .inl z
    exact q as' _ H' ((gr.step s).trans (Step.set hyO _)) ((ok.wf.grow ok.sr gr s).set hyO r') s
theorem ds_setCompN (i : Nat) {y : Str} {py spos : Pos} (hyO : i ∈ O) (hc : X.calm = true) (hN : X.N.Nodup) (hy : X.N[i]? = some y) (hyl : X.env.scope.names.lookup y = some .local)
    (hsw : swapsWith (.ListComp elt [⟨tg, iter, ifs, 0⟩] scope pos) (some (.Name y py)) spos.line X.env = pure true) (hi : DIc X O Z tg iter fi) (ok : BlkOk X.N X.env.scope scope own) (hO : ∀ i ∈ own.map (·.2), i ∉ O)
    (hg : ∀ (s : Shared) (H : Hp) (C : Addr) (cl : List (Str × Addr)) (fp : List Addr), DG (X.blk s H scope (compEnvC scope cl C X.env) fp) O (own.map (·.2)) tg t) (ht : ∀ (s : Shared) (H : Hp) (C : Addr) (cl : List (Str × Addr)) (fp : List Addr), DTs (X.blk s H scope (compEnvC scope cl C X.env) fp) O Z ifs fc)
    (he : ∀ (s : Shared) (H : Hp) (C : Addr) (cl : List (Str × Addr)) (fp : List Addr), DE (X.blk s H scope (compEnvC scope cl C X.env) fp) O Z elt fe) (hs : ∀ x, foldedSetIterable iter X.env x = pure x := by intro _; rfl) :
    DS X O Z (.Assign [.Name y py] (.ListComp elt [⟨tg, iter, ifs, 0⟩] scope pos) spos) (S.set i (E.comp fi (own.map (·.2)) t fc fe)) :=
  PS.imp (ps_setLc hc hN hy hyl hsw hi ok hg ht he hs) fun D σ H ⟨g, ok, q⟩ => by
    refine comp_fin (X := X) (Z := Z) hO ok ((Ev.bnd q).mono (fun d st' q as' v H' gr s r n => ?_) fun _ _ z => z)
    obtain ⟨w, sp⟩ := ok.wf.setN ok.sr gr s hyO r n
    exact q as' _ H' sp w s
end
end G
end L2
end G9_
section G10_
set_option Elab.async false
set_option linter.all false
set_option maxRecDepth 100000
set_option maxHeartbeats 1000000
namespace L2
namespace G
open PySem PySem.Spec PyProof.Rows

/-! ### data as the library's -/
mutual
def D.py : D → PyData
  | .non => .none
  | .bl b => .bool b
  | .int i => .int i
  | .str x => .str x
  | .tup xs => .tuple (D.pys xs)
  | .ftup xs => .tuple (D.pys xs)
  | .lst xs => .list (D.pys xs)
  | .dct _ _ _ => .none
  | .ref _ => .none
def D.pys : List D → List PyData
  | [] => []
  | d :: ds => d.py :: D.pys ds
end
mutual
/-- plain data, at most n deep -/
def D.okd : Nat → D → Bool
  | _, .non => true
  | _, .bl _ => true
  | _, .int _ => true
  | _, .str x => PyData.strOk x
  | n, .tup xs => (match n with
    | 0 => false
    | n + 1 => D.okds n xs)
  | n, .lst xs => (match n with
    | 0 => false
    | n + 1 => D.okds n xs)
  | n, .ftup xs => (match n with
    | 0 => false
    | n + 1 => D.okds n xs)
  | _, .dct _ _ _ => false
  | _, .ref _ => false
def D.okds : Nat → List D → Bool
  | _, [] => true
  | n, d :: ds => D.okd n d && D.okds n ds
end
mutual
theorem D.okd_lay : ∀ {n : Nat} {d : D}, d.okd n = true → d.py.canLay0 = true ∧ d.py.depth ≤ n
  | _, .non, _ => by simp [D.py, PyData.canLay0, PyData.depth]
  | _, .bl _, _ => by simp [D.py, PyData.canLay0, PyData.depth]
  | _, .int _, _ => by simp [D.py, PyData.canLay0, PyData.depth]
  | _, .str x, h => by simp only [D.py, PyData.canLay0, PyData.depth]; exact ⟨by simpa [D.okd] using h, Nat.zero_le _⟩
  | 0, .tup xs, h => by simp [D.okd] at h
  | n + 1, .tup xs, h => by
    have q := D.okds_lay (n := n) (ds := xs) (by simpa [D.okd] using h)
    simp only [D.py, PyData.canLay0, PyData.depth]
    exact ⟨q.1, Nat.succ_le_succ q.2⟩
  | 0, .lst xs, h => by simp [D.okd] at h
  | n + 1, .lst xs, h => by
    have q := D.okds_lay (n := n) (ds := xs) (by simpa [D.okd] using h)
    simp only [D.py, PyData.canLay0, PyData.depth]
    exact ⟨q.1, Nat.succ_le_succ q.2⟩
  | 0, .ftup xs, h => by simp [D.okd] at h
  | n + 1, .ftup xs, h => by
    have q := D.okds_lay (n := n) (ds := xs) (by simpa [D.okd] using h)
    simp only [D.py, PyData.canLay0, PyData.depth]
    exact ⟨q.1, Nat.succ_le_succ q.2⟩
  | _, .dct _ _ _, h => by simp [D.okd] at h
  | _, .ref _, h => by simp [D.okd] at h
theorem D.okds_lay : ∀ {n : Nat} {ds : List D}, D.okds n ds = true → PyData.canLayAll0 (D.pys ds) = true ∧ PyData.depthAll (D.pys ds) ≤ n
  | _, [], _ => by simp [D.pys, PyData.canLayAll0, PyData.depthAll]
  | n, d :: ds, h => by
    simp only [D.okds, Bool.and_eq_true] at h
    have q1 := D.okd_lay h.1
    have q2 := D.okds_lay h.2
    simp only [D.pys, PyData.canLayAll0, PyData.depthAll, Bool.and_eq_true]
    exact ⟨⟨q1.1, q2.1⟩, by omega⟩
end
theorem D.shaped {n : Nat} {d : D} (h : d.okd n = true) (hn : n ≤ 64) : SeqAt.shaped d.py = true := by
  have q := D.okd_lay h
  show (d.py.canLay0 && decide (d.py.depth ≤ 64)) = true
  rw [Bool.and_eq_true]
  exact ⟨q.1, decide_eq_true (by omega)⟩
mutual
theorem Rep.dp {K : PySem.W.Frag} {F : Addr → Prop} {as : List Addr} {H : Hp} {v : V} {d : D} {n : Nat} (o : d.okd n = true) : Rep K F as H v d → Dp K H v d.py
  | .non => by simp only [D.py]; exact .non
  | .bl b => by simp only [D.py]; exact .bl b
  | .int i => by simp only [D.py]; exact .int i
  | .str x => by simp only [D.py]; exact .str x
  | .tup h r => by
    simp only [D.py]
    cases n with
    | zero => simp [D.okd] at o
    | succ n => exact .tup (SqT.of h) (r.dp (n := n) (by simpa [D.okd] using o))
  | .lst h r => by
    simp only [D.py]
    cases n with
    | zero => simp [D.okd] at o
    | succ n => exact .lst h.sq (r.dp (n := n) (by simpa [D.okd] using o))
  | .ftup h r => by
    simp only [D.py]
    cases n with
    | zero => simp [D.okd] at o
    | succ n => exact .tup h.sq (r.dp (n := n) (by simpa [D.okd] using o))
  | .dct .. => by simp [D.okd] at o
  | .ref .. => by simp [D.okd] at o
theorem Reps.dp {K : PySem.W.Frag} {F : Addr → Prop} {as : List Addr} {H : Hp} {vs : List V} {ds : List D} {n : Nat} (o : D.okds n ds = true) : Reps K F as H vs ds → DpAll K H vs (D.pys ds)
  | .nil => by simp only [D.pys]; exact .nil
  | .cons h r => by
    simp only [D.okds, Bool.and_eq_true] at o
    simp only [D.pys]
    exact .cons (h.dp o.1) (r.dp o.2)
end
theorem RepT.dp {K : PySem.W.Frag} {F : Addr → Prop} {as : List Addr} {H : Hp} {v : V} {d : D} {n : Nat} (o : d.okd n = true) (r : RepT K F as H v d) : Dp K H v d.py := by
  cases r with
  | rep r => exact r.dp o
  | own r _ =>
    cases r with
    | lst h r =>
      cases n with
      | zero => simp [D.okd] at o
      | succ n =>
        simp only [D.py]
        exact .lst (.inl (.inl h)) (r.dp (n := n) (by simpa [D.okd] using o))
    | dct h _ _ => simp [D.okd] at o
    | sca r _ => exact r.dp o
/-- equality -/
def D.eq (a b : D) : Bool := PyData.eqv a.py b.py
def eqD (a b : D) : Option D := if a.okd 60 && b.okd 60 then some (.bl (D.eq a b)) else none
def neD (a b : D) : Option D := if a.okd 60 && b.okd 60 then some (.bl (!D.eq a b)) else none
def inL (a : D) (ds : List D) : Bool := ds.any fun z => D.eq z a
def inD (a b : D) : Option D := match seqD b with
  | some ds => if a.okd 60 && D.okds 60 ds then some (.bl (inL a ds)) else none
  | none => none
def notInD (a b : D) : Option D := match seqD b with
  | some ds => if a.okd 60 && D.okds 60 ds then some (.bl (!inL a ds)) else none
  | none => none
theorem any_pys (a : D) : ∀ ds : List D, (D.pys ds).any (fun z => PyData.eqv z a.py) = inL a ds
  | [] => by simp [D.pys, inL]
  | d :: ds => by
    have := any_pys a ds
    simp only [D.pys, inL, List.any_cons, D.eq] at this ⊢
    rw [this]
section
variable {X : Cx}
theorem o_eq (hu : X.A.units + 65 < cLine) : Op2 X (compareOp .Eq) eqD := ⟨_, op_eqD (by omega), fun F as H x y d1 d2 d Q tr r1 r2 e q => by
  unfold eqD at e
  split at e
  · rename_i h
    cases e
    simp only [Bool.and_eq_true] at h
    exact ⟨_, _, r1.dp h.1, r2.dp h.2, D.shaped h.1 (by decide), D.shaped h.2 (by decide), q _ H (Same.refl _) (.bl _)⟩
  · cases e⟩
theorem o_ne (hu : X.A.units + 65 < cLine) : Op2 X (compareOp .NotEq) neD := ⟨_, op_neD (by omega), fun F as H x y d1 d2 d Q tr r1 r2 e q => by
  unfold neD at e
  split at e
  · rename_i h
    cases e
    simp only [Bool.and_eq_true] at h
    exact ⟨_, _, r1.dp h.1, r2.dp h.2, D.shaped h.1 (by decide), D.shaped h.2 (by decide), q _ H (Same.refl _) (.bl _)⟩
  · cases e⟩
def rInDA (K : PySem.W.Frag) (neg : Bool) : R2 := fun x y H Q => ∃ d ds, Dp K H x d ∧ (Dp K H y (.list ds) ∨ Dp K H y (.tuple ds)) ∧ SeqAt.shaped d = true ∧ PyData.canLayAll0 ds = true ∧ Q (.bl (if neg then !ds.any fun z => PyData.eqv z d else ds.any fun z => PyData.eqv z d)) H
theorem op_inDA (hu : X.A.units + 65 < cLine) : OpR X (compareOp .In) (rInDA X.K false) := by
  intro pins s σ H x y v u Q I rx ry h
  obtain ⟨d, ds, hd, he, sd, se, q⟩ := h
  obtain ⟨as, r1⟩ := Dp.reads I d x v hd rx
  rcases he with he | he
  · obtain ⟨bs, r2⟩ := Dp.reads I (.list ds) y u he ry
    exact SeqAt.in_list_reads r2 r1 se (SeqAt.canLay_of_shaped sd) (room_in_shaped sd hu) ⟨.bl _, H, I, rfl, q⟩
  · obtain ⟨bs, r2⟩ := Dp.reads I (.tuple ds) y u he ry
    exact SeqAt.in_tuple_reads r2 r1 se (SeqAt.canLay_of_shaped sd) (room_in_shaped sd hu) ⟨.bl _, H, I, rfl, q⟩
theorem op_notInDA (hu : X.A.units + 65 < cLine) : OpR X (compareOp .NotIn) (rInDA X.K true) := by
  intro pins s σ H x y v u Q I rx ry h
  obtain ⟨d, ds, hd, he, sd, se, q⟩ := h
  obtain ⟨as, r1⟩ := Dp.reads I d x v hd rx
  rcases he with he | he
  · obtain ⟨bs, r2⟩ := Dp.reads I (.list ds) y u he ry
    exact SeqAt.notIn_list_reads r2 r1 se (SeqAt.canLay_of_shaped sd) (room_in_shaped sd hu) ⟨.bl _, H, I, rfl, q⟩
  · obtain ⟨bs, r2⟩ := Dp.reads I (.tuple ds) y u he ry
    exact SeqAt.notIn_tuple_reads r2 r1 se (SeqAt.canLay_of_shaped sd) (room_in_shaped sd hu) ⟨.bl _, H, I, rfl, q⟩
theorem seq_dp {K : PySem.W.Frag} {F : Addr → Prop} {as : List Addr} {H : Hp} {v : V} {d : D} {ds : List D} (e : seqD d = some ds) (o : D.okds 60 ds = true) (r : RepT K F as H v d) : Dp K H v (.list (D.pys ds)) ∨ Dp K H v (.tuple (D.pys ds)) := by
  cases d with
  | lst xs => cases e; exact .inl (by have := r.dp (n := 61) (by simpa [D.okd] using o); simpa only [D.py] using this)
  | tup xs => cases e; exact .inr (by have := r.dp (n := 61) (by simpa [D.okd] using o); simpa only [D.py] using this)
  | ftup xs => cases e; exact .inr (by have := r.dp (n := 61) (by simpa [D.okd] using o); simpa only [D.py] using this)
  | _ => cases e
theorem o_in (hu : X.A.units + 65 < cLine) : Op2 X (compareOp .In) inD := ⟨_, op_inDA hu, fun F as H x y d1 d2 d Q tr r1 r2 e q => by
  unfold inD at e
  split at e
  · rename_i ds es
    split at e
    · rename_i h
      cases e
      simp only [Bool.and_eq_true] at h
      refine ⟨_, _, r1.dp h.1, seq_dp es h.2 r2, D.shaped h.1 (by decide), (D.okds_lay h.2).1, ?_⟩
      rw [if_neg Bool.false_ne_true, any_pys]
      exact q _ H (Same.refl _) (.bl _)
    · cases e
  · cases e⟩
theorem o_notIn (hu : X.A.units + 65 < cLine) : Op2 X (compareOp .NotIn) notInD := ⟨_, op_notInDA hu, fun F as H x y d1 d2 d Q tr r1 r2 e q => by
  unfold notInD at e
  split at e
  · rename_i ds es
    split at e
    · rename_i h
      cases e
      simp only [Bool.and_eq_true] at h
      refine ⟨_, _, r1.dp h.1, seq_dp es h.2 r2, D.shaped h.1 (by decide), (D.okds_lay h.2).1, ?_⟩
      rw [if_pos rfl, any_pys]
      exact q _ H (Same.refl _) (.bl _)
    · cases e
  · cases e⟩
end
end G
end L2
end G10_
section G11_
set_option Elab.async false
set_option linter.all false
set_option maxRecDepth 100000
set_option maxHeartbeats 1000000
namespace L2
namespace G
open PySem PySem.Spec PyProof.Rows
section
variable {X : Cx}
/-! ### + -/
def rCatL (K : PySem.W.Frag) : R2 := fun x y H Q => ∃ l b xs zs, x = .ref l ∧ y = .ref b ∧ SqL K H l xs ∧ SqL K H b zs ∧ xs.length + zs.length ≤ sizeLine ∧ ∀ p, H p = none → Q (.ref p) (upd H p (.lst (xs ++ zs)))
theorem op_catL : OpR X (binaryOp .Add) (rCatL X.K) := by
  intro pins s σ H x y v u Q I rx ry h
  obtain ⟨l, b, xs, zs, rfl, rfl, hH, hB, hz, q⟩ := h
  cases rx
  cases ry
  obtain ⟨its, r, ⟨⟨cls, dd, data, sl⟩, n, ho, hc, hdn, hd⟩, hl⟩ := I.list hH
  obtain ⟨its2, r2, ⟨⟨cls2, dd2, data2, sl2⟩, n2, ho2, hc2, hdn2, hd2⟩, hl2⟩ := I.list hB
  simp only at hc hd hc2 hd2
  subst hc hd hc2 hd2
  have e : its.toArray ++ its2.toArray = (its ++ its2).toArray := by simp
  have hs : its.length + its2.length ≤ sizeLine := by rw [← r.length, ← r2.length]; exact hz
  refine concat_meets ⟨_, ho, rfl⟩ ⟨_, ho2, rfl⟩ noFill_list_add seq_list_add PySem.F.slot_list_add PySem.F.entry_list_add (PySem.F.args_list_add_2 _ _) (list_addW l b its.toArray its2.toArray n n2 dd dd2 sl sl2 (by simpa using hs)) ⟨ho, ho2, ?_⟩
  rw [e]
  exact ⟨.ref _, _, I.lnew (t' := s.toks) (r.append r2) (by rw [List.length_append]; omega), rfl, q _ I.fresh⟩
def addD : D → D → Option D
  | .int i, .int j => some (.int (i + j))
  | .lst a, .lst b => if a.length + b.length < LIM then some (.lst (a ++ b)) else none
  | .tup a, .tup b => if a.length + b.length < LIM then some (.tup (a ++ b)) else none
  | .str a, .str b => if a.length + b.length < LIM then some (.str (a ++ b)) else none
  | _, _ => none
theorem Reps.new {K : PySem.W.Frag} {F : Addr → Prop} {as : List Addr} {H : Hp} {vs : List V} {ds : List D} {p : Addr} {o : HO} (n : H p = none) (r : Reps K F as H vs ds) : Reps K F as (upd H p o) vs ds :=
  r.frame (fun b u e _ => by rw [upd_ne (ne_of_none e n)]; exact e) (fun b u e _ => by rw [upd_ne (ne_of_none e n)]; exact e) fun _ _ h => h
theorem same_new {H : Hp} {p : Addr} {o : HO} (h : H p = none) : Same H (upd H p o) := fun b x e => by rw [upd_ne (ne_of_none e h)]; exact e
theorem not_of_tr {F : Addr → Prop} {H : Hp} {p : Addr} (tr : ∀ a, F a → ∃ o, H a = some o) (n : H p = none) : ¬ F p := fun z => by
  obtain ⟨o, z⟩ := tr p z
  rw [n] at z; cases z
theorem Rep.newL {K : PySem.W.Frag} {F : Addr → Prop} {as : List Addr} {H : Hp} {vs : List V} {ds : List D} {p : Addr} (tr : ∀ a, F a → ∃ o, H a = some o) (n : H p = none) (r : Reps K F as H vs ds) : Rep K F as (upd H p (.lst vs)) (.ref p) (.lst ds) :=
  .lst (.inl ⟨not_of_tr tr n, .inl upd_same⟩) (r.new n)
theorem Rep.newT {K : PySem.W.Frag} {F : Addr → Prop} {as : List Addr} {H : Hp} {vs : List V} {ds : List D} {p : Addr} (n : H p = none) (r : Reps K F as H vs ds) : Rep K F as (upd H p (.tup vs)) (.ref p) (.tup ds) :=
  .tup upd_same (r.new n)
theorem o_add : Op2 X (binaryOp .Add) addD := ⟨_, op_add.or (op_catL.or (op_catA.or op_add_str)), fun F as H x y d1 d2 d Q tr r1 r2 e q => by
  cases d1 with
  | int i =>
    cases d2 with
    | int j => cases e; rw [r1.t_int, r2.t_int]; exact .inl ⟨i, j, rfl, rfl, q _ H (Same.refl _) (.int _)⟩
    | _ => cases e
  | lst xs =>
    cases d2 with
    | lst ys =>
      unfold addD at e
      dsimp only at e
      split at e
      · rename_i h
        cases e
        obtain ⟨a, us, rfl, s1, q1⟩ := r1.t_lst
        obtain ⟨b, ws, rfl, s2, q2⟩ := r2.t_lst
        refine .inr (.inl ⟨a, b, us, ws, rfl, rfl, s1, s2, ?_, fun p np => q _ _ (same_new np) (.newL tr np (q1.append q2))⟩)
        rw [q1.length, q2.length]
        exact Nat.le_of_lt (Nat.lt_trans h lim_line)
      · cases e
    | _ => cases e
  | tup xs =>
    cases d2 with
    | tup ys =>
      unfold addD at e
      dsimp only at e
      split at e
      · rename_i h
        cases e
        obtain ⟨a, us, rfl, s1, q1⟩ := r1.t_tup
        obtain ⟨b, ws, rfl, s2, q2⟩ := r2.t_tup
        refine .inr (.inr (.inl ⟨a, b, us, ws, rfl, rfl, SqT.of s1, SqT.of s2, ?_, fun z => ?_, fun z y => ?_, fun z y p np => q _ _ (same_new np) (.newT np (q1.append q2))⟩))
        · rw [q1.length, q2.length]
          exact Nat.le_of_lt (Nat.lt_trans h lim_line)
        · subst z
          cases q1
          exact q _ H (Same.refl _) (.tup s2 q2)
        · subst y
          cases q2
          rw [List.append_nil] at q
          exact q _ H (Same.refl _) (.tup s1 q1)
      · cases e
    | _ => cases e
  | str xs =>
    cases d2 with
    | str ys =>
      unfold addD at e
      dsimp only at e
      split at e
      · rename_i h
        cases e
        rw [r1.t_str, r2.t_str]
        exact .inr (.inr (.inr ⟨xs, ys, rfl, rfl, Nat.le_of_lt (Nat.lt_trans h lim_line), q _ H (Same.refl _) (.str _)⟩))
      · cases e
    | _ => cases e
  | _ => cases e⟩
def subD : D → D → Option D
  | .int i, .int j => some (.int (i - j))
  | _, _ => none
theorem o_sub : Op2 X (binaryOp .Sub) subD := ⟨_, op_sub, fun F as H x y d1 d2 d Q tr r1 r2 e q => by
  unfold subD at e
  split at e
  · cases e
    rw [r1.t_int, r2.t_int]
    exact ⟨_, _, rfl, rfl, q _ H (Same.refl _) (.int _)⟩
  · cases e⟩
def mulD : D → D → Option D
  | .int i, .int j => if (-(2 ^ 64) < i ∧ i < 2 ^ 64) ∨ (-(2 ^ 64) < j ∧ j < 2 ^ 64) then some (.int (i * j)) else none
  | _, _ => none
theorem o_mul : Op2 X (binaryOp .Mult) mulD := ⟨_, op_mul, fun F as H x y d1 d2 d Q tr r1 r2 e q => by
  unfold mulD at e
  split at e
  · split at e
    · rename_i h
      cases e
      rw [r1.t_int, r2.t_int]
      exact ⟨_, _, rfl, rfl, h, q _ H (Same.refl _) (.int _)⟩
    · cases e
  · cases e⟩
def modD : D → D → Option D
  | .int i, .int j => if 0 < j then some (.int (i % j)) else none
  | _, _ => none
theorem o_mod : Op2 X (binaryOp .Mod) modD := ⟨_, op_mod, fun F as H x y d1 d2 d Q tr r1 r2 e q => by
  unfold modD at e
  split at e
  · split at e
    · rename_i h
      cases e
      rw [r1.t_int, r2.t_int]
      exact ⟨_, _, rfl, rfl, h, q _ H (Same.refl _) (.int _)⟩
    · cases e
  · cases e⟩
def fdivD : D → D → Option D
  | .int i, .int j => if 0 < j ∧ j < 1073741824 then some (.int (i / j)) else none
  | _, _ => none
theorem o_fdiv : Op2 X (binaryOp .FloorDiv) fdivD := ⟨_, op_fdiv, fun F as H x y d1 d2 d Q tr r1 r2 e q => by
  unfold fdivD at e
  split at e
  · split at e
    · rename_i h
      cases e
      rw [r1.t_int, r2.t_int]
      exact ⟨_, _, rfl, rfl, h, q _ H (Same.refl _) (.int _)⟩
    · cases e
  · cases e⟩
/-! ### order -/
def ordI (p : Int → Int → Bool) : D → D → Option D
  | .int i, .int j => some (.bl (p i j))
  | _, _ => none
theorem o_ordI {op : CmpOp} {p : Int → Int → Bool} (h : OpR X (compareOp op) (rI0 fun i j => .bl (p i j))) : Op2 X (compareOp op) (ordI p) := ⟨_, h, fun F as H x y d1 d2 d Q tr r1 r2 e q => by
  unfold ordI at e
  split at e
  · cases e
    rw [r1.t_int, r2.t_int]
    exact ⟨_, _, rfl, rfl, q _ H (Same.refl _) (.bl _)⟩
  · cases e⟩
abbrev ltD := ordI fun i j => decide (i < j)
abbrev leD := ordI fun i j => decide (i ≤ j)
abbrev gtD := ordI fun i j => decide (j < i)
abbrev geD := ordI fun i j => decide (j ≤ i)
theorem o_lt : Op2 X (compareOp .Lt) ltD := o_ordI op_lt
theorem o_le : Op2 X (compareOp .LtE) leD := o_ordI op_le
theorem o_gt : Op2 X (compareOp .Gt) gtD := o_ordI op_gt
theorem o_ge : Op2 X (compareOp .GtE) geD := o_ordI op_ge
/-! ### is None -/
def D.isNon : D → Bool
  | .non => true
  | _ => false
theorem RepT.isNon {K : PySem.W.Frag} {F : Addr → Prop} {as : List Addr} {H : Hp} {v : V} {d : D} (r : RepT K F as H v d) : decide (v = .non) = d.isNon := by
  have key : ∀ {v d}, Rep K F as H v d → decide (v = V.non) = d.isNon := fun r => by cases r <;> rfl
  cases r with
  | rep r => exact key r
  | own r _ => cases r with
    | lst _ _ => rfl
    | dct _ _ _ => rfl
    | sca r _ => exact key r
def isD : D → D → Option D
  | a, .non => some (.bl a.isNon)
  | _, _ => none
def isNotD : D → D → Option D
  | a, .non => some (.bl (!a.isNon))
  | _, _ => none
theorem o_is : Op2 X (compareOp .Is) isD := ⟨_, op_isN, fun F as H x y d1 d2 d Q tr r1 r2 e q => by
  unfold isD at e
  split at e
  · cases e
    rw [r2.t_non]
    exact ⟨rfl, by rw [r1.isNon]; exact q _ H (Same.refl _) (.bl _)⟩
  · cases e⟩
theorem o_isNot : Op2 X (compareOp .IsNot) isNotD := ⟨_, op_notN, fun F as H x y d1 d2 d Q tr r1 r2 e q => by
  unfold isNotD at e
  split at e
  · cases e
    rw [r2.t_non]
    exact ⟨rfl, by rw [r1.isNon]; exact q _ H (Same.refl _) (.bl _)⟩
  · cases e⟩
end
end G
end L2
end G11_
section G12_
set_option Elab.async false
set_option linter.all false
set_option maxRecDepth 100000
set_option maxHeartbeats 1000000
namespace L2
namespace G
open PySem PySem.Spec PyProof.Rows
section
variable {X : Cx} {O : List Nat} {Z : ZT} {e a b c : Expr} {es : List Expr} {f fa fb fc : Env → M D} {r : Env → M (List D)} {pos p : Pos} {x : Str}
/-! ### chains a <= b <= c -/
def E.chain (g h : D → D → Option D) (fa fb fc : Env → M D) : Env → M D := fun ρ => bnd (fa ρ) fun x => bnd (fb ρ) fun y => bnd (lift (g x y)) fun z => match z with
  | .bl true => bnd (fc ρ) fun w => lift (h y w)
  | .bl false => ret (.bl false)
  | _ => bad
theorem chain_fin {σ : L2.St} {H : Hp} {g : Gh} {r1 r2 : R2} {h1 h2 : D → D → Option D} {Q : VK} (ok : g.ok X.K O σ H)
    (hr1 : ∀ (F : Addr → Prop) (as : List Addr) (H : Hp) (x y : V) (d1 d2 d : D) (Q : VK), (∀ a, F a → ∃ o, H a = some o) →
      RepT X.K F as H x d1 → RepT X.K F as H y d2 → h1 d1 d2 = some d → (∀ v H', Same H H' → Rep X.K F as H' v d → Q v H') → r1 x y H Q)
    (hr2 : ∀ (F : Addr → Prop) (as : List Addr) (H : Hp) (x y : V) (d1 d2 d : D) (Q : VK), (∀ a, F a → ∃ o, H a = some o) →
      RepT X.K F as H x d1 → RepT X.K F as H y d2 → h2 d1 d2 = some d → (∀ v H', Same H H' → Rep X.K F as H' v d → Q v H') → r2 x y H Q)
    (q : Ev (E.chain h1 h2 fa fb fc g.ρ g.st) (fun d st' => ∀ as' v H', Grow g.as H as' H' → SRep X.K as' st' H' → Rep X.K (Ff g.B as' O σ) as' H' v d → Q v H') (Zc X.K O g.B g.H0 g.as0 Z)) :
    tChain r1 r2 (tU X.K O Z fa) (tU X.K O Z fb) (tU X.K O Z fc) σ H Q := by
  refine two (k := fun x y => bnd (lift (h1 x y)) fun z => match z with
    | .bl true => bnd (fc g.ρ) fun w => lift (h2 y w)
    | .bl false => ret (.bl false)
    | _ => bad) (ZZ := fun _ _ => True) ok q fun d1 d2 x y as' st' H' g1 s1 r1' r2' q => ?_
  obtain ⟨d, e, q⟩ := (Ev.bnd q).lift
  have ok1 := ok.step g1 s1
  refine hr1 _ as' H' x y d1 d2 d _ (ok1.wf.tr s1) r1' r2' e fun v H2 sm rv => ?_
  have s2 := s1.same sm
  have ok2 := ok1.step (grow_same sm) s2
  cases d with
  | bl k =>
    cases rv
    refine ⟨k, rfl, ?_⟩
    cases k with
    | true =>
      rw [if_pos rfl]
      refine ⟨(g.at as' st').at as' st', ok2, (Ev.bnd q).mono (fun w st3 q as3 wv H3 g3 s3 rw' => ?_) fun _ _ z => z⟩
      obtain ⟨d3, e3, q⟩ := q.lift
      have g13 := (g1.trans (grow_same sm)).trans g3
      exact hr2 _ as3 H3 y wv d2 w d3 _ ((ok2.step g3 s3).wf.tr s3) (r2'.grow s1 ((grow_same sm).trans g3)) rw' e3 fun v H4 sm4 rv => q as3 v H4 (g13.trans (grow_same sm4)) (s3.same sm4) rv
    | false =>
      rw [if_neg Bool.false_ne_true]
      exact q as' _ H2 (g1.trans (grow_same sm)) s2 (.bl false)
  | _ => exact q.elim
theorem de_chain {op op' : CmpOp} {g h : D → D → Option D} (ho : Op2 X (compareOp op) g) (ho' : Op2 X (compareOp op') h) (ha : DU X O Z a fa) (hb : DU X O Z b fb) (hc : DU X O Z c fc) (hm : lastMarks [op, op'] [b, c] = false := by rfl) : DE X O Z (.Compare a [op, op'] [b, c] pos) (E.chain g h fa fb fc) := by
  obtain ⟨r1, ho, hr1⟩ := ho
  obtain ⟨r2, ho', hr2⟩ := ho'
  exact PE.imp (pe_chain ho ho' ha hb hc hm) fun σ H Q ⟨g, ok, q⟩ => chain_fin ok hr1 hr2 q
theorem dt_chain {op op' : CmpOp} {g h : D → D → Option D} (ho : Op2 X (compareOp op) g) (ho' : Op2 X (compareOp op') h) (ha : DU X O Z a fa) (hb : DU X O Z b fb) (hc : DU X O Z c fc) (hm : lastMarks [op, op'] [b, c] = false := by rfl) : DT X O Z (.Compare a [op, op'] [b, c] pos) (T.val (E.chain g h fa fb fc)) := by
  obtain ⟨r1, ho, hr1⟩ := ho
  obtain ⟨r2, ho', hr2⟩ := ho'
  exact PT.imp (pt_chain ho ho' ha hb hc hm) fun σ H Q ⟨g, ok, q⟩ => chain_fin (Q := fun x H' => ∃ k, x = .bl k ∧ Q k H') ok hr1 hr2 (test_fin ok q)
/-! ### -x -/
def negD : D → Option D
  | .int i => some (.int (-i))
  | _ => none
theorem dn_neg (ha : DU X O Z a fa) : DN X O Z (.UnaryOp .USub a pos) (E.op1 negD fa) := PE.imp (pe_un un_neg ha) fun σ H Q ⟨g, ok, q⟩ =>
  ⟨g, ok, (Ev.bnd q).mono (fun d st' q as' v H' gr s r => by
    obtain ⟨d', e, q⟩ := q.lift
    cases d with
    | int i => cases e; exact ⟨i, r.t_int, q as' _ H' gr s (.sca (.int _) fun p z => nomatch z) fun p z => nomatch z⟩
    | _ => cases e) fun _ _ z => z⟩
/-! ### x[i], x[i:j] -/
def ixI (n : Nat) (i : Int) : Option Nat := if 0 ≤ i then (if i < n then some i.toNat else none) else if -(n : Int) ≤ i then some (i + n).toNat else none
def ixD : D → D → Option D
  | .lst ds, .int i => atI ds i
  | .tup ds, .int i => atI ds i
  | .ftup ds, .int i => atI ds i
  | .str z, .int i => (atI z.cps.toList i).map fun c => .str ⟨#[c]⟩
  | _, _ => none
theorem atI_reps {K : PySem.W.Frag} {F : Addr → Prop} {as : List Addr} {H : Hp} {vs : List V} {ds : List D} {i : Int} {d : D} (r : Reps K F as H vs ds) (e : atI ds i = some d) : ∃ v, atI vs i = some v ∧ Rep K F as H v d := by
  unfold atI at e ⊢
  rw [r.length]
  cases q : ixN ds.length i with
  | none => rw [q] at e; cases e
  | some j =>
    rw [q] at e
    obtain ⟨v, h, rv⟩ := r.get' (show ds[j]? = some d from e)
    exact ⟨v, h, rv⟩
theorem ix_fin {F : Addr → Prop} {as : List Addr} {H : Hp} {x y : V} {d1 d2 d : D} {Q : VK} (L : Lens X.K H) (r1 : RepT X.K F as H x d1) (r2 : RepT X.K F as H y d2) (e : ixD d1 d2 = some d) (hz : ∀ z, d1 = .str z → z.length ≤ sizeLine) (q : ∀ v, Rep X.K F as H v d → Q v H) : rIx X.K x y H Q := by
  cases d1 with
  | lst ds =>
    cases d2 with
    | int i =>
      obtain ⟨a, us, rfl, s1, q1⟩ := r1.t_lst
      obtain ⟨v, h, rv⟩ := atI_reps q1 e
      exact .inl ⟨a, us, i, v, rfl, r2.t_int, s1, h, q v rv⟩
    | _ => cases e
  | tup ds =>
    cases d2 with
    | int i =>
      obtain ⟨a, us, rfl, s1, q1⟩ := r1.t_tup
      obtain ⟨v, h, rv⟩ := atI_reps q1 e
      exact .inr (.inl ⟨a, us, i, v, rfl, r2.t_int, SqT.of s1, h, q v rv⟩)
    | _ => cases e
  | ftup ds =>
    cases d2 with
    | int i =>
      obtain ⟨a, us, rfl, s1, q1⟩ := r1.t_ftup
      obtain ⟨v, h, rv⟩ := atI_reps q1 e
      exact .inr (.inl ⟨a, us, i, v, rfl, r2.t_int, s1.sq, h, q v rv⟩)
    | _ => cases e
  | str z =>
    cases d2 with
    | int i =>
      unfold ixD at e
      dsimp only at e
      cases k : atI z.cps.toList i with
      | none => rw [k] at e; cases e
      | some c =>
        rw [k] at e
        cases e
        exact .inr (.inr ⟨z, i, c, r1.t_str, r2.t_int, hz z rfl, k, q _ (.str _)⟩)
    | _ => cases e
  | _ => cases e
def ixD' (a b : D) : Option D := match a with
  | .str z => if z.length < LIM then ixD a b else none
  | _ => ixD a b
def E.ix (fa fb : Env → M D) : Env → M D := E.op2 ixD' fa fb
theorem de_ix (ha : DU X O Z a fa) (hb : DU X O Z b fb) (hs : PlainIx b := by exact fun _ _ => rfl) : DE X O Z (.Subscript a b pos) (E.ix fa fb) := PE.imp (pe_ix (r := fun x y H Q => Lens X.K H → rIx X.K x y H Q) (fun value slice pins s σ H o i ov iv Q I r1 r2 h => ix_seq value slice pins s σ H o i ov iv Q I r1 r2 (h (Inv.lens I))) ha hb hs) fun σ H Q ⟨g, ok, q⟩ => by
  refine two (k := fun x y => lift (ixD' x y)) (ZZ := fun _ _ => True) ok q fun d1 d2 x y as' st' H' g1 s1 r1 r2 q => ?_
  obtain ⟨d, e, q⟩ := q.lift
  have e' : ixD d1 d2 = some d ∧ ∀ z, d1 = .str z → z.length ≤ sizeLine := by
    unfold ixD' at e
    split at e
    · split at e
      · rename_i h
        exact ⟨e, fun z h' => by cases h'; exact Nat.le_of_lt (Nat.lt_trans h lim_line)⟩
      · cases e
    · rename_i h
      exact ⟨e, fun z h' => absurd h' (h z)⟩
  exact fun L => ix_fin L r1 r2 e'.1 e'.2 fun v rv => q as' v H' g1 s1 rv
/-- bounds of a slice -/
def E.oNone : Env → M (Option Int) := fun _ => ret none
def E.oSome (f : Env → M D) : Env → M (Option Int) := fun ρ => bnd (f ρ) fun d => match d with
  | .int i => ret (some i)
  | _ => bad
def cutD (xs : List D) (lo hi : Option Int) : List D := (xs.drop (HT.sIx xs.length 0 lo)).take (HT.sIx xs.length xs.length hi - HT.sIx xs.length 0 lo)
def sliceD (d : D) (lo hi : Option Int) : Option D := match d with
  | .lst xs => some (.lst (cutD xs lo hi))
  | .tup xs => some (.tup (cutD xs lo hi))
  | .ftup xs => if HT.sIx xs.length 0 lo = 0 ∧ HT.sIx xs.length xs.length hi = xs.length then some (.ftup xs) else some (.tup (cutD xs lo hi))
  | _ => none
def E.slice (f : Env → M D) (lo hi : Env → M (Option Int)) : Env → M D := fun ρ => bnd (f ρ) fun d => bnd (lo ρ) fun l => bnd (hi ρ) fun h => lift (sliceD d l h)
def tO (K : PySem.W.Frag) (O : List Nat) (Z : ZT) (f : Env → M (Option Int)) : TO := fun σ H Q => ∃ g : Gh, g.ok K O σ H ∧ Ev (f g.ρ g.st) (fun o st' => ∀ as' H', Grow g.as H as' H' → SRep K as' st' H' → Q o H') (Zc K O g.B g.H0 g.as0 Z)
abbrev DO (X : Cx) (O : List Nat) (Z : ZT) (e : Option Expr) (f : Env → M (Option Int)) : Prop := PO X e (tO X.K O Z f)
theorem PO.imp {X : Cx} {e : Option Expr} {t t' : TO} (h : PO X e t) (k : ∀ σ H Q, t' σ H Q → t σ H Q) : PO X e t' := by
  obtain ⟨h⟩ := h
  refine ⟨fun pins s σ H Q I q => ?_⟩
  exact h pins s σ H Q I (k σ H Q q)
theorem do_none : DO X O Z none E.oNone := PO.imp po_none fun σ H Q ⟨g, ok, q⟩ => q _ H (Grow.refl _ _) ok.sr
theorem do_some (h : DU X O Z e f) : DO X O Z (some e) (E.oSome f) := PO.imp (po_some h) fun σ H Q ⟨g, ok, q⟩ => ⟨g, ok, (Ev.bnd q).mono (fun d st' q as' v H' gr s r => by
  cases d with
  | int i => exact ⟨i, r.t_int, q as' H' gr s⟩
  | _ => exact q.elim) fun _ _ z => z⟩
theorem Reps.take {K : PySem.W.Frag} {F : Addr → Prop} {as : List Addr} {H : Hp} : ∀ (n : Nat) {vs : List V} {ds : List D}, Reps K F as H vs ds → Reps K F as H (vs.take n) (ds.take n)
  | 0, _, _, _ => by simp; exact .nil
  | n + 1, _, _, .nil => by simp; exact .nil
  | n + 1, _, _, .cons h r => by simp only [List.take_succ_cons]; exact .cons h (r.take n)
theorem Reps.drop {K : PySem.W.Frag} {F : Addr → Prop} {as : List Addr} {H : Hp} : ∀ (n : Nat) {vs : List V} {ds : List D}, Reps K F as H vs ds → Reps K F as H (vs.drop n) (ds.drop n)
  | 0, _, _, r => r
  | n + 1, _, _, .nil => .nil
  | n + 1, _, _, .cons h r => r.drop n
theorem Reps.cut {K : PySem.W.Frag} {F : Addr → Prop} {as : List Addr} {H : Hp} {vs : List V} {ds : List D} (lo hi : Option Int) (r : Reps K F as H vs ds) : Reps K F as H (cutV vs lo hi) (cutD ds lo hi) := by
  unfold cutV cutD
  rw [r.length]
  exact (r.drop _).take _
theorem cutD_whole {xs : List D} {lo hi : Option Int} (h : HT.sIx xs.length 0 lo = 0 ∧ HT.sIx xs.length xs.length hi = xs.length) : cutD xs lo hi = xs := by
  unfold cutD
  rw [h.1, h.2, Nat.sub_zero, List.drop_zero, List.take_length]
theorem de_slice {lo hi : Option Expr} {p2 : Pos} {fl fh : Env → M (Option Int)} (ha : DU X O Z a fa) (hl : DO X O Z lo fl) (hh : DO X O Z hi fh) : DE X O Z (.Subscript a (.Slice lo hi none p2) pos) (E.slice fa fl fh) := PE.imp (pe_slice (sl_list.or sl_tupA) ha hl hh) fun σ H Q ⟨g, ok, q⟩ => by
  refine ⟨g, ok, (Ev.bnd q).mono (fun d st1 q as1 v H1 g1 s1 r1 => ?_) fun _ _ z => z⟩
  have ok1 := ok.step g1 s1
  refine ⟨g.at as1 st1, ok1, (Ev.bnd q).mono (fun l st2 q as2 H2 g2 s2 => ?_) fun _ _ z => z⟩
  have ok2 := ok1.step g2 s2
  refine ⟨(g.at as1 st1).at as2 st2, ok2, (Ev.bnd q).mono (fun h st3 q as3 H3 g3 s3 => ?_) fun _ _ z => z⟩
  have ok3 := ok2.step g3 s3
  obtain ⟨d', e, q⟩ := q.lift
  have r3 := r1.grow s1 (g2.trans g3)
  have g13 := g1.trans (g2.trans g3)
  cases d with
  | lst xs =>
    cases e
    obtain ⟨b, us, rfl, sq, rs⟩ := r3.t_lst
    exact .inl ⟨b, us, rfl, sq, fun p np => q as3 _ _ (g13.trans (Grow.new np)) (s3.new np) (.newL (ok3.wf.tr s3) np (rs.cut l h))⟩
  | tup xs =>
    cases e
    obtain ⟨b, us, rfl, sq, rs⟩ := r3.t_tup
    refine .inr ⟨b, us, rfl, SqT.of sq, fun w => ?_, fun _ p np => q as3 _ _ (g13.trans (Grow.new np)) (s3.new np) (.newT np (rs.cut l h))⟩
    rw [rs.length] at w
    rw [cutD_whole w] at q
    exact q as3 _ H3 g13 s3 (.tup sq rs)
  | ftup xs =>
    unfold sliceD at e
    dsimp only at e
    obtain ⟨b, us, rfl, sq, rs⟩ := r3.t_ftup
    by_cases hw : HT.sIx xs.length 0 l = 0 ∧ HT.sIx xs.length xs.length h = xs.length
    · rw [if_pos hw] at e
      cases e
      refine .inr ⟨b, us, rfl, sq.sq, fun w => q as3 _ H3 g13 s3 (.ftup sq rs), fun w p np => absurd ?_ w⟩
      rw [rs.length]; exact hw
    · rw [if_neg hw] at e
      cases e
      refine .inr ⟨b, us, rfl, sq.sq, fun w => absurd ?_ hw, fun _ p np => q as3 _ _ (g13.trans (Grow.new np)) (s3.new np) (.newT np (rs.cut l h))⟩
      rw [rs.length] at w; exact w
  | _ => cases e
end
end G
end L2
end G12_
section G13_
set_option Elab.async false
set_option linter.all false
set_option maxRecDepth 100000
set_option maxHeartbeats 1000000
namespace L2
namespace G
open PySem PySem.Spec PyProof.Rows
section
variable {X : Cx} {O : List Nat} {Z : ZT} {e a b c : Expr} {es : List Expr} {f fa fb fc : Env → M D} {r : Env → M (List D)} {pos p : Pos} {x : Str}
theorem repTs1 {K : PySem.W.Frag} {F : Addr → Prop} {as : List Addr} {H : Hp} {vs : List V} {d : D} (r : RepTs K F as H vs [d]) : ∃ v, vs = [v] ∧ RepT K F as H v d := by
  cases r with
  | cons h r => cases r; exact ⟨_, rfl, h⟩
theorem repTs2 {K : PySem.W.Frag} {F : Addr → Prop} {as : List Addr} {H : Hp} {vs : List V} {d d' : D} (r : RepTs K F as H vs [d, d']) : ∃ v u, vs = [v, u] ∧ RepT K F as H v d ∧ RepT K F as H u d' := by
  cases r with
  | cons h r => cases r with
    | cons h' r => cases r; exact ⟨_, _, rfl, h, h'⟩
/-! ### isinstance -/
def D.ty : D → Option String
  | .non => some "NoneType"
  | .bl _ => some "bool"
  | .int _ => some "int"
  | .str _ => some "str"
  | .tup _ => some "tuple"
  | .ftup _ => some "tuple"
  | .lst _ => some "list"
  | .dct false _ _ => some "dict"
  | .dct true _ _ => none
  | .ref _ => none
def isInt : D → Option D
  | .bl _ => some (.bl true)
  | .int _ => some (.bl true)
  | .ref _ => none
  | .dct true _ _ => none
  | _ => some (.bl false)
def isBool : D → Option D
  | .bl _ => some (.bl true)
  | .ref _ => none
  | .dct true _ _ => none
  | _ => some (.bl false)
def isTup : D → Option D
  | .tup _ => some (.bl true)
  | .ftup _ => some (.bl true)
  | .ref _ => none
  | .dct true _ _ => none
  | _ => some (.bl false)
def isStr : D → Option D
  | .str _ => some (.bl true)
  | .ref _ => none
  | .dct true _ _ => none
  | _ => some (.bl false)
def isLst : D → Option D
  | .lst _ => some (.bl true)
  | .ref _ => none
  | .dct true _ _ => none
  | _ => some (.bl false)
def isDct : D → Option D
  | .dct false _ _ => some (.bl true)
  | .dct true _ _ => none
  | .ref _ => none
  | _ => some (.bl false)
def IsiOk (T : String) (g : D → Option D) : Prop := ∀ d b, g d = some b → ∃ k t, b = .bl k ∧ d.ty = some t ∧ kitB t T = some k
theorem isi_int : IsiOk "int" isInt := fun d b e => by
  cases d with
  | dct t ks vs => cases t <;> cases e <;> exact ⟨_, _, rfl, rfl, by decide +kernel⟩
  | _ => cases e <;> exact ⟨_, _, rfl, rfl, by decide +kernel⟩
theorem isi_bool : IsiOk "bool" isBool := fun d b e => by
  cases d with
  | dct t ks vs => cases t <;> cases e <;> exact ⟨_, _, rfl, rfl, by decide +kernel⟩
  | _ => cases e <;> exact ⟨_, _, rfl, rfl, by decide +kernel⟩
theorem isi_tuple : IsiOk "tuple" isTup := fun d b e => by
  cases d with
  | dct t ks vs => cases t <;> cases e <;> exact ⟨_, _, rfl, rfl, by decide +kernel⟩
  | _ => cases e <;> exact ⟨_, _, rfl, rfl, by decide +kernel⟩
theorem isi_str : IsiOk "str" isStr := fun d b e => by
  cases d with
  | dct t ks vs => cases t <;> cases e <;> exact ⟨_, _, rfl, rfl, by decide +kernel⟩
  | _ => cases e <;> exact ⟨_, _, rfl, rfl, by decide +kernel⟩
theorem isi_list : IsiOk "list" isLst := fun d b e => by
  cases d with
  | dct t ks vs => cases t <;> cases e <;> exact ⟨_, _, rfl, rfl, by decide +kernel⟩
  | _ => cases e <;> exact ⟨_, _, rfl, rfl, by decide +kernel⟩
theorem isi_dict : IsiOk "dict" isDct := fun d b e => by
  cases d with
  | dct t ks vs => cases t <;> cases e <;> exact ⟨_, _, rfl, rfl, by decide +kernel⟩
  | _ => cases e <;> exact ⟨_, _, rfl, rfl, by decide +kernel⟩
theorem DctO.ty {K : PySem.W.Frag} {H : Hp} {a : Addr} {o : HO} {ks : List D} {vs : List V} (h : Rd H a o) (d : DctO o false ks vs) : TyX K H (.ref a) (.type "dict") := by
  rcases d with ⟨_, _, rfl, _⟩ | ⟨_, z, _⟩
  · rcases h with h | ⟨u, h⟩
    · exact .base (.dK h)
    · exact .fDict h
  · cases z
theorem SqL.ty {K : PySem.W.Frag} {H : Hp} {a : Addr} {xs : List V} (h : SqL K H a xs) : TyX K H (.ref a) (.type "list") := by
  rcases h with (h | ⟨o, h⟩) | ⟨o, its, n, h, c, _⟩
  · exact .base (.lst h)
  · exact .base (.frz h)
  · exact .kList h c
theorem SqT.ty {K : PySem.W.Frag} {H : Hp} {a : Addr} {xs : List V} (h : SqT K H a xs) : TyX K H (.ref a) (.type "tuple") := by
  rcases h with (h | ⟨o, h⟩) | ⟨o, its, n, h, c, _⟩
  · exact .base (.tup h)
  · exact .fTuple h
  · exact .kTuple h c
theorem RepT.ty {K : PySem.W.Frag} {F : Addr → Prop} {as : List Addr} {H : Hp} {v : V} {d : D} {t : String} (r : RepT K F as H v d) (e : d.ty = some t) : TyX K H v (.type t) := by
  cases d with
  | non => cases e; rw [r.t_non]; exact .base .non
  | bl b => cases e; rw [r.t_bl]; exact .base (.bl b)
  | int i => cases e; rw [r.t_int]; exact .base (.int i)
  | str z => cases e; rw [r.t_str]; exact .base (.str z)
  | tup ds => cases e; obtain ⟨a, xs, rfl, s, _⟩ := r.t_tup; exact SqT.ty (SqT.of s)
  | ftup ds => cases e; obtain ⟨a, xs, rfl, s, _⟩ := r.t_ftup; exact SqT.ty s.sq
  | lst ds => cases e; obtain ⟨a, xs, rfl, s, _⟩ := r.t_lst; exact SqL.ty s
  | dct t ks ds =>
    cases t with
    | false => cases e; obtain ⟨a, o, xs, rfl, s, d, _⟩ := r.t_dct; exact DctO.ty s d
    | true => cases e
  | ref n => cases e
theorem de_isi {T : String} {y : Str} {p2 p3 : Pos} {g : D → Option D} (hT : IsiOk T g) (hg : Gl X "isinstance") (hm : X.mg "isinstance" = none) (hgy : Gl X y) (hmy : X.mg y = none) (hy : bootBuiltins y = some (.type T)) (he : DU X O Z e f)
    (hn : y ≠ "__name__" := by decide) (hd : (y == ("__debug__" : Str)) = false := by decide)
    (hs : starEach [e, .Name y p3] X.env = (false, eval e X.env) :: starEach [.Name y p3] X.env := by rfl) (hs2 : starEach [.Name y p3] X.env = (false, eval (.Name y p3) X.env) :: starEach [] X.env := by rfl) (hpl : (backTo pos (starEach [.Name y p3] X.env)).any (·.1) = false := by rfl) :
    DE X O Z (.Call (.Name "isinstance" p2) [e, .Name y p3] [] pos) (E.op1 g f) :=
  PE.imp (pe_callB call_isi hg hm (by decide +kernel : bootBuiltins "isinstance" = some (.builtin "isinstance")) (pa_cons he (pa_cons (pe_bltn (v := .ty T) hgy hmy hy rfl hn hd) pa_nil hs2) hs) (by decide) (by decide) hs hpl) fun σ H Q ⟨g, ok, q⟩ => by
    refine ⟨g, ok, (Ev.bnd q).mono (fun d st' q as' v H' gr s r => ?_) fun _ _ z => z⟩
    obtain ⟨b, e, q⟩ := q.lift
    obtain ⟨k, t, rfl, et, ek⟩ := hT d b e
    exact ⟨v, .ty T, _, _, k, rfl, .ty T, r.ty et, kit_ty ek, q as' _ H' gr s (.bl k)⟩
theorem call_lenR : CallR X (.builtin "len") (fun xs H Q => ∃ a kvs, xs = [V.ref a] ∧ Rd H a (.dK kvs) ∧ Q (.int kvs.length) H) := by
  intro pins s σ H xs us Q I r h
  obtain ⟨a, kvs, rfl, ha, q⟩ := h
  obtain ⟨u, rfl, ru⟩ := vals1 r
  cases ru
  exact d_len I ha fun t s' I' => ⟨.int kvs.length, H, I', ⟨t, rfl⟩, q⟩
theorem call_lenRT : CallR X (.builtin "len") (fun xs H Q => ∃ (p : Addr) (kvs : List (List Key × V)), xs = [.ref p] ∧ Rd H p (.dT kvs) ∧ Q (.int ((kvs.length : Nat) : Int)) H) := by
  intro pins s σ H xs us Q I r h
  obtain ⟨p, kvs, rfl, hp, q⟩ := h
  obtain ⟨u, rfl, rx⟩ := vals1 r
  obtain rfl : u = .ref p := rx
  obtain ⟨z, hd, ys, rel, dd⟩ := dt_rd I.hok hp
  have hl : kvs.length = ys.length := Paired.length rel
  refine call_len_dictH hd dd (by rw [← hl]; rw [sizeLine_eq] at z; omega) ?_
  rw [← hl]
  exact ⟨.int ((kvs.length : Nat) : Int), H, I.tok _, ⟨_, rfl⟩, q⟩
/-! ### len, abs, int -/
def lenD : List D → Option D
  | [.lst xs] => some (.int xs.length)
  | [.tup xs] => some (.int xs.length)
  | [.ftup xs] => some (.int xs.length)
  | [.str z] => if z.length < LIM then some (.int z.length) else none
  | [.dct _ ks _] => some (.int ks.length)
  | _ => none
theorem b_len : Bl X (.builtin "len") lenD := ⟨_, call_len.or (call_lenR.or call_lenRT), fun F as H xs ds d Q tr r e q => by
  unfold lenD at e
  split at e
  · cases e
    obtain ⟨v, rfl, rv⟩ := repTs1 r
    obtain ⟨a, us, rfl, s, rs⟩ := rv.t_lst
    exact .inl ⟨_, _, rfl, .inl ⟨us, s, rfl⟩, by rw [rs.length]; exact q _ H (Same.refl _) (.int _)⟩
  · cases e
    obtain ⟨v, rfl, rv⟩ := repTs1 r
    obtain ⟨a, us, rfl, s, rs⟩ := rv.t_tup
    exact .inl ⟨_, _, rfl, .inr ⟨us, SqT.of s, rfl⟩, by rw [rs.length]; exact q _ H (Same.refl _) (.int _)⟩
  · cases e
    obtain ⟨v, rfl, rv⟩ := repTs1 r
    obtain ⟨a, us, rfl, s, rs⟩ := rv.t_ftup
    exact .inl ⟨_, _, rfl, .inr ⟨us, s.sq, rfl⟩, by rw [rs.length]; exact q _ H (Same.refl _) (.int _)⟩
  · split at e
    · rename_i h
      cases e
      obtain ⟨v, rfl, rv⟩ := repTs1 r
      rw [rv.t_str]
      exact .inl ⟨_, _, rfl, ⟨Nat.le_of_lt (Nat.lt_trans h lim_line), rfl⟩, q _ H (Same.refl _) (.int _)⟩
    · cases e
  · cases e
    obtain ⟨v, rfl, rv⟩ := repTs1 r
    obtain ⟨a, o, us, rfl, s, dd, rs⟩ := rv.t_dct
    rcases dd with ⟨kvs, rfl, rfl, rfl, rfl⟩ | ⟨kvs, rfl, rfl, rfl, rfl⟩
    · refine .inr (.inl ⟨a, kvs, rfl, s, ?_⟩)
      rw [List.length_map] at q
      exact q _ H (Same.refl _) (.int _)
    · refine .inr (.inr ⟨a, kvs, rfl, s, ?_⟩)
      rw [List.length_map] at q
      exact q _ H (Same.refl _) (.int _)
  · cases e⟩
def absD : List D → Option D
  | [.int i] => some (.int (if i < 0 then -i else i))
  | _ => none
theorem b_abs : Bl X (.builtin "abs") absD := ⟨_, call_abs, fun F as H xs ds d Q tr r e q => by
  unfold absD at e
  split at e
  · cases e
    obtain ⟨v, rfl, rv⟩ := repTs1 r
    rw [rv.t_int]
    exact ⟨_, rfl, q _ H (Same.refl _) (.int _)⟩
  · cases e⟩
def intD : List D → Option D
  | [.int i] => some (.int i)
  | [.bl k] => some (.int (if k then 1 else 0))
  | _ => none
theorem b_int : Bl X (.type "int") intD := ⟨_, call_int1, fun F as H xs ds d Q tr r e q => by
  unfold intD at e
  split at e
  · cases e
    obtain ⟨v, rfl, rv⟩ := repTs1 r
    rw [rv.t_int]
    exact .inl ⟨_, rfl, q _ H (Same.refl _) (.int _)⟩
  · cases e
    obtain ⟨v, rfl, rv⟩ := repTs1 r
    rw [rv.t_bl]
    exact .inr ⟨_, rfl, q _ H (Same.refl _) (.int _)⟩
  · cases e⟩
/-! ### all, any, sum, min, max -/
def bools : List D → Option (List Bool)
  | [] => some []
  | .bl b :: r => (bools r).map (b :: ·)
  | _ :: _ => none
theorem Reps.bools {K : PySem.W.Frag} {F : Addr → Prop} {as : List Addr} {H : Hp} : ∀ {vs : List V} {ds : List D} {bs : List Bool}, Reps K F as H vs ds → G.bools ds = some bs → vs = bs.map V.bl
  | _, _, _, .nil, e => by cases e; rfl
  | _, _, _, .cons (d := d) h r, e => by
    cases d with
    | bl b =>
      unfold G.bools at e
      rw [Option.map_eq_some_iff] at e
      obtain ⟨bs, e, rfl⟩ := e
      cases h
      rw [r.bools e]
      rfl
    | _ => cases e
def allD : List D → Option D
  | [.lst ds] => (bools ds).map fun bs => .bl (bs.all id)
  | _ => none
def anyD : List D → Option D
  | [.lst ds] => (bools ds).map fun bs => .bl (bs.any id)
  | _ => none
theorem b_all (hc : X.calm = true) : Bl X (.builtin "all") allD := ⟨_, cr_all hc, fun F as H xs ds d Q tr r e q => by
  unfold allD at e
  split at e
  · rw [Option.map_eq_some_iff] at e
    obtain ⟨bs, e, rfl⟩ := e
    obtain ⟨v, rfl, rv⟩ := repTs1 r
    obtain ⟨a, us, rfl, s, rs⟩ := rv.t_lst
    rw [rs.bools e] at s
    exact ⟨a, bs, rfl, s, q _ H (Same.refl _) (.bl _)⟩
  · cases e⟩
theorem b_any (hc : X.calm = true) : Bl X (.builtin "any") anyD := ⟨_, cr_any hc, fun F as H xs ds d Q tr r e q => by
  unfold anyD at e
  split at e
  · rw [Option.map_eq_some_iff] at e
    obtain ⟨bs, e, rfl⟩ := e
    obtain ⟨v, rfl, rv⟩ := repTs1 r
    obtain ⟨a, us, rfl, s, rs⟩ := rv.t_lst
    rw [rs.bools e] at s
    exact ⟨a, bs, rfl, s, q _ H (Same.refl _) (.bl _)⟩
  · cases e⟩
def intsD : List D → Option (List Int)
  | [] => some []
  | .int b :: r => (intsD r).map (b :: ·)
  | _ :: _ => none
theorem Reps.toInts {K : PySem.W.Frag} {F : Addr → Prop} {as : List Addr} {H : Hp} : ∀ {vs : List V} {ds : List D} {bs : List Int}, Reps K F as H vs ds → G.intsD ds = some bs → vs = bs.map V.int
  | _, _, _, .nil, e => by cases e; rfl
  | _, _, _, .cons (d := d) h r, e => by
    cases d with
    | int b =>
      unfold G.intsD at e
      rw [Option.map_eq_some_iff] at e
      obtain ⟨bs, e, rfl⟩ := e
      cases h
      rw [r.toInts e]
      rfl
    | _ => cases e
def sumD : List D → Option D
  | [.lst ds] => (intsD ds).map fun ns => .int ns.sum
  | _ => none
theorem b_sum (hc : X.calm = true) : Bl X (.builtin "sum") sumD := ⟨_, cr_sum hc, fun F as H xs ds d Q tr r e q => by
  unfold sumD at e
  split at e
  · rw [Option.map_eq_some_iff] at e
    obtain ⟨bs, e, rfl⟩ := e
    obtain ⟨v, rfl, rv⟩ := repTs1 r
    obtain ⟨a, us, rfl, s, rs⟩ := rv.t_lst
    rw [rs.toInts e] at s
    exact ⟨a, bs, rfl, s, q _ H (Same.refl _) (.int _)⟩
  · cases e⟩
def maxL : List Int → Option Int
  | [] => none
  | x :: r => some (r.foldl (fun m y => if m < y then y else m) x)
def minL : List Int → Option Int
  | [] => none
  | x :: r => some (r.foldl (fun m y => if y < m then y else m) x)
theorem maxL_spec : ∀ (r : List Int) (x : Int), (r.foldl (fun m y => if m < y then y else m) x) ∈ x :: r ∧ ∀ y ∈ x :: r, y ≤ r.foldl (fun m y => if m < y then y else m) x
  | [], x => ⟨by simp, by simp⟩
  | z :: r, x => by
    simp only [List.foldl_cons]
    by_cases h : x < z
    · rw [if_pos h]
      have q := maxL_spec r z
      refine ⟨List.mem_cons_of_mem _ q.1, fun y hy => ?_⟩
      rcases List.mem_cons.mp hy with e | hy
      · have := q.2 z (List.mem_cons_self ..); omega
      · exact q.2 y hy
    · rw [if_neg h]
      have q := maxL_spec r x
      refine ⟨?_, fun y hy => ?_⟩
      · rcases List.mem_cons.mp q.1 with e | m
        · rw [e]; exact List.mem_cons_self ..
        · exact List.mem_cons_of_mem _ (List.mem_cons_of_mem _ m)
      · rcases List.mem_cons.mp hy with e | hy
        · rw [e]; exact q.2 x (List.mem_cons_self ..)
        · rcases List.mem_cons.mp hy with e | hy
          · have := q.2 x (List.mem_cons_self ..); omega
          · exact q.2 y (List.mem_cons_of_mem _ hy)
theorem minL_spec : ∀ (r : List Int) (x : Int), (r.foldl (fun m y => if y < m then y else m) x) ∈ x :: r ∧ ∀ y ∈ x :: r, r.foldl (fun m y => if y < m then y else m) x ≤ y
  | [], x => ⟨by simp, by simp⟩
  | z :: r, x => by
    simp only [List.foldl_cons]
    by_cases h : z < x
    · rw [if_pos h]
      have q := minL_spec r z
      refine ⟨List.mem_cons_of_mem _ q.1, fun y hy => ?_⟩
      rcases List.mem_cons.mp hy with e | hy
      · have := q.2 z (List.mem_cons_self ..); omega
      · exact q.2 y hy
    · rw [if_neg h]
      have q := minL_spec r x
      refine ⟨?_, fun y hy => ?_⟩
      · rcases List.mem_cons.mp q.1 with e | m
        · rw [e]; exact List.mem_cons_self ..
        · exact List.mem_cons_of_mem _ (List.mem_cons_of_mem _ m)
      · rcases List.mem_cons.mp hy with e | hy
        · rw [e]; exact q.2 x (List.mem_cons_self ..)
        · rcases List.mem_cons.mp hy with e | hy
          · have := q.2 x (List.mem_cons_self ..); omega
          · exact q.2 y (List.mem_cons_of_mem _ hy)
def maxD : List D → Option D
  | [.lst ds] => ((intsD ds).bind maxL).map .int
  | [.int i, .int j] => some (.int (if j > i then j else i))
  | _ => none
def minD : List D → Option D
  | [.lst ds] => ((intsD ds).bind minL).map .int
  | [.int i, .int j] => some (.int (if j < i then j else i))
  | _ => none
theorem b_max (hc : X.calm = true) : Bl X (.builtin "max") maxD := ⟨_, (cr_max hc).or (call_max2 hc), fun F as H xs ds d Q tr r e q => by
  unfold maxD at e
  split at e
  · rw [Option.map_eq_some_iff] at e
    obtain ⟨m, e, rfl⟩ := e
    rw [Option.bind_eq_some_iff] at e
    obtain ⟨ns, e, em⟩ := e
    obtain ⟨v, rfl, rv⟩ := repTs1 r
    obtain ⟨a, us, rfl, s, rs⟩ := rv.t_lst
    rw [rs.toInts e] at s
    cases ns with
    | nil => cases em
    | cons x r =>
      cases em
      refine .inl ⟨a, _, rfl, s, Nat.succ_pos _, fun m hm hl => ?_⟩
      have sp := maxL_spec r x
      have : m = r.foldl (fun m y => if m < y then y else m) x := Int.le_antisymm (sp.2 m hm) (hl _ sp.1)
      rw [this]
      exact q _ H (Same.refl _) (.int _)
  · cases e
    obtain ⟨v, u, rfl, r1, r2⟩ := repTs2 r
    rw [r1.t_int, r2.t_int]
    exact .inr ⟨_, _, rfl, q _ H (Same.refl _) (.int _)⟩
  · cases e⟩
theorem b_min (hc : X.calm = true) : Bl X (.builtin "min") minD := ⟨_, (cr_min hc).or (call_min2 hc), fun F as H xs ds d Q tr r e q => by
  unfold minD at e
  split at e
  · rw [Option.map_eq_some_iff] at e
    obtain ⟨m, e, rfl⟩ := e
    rw [Option.bind_eq_some_iff] at e
    obtain ⟨ns, e, em⟩ := e
    obtain ⟨v, rfl, rv⟩ := repTs1 r
    obtain ⟨a, us, rfl, s, rs⟩ := rv.t_lst
    rw [rs.toInts e] at s
    cases ns with
    | nil => cases em
    | cons x r =>
      cases em
      refine .inl ⟨a, _, rfl, s, Nat.succ_pos _, fun m hm hl => ?_⟩
      have sp := minL_spec r x
      have : m = r.foldl (fun m y => if y < m then y else m) x := Int.le_antisymm (hl _ sp.1) (sp.2 m hm)
      rw [this]
      exact q _ H (Same.refl _) (.int _)
  · cases e
    obtain ⟨v, u, rfl, r1, r2⟩ := repTs2 r
    rw [r1.t_int, r2.t_int]
    exact .inr ⟨_, _, rfl, q _ H (Same.refl _) (.int _)⟩
  · cases e⟩
/-! ### tuple(), list() of sequences -/
def tupleD : List D → Option D
  | [.lst ds] => some (.tup ds)
  | [.tup ds] => some (.tup ds)
  | _ => none
def listD : List D → Option D
  | [.lst ds] => some (.lst ds)
  | [.tup ds] => some (.lst ds)
  | _ => none
theorem b_tuple : Bl X (.type "tuple") tupleD := ⟨_, call_tuple_of, fun F as H xs ds d Q tr r e q => by
  unfold tupleD at e
  split at e
  · cases e
    obtain ⟨v, rfl, rv⟩ := repTs1 r
    obtain ⟨a, us, rfl, s, rs⟩ := rv.t_lst
    exact ⟨a, us, rfl, .inl ⟨s, fun p np => q _ _ (same_new np) (.newT np rs)⟩⟩
  · cases e
    obtain ⟨v, rfl, rv⟩ := repTs1 r
    obtain ⟨a, us, rfl, s, rs⟩ := rv.t_tup
    exact ⟨a, us, rfl, .inr ⟨SqT.of s, q _ H (Same.refl _) (.tup s rs)⟩⟩
  · cases e⟩
theorem Own.newL {K : PySem.W.Frag} {F : Addr → Prop} {as : List Addr} {H : Hp} {vs : List V} {ds : List D} {p : Addr} (n : H p = none) (r : Reps K F as H vs ds) : Own K (fun a => F a ∨ V.ref p = .ref a) as (upd H p (.lst vs)) (.ref p) (.lst ds) :=
  .lst upd_same ((r.weak (F' := fun a => F a ∨ V.ref p = .ref a) fun a o h z => by
    rcases z with z | z
    · exact z
    · cases z; rw [n] at h; cases h).new n)
theorem b_list : BlN X (.type "list") listD := ⟨_, call_list_of, fun F as H xs ds d Q tr r e q => by
  unfold listD at e
  split at e
  · cases e
    obtain ⟨v, rfl, rv⟩ := repTs1 r
    obtain ⟨a, us, rfl, s, rs⟩ := rv.t_lst
    exact ⟨a, us, rfl, .inl s, fun p np => q _ _ (same_new np) (Own.newL np rs) fun p' z => by cases z; exact np⟩
  · cases e
    obtain ⟨v, rfl, rv⟩ := repTs1 r
    obtain ⟨a, us, rfl, s, rs⟩ := rv.t_tup
    exact ⟨a, us, rfl, .inr (SqT.of s), fun p np => q _ _ (same_new np) (Own.newL np rs) fun p' z => by cases z; exact np⟩
  · cases e⟩
end
end G
end L2
end G13_
section G14_
set_option Elab.async false
set_option linter.all false
set_option maxRecDepth 100000
set_option maxHeartbeats 4000000
namespace PySem
open PyProof.Rows
theorem meets_enumerate_newB1 {v : Value} {o : Obj} {H : Heap → Prop} (B : Begins v o H) :
    Meets (Builtin.«enumerate.__new__» ⟨[.type "enumerate", v], []⟩) (fun _ R s => H s.heap ∧
      R (.ok (.ret (.ref (s.heap.push o).objs.size))) { s with heap := (s.heap.push o).push { cls := .type "enumerate", data := .fields #[.none, .bool false, .ref s.heap.objs.size, rawInt 0, .none, .none] } }) :=
  .of_wp fun prog w A R s h => by
    obtain ⟨hp, g, d, tk, os⟩ := s; obtain ⟨h1, h⟩ := h
    have hsub := sub_enumerate
    have q1 : ∀ {A' : Around} {E : Value → Shared → Prop} {Q : Value → Shared → Prop}, Q (.ref hp.objs.size) ⟨hp.push o, g, d, tk, os⟩ → wpAny (model prog w) A' (pyIter v) Q E ⟨hp, g, d, tk, os⟩ :=
      fun q => B.iter prog w _ _ ⟨hp, g, d, tk, os⟩ _ h1 q
    wp_walk using q1
    refine wpAny_stack_any fun st => wpAny_pure ?_
    split
    · rename_i c _ _ _ _ _
      cases (c == Value.type "enumerate")
      · wp_walk using q1
        exact ⟨_, rfl, h⟩
      · wp_walk using q1
        exact ⟨_, rfl, h⟩
    · wp_walk using q1
      exact ⟨_, rfl, h⟩
theorem enum_begins1 {prog : Program} {w : World} {A : Around} {E : Value → Shared → Prop} {s : Shared} {v : Value} {o : Obj} {H : Heap → Prop} {Q : Value → Shared → Prop} (B : Begins v o H) (h1 : H s.heap)
    (h : ∀ h', IsEnum h' (s.heap.objs.size + 1) s.heap.objs.size 0 .none → h'.get? s.heap.objs.size = some o → h'.objs.size = s.heap.objs.size + 2 →
      (∀ b o, s.heap.get? b = some o → h'.get? b = some o) → Q (.ref (s.heap.objs.size + 1)) { s with heap := h' }) :
    wpAny (model prog w) A (call (.type "enumerate") [v]) Q E s := by
  refine callType_new F.called_enumerate (by decide) (F.typeCall_enumerate_1 _) (F.newCall_enumerate_1 _) (fun obj => F.args_object_init_2 obj _) F.entry_enumerate_new
    (meets_enumerate_newB1 B) ⟨h1, ?_⟩
  have hz : (s.heap.push o).objs.size = s.heap.objs.size + 1 := Heap.size_push ..
  show _ ∧ _
  rw [hz]
  have he : IsEnum ((s.heap.push o).push { cls := .type "enumerate", data := .fields #[.none, .bool false, .ref s.heap.objs.size, rawInt 0, .none, .none] }) (s.heap.objs.size + 1) s.heap.objs.size 0 .none := by
    have := Heap.get?_push_size (s.heap.push o) (o := { cls := .type "enumerate", data := .fields #[.none, .bool false, .ref s.heap.objs.size, rawInt 0, .none, .none] }) rfl
    rw [hz] at this; exact this
  exact ⟨⟨_, he, rfl⟩, h _ he (Heap.get?_push_of_some _ (Heap.get?_push_size _ B.free)) (by rw [Heap.size_push, hz]) fun b o x => Heap.get?_push_of_some _ (Heap.get?_push_of_some _ x)⟩
end PySem
namespace L2
open PySem PySem.Spec PyProof.Rows
/-! ### enumerate(tuple) -/
def IteT (K : PySem.W.Frag) (a : Addr) : It :=
  ⟨fun i H => ∃ (xs : List V) (x : V), SqT K H a xs ∧ xs[i]? = some x, fun i H v H' => ∃ T x, v = .ref T ∧ H T = none ∧ H' = upd H T (.tup [.int (i : Nat), x]) ∧ ∀ xs, SqT K H a xs → xs[i]? = some x, fun i H => ∃ xs : List V, SqT K H a xs ∧ xs.length = i⟩
theorem turn_enumT {P : Program} {w : World} {K : PySem.W.Frag} {elts : List Expr} {kk : Nat} {tpos : Pos} (a e it : Addr) (hae : a ≠ e) (hai : a ≠ it) :
    Turn P w K (.Tuple elts kk tpos) (IteT K a) [e, it] e (fun i h => (∃ old, IsEnum h e it ((i : Nat) : Int) old) ∧ h.IsTupleIter it a i ∧ e ≠ it) where
  mem := by simp
  obj := fun i h st b hb => by
    obtain ⟨⟨old, he⟩, ⟨o, ho, hc, hd⟩, _⟩ := st
    have e' : b = e ∨ b = it := by simpa using hb
    rcases e' with z | z
    · rw [z]; exact ⟨_, he, fun v q => nomatch q⟩
    · rw [z]; exact ⟨o, ho, fun v q => by rw [hd] at q; cases q⟩
  keep := fun i h h' st k => let ⟨⟨old, he⟩, hi, hne⟩ := st; ⟨⟨old, k e (by simp) _ he⟩, hi.at fun o q => k it (by simp) o q, hne⟩
  item := by
    intro X hP hw hK hc i pins s σ H E I hf st hg
    subst hP hw hK
    obtain ⟨⟨old, he⟩, hit, hne⟩ := st
    obtain ⟨xs, x, hq, hx⟩ := hg
    obtain ⟨its, rv, p, hz⟩ := I.tuple hq
    obtain ⟨u, hu, ru⟩ := rv.get hx
    have hel : e < s.heap.objs.size := Heap.lt_size he
    have hil : it < s.heap.objs.size := by obtain ⟨_, q, _⟩ := hit; exact Heap.lt_size q
    have hil' : i < its.toArray.size := by
      have := (List.getElem?_eq_some_iff.mp hu).1
      simpa using this
    have hh : X.A.in1.handled = none := I.ok.hd hc
    refine wpAny_pyNext_enum_itemD (Draws.tuple (prog := X.prog) (w := X.w) (A := X.A.in1) hh it a hai its.toArray) he ⟨hit, p⟩ hil' hne (by simp [hne, Ne.symm hae]) fun x' h' tk hx' ho hit' hT hsz hk => ?_
    have ex : x' = u := by
      have h1 : its.toArray[i]? = some x' := hx'
      have h2 : its.toArray[i]? = some u := by simpa using hu
      rw [h2] at h1
      exact (Option.some.inj h1).symm
    subst ex
    refine ⟨_, rfl, wpAny_letOwnedTupleGo_enum (s := { s with heap := h', toks := tk + 1 }) ho fun h'' he' sb => ?_⟩
    have hT2 : h''.get? s.heap.objs.size = some { cls := .type "tuple", data := .seq #[.int i tk, x'] } := (sb.2 _ (Nat.ne_of_gt hel)).trans hT
    have new : ObjOk X.prog X.w (upd H s.heap.objs.size (.tup [.int (i : Nat), x])) h'' s.heap.objs.size (.tup [.int (i : Nat), x]) :=
      ⟨by show 2 ≤ sizeLine; decide, [.int i tk, x'], .cons ⟨_, rfl⟩ (.cons ru .nil), ⟨_, hT2, rfl, _, rfl⟩⟩
    have I1 : Inv X pins σ (upd H s.heap.objs.size (.tup [.int (i : Nat), x])) { s with heap := h'', toks := tk + 1 } :=
      I.turnedNew (ch := [e, it]) (fun b ob hb q => (sb.2 b (fun z => hb (by simp [z]))).trans (hk b ob (fun z => hb (by simp [z])) (fun z => hb (by simp [z])) q)) hf (Nat.le_refl _) new
    refine ⟨.ref s.heap.objs.size, _, I1, rfl, ⟨_, x, rfl, I.hok.fresh (Nat.le_refl _), rfl, fun ys hy => by rw [I.tuple_inj hy hq]; exact hx⟩, ⟨⟨x', ?_⟩, hit'.1.at fun o q => (sb.2 it (Ne.symm hne)).trans q, hne⟩, fun b hb => ?_⟩
    · have e1 : ((i + 1 : Nat) : Int) = (i : Int) + 1 := by omega
      rw [e1]; exact he'
    · have hb' : b < s.heap.objs.size := by
        have e' : b = e ∨ b = it := by simpa using hb
        rcases e' with z | z
        · rw [z]; exact hel
        · rw [z]; exact hil
      rw [upd_ne (Nat.ne_of_lt hb')]
      exact (hf b hb).1
  done := by
    intro X hP hw hK hc i pins s σ H E I hf st hg
    subst hP hw hK
    obtain ⟨⟨old, he⟩, hit, hne⟩ := st
    obtain ⟨xs, hq, hx⟩ := hg
    obtain ⟨its, rv, p, hz⟩ := I.tuple hq
    obtain ⟨f0, f1, f2, f3, f4, f5⟩ := hf it (by simp)
    have hl := rv.length
    have hh : X.A.in1.handled = none := I.ok.hd hc
    have en : its.toArray.size = i := by rw [List.size_toArray]; omega
    refine wpAny_pyNext_enum_endD (Draws.tuple (prog := X.prog) (w := X.w) (A := X.A.in1) hh it a hai its.toArray) he (by rw [en]; exact ⟨hit, p⟩) fun h' eb => ⟨rfl, I.turned (t' := s.toks) (fun b o hb q => eb b o hb q) f0 f1 f3 f4 f5⟩
  self := fun A i s Q E st h => let ⟨⟨_, he⟩, _⟩ := st; wpAny_pyIter_enum he h
/-- enumerate(list or tuple) -/
def iEnumA (K : PySem.W.Frag) (ta : TA) : TI := fun σ H R => ta σ H fun vs H1 => ∃ a xs, vs = [.ref a] ∧ ((SqL K H1 a xs ∧ R (Ite K a) H1) ∨ (SqT K H1 a xs ∧ R (IteT K a) H1))
theorem pi_enumA {X : Cx} {e : Expr} {ta : TA} {p pos tpos : Pos} {elts : List Expr} {kk : Nat} (hg : Gl X "enumerate") (hm : X.mg "enumerate" = none) (ha : PA X [e] ta) (hs : starEach [e] X.env = [(false, eval e X.env)] := by rfl) :
    PI X (.Tuple elts kk tpos) (.Call (.Name "enumerate" p) [e] [] pos) (iEnumA X.K ta) := by
  refine ⟨fun pins s σ H R I h => ?_⟩
  refine Call_ (ld_blt I hg hm boot_enumerate (PyProof.Rows.callWith_type1 (thn (ha.run pos pins s σ H _ I h) fun us s1 ⟨vs, H1, I1, r1, q1⟩ => ?_) hs rfl))
  obtain ⟨a, xs, ex, q1⟩ := q1
  subst ex
  cases r1 with
  | cons r rr =>
    cases rr
    cases r
    rcases q1 with ⟨hq, q⟩ | ⟨hq, q⟩
    · obtain ⟨its, rv, p', hz⟩ := I1.list hq
      refine call_enumerate_list p'.isList fun h' he hit hsz hk => wpAny_pyIter_enum he ?_
      have I2 : Inv X pins σ H1 { s1 with heap := h' } := I1.kept (t' := s1.toks) hk
      refine ⟨s1.heap.objs.size + 1, [s1.heap.objs.size + 1, s1.heap.objs.size], _, _, H1, rfl, I2, turn_enum a (s1.heap.objs.size + 1) s1.heap.objs.size, ⟨⟨.none, he⟩, hit, Nat.succ_ne_self _⟩, fun b hb => ?_, q⟩
      have e' : b = s1.heap.objs.size + 1 ∨ b = s1.heap.objs.size := by simpa using hb
      have hle : s1.heap.objs.size ≤ b := by
        rcases e' with z | z
        · rw [z]; exact Nat.le_add_right _ _
        · rw [z]; exact Nat.le_refl _
      exact I1.fpOk hle (I1.hok.fresh hle)
    · obtain ⟨its, rv, p', hz⟩ := I1.tuple hq
      have hlt : a < s1.heap.objs.size := p'.lt
      refine enum_begins1 (begins_tuple a its.toArray) p' fun h' he hit hsz hk => wpAny_pyIter_enum he ?_
      have I2 : Inv X pins σ H1 { s1 with heap := h' } := I1.kept (t' := s1.toks) hk
      refine ⟨s1.heap.objs.size + 1, [s1.heap.objs.size + 1, s1.heap.objs.size], _, _, H1, rfl, I2, turn_enumT a (s1.heap.objs.size + 1) s1.heap.objs.size (Nat.ne_of_lt (Nat.lt_succ_of_lt hlt)) (Nat.ne_of_lt hlt), ⟨⟨.none, he⟩, ⟨_, hit, rfl, rfl⟩, Nat.succ_ne_self _⟩, fun b hb => ?_, q⟩
      have e' : b = s1.heap.objs.size + 1 ∨ b = s1.heap.objs.size := by simpa using hb
      have hle : s1.heap.objs.size ≤ b := by
        rcases e' with z | z
        · rw [z]; exact Nat.le_add_right _ _
        · rw [z]; exact Nat.le_refl _
      exact I1.fpOk hle (I1.hok.fresh hle)
namespace G
/-! ### enumerate, zip -/
def enumD (k : Int) : List D → List D
  | [] => []
  | d :: ds => .tup [.int k, d] :: enumD (k + 1) ds
theorem enumD_length (k : Int) (ds : List D) : (enumD k ds).length = ds.length := by
  induction ds generalizing k with
  | nil => rfl
  | cons d ds ih => simp [enumD, ih]
theorem enumD_get {ds : List D} {k : Int} {i : Nat} {d : D} (e : (enumD k ds)[i]? = some d) : ∃ d', ds[i]? = some d' ∧ d = .tup [.int (k + i), d'] := by
  induction ds generalizing k i with
  | nil => simp [enumD] at e
  | cons a ds ih =>
    unfold enumD at e
    cases i with
    | zero => simp at e; exact ⟨a, rfl, by rw [← e]; simp⟩
    | succ i =>
      obtain ⟨d', h, q⟩ := ih (k := k + 1) (i := i) (by simpa using e)
      refine ⟨d', by simpa using h, ?_⟩
      rw [q]
      have : k + 1 + (i : Int) = k + ((i + 1 : Nat) : Int) := by omega
      rw [this]
def zipD : List D → List D → List D
  | a :: as, b :: bs => .tup [a, b] :: zipD as bs
  | _, _ => []
theorem zipD_length : ∀ (a b : List D), (zipD a b).length = min a.length b.length
  | [], _ => by simp [zipD]
  | _ :: _, [] => by simp [zipD]
  | a :: as, b :: bs => by simp [zipD, zipD_length as bs]
theorem zipD_get : ∀ {a b : List D} {i : Nat} {d : D}, (zipD a b)[i]? = some d → ∃ x y, a[i]? = some x ∧ b[i]? = some y ∧ d = .tup [x, y]
  | [], _, _, _, e => by simp [zipD] at e
  | _ :: _, [], _, _, e => by simp [zipD] at e
  | a :: as, b :: bs, 0, d, e => by simp [zipD] at e; exact ⟨a, b, rfl, rfl, e.symm⟩
  | a :: as, b :: bs, i + 1, d, e => by
    obtain ⟨x, y, h1, h2, h3⟩ := zipD_get (a := as) (b := bs) (i := i) (d := d) (by simpa [zipD] using e)
    exact ⟨x, y, by simpa using h1, by simpa using h2, h3⟩
def enm (xs : List D) : Option (List D) := match xs with
  | [d] => (seqD d).map (enumD 0)
  | _ => none
def zp (xs : List D) : Option (List D) := match xs with
  | [.lst a, .lst b] => some (zipD a b)
  | [.tup a, .tup b] => some (zipD a b)
  | _ => none
def I.on (h : List D → Option (List D)) (r : Env → M (List D)) : Env → M (List D) := fun ρ => bnd (r ρ) fun xs => lift (h xs)
section
variable {X : Cx} {O : List Nat} {Z : ZT} {e a b c : Expr} {r : Env → M (List D)} {pos p tpos : Pos} {elts : List Expr} {kk : Nat}
theorem walk_enumL {K : PySem.W.Frag} {F : Addr → Prop} {as : List Addr} {H : Hp} {a : Addr} {xs : List V} {ds : List D} (hl : xs.length ≤ sizeLine) (h : LstAt K F H a xs) (r : Reps K F as H xs ds) : Walk K F as H (Ite K a) (enumD 0 ds) where
  len := by rw [enumD_length, ← r.length]; exact hl
  go := fun i H1 st hi => by
    rw [enumD_length] at hi
    exact ⟨xs, xs[i]'(by rw [r.length]; exact hi), (h.frame st.1).sq, by simp⟩
  yl := fun i H1 x H2 d F1 as1 st p k y e => by
    obtain ⟨T, u, rfl, nT, rfl, y⟩ := y
    have y := y xs (h.frame st.1).sq
    obtain ⟨d', e', rv⟩ := r.get y
    obtain ⟨d2, e2, rfl⟩ := enumD_get e
    rw [e'] at e2; cases e2
    rw [Int.zero_add]
    exact ⟨same_new nT, .newT nT (.cons (.int _) (.cons (rep_stay st p k rv) .nil))⟩
  stop := fun i H1 st hi => ⟨xs, (h.frame st.1).sq, by rw [enumD_length] at hi; rw [r.length, hi]; exact Nat.le_refl _⟩
theorem walk_enumT {K : PySem.W.Frag} {F : Addr → Prop} {as : List Addr} {H : Hp} {a : Addr} {xs : List V} {ds : List D} (hl : xs.length ≤ sizeLine) (h : SqT K H a xs) (r : Reps K F as H xs ds) : Walk K F as H (IteT K a) (enumD 0 ds) where
  len := by rw [enumD_length, ← r.length]; exact hl
  go := fun i H1 st hi => by
    rw [enumD_length] at hi
    exact ⟨xs, xs[i]'(by rw [r.length]; exact hi), sqT_frame st.2 h, by simp⟩
  yl := fun i H1 x H2 d F1 as1 st p k y e => by
    obtain ⟨T, u, rfl, nT, rfl, y⟩ := y
    have y := y xs (sqT_frame st.2 h)
    obtain ⟨d', e', rv⟩ := r.get y
    obtain ⟨d2, e2, rfl⟩ := enumD_get e
    rw [e'] at e2; cases e2
    rw [Int.zero_add]
    exact ⟨same_new nT, .newT nT (.cons (.int _) (.cons (rep_stay st p k rv) .nil))⟩
  stop := fun i H1 st hi => ⟨xs, sqT_frame st.2 h, by rw [enumD_length] at hi; rw [r.length, hi]⟩
theorem di_enum (hg : Gl X "enumerate") (hm : X.mg "enumerate" = none) (ha : DA X O Z [e] r) (hs : starEach [e] X.env = [(false, eval e X.env)] := by rfl) : DI X O Z (.Tuple elts kk tpos) (.Call (.Name "enumerate" p) [e] [] pos) (I.on enm r) := PI.imp (pi_len (pi_enumA hg hm ha hs)) fun σ H R ⟨g, ok, q⟩ => by
  refine ⟨g, ok, (Ev.bnd q).mono (fun ds st' q as' vs H' gr s rs => ?_) fun _ _ z => z⟩
  obtain ⟨xs, e, q⟩ := q.lift
  unfold enm at e
  split at e
  · rename_i d
    rw [Option.map_eq_some_iff] at e
    obtain ⟨us, e, rfl⟩ := e
    cases rs with
    | cons r1 rr =>
      cases rr
      cases d with
      | lst ws =>
        cases e
        cases r1 with
        | lst h r => exact ⟨_, _, rfl, .inl ⟨h.sq, fun L => q as' H' _ gr s (walk_enumL (L _ _ (.inl h.sq)) h r)⟩⟩
      | tup ws =>
        cases e
        cases r1 with
        | tup h r => exact ⟨_, _, rfl, .inr ⟨SqT.of h, fun L => q as' H' _ gr s (walk_enumT (L _ _ (.inr (SqT.of h))) (SqT.of h) r)⟩⟩
      | ftup ws =>
        cases e
        cases r1 with
        | ftup h r => exact ⟨_, _, rfl, .inr ⟨h.sq, fun L => q as' H' _ gr s (walk_enumT (L _ _ (.inr h.sq)) h.sq r)⟩⟩
      | _ => cases e
  · cases e
theorem walk_zipL {K : PySem.W.Frag} {F : Addr → Prop} {as : List Addr} {H : Hp} {a b : Addr} {xs ys : List V} {ds es : List D} (hl : xs.length ≤ sizeLine) (h : LstAt K F H a xs) (r : Reps K F as H xs ds) (h' : LstAt K F H b ys) (r' : Reps K F as H ys es) : Walk K F as H (Itz K a b) (zipD ds es) where
  len := by rw [zipD_length, ← r.length]; omega
  go := fun i H1 st hi => by
    rw [zipD_length] at hi
    have h1 : i < xs.length := by rw [r.length]; omega
    have h2 : i < ys.length := by rw [r'.length]; omega
    exact ⟨xs, ys, xs[i], ys[i], (h.frame st.1).sq, (h'.frame st.1).sq, by simp, by simp⟩
  yl := fun i H1 x H2 d F1 as1 st p k y e => by
    obtain ⟨T, u, w, rfl, nT, rfl, y, y'⟩ := y
    obtain ⟨d1, e1, rv⟩ := r.get (y xs (h.frame st.1).sq)
    obtain ⟨d2, e2, rv'⟩ := r'.get (y' ys (h'.frame st.1).sq)
    obtain ⟨c1, c2, f1, f2, rfl⟩ := zipD_get e
    rw [e1] at f1; cases f1
    rw [e2] at f2; cases f2
    exact ⟨same_new nT, .newT nT (.cons (rep_stay st p k rv) (.cons (rep_stay st p k rv') .nil))⟩
  stop := fun i H1 st hi => ⟨xs, ys, (h.frame st.1).sq, (h'.frame st.1).sq, by rw [zipD_length] at hi; rw [r.length, r'.length]; omega⟩
theorem walk_zipT {K : PySem.W.Frag} {F : Addr → Prop} {as : List Addr} {H : Hp} {a b : Addr} {xs ys : List V} {ds es : List D} (hl : xs.length ≤ sizeLine) (h : SqT K H a xs) (r : Reps K F as H xs ds) (h' : SqT K H b ys) (r' : Reps K F as H ys es) : Walk K F as H (RZ.ItzT K a b) (zipD ds es) where
  len := by rw [zipD_length, ← r.length]; omega
  go := fun i H1 st hi => by
    rw [zipD_length] at hi
    have h1 : i < xs.length := by rw [r.length]; omega
    have h2 : i < ys.length := by rw [r'.length]; omega
    exact ⟨xs, ys, xs[i], ys[i], sqT_frame st.2 h, sqT_frame st.2 h', by simp, by simp⟩
  yl := fun i H1 x H2 d F1 as1 st p k y e => by
    obtain ⟨T, u, w, rfl, nT, rfl, y, y'⟩ := y
    obtain ⟨d1, e1, rv⟩ := r.get (y xs (sqT_frame st.2 h))
    obtain ⟨d2, e2, rv'⟩ := r'.get (y' ys (sqT_frame st.2 h'))
    obtain ⟨c1, c2, f1, f2, rfl⟩ := zipD_get e
    rw [e1] at f1; cases f1
    rw [e2] at f2; cases f2
    exact ⟨same_new nT, .newT nT (.cons (rep_stay st p k rv) (.cons (rep_stay st p k rv') .nil))⟩
  stop := fun i H1 st hi => ⟨xs, ys, sqT_frame st.2 h, sqT_frame st.2 h', by rw [zipD_length] at hi; rw [r.length, r'.length]; omega⟩
theorem di_zip (hg : Gl X "zip") (hm : X.mg "zip" = none) (ha : DA X O Z [a, b] r) (hs : starEach [a, b] X.env = (false, eval a X.env) :: starEach [b] X.env := by rfl) (hpl : (backTo pos (starEach [b] X.env)).any (·.1) = false := by rfl) :
    DI X O Z (.Tuple elts kk tpos) (.Call (.Name "zip" p) [a, b] [] pos) (I.on zp r) := PI.imp (pi_len (RZ.pi_zipA hg hm ha hs hpl)) fun σ H R ⟨g, ok, q⟩ => by
  refine ⟨g, ok, (Ev.bnd q).mono (fun ds st' q as' vs H' gr s rs => ?_) fun _ _ z => z⟩
  obtain ⟨xs, e, q⟩ := q.lift
  unfold zp at e
  split at e
  · cases e
    cases rs with
    | cons r1 rr => cases rr with
      | cons r2 rr =>
        cases rr
        cases r1 with
        | lst h r => cases r2 with
          | lst h' r' => exact ⟨_, _, _, _, rfl, .inl ⟨h.sq, h'.sq, fun L => q as' H' _ gr s (walk_zipL (L _ _ (.inl h.sq)) h r h' r')⟩⟩
  · cases e
    cases rs with
    | cons r1 rr => cases rr with
      | cons r2 rr =>
        cases rr
        cases r1 with
        | tup h r => cases r2 with
          | tup h' r' => exact ⟨_, _, _, _, rfl, .inr ⟨SqT.of h, SqT.of h', fun L => q as' H' _ gr s (walk_zipT (L _ _ (.inr (SqT.of h))) (SqT.of h) r (SqT.of h') r')⟩⟩
  · cases e
end
end G
end L2
end G14_
section G15_
set_option Elab.async false
set_option linter.all false
set_option maxRecDepth 100000
set_option maxHeartbeats 1000000
namespace PySem.SeqAt
open PySem PySem.Calls PyProof.Rows
theorem call_tuple_lt {prog : Program} {w : World} {A : Around} {s : Shared} {E : Value → Shared → Prop} {Q : Value → Shared → Prop} {l b : Addr} {items items2 : Array Value} {e r : Nat → Bool} (hl : s.heap.IsTuple l items) (hb : s.heap.IsTuple b items2)
    (he : ∀ j (h1 : j < items.size) (h2 : j < items2.size), EqAt A.in1 s items[j] items2[j] (e j)) (hr : ∀ j (h1 : j < items.size) (h2 : j < items2.size), e j = false → RcLt A.in1 s items[j] items2[j] (r j))
    (h : Q (.bool (firstLt e r (decide (items.size < items2.size)) (List.range (min items.size items2.size)))) s) : wpAny (model prog w) A (call (.builtin "tuple.__lt__") [.ref l, .ref b]) Q E s := by
  obtain ⟨⟨cls, dd, data, sl⟩, ho, hc, n, hd⟩ := id hl
  obtain ⟨⟨cls2, dd2, data2, sl2⟩, ho2, hc2, n2, hd2⟩ := id hb
  simp only at hc hd hc2 hd2
  subst hc hd hc2 hd2
  exact call_meets F.slot_tuple_lt ⟨_, ho, rfl⟩ F.entry_tuple_lt (F.args_tuple_lt_2 _ _) (tuple_ltAt l b items items2 n n2 dd dd2 sl sl2 e r) ⟨ho, ho2, he, hr, h⟩
end PySem.SeqAt
namespace PySem.W
open PySem PySem.Calls PyProof.Rows PySem.SeqAt
theorem oneLt_tuples {prog : Program} {w : World} {A : Around} {E : Value → Shared → Prop} {s : Shared} {xs ys : List PyData} {a b : Value} {as bs : List Addr} {Q : Bool → Shared → Prop} (ra : Reads s.heap a (.tuple xs) as) (rb : Reads s.heap b (.tuple ys) bs) (h : alike (.tuple xs) (.tuple ys) = true)
    (hu : A.units + min (PyData.tuple xs).depth (PyData.tuple ys).depth < cLine) (hq : Q (dataLt (.tuple xs) (.tuple ys)) s) : wpAny (model prog w) A (oneLt' true a b) Q E s := by
  have hal : alikeAll xs ys = true := by simpa [alike] using h
  cases ra with
  | @tuple l o vs n _ as₁ h1 h2 h3 h4 =>
    cases rb with
    | @tuple l' o' vs' n' _ bs₁ k1 k2 k3 k4 =>
      have n1 : vs.size = xs.length := by simpa using ReadsAll.length _ _ _ h4
      have n2 : vs'.size = ys.length := by simpa using ReadsAll.length _ _ _ k4
      rw [dataLt_tuple, ← firstLt_toks xs ys hal, ← n1, ← n2] at hq
      rw [oneLt'_eq]
      simp only [if_true]
      refine wpAny_bind (wpAny_cRoomFor (room_here hu) ?_)
      refine wpAny_bind (wpAny_callSpecialIfBound?_slot (T := "tuple") ⟨_, h1, h2⟩ F.slot_tuple_lt (call_tuple_lt (e := pairEq xs ys) (r := fun j => dataLt (xs.getD j .none) (ys.getD j .none)) ⟨_, h1, h2, _, h3⟩ ⟨_, k1, k2, _, k3⟩ (fun j j1 j2 => ?_) (fun j j1 j2 hj => ?_) ?_))
      · have := eqAt_alikeAll xs ys A.in1 s vs.toList vs'.toList _ _ h4 k4 hal (room_in hu) j (by simpa using j1) (by simpa using j2)
        simpa using this
      · have := rcLt_alikeAll xs ys A.in1 s vs.toList vs'.toList _ _ h4 k4 hal (room_in hu) j (by simpa using j1) (by simpa using j2) hj
        simpa using this
      · exact wpAny_truthy_bool hq
def neT : PyData → Bool
  | .tuple (_ :: _) => true
  | _ => false
theorem firsts_any {M : Model} {A : Around} {E : Value → Shared → Prop} {s : Shared} : ∀ {vs : List Value} {ds : List PyData} {Q : List (Option Value) → Shared → Prop}, EachIs (fun v d => ∃ as, Reads s.heap v d as) vs ds → (∀ d ∈ ds, ∃ xs, d = .tuple xs) →
    (∀ os : List (Option Value), os.map Option.isSome = ds.map neT → Q os s) → wpAny M A (vs.mapM firstOfTuple') Q E s
  | [], [], Q, _, _, h => by rw [List.mapM_nil]; exact wpAny_pure (h [] rfl)
  | [], _ :: _, _, e, _, _ => by cases e
  | _ :: _, [], _, e, _, _ => by cases e
  | v :: vs, d :: ds, Q, e, ht, h => by
    cases e with
    | cons e1 e2 =>
      obtain ⟨as, r⟩ := e1
      obtain ⟨xs, rfl⟩ := ht d (List.mem_cons_self ..)
      cases r with
      | @tuple l o ws n _ _ h1 h2 h3 h4 =>
        rw [List.mapM_cons]
        refine wpAny_bind ?_
        rw [kas_first_eq]
        refine wpAny_bind (Looks.here (show Looks M s.heap (typeOf (.ref l)) o.cls from (Looks.ld h1).andThen .now) ?_)
        rw [h2, if_neg (by first | decide | simp)]
        refine wpAny_bind (listItems_at h1 h3 (wpAny_pure ?_))
        refine wpAny_bind (firsts_any e2 (fun d hd => ht d (List.mem_cons_of_mem _ hd)) fun os ho => wpAny_pure (h _ ?_))
        rw [List.map_cons, List.map_cons, ho]
        congr 1
        have n1 : ws.size = xs.length := by simpa using ReadsAll.length _ _ _ h4
        cases xs with
        | nil =>
          have : ws[0]? = none := Array.getElem?_eq_none (by rw [n1]; exact Nat.le_refl _)
          rw [this]
          rfl
        | cons x r =>
          have hp : 0 < ws.size := by rw [n1]; exact Nat.succ_pos _
          rw [Array.getElem?_eq_getElem hp]
          rfl
theorem neT_of {d : PyData} (h : neT d = true) : ∃ x r, d = .tuple (x :: r) := by
  unfold neT at h
  split at h
  · exact ⟨_, _, rfl⟩
  · cases h
theorem kind_any {M : Model} {A : Around} {E : Value → Shared → Prop} {s : Shared} {vs : List Value} {ds : List PyData} {Q : SortKind → Shared → Prop} (e : EachIs (fun v d => ∃ as, Reads s.heap v d as) vs ds) (ht : ∀ d ∈ ds, ∃ xs, d = .tuple xs) (hn : ds.all neT = false)
    (h : Q (if (ds.head?.map neT).getD false = true then general' else oneType') s) : wpAny M A (keyKind' vs.toArray) Q E s := by
  rw [keyKind'_eq, List.mapM_toArray, map_eq_pure_bind]
  refine wpAny_bind (wpAny_bind (firsts_any e ht fun os ho => wpAny_pure ?_))
  have hall : (os.toArray.all fun x => x.isSome) = false := by
    rw [List.all_toArray]
    have e1 : (os.all fun x => x.isSome) = (os.map Option.isSome).all id := by rw [List.all_map]; rfl
    rw [e1, ho, List.all_map]
    exact hn
  have h0 : ((os.toArray[0]?).bind id).isSome = (ds.head?.map neT).getD false := by
    cases os with
    | nil =>
      cases ds with
      | nil => rfl
      | cons d ds => cases ho
    | cons o os =>
      cases ds with
      | nil => cases ho
      | cons d ds =>
        have e2 : o.isSome = neT d := (List.cons.inj ho).1
        simp [e2]
  rw [if_neg (by rw [hall]; exact Bool.false_ne_true), h0]
  by_cases hh : (ds.head?.map neT).getD false = true
  · rw [if_pos hh] at h ⊢
    exact wpAny_pure h
  · rw [if_neg hh] at h ⊢
    rw [oneTypeOnly'_eq, List.mapM_toArray, map_eq_pure_bind]
    have hT : ∀ v ∈ vs, Looks M s.heap (typeOf v) (.type "tuple") := fun v hv => by
      obtain ⟨d, hd, as, r⟩ := e.left v hv
      obtain ⟨xs, rfl⟩ := ht d hd
      exact looks_reads r
    refine wpAny_bind (wpAny_bind (wpAny_bind (kas_mapM (r := Value.type "tuple") _ (fun v hv Q' hq => (hT v hv).here hq) (wpAny_pure ?_))))
    cases vs with
    | nil =>
      cases ds with
      | nil => cases hn
      | cons d ds => cases e
    | cons v vs =>
      have hall2 : ((List.map (fun _ => Value.type "tuple") (v :: vs)).toArray.all fun x => x == Value.type "tuple") = true := by
        simp only [List.all_toArray, List.all_map, List.all_eq_true]
        intro _ _
        exact beq_self_eq_true _
      have h1 : (List.map (fun _ => Value.type "tuple") (v :: vs)).toArray[0]? = some (Value.type "tuple") := by simp
      rw [h1]
      simp only [hall2, if_true]
      exact wpAny_pure (wpAny_pure h)
theorem SortsAt.dataA {prog : Program} {w : World} {A : Around} {s : Shared} {vs : List Value} {ds : List PyData} (e : EachIs (fun v d => ∃ as, Reads s.heap v d as) vs ds) (hal : AllAlike ds) (hk : (∀ d ∈ ds, ∃ xs, d = .tuple xs) ∨ ∀ d, d ∈ ds → d ≠ .none ∧ ∀ xs, d ≠ .tuple xs) (hu : ∀ d, d ∈ ds → A.units + d.depth < cLine) : SortsAt prog w A s (dataKind s.heap ds) vs := by
  rcases hk with ht | hk
  · by_cases hn : ds.all neT = true
    · exact .data e hal (.inl fun d hd => neT_of (List.all_eq_true.mp hn d hd)) hu
    · have hn : ds.all neT = false := by simpa using hn
      have room : ∀ {d d' : PyData}, d ∈ ds → A.units + min d.depth d'.depth < cLine := fun {d d'} hd => Nat.lt_of_le_of_lt (Nat.add_le_add_left (Nat.min_le_left _ _) _) (hu d hd)
      refine ⟨fun v hv => ?_, if (ds.head?.map neT).getD false = true then general' else oneType', ?_, fun _ E Q hq => kind_any e ht hn hq⟩
      · obtain ⟨d, hd, as, r⟩ := e.left v hv
        exact ⟨_, dataKind_some hal hd r⟩
      · intro E x y a b Q ha hb hq
        obtain ⟨d, as, hd, ra, rfl⟩ := dataKind_inv ha
        obtain ⟨d', as', hd', rb, rfl⟩ := dataKind_inv hb
        have hdd := hal d hd d' hd'
        have hroom := room (d' := d') hd
        obtain ⟨xs, rfl⟩ := ht d hd
        obtain ⟨ys, rfl⟩ := ht d' hd'
        have hq' : Q (dataLt (.tuple xs) (.tuple ys)) s := hq
        split
        · exact oneLt_alike (f := false) (fun z => nomatch z) ra rb hdd (fun z => nomatch z) hroom hq'
        · exact oneLt_tuples ra rb hdd hroom hq'
  · exact .data e hal (.inr hk) hu
end PySem.W
end G15_
section G16_
set_option Elab.async false
set_option linter.all false
set_option maxRecDepth 100000
set_option maxHeartbeats 1000000
namespace PySem.W
open PySem PySem.Calls PyProof.Rows
theorem sorted_dataA {prog : Program} {w : World} {A : Around} {E : Value → Shared → Prop} {s : Shared} {β : Type} {vs : List Value} {bs : List β} {enc : β → PyData} {R : Value → β → Prop} {l : Addr} {Q : Value → Shared → Prop} (hl : s.heap.IsList l vs.toArray) (e : EachIs R vs bs) (er : EachIs (fun v b => ∃ as, Reads s.heap v (enc b) as) vs bs) (hal : AllAlike (bs.map enc))
    (hk : (∀ d ∈ bs.map enc, ∃ xs, d = .tuple xs) ∨ ∀ d, d ∈ bs.map enc → d ≠ .none ∧ ∀ xs, d ≠ .tuple xs) (hL : bs.length ≤ sizeLine)
    (hu : ∀ b, b ∈ bs → A.units + 2 + (enc b).depth < cLine) (h : ∀ out, out.length = bs.length → EachIs R out (bs.mergeSort (dataLe false enc)) → Q (.ref (s.heap.objs.size + 1)) { s with heap := sortedAll s.heap vs (List.toArray out) }) :
    wpAny (model prog w) A (call (.builtin "sorted") [.ref l]) Q E s := by
  have er' : EachIs (fun v b => ∃ as, Reads (sortingHeap (copyHeap s.heap vs) (s.heap.objs.size + 1) vs) v (enc b) as) vs bs := er.mono fun _ _ ⟨as, r⟩ => ⟨as, PyProof.Rows.Reads.keeps (fun _ _ => sorting_copy_old) r⟩
  exact sorted_vals hl (SortsAt.dataA (s := { s with heap := sortingHeap (copyHeap s.heap vs) (s.heap.objs.size + 1) vs }) (each_map (R := fun v d => ∃ as, Reads (sortingHeap (copyHeap s.heap vs) (s.heap.objs.size + 1) vs) v d as) enc er') hal hk (bound_map hu)) (by rw [e.length]; exact hL)
    (h _ (by rw [sortVals_length false rfl]; exact e.length) (sortVals_data false e er' hal))
end PySem.W
namespace L2
open PySem PySem.Spec PyProof.Rows
def AlikeK (ps : List PyData) : Prop := PySem.W.AllAlike ps ∧ ((∀ d ∈ ps, ∃ xs, d = .tuple xs) ∨ ∀ d, d ∈ ps → d ≠ .none ∧ ∀ xs, d ≠ .tuple xs) ∧ ∀ d ∈ ps, d.depth ≤ 60
/-- sorted(list): β the items' data -/
def rSortA (K : PySem.W.Frag) : List V → Hp → VK → Prop := fun vs H Q => ∃ (a : Addr) (bs : List (V × G.D)), vs = [.ref a] ∧ SqL K H a (bs.map (·.1)) ∧ DpAll K H (bs.map (·.1)) (bs.map (fun b => b.2.py)) ∧ AlikeK (bs.map fun b => b.2.py) ∧
  ∀ p, H p = none → Q (.ref p) (upd H p (.lst ((bs.mergeSort (PySem.W.dataLe false fun b => b.2.py)).map (·.1))))
theorem each_of_vals : ∀ {bs : List (V × G.D)} {its : List Value}, Vals (bs.map (·.1)) its → PySem.W.EachIs (fun v (b : V × G.D) => RelV b.1 v) its bs
  | [], _, r => by cases r; exact .nil
  | b :: bs, _, r => by cases r with | cons h t => exact .cons h (each_of_vals t)
theorem vals_of_each : ∀ {bs : List (V × G.D)} {its : List Value}, PySem.W.EachIs (fun v (b : V × G.D) => RelV b.1 v) its bs → Vals (bs.map (·.1)) its
  | [], _, r => by cases r; exact .nil
  | b :: bs, _, r => by cases r with | cons h t => exact .cons h (vals_of_each t)
theorem each_reads {X : Cx} {pins : List (Addr × Obj)} {σ : St} {H : Hp} {s : Shared} (I : Inv X pins σ H s) : ∀ {bs : List (V × G.D)} {its : List Value}, DpAll X.K H (bs.map (·.1)) (bs.map fun b => b.2.py) → Vals (bs.map (·.1)) its → PySem.W.EachIs (fun v (b : V × G.D) => ∃ as, Reads s.heap v b.2.py as) its bs
  | [], _, _, r => by cases r; exact .nil
  | b :: bs, _, d, r => by
    cases r with
    | cons h t =>
      cases d with
      | cons d1 d2 => exact .cons (Dp.reads I _ _ _ d1 h) (each_reads I d2 t)
theorem cr_sortA {X : Cx} (hu : X.A.units + 65 < cLine) : CallR X (.builtin "sorted") (rSortA X.K) := by
  intro pins s σ H vs us Q I r h
  obtain ⟨a, bs, rfl, hs, hd, ⟨hal, hk, hdp⟩, q⟩ := h
  obtain ⟨its, rv, hl, hz⟩ := I.list hs
  obtain ⟨u, rfl, ru⟩ := vals1 r
  obtain rfl : u = Value.ref a := ru
  rw [List.length_map] at hz
  refine PySem.W.sorted_dataA (R := fun v (b : V × G.D) => RelV b.1 v) (enc := fun b => b.2.py) hl.isList (each_of_vals rv) (each_reads I hd rv) hal hk hz (fun b hb => ?_) fun out ho eo => ?_
  · have := hdp _ (List.mem_map.mpr ⟨b, hb, rfl⟩)
    omega
  · obtain ⟨n, hn⟩ := sortedAll_at s.heap its out.toArray
    have vo := vals_of_each eo
    refine ⟨.ref (s.heap.objs.size + 1), _, I.laid (t' := s.toks) (o := .lst ((bs.mergeSort (PySem.W.dataLe false fun b => b.2.py)).map (·.1))) (fun b o e => sortedAll_old e) (Nat.le_succ _) ⟨?_, out, n, vo, hn⟩, rfl, q _ (I.hok.fresh (Nat.le_succ _))⟩
    rw [List.length_map, List.length_mergeSort]
    exact hz
namespace G
/-! ### shapes of data that compare -/
inductive Sh where
  | i | s | t (a : Sh) | p (a b : Sh)
def D.is : Sh → D → Bool
  | .i, .int _ => true
  | .s, .str _ => true
  | .t a, .tup xs => xs.all (D.is a)
  | .p a b, .tup [x, y] => x.is a && y.is b
  | _, _ => false
theorem is_alike : ∀ {sh : Sh} {a b : D}, a.is sh = true → b.is sh = true → PySem.W.alike a.py b.py = true := by
  intro sh
  induction sh with
  | i => intro a b ha hb; cases a <;> simp [D.is] at ha <;> cases b <;> simp [D.is] at hb <;> simp [D.py, PySem.W.alike]
  | s => intro a b ha hb; cases a <;> simp [D.is] at ha <;> cases b <;> simp [D.is] at hb <;> simp [D.py, PySem.W.alike]
  | t sh ih =>
    intro a b ha hb
    cases a with
    | tup xs =>
      cases b with
      | tup ys =>
        simp only [D.py, PySem.W.alike]
        have hx : ∀ x ∈ xs, x.is sh = true := by simpa [D.is] using ha
        have hy : ∀ x ∈ ys, x.is sh = true := by simpa [D.is] using hb
        clear ha hb
        induction xs generalizing ys with
        | nil => simp [D.pys, PySem.W.alikeAll]
        | cons x xs ihx =>
          cases ys with
          | nil => simp [D.pys, PySem.W.alikeAll]
          | cons y ys =>
            simp only [D.pys, PySem.W.alikeAll, Bool.and_eq_true]
            exact ⟨ih (hx x (List.mem_cons_self ..)) (hy y (List.mem_cons_self ..)), ihx ys (fun z hz => hx z (List.mem_cons_of_mem _ hz)) fun z hz => hy z (List.mem_cons_of_mem _ hz)⟩
      | _ => simp [D.is] at hb
    | _ => simp [D.is] at ha
  | p sa sb iha ihb =>
    intro a b ha hb
    cases a with
    | tup xs =>
      cases b with
      | tup ys =>
        match xs, ys, ha, hb with
        | [x1, x2], [y1, y2], ha, hb =>
          simp only [D.is, Bool.and_eq_true] at ha hb
          simp only [D.py, D.pys, PySem.W.alike, PySem.W.alikeAll, Bool.and_eq_true]
          exact ⟨iha ha.1 hb.1, ihb ha.2 hb.2, trivial⟩
        | [], _, ha, _ => simp [D.is] at ha
        | [_], _, ha, _ => simp [D.is] at ha
        | _ :: _ :: _ :: _, _, ha, _ => simp [D.is] at ha
        | [_, _], [], _, hb => simp [D.is] at hb
        | [_, _], [_], _, hb => simp [D.is] at hb
        | [_, _], _ :: _ :: _ :: _, _, hb => simp [D.is] at hb
      | _ => simp [D.is] at hb
    | _ => simp [D.is] at ha
/-- the order of data -/
def leD' (a b : D) : Bool := PySem.W.dataLe false D.py a b
def shapes : List Sh := [.i, .t .i, .s, .p .i (.t .i), .p .i .s, .p .i (.p .i .i), .t .s]
def sortL (ds : List D) : Option (List D) := if (shapes.any fun sh => ds.all (D.is sh)) && D.okds 59 ds then some (ds.mergeSort leD') else none
theorem is_kind {sh : Sh} {ds : List D} (h : ds.all (D.is sh) = true) : (∀ d ∈ ds.map D.py, ∃ xs, d = .tuple xs) ∨ ∀ d, d ∈ ds.map D.py → d ≠ .none ∧ ∀ xs, d ≠ .tuple xs := by
  have h' : ∀ d ∈ ds, d.is sh = true := by simpa using h
  cases sh with
  | i =>
    refine .inr fun d hd => ?_
    obtain ⟨x, hx, rfl⟩ := List.mem_map.mp hd
    have := h' x hx
    cases x <;> simp [D.is] at this <;> simp [D.py]
  | s =>
    refine .inr fun d hd => ?_
    obtain ⟨x, hx, rfl⟩ := List.mem_map.mp hd
    have := h' x hx
    cases x <;> simp [D.is] at this <;> simp [D.py]
  | t a =>
    refine .inl fun d hd => ?_
    obtain ⟨x, hx, rfl⟩ := List.mem_map.mp hd
    have := h' x hx
    cases x <;> simp [D.is] at this <;> simp [D.py]
  | p a b =>
    refine .inl fun d hd => ?_
    obtain ⟨x, hx, rfl⟩ := List.mem_map.mp hd
    have := h' x hx
    cases x with
    | tup xs => exact ⟨D.pys xs, by simp only [D.py]⟩
    | _ => simp [D.is] at this
theorem okds_mem {n : Nat} : ∀ {ds : List D}, D.okds n ds = true → ∀ d ∈ ds, d.okd n = true
  | [], _, _, h => by cases h
  | d :: ds, o, x, h => by
    simp only [D.okds, Bool.and_eq_true] at o
    rcases List.mem_cons.mp h with e | h
    · rw [e]; exact o.1
    · exact okds_mem o.2 x h
theorem sort_alike {ds : List D} (h : ((shapes.any fun sh => ds.all (D.is sh)) && D.okds 59 ds) = true) : AlikeK (ds.map D.py) := by
  simp only [Bool.and_eq_true, List.any_eq_true] at h
  obtain ⟨⟨sh, _, hs⟩, ho⟩ := h
  refine ⟨fun d hd d' hd' => ?_, is_kind hs, fun d hd => ?_⟩
  · obtain ⟨x, hx, rfl⟩ := List.mem_map.mp hd
    obtain ⟨y, hy, rfl⟩ := List.mem_map.mp hd'
    exact is_alike (List.all_eq_true.mp hs x hx) (List.all_eq_true.mp hs y hy)
  · obtain ⟨x, hx, rfl⟩ := List.mem_map.mp hd
    have := (D.okd_lay (okds_mem ho x hx)).2
    omega
theorem Reps.zip {K : PySem.W.Frag} {F : Addr → Prop} {as : List Addr} {H : Hp} : ∀ {vs : List V} {ds : List D}, Reps K F as H vs ds → (vs.zip ds).map (·.1) = vs ∧ (vs.zip ds).map (·.2) = ds ∧ ∀ b ∈ vs.zip ds, Rep K F as H b.1 b.2
  | _, _, .nil => ⟨rfl, rfl, fun b h => by cases h⟩
  | _, _, .cons h r => by
    obtain ⟨e1, e2, e3⟩ := r.zip
    refine ⟨by simp [e1], by simp [e2], fun b hb => ?_⟩
    rcases List.mem_cons.mp hb with e | hb
    · rw [e]; exact h
    · exact e3 b hb
theorem reps_of {K : PySem.W.Frag} {F : Addr → Prop} {as : List Addr} {H : Hp} : ∀ {bs : List (V × D)}, (∀ b ∈ bs, Rep K F as H b.1 b.2) → Reps K F as H (bs.map (·.1)) (bs.map (·.2))
  | [], _ => .nil
  | b :: bs, h => .cons (h b (List.mem_cons_self ..)) (reps_of fun c hc => h c (List.mem_cons_of_mem _ hc))
def sortedD : List D → Option D
  | [.lst ds] => (sortL ds).map .lst
  | _ => none
theorem b_sorted {X : Cx} (hu : X.A.units + 65 < cLine) : BlN X (.builtin "sorted") sortedD := ⟨_, cr_sortA hu, fun F as H xs ds d Q tr r e q => by
  unfold sortedD at e
  split at e
  · rename_i ds
    rw [Option.map_eq_some_iff] at e
    obtain ⟨ys, e, rfl⟩ := e
    unfold sortL at e
    split at e
    · rename_i h
      cases e
      obtain ⟨v, rfl, rv⟩ := repTs1 r
      obtain ⟨a, us, rfl, s, rs⟩ := rv.t_lst
      obtain ⟨e1, e2, e3⟩ := rs.zip
      have ho : D.okds 59 ds = true := by simp only [Bool.and_eq_true] at h; exact h.2
      have em : (us.zip ds).map (fun b => b.2.py) = ds.map D.py := by
        have : (us.zip ds).map (fun b => b.2.py) = ((us.zip ds).map (·.2)).map D.py := by rw [List.map_map]; rfl
        rw [this, e2]
      have hp : ∀ l : List D, D.pys l = l.map D.py := fun l => by
        induction l with
        | nil => rfl
        | cons x l ih => simp [D.pys, ih]
      refine ⟨a, us.zip ds, rfl, by rw [e1]; exact s, by rw [e1, em, ← hp]; exact rs.dp ho, by rw [em]; exact sort_alike h, fun p np => ?_⟩
      have es : ((us.zip ds).mergeSort (PySem.W.dataLe false fun b => b.2.py)).map (·.2) = ds.mergeSort leD' := by
        have := List.map_mergeSort (r := PySem.W.dataLe false fun b : V × D => b.2.py) (s := leD') (f := fun b : V × D => b.2) (l := us.zip ds) fun _ _ _ _ => rfl
        rw [this, e2]
      have rr : Reps X.K F as H (((us.zip ds).mergeSort (PySem.W.dataLe false fun b => b.2.py)).map (·.1)) (ds.mergeSort leD') := by
        rw [← es]
        exact reps_of fun b hb => e3 b (List.mem_mergeSort.mp hb)
      exact q _ _ (same_new np) (Own.newL np rr) fun p' z => by cases z; exact np
    · cases e
  · cases e⟩
end G
end L2
end G16_
section G17_
set_option Elab.async false
set_option linter.all false
set_option maxRecDepth 100000
set_option maxHeartbeats 1000000
namespace L2
open PySem PySem.Spec PyProof.Rows
open G (D tkD kD)
/-- sorted(dict with tuple keys) -/
def rSortDT : List V → Hp → VK → Prop := fun vs H Q => ∃ (a : Addr) (kvs : List (List Key × V)), vs = [.ref a] ∧ Rd H a (.dT kvs) ∧ AlikeK (kvs.map fun p => (tkD p.1).py) ∧ D.okds 59 (kvs.map fun p => tkD p.1) = true ∧
  ∀ (bs : List (V × D)) (p : Addr), bs.map (·.2) = kvs.map (fun p => tkD p.1) → (∀ b ∈ bs, ∃ q k, b = (.ref q, tkD k) ∧ H q = some (.tup (k.map kV))) → H p = none → Q (.ref p) (upd H p (.lst ((bs.mergeSort (PySem.W.dataLe false fun b => b.2.py)).map (·.1))))
theorem rep_key {K : PySem.W.Frag} {F : Addr → Prop} {as : List Addr} {H : Hp} (k : Key) : G.Rep K F as H (kV k) (kD k) := by
  cases k with
  | inl i => exact .int i
  | inr x => exact .str x
theorem reps_keys {K : PySem.W.Frag} {F : Addr → Prop} {as : List Addr} {H : Hp} : ∀ ks : List Key, G.Reps K F as H (ks.map kV) (ks.map kD)
  | [] => .nil
  | k :: ks => .cons (rep_key k) (reps_keys ks)
theorem pys_map : ∀ l : List D, D.pys l = l.map D.py
  | [] => rfl
  | x :: l => by simp [D.pys, pys_map l]
theorem KT.bs {H : Hp} : ∀ {kvs : List (List Key × V)} {xs : List (List Key × Addr × Value)}, KT H kvs xs →
    (xs.map fun x => ((V.ref x.2.1, tkD x.1) : V × D)).map (·.2) = kvs.map (fun p => tkD p.1) ∧ ∀ b ∈ (xs.map fun x => ((V.ref x.2.1, tkD x.1) : V × D)), ∃ q k, b = (.ref q, tkD k) ∧ H q = some (.tup (k.map kV))
  | _, _, .nil => ⟨rfl, fun b h => by cases h⟩
  | _, _, .cons (a := p) (b := x) h t => by
    obtain ⟨e1, e2⟩ := KT.bs t
    refine ⟨by rw [List.map_cons, List.map_cons, List.map_cons, e1, h.1], fun b hb => ?_⟩
    rcases List.mem_cons.mp hb with z | z
    · exact ⟨x.2.1, x.1, z, by rw [← h.1]; exact h.2.1⟩
    · exact e2 b z
theorem cr_sortDT {X : Cx} (hcalm : X.calm = true) (hu : X.A.units + 65 < cLine) : CallR X (.builtin "sorted") rSortDT := by
  intro pins s σ H vs us Q I r q
  obtain ⟨a, kvs, rfl, hd, hal, ho, q⟩ := q
  obtain ⟨u, rfl, rx⟩ := vals1 r
  cases rx
  obtain ⟨z, lo, xs, rel, o, es, ep, h1, h2, h3, h4, h5⟩ := hd.ok I.hok
  have hraw : s.heap.DictRaw a es ep := ⟨o, h1, h2, h3⟩
  have hxs : xs.length = kvs.length := (Paired.length rel).symm
  have hes : es.size = xs.length := by rw [← Array.length_toList, h4, List.length_map]
  have hsz : es.size ≤ sizeLine := by rw [hes, hxs]; exact z
  obtain ⟨eb, mb⟩ := KT.bs rel
  refine Calls.call_function_entry PyProof.Rows.kind_sorted PyProof.Rows.plain_sorted PyProof.Rows.entry_sorted (PyProof.Rows.args_sorted1 _) ?_
  unfold Builtin.«sorted»
  refine wpAny_bind (m := checkCount "sorted" 1 1 _) (wpAny_pure ?_)
  refine wpAny_bind (PySem.W.kdu_collect (A := X.A.in1) (KdlSrc.rawDict (prog := X.prog) (w := X.w) (es := es) (ep := ep) lo) (I.ok.hd hcalm) hraw hsz fun h' tk acc hk hacc => ?_)
  have I1 : Inv X pins σ H { s with heap := h', toks := tk } := I.kept hk
  -- what was collected
  have hac : acc.toList = xs.map fun x => Value.ref x.2.1 := by
    apply List.ext_getElem?
    intro j
    rw [Array.getElem?_toList, List.getElem?_map]
    by_cases hj : j < es.size
    · have hj2 : j < acc.size := by rw [hacc.1]; exact hj
      obtain ⟨hi, ev⟩ := hacc.2 j acc[j] (Array.getElem?_eq_getElem hj2)
      rw [Array.getElem?_eq_getElem hj2, ev]
      have hx : j < xs.length := by rw [← hes]; exact hj
      rw [List.getElem?_eq_getElem hx]
      have e2 : es[j] = (entryOfKey (tupleKind (mixKind X.prog X.w))) xs[j] := by
        have : es.toList[j]'(by simpa using hj) = (xs.map (entryOfKey (tupleKind (mixKind X.prog X.w))))[j]'(by simpa using hx) := by simp only [h4]
        simpa using this
      rw [e2]
      rfl
    · have hj2 : ¬ j < acc.size := by rw [hacc.1]; exact hj
      rw [Array.getElem?_eq_none (by omega), List.getElem?_eq_none (by omega)]
      rfl
  have hal2 : acc.toList.length = kvs.length := by rw [hac, List.length_map, hxs]
  refine wpAny_bind (wpAny_newList ?_ (by rw [hal2]; exact z))
  have hoL : (h'.push (seqObj "list" acc.toList.toArray 0)).get? h'.objs.size = some (seqObj "list" acc.toList.toArray 0) := Heap.get?_push_size _ rfl
  show wpAny _ _ _ _ _ { s with heap := h'.push (seqObj "list" acc.toList.toArray 0), toks := tk }
  -- the items as data
  have vb : Vals ((xs.map fun x => ((V.ref x.2.1, tkD x.1) : V × D)).map (·.1)) acc.toList := by
    rw [hac, List.map_map]
    clear hac hal2 hoL eb mb rel h4 h5 hxs hes
    induction xs with
    | nil => exact .nil
    | cons x xs ih => exact .cons rfl ih
  have dpb : DpAll X.K H ((xs.map fun x => ((V.ref x.2.1, tkD x.1) : V × D)).map (·.1)) ((xs.map fun x => ((V.ref x.2.1, tkD x.1) : V × D)).map fun b => b.2.py) := by
    have key : ∀ bs : List (V × D), D.okds 59 (bs.map (·.2)) = true → (∀ b ∈ bs, ∃ q k, b = (V.ref q, tkD k) ∧ H q = some (.tup (k.map kV))) → DpAll X.K H (bs.map (·.1)) (bs.map fun b => b.2.py) := by
      intro bs ob hb
      induction bs with
      | nil => exact .nil
      | cons b bs ih =>
        simp only [List.map_cons, D.okds, Bool.and_eq_true] at ob
        obtain ⟨q', k, rfl, hq⟩ := hb b (List.mem_cons_self ..)
        refine .cons ?_ (ih ob.2 fun c hc => hb c (List.mem_cons_of_mem _ hc))
        exact G.Rep.dp (F := fun _ => False) (as := []) ob.1 (.tup hq (reps_keys k))
    exact key _ (by rw [eb]; exact ho) mb
  have er := each_reads I1 dpb vb
  have er2 : PySem.W.EachIs (fun v (b : V × D) => ∃ as, Reads (PySem.W.sortingHeap (h'.push (seqObj "list" acc.toList.toArray 0)) h'.objs.size acc.toList) v b.2.py as) acc.toList (xs.map fun x => ((V.ref x.2.1, tkD x.1) : V × D)) :=
    er.mono fun _ _ ⟨as, r⟩ => ⟨as, PyProof.Rows.Reads.keeps (fun b o e => PySem.W.sortingHeap_old (Nat.ne_of_lt (Heap.lt_size e)) (Heap.get?_push_of_some _ e)) r⟩
  have em : (xs.map fun x => ((V.ref x.2.1, tkD x.1) : V × D)).map (fun b => b.2.py) = kvs.map fun p => (tkD p.1).py := by
    have this := congrArg (List.map D.py) eb
    simp only [List.map_map] at this ⊢
    exact this
  obtain ⟨hal1, hk1, hdp⟩ := hal
  rw [← em] at hal1 hk1 hdp
  have S := PySem.W.SortsAt.dataA (prog := X.prog) (w := X.w) (A := X.A.in1.in1) (s := { s with heap := PySem.W.sortingHeap (h'.push (seqObj "list" acc.toList.toArray 0)) h'.objs.size acc.toList, toks := tk })
    (PySem.W.each_map (R := fun v d => ∃ as, Reads (PySem.W.sortingHeap (h'.push (seqObj "list" acc.toList.toArray 0)) h'.objs.size acc.toList) v d as) (fun b : V × D => b.2.py) er2) hal1 hk1 (fun d hd => by
      have := hdp d hd
      have e2 : X.A.in1.in1.units = X.A.units + 2 := rfl
      omega)
  refine wpAny_bind (wpAny_holding (wpAny_call_entry PyProof.Rows.slot_list_sort ⟨_, hoL, rfl⟩ PyProof.Rows.entry_list_sort
    (PySem.W.list_sort_vals (s := { s with heap := h'.push (seqObj "list" acc.toList.toArray 0), toks := tk }) hoL S (by rw [hal2]; exact z) ⟨_, rfl, ?_⟩) (PyProof.Rows.args_list_sort _)))
  have eo := PySem.W.sortVals_data false (each_of_vals vb) er2 hal1
  generalize PySem.W.sortVals _ false acc.toList acc.toList = out at eo ⊢
  obtain ⟨e', he'⟩ := PyProof.Rows.sortedHeap_at (vs := acc.toList) (out := out.toArray) hoL
  have vo := vals_of_each eo
  refine wpAny_pure ⟨_, rfl, .ref h'.objs.size, _, I1.laid (t' := tk) (o := .lst (((xs.map fun x => ((V.ref x.2.1, tkD x.1) : V × D)).mergeSort (PySem.W.dataLe false fun b => b.2.py)).map (·.1))) (fun b u e => ?_) (Nat.le_refl _)
    ⟨?_, out, e', vo, he'⟩, rfl, q _ _ eb mb (I1.hok.fresh (Nat.le_refl _))⟩
  · have hb : b < h'.objs.size := Heap.lt_size e
    rw [PyProof.Rows.sortedHeap_old (Nat.ne_of_lt hb) (by rw [size_push']; exact Nat.lt_succ_of_lt hb)]
    exact Heap.get?_push_of_some _ e
  · rw [List.length_map, List.length_mergeSort, List.length_map, hxs]
    exact z
end L2
end G17_
section G18_
set_option Elab.async false
set_option linter.all false
set_option maxRecDepth 100000
set_option maxHeartbeats 1000000
namespace L2
namespace G
open PySem PySem.Spec PyProof.Rows
/-! ### keys -/
def toKey : D → Option Key
  | .int i => some (.inl i)
  | .str x => some (.inr x)
  | _ => none
def toKeys : List D → Option (List Key)
  | [] => some []
  | d :: ds => (toKey d).bind fun k => (toKeys ds).map (k :: ·)
def toTKey : D → Option (List Key)
  | .tup ds => toKeys ds
  | _ => none
theorem toKey_eq {d : D} {k : Key} (h : toKey d = some k) : d = kD k := by
  cases d <;> simp [toKey] at h <;> subst h <;> rfl
theorem toKeys_eq : ∀ {ds : List D} {ks : List Key}, toKeys ds = some ks → ds = ks.map kD
  | [], _, h => by cases h; rfl
  | d :: ds, ks, h => by
    simp only [toKeys, Option.bind_eq_some_iff, Option.map_eq_some_iff] at h
    obtain ⟨k, h1, ks', h2, rfl⟩ := h
    rw [toKey_eq h1, toKeys_eq h2]
    rfl
theorem toTKey_eq {d : D} {k : List Key} (h : toTKey d = some k) : d = tkD k := by
  cases d with
  | tup ds => unfold tkD; rw [toKeys_eq h]
  | _ => cases h
theorem toKey_kD (k : Key) : toKey (kD k) = some k := by cases k <;> rfl
theorem toKeys_kD : ∀ ks : List Key, toKeys (ks.map kD) = some ks
  | [] => rfl
  | k :: ks => by simp [toKeys, toKey_kD, toKeys_kD ks]
theorem toTKey_tkD (k : List Key) : toTKey (tkD k) = some k := toKeys_kD k
theorem kD_inj {a b : Key} (h : kD a = kD b) : a = b := by
  have := toKey_kD a
  rw [h, toKey_kD] at this
  exact (Option.some.inj this).symm
theorem tkD_inj {a b : List Key} (h : tkD a = tkD b) : a = b := by
  have := toTKey_tkD a
  rw [h, toTKey_tkD] at this
  exact (Option.some.inj this).symm
/-- whether a datum is this key -/
def keyEq (t : Bool) (a b : D) : Bool := if t then decide (toTKey a = toTKey b) else decide (toKey a = toKey b)
def setV (t : Bool) (k v : D) : List D → List D → List D
  | a :: ks, b :: vs => (if keyEq t a k = true then v else b) :: setV t k v ks vs
  | _, _ => []
def putL (t : Bool) (k v : D) (ks vs : List D) : List D × List D := if (ks.any fun a => keyEq t a k) = true then (ks, setV t k v ks vs) else (ks ++ [k], vs ++ [v])
def getL (t : Bool) (k : D) : List D → List D → Option D
  | a :: ks, b :: vs => if keyEq t a k = true then some b else getL t k ks vs
  | _, _ => none
def okKey (t : Bool) (k : D) : Bool := if t then (toTKey k).isSome else (toKey k).isSome
theorem keyEq_k {a b : Key} : keyEq false (kD a) (kD b) = decide (a = b) := by
  unfold keyEq
  rw [if_neg Bool.false_ne_true, toKey_kD, toKey_kD]
  by_cases h : a = b
  · rw [h]; simp
  · rw [decide_eq_false h]
    exact decide_eq_false fun z => h (Option.some.inj z)
theorem keyEq_t {a b : List Key} : keyEq true (tkD a) (tkD b) = decide (a = b) := by
  unfold keyEq
  rw [if_pos rfl, toTKey_tkD, toTKey_tkD]
  by_cases h : a = b
  · rw [h]; simp
  · rw [decide_eq_false h]
    exact decide_eq_false fun z => h (Option.some.inj z)
section
variable {κ : Type} [DecidableEq κ] {K : PySem.W.Frag} {F : Addr → Prop} {as : List Addr} {H : Hp} {t : Bool} {e : κ → D}
theorem put_reps (he : ∀ a b, keyEq t (e a) (e b) = decide (a = b)) {kvs : List (κ × V)} {ds : List D} {k : κ} {v : V} {d : D} (r : Reps K F as H (kvs.map (·.2)) ds) (rv : Rep K F as H v d) :
    (putL t (e k) d (kvs.map fun p => e p.1) ds).1 = (putK kvs k v).map (fun p => e p.1) ∧ Reps K F as H ((putK kvs k v).map (·.2)) (putL t (e k) d (kvs.map fun p => e p.1) ds).2 := by
  have ha : ((kvs.map fun p => e p.1).any fun a => keyEq t a (e k)) = kvs.any fun kv => decide (kv.1 = k) := by
    rw [List.any_map]
    congr 1
    funext p
    exact he _ _
  unfold putL putK
  rw [ha]
  by_cases h : (kvs.any fun kv => decide (kv.1 = k)) = true
  · rw [if_pos h, if_pos h]
    refine ⟨?_, ?_⟩
    · show (kvs.map fun p => e p.1) = _
      rw [List.map_map]
      apply List.map_congr_left
      intro p _
      show e p.1 = e (if p.1 = k then (p.1, v) else p).1
      split <;> rfl
    · show Reps K F as H _ (setV t (e k) d (kvs.map fun p => e p.1) ds)
      clear h ha
      induction kvs generalizing ds with
      | nil => cases r; exact .nil
      | cons p kvs ih =>
        cases r with
        | cons h1 h2 =>
          simp only [List.map_cons, setV, he]
          refine .cons ?_ (ih h2)
          by_cases z : p.1 = k
          · rw [if_pos z, if_pos (decide_eq_true z)]; exact rv
          · rw [if_neg z, if_neg (by simpa using z)]; exact h1
  · rw [if_neg h, if_neg h]
    refine ⟨by simp, ?_⟩
    rw [List.map_append]
    exact r.append (.cons rv .nil)
theorem get_reps (he : ∀ a b, keyEq t (e a) (e b) = decide (a = b)) : ∀ {kvs : List (κ × V)} {ds : List D} {k : κ}, Reps K F as H (kvs.map (·.2)) ds →
    (∀ d, getL t (e k) (kvs.map fun p => e p.1) ds = some d → ∃ v, valV kvs k = some v ∧ Rep K F as H v d) ∧ (getL t (e k) (kvs.map fun p => e p.1) ds).isSome = (valV kvs k).isSome
  | [], ds, k, r => by
    cases r
    exact ⟨fun d h => (by cases h), rfl⟩
  | p :: kvs, ds, k, r => by
    cases r with
    | cons h1 h2 =>
      obtain ⟨i1, i2⟩ := get_reps he (kvs := kvs) (k := k) h2
      simp only [List.map_cons, getL, he]
      by_cases z : p.1 = k
      · rw [if_pos (decide_eq_true z), valV_pos z]
        exact ⟨fun d h => by cases h; exact ⟨_, rfl, h1⟩, rfl⟩
      · rw [if_neg (by simpa using z), valV_neg z]
        exact ⟨i1, i2⟩
end
/-! ### d[k] = v, d an owned dict -/
theorem slot_dct {ρ : Env} {i : Nat} {k : Bool → List D → List D → M (Fl × Env)} {st : Store} {P : (Fl × Env) → Store → Prop} {ZZ : Ex → Store → Prop} (q : Ev ((match ρ[i]? with
  | some (some (.dct t ks vs)) => k t ks vs
  | _ => G.bad) st) P ZZ) : ∃ t ks vs, ρ[i]? = some (some (.dct t ks vs)) ∧ Ev (k t ks vs st) P ZZ := by
  cases e : ρ[i]? with
  | none => rw [e] at q; exact q.elim
  | some o =>
    rw [e] at q
    cases o with
    | none => exact q.elim
    | some d =>
      cases d with
      | dct t ks vs => exact ⟨t, ks, vs, rfl, q⟩
      | _ => exact q.elim
theorem Wf.dct_at {K : PySem.W.Frag} {O : List Nat} {B : Addr → Prop} {H0 : Hp} {as0 as : List Addr} {ρ : Env} {σ : L2.St} {H : Hp} {i : Nat} {t : Bool} {ks ds : List D} (w : Wf K O B H0 as0 as ρ σ H) (hO : i ∈ O) (e : ρ[i]? = some (some (.dct t ks ds))) :
    ∃ p o vs, σ[i]? = some (some (.ref p)) ∧ H p = some o ∧ DctO o t ks vs ∧ Reps K (Ff B as O σ) as H vs ds := by
  obtain ⟨v, h, r⟩ := w.own i _ e hO
  cases r with
  | dct hh o r => exact ⟨_, _, _, h, hh, o, r⟩
  | sca r z => cases r; exact absurd rfl (z _)
def S.dput (i : Nat) (fk fv : Env → M D) : SD := fun ρ => bnd (fv ρ) fun v => match ρ[i]? with
  | some (some (.dct t ks vs)) => bnd (fk ρ) fun k => if okKey t k = true ∧ ks.length < LIM then G.ret (.next, List.set ρ i (some (.dct t (putL t k v ks vs).1 (putL t k v ks vs).2))) else G.bad
  | _ => G.bad
theorem Rep.tkey {K : PySem.W.Frag} {F : Addr → Prop} {as : List Addr} {H : Hp} {v : V} {k : List Key} (r : Rep K F as H v (tkD k)) : ∃ b, v = .ref b ∧ H b = some (.tup (k.map kV)) := by
  unfold tkD at r
  cases r with
  | tup h r =>
    refine ⟨_, rfl, ?_⟩
    rw [h]
    have : ∀ {xs : List V} {ks : List Key}, Reps K F as H xs (ks.map kD) → xs = ks.map kV := by
      intro xs ks r
      induction ks generalizing xs with
      | nil => cases r; rfl
      | cons k ks ih =>
        cases r with
        | cons h1 h2 =>
          rw [ih h2]
          cases k <;> cases h1 <;> rfl
    rw [this r]
theorem Rep.key {K : PySem.W.Frag} {F : Addr → Prop} {as : List Addr} {H : Hp} {v : V} {k : Key} (r : Rep K F as H v (kD k)) : v = kV k := by
  cases k <;> cases r <;> rfl
section
variable {X : Cx} {O : List Nat} {Z : ZT} {e a b c ke ve : Expr} {fk fv : Env → M D} {pos p pos' : Pos} {x : Str}
theorem ds_dput (i : Nat) {x : Str} {p : Pos} (hu : X.A.units + 1 < cLine) (hO : i ∈ O) (hN : X.N[i]? = some x) (hv : Vis X.env.scope x) (hk : DE X O Z ke fk) (he : DE X O Z ve fv)
    (hs : swapsWith ve (some (.Subscript (.Name x p) ke pos')) pos.line X.env = pure false := by rfl) (hd : (x == ("__debug__" : Str)) = false := by decide) (hcd : (x == ("__classdict__" : Str)) = false := by decide) :
    DS X O Z (.Assign [.Subscript (.Name x p) ke pos'] ve pos) (S.dput i fk fv) := by
  refine PS.imp (ps_dput hu (pe_var (i := i) hN hv hd hcd) hk he hs) fun D σ H ⟨g, ok, q⟩ => ?_
  refine ⟨g, ok, (Ev.bnd q).mono (fun d st1 q as1 v H1 g1 s1 rv => ?_) fun _ _ z => z⟩
  have ok1 := ok.step g1 s1
  obtain ⟨t, ks, ds, er, q⟩ := slot_dct q
  obtain ⟨p0, o, vs, hσ, hp, dd, rs⟩ := ok1.wf.dct_at hO er
  refine ⟨.ref p0, hσ, g.at as1 st1, ok1, (Ev.bnd q).mono (fun kd st2 q as2 kv H2 g2 s2 rk => ?_) fun _ _ z => z⟩
  have ok2 := ok1.step g2 s2
  obtain ⟨p', o2, vs2, hσ2, hp2, dd2, rs2⟩ := ok2.wf.dct_at hO er
  cases (hσ.symm.trans hσ2)
  have rv2 := rv.grow s1 g2
  by_cases hc : okKey t kd = true ∧ ks.length < LIM
  · rw [if_pos hc] at q
    have fin : ∀ {o' : HO} {vs' : List V}, DctO o' t (putL t kd d ks ds).1 vs' → Reps X.K (Ff g.B as2 O σ) as2 H2 vs' (putL t kd d ks ds).2 → D.nx σ (upd H2 p0 o') := fun {o' vs'} do' rs' => by
      obtain ⟨w, s, sp⟩ := ok2.wf.write (d := .dct t (putL t kd d ks ds).1 (putL t kd d ks ds).2) (o := o') ok2.sr hO hσ do'.notTup (.inr ⟨_, _, _, _, do', rfl, rs'⟩)
      exact q as2 σ _ (((g1.trans g2).step s2).trans sp) w s
    rcases dd2 with ⟨kvs, rfl, rfl, rfl, rfl⟩ | ⟨kvs, rfl, rfl, rfl, rfl⟩
    · unfold okKey at hc
      rw [if_neg Bool.false_ne_true] at hc
      obtain ⟨k, ek⟩ := Option.isSome_iff_exists.mp hc.1
      have ek := toKey_eq ek
      subst ek
      obtain ⟨p1, p2⟩ := put_reps (t := false) (e := kD) (fun _ _ => keyEq_k) (k := k) rs2 rv2
      refine ⟨p0, _, rfl, .inl ⟨kvs, k, hp2, rk.key, ?_, rfl⟩, fin (.inl ⟨_, rfl, rfl, p1, rfl⟩) p2⟩
      have := hc.2
      rw [List.length_map] at this
      exact Nat.lt_trans this lim_line
    · unfold okKey at hc
      rw [if_pos rfl] at hc
      obtain ⟨k, ek⟩ := Option.isSome_iff_exists.mp hc.1
      have ek := toTKey_eq ek
      subst ek
      obtain ⟨p1, p2⟩ := put_reps (t := true) (e := tkD) (fun _ _ => keyEq_t) (k := k) rs2 rv2
      obtain ⟨b, rfl, hb⟩ := rk.tkey
      refine ⟨p0, _, rfl, .inr ⟨kvs, k, b, hp2, rfl, hb, ?_, rfl⟩, fin (.inr ⟨_, rfl, rfl, p1, rfl⟩) p2⟩
      have := hc.2
      rw [List.length_map] at this
      exact Nat.lt_trans this lim_line
  · rw [if_neg hc] at q
    exact q.elim
theorem dn_dictK : DN X O Z (.Dict [] [] pos) (E.cst (.dct false [] [])) := PE.imp pe_dnewK fun σ H Q ⟨g, ok, q⟩ => fun p np => q _ _ _ (Grow.new np) (ok.sr.new np) (.dct upd_same (.inl ⟨[], rfl, rfl, rfl, rfl⟩) .nil) fun p' z => by
  cases z
  exact ⟨np, not_as ok np⟩
theorem dn_dictT : DN X O Z (.Dict [] [] pos) (E.cst (.dct true [] [])) := PE.imp pe_dnewT fun σ H Q ⟨g, ok, q⟩ => fun p np => q _ _ _ (Grow.new np) (ok.sr.new np) (.dct upd_same (.inr ⟨[], rfl, rfl, rfl, rfl⟩) .nil) fun p' z => by
  cases z
  exact ⟨np, not_as ok np⟩
/-! ### sorted of a dict with tuple keys -/
def sortedDD : List D → Option D
  | [.lst ds] => (sortL ds).map .lst
  | [.dct true ks _] => (sortL ks).map .lst
  | _ => none
theorem b_sortedD (hcalm : X.calm = true) (hu : X.A.units + 65 < cLine) : BlN X (.builtin "sorted") sortedDD := by
  obtain ⟨r1, c1, h1⟩ := b_sorted (X := X) hu
  refine ⟨_, c1.or (cr_sortDT hcalm hu), fun F as H xs ds d Q tr r e q => ?_⟩
  unfold sortedDD at e
  split at e
  · exact .inl (h1 F as H xs _ d Q tr r e q)
  · rw [Option.map_eq_some_iff] at e
    obtain ⟨ys, e, rfl⟩ := e
    unfold sortL at e
    split at e
    · rename_i ks _ h
      cases e
      obtain ⟨v, rfl, rv⟩ := repTs1 r
      obtain ⟨a, o, us, rfl, hs, dd, rs⟩ := rv.t_dct
      have ho : D.okds 59 ks = true := by simp only [Bool.and_eq_true] at h; exact h.2
      have ha := sort_alike h
      rcases dd with ⟨_, z, _⟩ | ⟨kvs, _, rfl, rfl, rfl⟩
      · cases z
      · rw [List.map_map] at ha
        refine .inr ⟨a, kvs, rfl, hs, ha, ho, fun bs p eb mb np => ?_⟩
        have es : (bs.mergeSort (PySem.W.dataLe false fun b => b.2.py)).map (·.2) = (kvs.map fun p => tkD p.1).mergeSort leD' := by
          have := List.map_mergeSort (r := PySem.W.dataLe false fun b : V × D => b.2.py) (s := leD') (f := fun b : V × D => b.2) (l := bs) fun _ _ _ _ => rfl
          rw [this, eb]
        have rr : Reps X.K F as H ((bs.mergeSort (PySem.W.dataLe false fun b => b.2.py)).map (·.1)) ((kvs.map fun p => tkD p.1).mergeSort leD') := by
          rw [← es]
          refine reps_of fun b hb => ?_
          obtain ⟨q', k, rfl, hq⟩ := mb b (List.mem_mergeSort.mp hb)
          exact .tup hq (reps_keys k)
        exact q _ _ (same_new np) (Own.newL np rr) fun p' z => by cases z; exact np
    · cases e
  · cases e
end
end G
end L2
end G18_
section G19_
set_option Elab.async false
set_option linter.all false
set_option maxRecDepth 100000
set_option maxHeartbeats 1000000
namespace L2
namespace G
open PySem PySem.Spec PyProof.Rows
section
variable {X : Cx} {O : List Nat} {Z : ZT} {e a b c tg : Expr} {es : List Expr} {f fa fb fc : Env → M D} {r : Env → M (List D)} {pos p : Pos} {x : Str} {vs : List Nat} {t : D → Env → Option Env}
/-! ### x, y = e -/
def S.asg (f : Env → M D) (t : D → Env → Option Env) : SD := fun ρ => bnd (f ρ) fun d => bnd (lift (t d ρ)) fun ρ' => G.ret (.next, ρ')
theorem step_tgt {as : List Addr} {σ σ' : L2.St} {H : Hp} (o : ∀ a, ownA O σ' a ↔ ownA O σ a) : Step O as σ H as σ' H := ⟨fun _ _ h => h, fun _ _ h _ _ => h, fun _ h n => absurd h n, fun a h => .inl ((o a).mp h), fun _ o h => ⟨o, h⟩⟩
theorem ds_asg (he : DE X O Z e f) (hg : DG X O vs tg t) (hs : swapsWithSole [tg] e pos.line X.env = pure false := by rfl) (hw : swappedStores [tg] e X.env = pure none := by rfl)
    (h1 : (assignEach [tg] X.env).map (·.2) = [assign tg X.env] := by rfl) : DS X O Z (.Assign [tg] e pos) (S.asg f t) := PS.imp (ps_asg he hg hs hw h1) fun D σ H ⟨g, ok, q⟩ =>
  ⟨g, ok, (Ev.bnd q).mono (fun d st' q as' v H' gr s r => by
    obtain ⟨ρ', e, q⟩ := (Ev.bnd q).lift
    exact ⟨g.at as' st', d, ρ', ok.step gr s, r, e, fun σ' w o l j => q as' σ' H' ((gr.step s).trans (step_tgt o)) w s⟩) fun _ _ z => z⟩
/-! ### a, b = x, y -/
def S.par (i j : Nat) (fa fb : Env → M D) : SD := fun ρ => bnd (fa ρ) fun x => bnd (fb ρ) fun y => G.ret (.next, List.set (List.set ρ i (some x)) j (some y))
theorem fresh_back {K : PySem.W.Frag} {g : Gh} {σ : L2.St} {H H1 : Hp} {as1 : List Addr} {st1 : Store} {p : Addr} (gr : Grow g.as H as1 H1) (n : H1 p = none) (na : p ∉ as1) : H p = none := by
  cases z : H p with
  | none => rfl
  | some o =>
    by_cases m : p ∈ g.as
    · exact absurd (gr.sub m) na
    · have := gr.keep p o z m
      rw [n] at this; cases this
section
variable {i j : Nat} {y : Str} {px py pt : Pos} {kt k2 : Nat} {pt2 : Pos}
theorem ds_parEE (i j : Nat) {x y : Str} (hiO : i ∉ O) (hjO : j ∉ O) (hc : X.calm = true) (hN : X.N.Nodup) (hi : X.N[i]? = some x) (hj : X.N[j]? = some y) (hij : i ≠ j)
    (hx : X.env.scope.names.lookup x = some .local) (hy : X.env.scope.names.lookup y = some .local) (ha : DE X O Z a fa) (hb : DE X O Z b fb)
    (hw : swappedStores [.Tuple [.Name x px, .Name y py] kt pt] (.Tuple [a, b] k2 pt2) X.env = pure (some [x, y]))
    (hs : swapsWithSole [.Tuple [.Name x px, .Name y py] kt pt] (.Tuple [a, b] k2 pt2) pos.line X.env = pure false := by rfl) 
    (hs1 : starEach [a, b] X.env = (false, eval a X.env) :: starEach [b] X.env := by rfl) (hs2 : starEach [b] X.env = (false, eval b X.env) :: starEach [] X.env := by rfl) :
    DS X O Z (.Assign [.Tuple [.Name x px, .Name y py] kt pt] (.Tuple [a, b] k2 pt2) pos) (S.par i j fa fb) := PS.imp (ps_par hc hN hi hj hij hx hy (pa_cons ha (pa_cons hb pa_nil hs2) hs1) hw hs) fun D σ H ⟨g, ok, q⟩ =>
  ⟨g, ok, (Ev.bnd q).mono (fun d1 st1 q as1 v1 H1 g1 s1 r1 => ⟨g.at as1 st1, ok.step g1 s1, (Ev.bnd q).mono (fun d2 st2 q as2 v2 H2 g2 s2 r2 => ⟨v1, v2, rfl, by
    have w2 := ((ok.step g1 s1).step g2 s2).wf
    have w3 := w2.set hiO (r1.grow s1 g2)
    have r2' : Rep X.K (Ff g.B as2 O (σ.set i (some v1))) as2 H2 v2 d2 := by rw [ff_set hiO]; exact r2
    exact q as2 _ H2 (((g1.trans g2).step s2).trans ((Step.set hiO _).trans (Step.set hjO _))) (w3.set hjO r2') s2⟩) fun _ _ z => z⟩) fun _ _ z => z⟩
theorem ds_parEN (i j : Nat) {x y : Str} (hiO : i ∉ O) (hjO : j ∈ O) (hc : X.calm = true) (hN : X.N.Nodup) (hi : X.N[i]? = some x) (hj : X.N[j]? = some y) (hij : i ≠ j)
    (hx : X.env.scope.names.lookup x = some .local) (hy : X.env.scope.names.lookup y = some .local) (ha : DE X O Z a fa) (hb : DN X O Z b fb)
    (hw : swappedStores [.Tuple [.Name x px, .Name y py] kt pt] (.Tuple [a, b] k2 pt2) X.env = pure (some [x, y]))
    (hs : swapsWithSole [.Tuple [.Name x px, .Name y py] kt pt] (.Tuple [a, b] k2 pt2) pos.line X.env = pure false := by rfl) 
    (hs1 : starEach [a, b] X.env = (false, eval a X.env) :: starEach [b] X.env := by rfl) (hs2 : starEach [b] X.env = (false, eval b X.env) :: starEach [] X.env := by rfl) :
    DS X O Z (.Assign [.Tuple [.Name x px, .Name y py] kt pt] (.Tuple [a, b] k2 pt2) pos) (S.par i j fa fb) := PS.imp (ps_par hc hN hi hj hij hx hy (pa_cons ha (pa_cons hb pa_nil hs2) hs1) hw hs) fun D σ H ⟨g, ok, q⟩ =>
  ⟨g, ok, (Ev.bnd q).mono (fun d1 st1 q as1 v1 H1 g1 s1 r1 => ⟨g.at as1 st1, ok.step g1 s1, (Ev.bnd q).mono (fun d2 st2 q as2 v2 H2 g2 s2 r2 n2 => ⟨v1, v2, rfl, by
    have w1 := (ok.step g1 s1).wf.set hiO r1
    have r2' : Own X.K (fun a => Ff g.B as2 O (σ.set i (some v1)) a ∨ v2 = .ref a) as2 H2 v2 d2 := by rw [ff_set hiO]; exact r2
    obtain ⟨w3, sp⟩ := w1.setN s1 g2 s2 hjO r2' n2
    exact q as2 _ H2 (((g1.step s1).trans (Step.set hiO _)).trans sp) w3 s2⟩) fun _ _ z => z⟩) fun _ _ z => z⟩
theorem Own.wk {K : PySem.W.Frag} {F F' : Addr → Prop} {as : List Addr} {H : Hp} {v : V} {d : D} (r : Own K F as H v d) (k : ∀ a o, H a = some o → F' a → F a) : Own K F' as H v d := by
  cases r with
  | lst hh r => exact .lst hh (r.weak k)
  | dct hh o r => exact .dct hh o (r.weak k)
  | sca r q => exact .sca (r.weak k) q
theorem ff_setN {B : Addr → Prop} {as : List Addr} {σ : L2.St} {v : V} {a : Addr} (z : Ff B as O (σ.set i (some v)) a) : Ff (fun a => B a ∨ v = .ref a) as O σ a := by
  rcases z with z | z | ⟨k, hk, z⟩
  · exact .inl (.inl z)
  · exact .inr (.inl z)
  · rcases get_set_some z with ⟨_, e, _⟩ | ⟨_, e⟩
    · cases e; exact .inl (.inr rfl)
    · exact .inr (.inr ⟨k, hk, e⟩)
/-- a new value, not yet stored, while another is made -/
theorem hold_new {K : PySem.W.Frag} {g : Gh} {σ : L2.St} {H H1 : Hp} {as1 : List Addr} {st1 : Store} {v : V} {d : D} (ok : g.ok K O σ H) (g1 : Grow g.as H as1 H1) (s1 : SRep K as1 st1 H1) (r : Own K (fun a => Ff g.B as1 O σ a ∨ v = .ref a) as1 H1 v d)
    (n : ∀ p, v = .ref p → H p = none ∧ p ∉ as1) : Wf K O (fun a => g.B a ∨ v = .ref a) g.H0 g.as0 as1 g.ρ σ H1 := by
  cases v with
  | ref p =>
    have n' := n p rfl
    have hD : ∃ o, H1 p = some o := by
      cases r with
      | lst h _ => exact ⟨_, h⟩
      | dct h _ _ => exact ⟨_, h⟩
      | sca _ z => exact absurd rfl (z p)
    have w := ok.wf.growB (D0 := p) ok.sr n'.1 g1 s1 hD
    refine w.mono fun a z => ?_
    rcases z with z | z
    · exact .inl z
    · cases z; exact .inr rfl
  | _ => exact (ok.step g1 s1).wf.mono (B' := g.B) fun a z => z.elim id fun z => nomatch z
theorem ds_parNE (i j : Nat) {x y : Str} (hiO : i ∈ O) (hjO : j ∉ O) (hc : X.calm = true) (hN : X.N.Nodup) (hi : X.N[i]? = some x) (hj : X.N[j]? = some y) (hij : i ≠ j)
    (hx : X.env.scope.names.lookup x = some .local) (hy : X.env.scope.names.lookup y = some .local) (ha : DN X O Z a fa) (hb : DE X O Z b fb)
    (hw : swappedStores [.Tuple [.Name x px, .Name y py] kt pt] (.Tuple [a, b] k2 pt2) X.env = pure (some [x, y]))
    (hs : swapsWithSole [.Tuple [.Name x px, .Name y py] kt pt] (.Tuple [a, b] k2 pt2) pos.line X.env = pure false := by rfl) 
    (hs1 : starEach [a, b] X.env = (false, eval a X.env) :: starEach [b] X.env := by rfl) (hs2 : starEach [b] X.env = (false, eval b X.env) :: starEach [] X.env := by rfl) :
    DS X O Z (.Assign [.Tuple [.Name x px, .Name y py] kt pt] (.Tuple [a, b] k2 pt2) pos) (S.par i j fa fb) := PS.imp (ps_par hc hN hi hj hij hx hy (pa_cons ha (pa_cons hb pa_nil hs2) hs1) hw hs) fun D σ H ⟨g, ok, q⟩ => by
  refine ⟨g, ok, (Ev.bnd q).mono (fun d1 st1 q as1 v1 H1 g1 s1 r1 n1 => ?_) fun _ _ z => z⟩
  have w1 := hold_new ok g1 s1 r1 n1
  refine ⟨⟨fun a => g.B a ∨ v1 = .ref a, g.H0, g.as0, as1, g.ρ, st1⟩, ⟨w1, s1⟩, (Ev.bnd q).mono (fun d2 st2 q as2 v2 H2 g2 s2 r2 => ⟨v1, v2, rfl, ?_⟩) fun _ _ z => z.mono fun _ z => .inl z⟩
  obtain ⟨w2, sp⟩ := ok.wf.setN ok.sr g1 s1 hiO r1 n1
  have w3 := w2.grow s1 g2 s2
  exact q as2 _ H2 (sp.trans ((g2.step s2).trans (Step.set hjO _))) (w3.set hjO (r2.weak fun a o _ z => ff_setN z)) s2
theorem ds_parNN (i j : Nat) {x y : Str} (hiO : i ∈ O) (hjO : j ∈ O) (hc : X.calm = true) (hN : X.N.Nodup) (hi : X.N[i]? = some x) (hj : X.N[j]? = some y) (hij : i ≠ j)
    (hx : X.env.scope.names.lookup x = some .local) (hy : X.env.scope.names.lookup y = some .local) (ha : DN X O Z a fa) (hb : DN X O Z b fb)
    (hw : swappedStores [.Tuple [.Name x px, .Name y py] kt pt] (.Tuple [a, b] k2 pt2) X.env = pure (some [x, y]))
    (hs : swapsWithSole [.Tuple [.Name x px, .Name y py] kt pt] (.Tuple [a, b] k2 pt2) pos.line X.env = pure false := by rfl) 
    (hs1 : starEach [a, b] X.env = (false, eval a X.env) :: starEach [b] X.env := by rfl) (hs2 : starEach [b] X.env = (false, eval b X.env) :: starEach [] X.env := by rfl) :
    DS X O Z (.Assign [.Tuple [.Name x px, .Name y py] kt pt] (.Tuple [a, b] k2 pt2) pos) (S.par i j fa fb) := PS.imp (ps_par hc hN hi hj hij hx hy (pa_cons ha (pa_cons hb pa_nil hs2) hs1) hw hs) fun D σ H ⟨g, ok, q⟩ => by
  refine ⟨g, ok, (Ev.bnd q).mono (fun d1 st1 q as1 v1 H1 g1 s1 r1 n1 => ?_) fun _ _ z => z⟩
  have w1 := hold_new ok g1 s1 r1 n1
  refine ⟨⟨fun a => g.B a ∨ v1 = .ref a, g.H0, g.as0, as1, g.ρ, st1⟩, ⟨w1, s1⟩, (Ev.bnd q).mono (fun d2 st2 q as2 v2 H2 g2 s2 r2 n2 => ⟨v1, v2, rfl, ?_⟩) fun _ _ z => z.mono fun _ z => .inl z⟩
  obtain ⟨w2, sp⟩ := ok.wf.setN ok.sr g1 s1 hiO r1 n1
  obtain ⟨w3, sp3⟩ := w2.setN s1 g2 s2 hjO (r2.wk fun a o _ z => z.elim (fun z => .inl (ff_setN z)) .inr) n2
  exact q as2 _ H2 (sp.trans sp3) w3 s2
end
/-! ### y = x.pop(), y = x.pop(e), also with a tuple as target -/
def S.popG (i : Nat) (t : D → Env → Option Env) : SD := fun ρ => match ρ[i]? with
  | some (some (.lst ds)) => (match ds[ds.length - 1]? with
    | some d => bnd (lift (t d (List.set ρ i (some (.lst ds.dropLast))))) fun ρ' => G.ret (.next, ρ')
    | none => G.bad)
  | _ => G.bad
def S.popAtG (i : Nat) (e : Env → M D) (t : D → Env → Option Env) : SD := fun ρ => match ρ[i]? with
  | some (some (.lst ds)) => bnd (e ρ) fun k => (match k with
    | .int k => if 0 ≤ k ∧ k < 1000000 then (match ds[k.toNat]? with
      | some d => bnd (lift (t d (List.set ρ i (some (.lst (ds.eraseIdx k.toNat)))))) fun ρ' => G.ret (.next, ρ')
      | none => G.bad) else G.bad
    | _ => G.bad)
  | _ => G.bad
theorem Reps.erase {K : PySem.W.Frag} {F : Addr → Prop} {as : List Addr} {H : Hp} : ∀ (n : Nat) {vs : List V} {ds : List D}, Reps K F as H vs ds → Reps K F as H (vs.eraseIdx n) (ds.eraseIdx n)
  | _, _, _, .nil => by simp; exact .nil
  | 0, _, _, .cons h r => r
  | n + 1, _, _, .cons h r => .cons h (r.erase n)
theorem Reps.dropLast {K : PySem.W.Frag} {F : Addr → Prop} {as : List Addr} {H : Hp} {vs : List V} {ds : List D} (r : Reps K F as H vs ds) : Reps K F as H vs.dropLast ds.dropLast := by
  rw [List.dropLast_eq_take, List.dropLast_eq_take, r.length]
  exact r.take _
theorem own_write {K : PySem.W.Frag} {g : Gh} {σ : L2.St} {H : Hp} {i : Nat} {p : Addr} {vs vs' : List V} {d d' : D} {v : V} (ok : g.ok K O σ H) (hO : i ∈ O) (hσ : σ[i]? = some (some (.ref p))) (hp : H p = some (.lst vs)) (r : Rep K (Ff g.B g.as O σ) g.as H v d) :
    Rep K (Ff g.B g.as O σ) g.as (upd H p (.lst vs')) v d :=
  r.frame (fun b o e n => by rw [upd_ne (fun (z : b = p) => n (by rw [z]; exact .inr (.inr ⟨i, hO, hσ⟩)))]; exact e) (fun b o e t => by rw [upd_ne (fun (z : b = p) => by rw [z, hp] at e; cases e; exact t)]; exact e) fun _ _ h => h
theorem ds_popAt (i j : Nat) {x y : Str} {p apos cpos py : Pos} (hO : i ∈ O) (hjO : j ∉ O) (hN : X.N.Nodup) (hx : X.N[i]? = some x) (hv : Vis X.env.scope x) (hy : X.N[j]? = some y) (hyl : Loc X.env.scope y) (he : DE X O Z e f)
    (hs : swapsWith (.Call (.Attribute (.Name x p) "pop" apos) [e] [] cpos) (some (.Name y py)) pos.line X.env = pure false := by rfl)
    (hf : X.fn y = true ∨ X.env.scope.names.lookup y = some .local := by first | exact .inl rfl | exact .inr rfl | assumption)
    (hd : (x == ("__debug__" : Str)) = false := by decide) (hcd : (x == ("__classdict__" : Str)) = false := by decide)
    (hbase : attributeBase (.Name x p) "pop" X.env (eval (.Name x p) X.env) = eval (.Name x p) X.env := by rfl) (hline : (apos.endLine == cpos.line) = true := by rfl) (hs1 : starEach [e] X.env = (false, eval e X.env) :: starEach [] X.env := by rfl)
    (hfew : ((backTo cpos (starEach [e] X.env)).all (fun x => !x.1) && (backToKw cpos (keywordEach [] X.env)).all (fun x => x.1.isSome)
      && decide (([e] : List Expr).length + ([] : List Keyword).length + (if ([] : List Keyword).isEmpty then 0 else 1) < 30)) = true := by rfl) :
    DS X O Z (.Assign [.Name y py] (.Call (.Attribute (.Name x p) "pop" apos) [e] [] cpos) pos) (S.popAtG i f (Gt.name j)) := by
  refine PS.imp (ps_set hN hy hyl (pe_bm PySem.F.plainAttrs_list PySem.F.slot_list_pop PySem.F.type_list_pop mt_popAt (pe_var (i := i) hx hv hd hcd) (pa_cons he pa_nil hs1) hbase hfew hline hs1) hs hf) fun D σ H ⟨g, ok, q⟩ => ?_
  unfold S.popAtG at q
  obtain ⟨ds, er, q⟩ := slot_lst q
  obtain ⟨p, vs, hσ, hp, rs⟩ := ok.wf.lst_at hO er
  refine ⟨.ref p, hσ, .inl ⟨rfl, _, .inl (.inl hp)⟩, g, ok, (Ev.bnd q).mono (fun d st1 q as1 v H1 g1 s1 rv => ?_) fun _ _ z => z⟩
  have ok1 := ok.step g1 s1
  obtain ⟨p', vs1, hσ1, hp1, rs1⟩ := ok1.wf.lst_at hO er
  cases (hσ.symm.trans hσ1)
  cases d with
  | int k =>
    cases rv
    dsimp only at q
    split at q
    · rename_i hk
      cases hd : ds[k.toNat]? with
      | none => rw [hd] at q; exact q.elim
      | some d =>
        rw [hd] at q
        obtain ⟨ρ', e, q⟩ := (Ev.bnd q).lift
        cases e
        obtain ⟨y, hy, ry⟩ := rs1.get' hd
        have hlt : k.toNat < vs1.length := by
          rw [rs1.length]
          exact (List.getElem?_eq_some_iff.mp hd).1
        refine ⟨p, vs1, k, k.toNat, y, rfl, rfl, hp1, by omega, by omega, seqIndex_of hk.1 (by omega), hy, ?_⟩
        obtain ⟨w, s, sp⟩ := ok1.wf.write (d := .lst (ds.eraseIdx k.toNat)) (o := .lst (vs1.eraseIdx k.toNat)) ok1.sr hO hσ (fun z => z) (.inl ⟨_, _, rfl, rfl, rs1.erase _⟩)
        exact q as1 _ _ (((g1.step s1).trans sp).trans (Step.set hjO _)) (w.set hjO (own_write (d' := d) ok1 hO hσ hp1 ry)) s
    · exact q.elim
  | _ => exact q.elim
theorem ds_pop (i j : Nat) {x y : Str} {p apos cpos py : Pos} (hO : i ∈ O) (hjO : j ∉ O) (hN : X.N.Nodup) (hx : X.N[i]? = some x) (hv : Vis X.env.scope x) (hy : X.N[j]? = some y) (hyl : Loc X.env.scope y)
    (hs : swapsWith (.Call (.Attribute (.Name x p) "pop" apos) [] [] cpos) (some (.Name y py)) pos.line X.env = pure false := by rfl)
    (hf : X.fn y = true ∨ X.env.scope.names.lookup y = some .local := by first | exact .inl rfl | exact .inr rfl | assumption)
    (hd : (x == ("__debug__" : Str)) = false := by decide) (hcd : (x == ("__classdict__" : Str)) = false := by decide)
    (hbase : attributeBase (.Name x p) "pop" X.env (eval (.Name x p) X.env) = eval (.Name x p) X.env := by rfl) (hline : (apos.endLine == cpos.line) = true := by rfl) :
    DS X O Z (.Assign [.Name y py] (.Call (.Attribute (.Name x p) "pop" apos) [] [] cpos) pos) (S.popG i (Gt.name j)) := by
  refine PS.imp (ps_set hN hy hyl (pe_bm0 PySem.F.plainAttrs_list PySem.F.slot_list_pop PySem.F.type_list_pop mt_pop (pe_var (i := i) hx hv hd hcd) hbase hline) hs hf) fun D σ H ⟨g, ok, q⟩ => ?_
  unfold S.popG at q
  obtain ⟨ds, er, q⟩ := slot_lst q
  obtain ⟨p, vs, hσ, hp, rs⟩ := ok.wf.lst_at hO er
  cases hd : ds[ds.length - 1]? with
  | none => rw [hd] at q; exact q.elim
  | some d =>
    rw [hd] at q
    obtain ⟨ρ', e, q⟩ := (Ev.bnd q).lift
    cases e
    obtain ⟨y, hy, ry⟩ := rs.get' hd
    refine ⟨.ref p, hσ, .inl ⟨rfl, _, .inl (.inl hp)⟩, p, vs, y, rfl, rfl, hp, by rw [rs.length]; exact hy, ?_⟩
    obtain ⟨w, s, sp⟩ := ok.wf.write (d := .lst ds.dropLast) (o := .lst vs.dropLast) ok.sr hO hσ (fun z => z) (.inl ⟨_, _, rfl, rfl, rs.dropLast⟩)
    exact q g.as _ _ (sp.trans (Step.set hjO _)) (w.set hjO (own_write (d' := d) ok hO hσ hp ry)) s
end
end G
end L2
end G19_
section G20_
set_option Elab.async false
set_option linter.all false
set_option maxRecDepth 100000
set_option maxHeartbeats 1000000
namespace L2
namespace G
open PySem PySem.Spec PyProof.Rows
/-! ### dict comprehensions with tuples as keys (after the rule for plain keys) -/
theorem d_dictSetT {X : Cx} {pins : List (Addr × Obj)} {σ : L2.St} {H : Hp} {s : Shared} {E : Value → Shared → Prop} {D b : Addr} {kvs : List (List Key × V)} {k : List Key} {v : V} {u r : Value} {Q : Unit → Shared → Prop} (hu : X.A.units + 1 < cLine) (I : Inv X pins σ H s) (hD : H D = some (.dT kvs)) (hb : H b = some (.tup (k.map kV))) (hz : kvs.length < sizeLine)
    (ry : RelV (.ref b) u) (rv : RelV v r) (h : ∀ s', Inv X pins σ (upd H D (.dT (putK kvs k v))) s' → Q () s') : wpAny (model X.prog X.w) X.A (dictSet D u r) Q E s := by
  cases (show u = Value.ref b from ry)
  obtain ⟨z, hd, xs, rel, dd⟩ := dt_of I.hok hD
  have hz : xs.length ≤ sizeLine := by rw [← Paired.length rel]; exact z
  have hl : (putK kvs k v).length ≤ sizeLine := by have := length_putK kvs k v; omega
  refine wpAny_dictSet_heap (hsz := hz) (show X.A.units < cLine by omega) (key_of I.hok hb) dd fun h' dd' hs => h _ ?_
  obtain ⟨q, es, ep, hq, h2, h3, h4, _, h5⟩ := dd'
  refine d_write I (by rw [hD]; exact True.intro) hs ⟨q, hq⟩ ⟨hl, hd, _, (rel.put k hb rv).keeps fun c ys ec => ?_, q, es, ep, hq, h2, h3, h4, h5⟩
  rw [upd_ne (ne_of ec hD (fun z => nomatch z))]
  exact ec
section
variable {X : Cx}
def tDcT (wi : TI) (g : TG) (tt : TT) (tk tv : TE) (vs : List Nat) : TE := fun σ H Q => wi σ H fun J H1 => ∀ D, H1 D = none → ∃ W : Nat → Nat → Hp → Prop, (∃ m, W 0 m (upd H1 D (.dT []))) ∧ ∀ i m H, W i m H →
  (J.stop i H ∧ Q (.ref D) H) ∨ (J.go i H ∧ ∃ Nx : Hp → Prop, (∀ H', Nx H' → ∃ m', m' < m ∧ W (i + 1) m' H') ∧ ∀ x H', J.yld i H x H' → g x (wipe σ vs) H' fun σ2 H2 => wipe σ2 vs = wipe σ vs ∧ tt σ2 H2 fun b H3 =>
    if b = true then tk σ2 H3 fun y H4 => tv σ2 H4 fun z H5 => ∃ kvs k b, y = .ref b ∧ H5 b = some (.tup (k.map kV)) ∧ H5 D = some (.dT kvs) ∧ kvs.length < sizeLine ∧ Nx (upd H5 D (.dT (putK kvs k z))) else Nx H3)
theorem dc_coreT {pins : List (Addr × Obj)} {s : Shared} {σ : St} {H : Hp} {Q : VK} {kx vx tg iter : Expr} {ifs : List Expr} {scope : Scope} {own : List (Str × Nat)} {pos pos' : Pos} {wi : TI} {g : TG} {tt : TT} {tk tv : TE} {use : Option (Value → Sem Unit)} {Qf : Value → Shared → Prop}
    (hu : X.A.units + 1 < cLine) (hc : X.calm = true) (hN : X.N.Nodup) (I : Inv X pins σ H s) (hi : PI X tg iter wi) (ok : BlkOk X.N X.env.scope scope own)
    (hg : ∀ (s : Shared) (H : Hp) (C : Addr) (cl : List (Str × Addr)) (fp : List Addr), PG (X.blk s H scope (compEnvC scope cl C X.env) fp) tg g) (ht : ∀ (s : Shared) (H : Hp) (C : Addr) (cl : List (Str × Addr)) (fp : List Addr), PTs (X.blk s H scope (compEnvC scope cl C X.env) fp) ifs tt)
    (hk : ∀ (s : Shared) (H : Hp) (C : Addr) (cl : List (Str × Addr)) (fp : List Addr), PE (X.blk s H scope (compEnvC scope cl C X.env) fp) kx tk)
    (he : ∀ (s : Shared) (H : Hp) (C : Addr) (cl : List (Str × Addr)) (fp : List Addr), PE (X.blk s H scope (compEnvC scope cl C X.env) fp) vx tv) (hs : ∀ x, foldedSetIterable iter X.env x = pure x)
    (h : tDcT wi g tt tk tv (own.map (·.2)) σ H Q)
    (hRR : ∀ D C s' m H', Inv X pins σ H' s' → Q (.ref D) H' → s'.heap.Ns C m → FpOk X pins H' C → compPost (model X.prog X.w) X.A X.xe use Qf (.ref D) C (.ok .next) s') :
    wpAny (model X.prog X.w) X.A (comprehension (.DictComp kx vx [⟨tg, iter, ifs, 0⟩] scope pos) scope X.env pos' newDict false (eval iter X.env) use) Qf X.xe s := by
  have hfree : ∀ y ∈ scope.names, y.2 = .free → ∃ c, X.env.cells.lookup y.1 = some c := fun y hy e => by
    rcases ok.free y hy e with k | k
    · exact I.ok.has _ (.inl k)
    · exact I.ok.has _ (.inr k)
  refine wpAny_comprehension_free (use := use) rfl hs (closure_ok hfree) ok.kind (fun y hy e => by rw [ok.uniq y hy, e])
    (thn (hi.run pins s σ H _ I h) fun xv s1 hx => thn hx fun itv s2 h2 => ?_)
  obtain ⟨it, fp, tn, J, H2, e, I2, T, st2, f2, q⟩ := h2
  subst e
  refine wpAny_newObj_type (newEnv_comp ?_)
  generalize hD : s2.heap.objs.size = D
  have hDn : H2 D = none := I2.hok.fresh (Nat.le_of_eq hD)
  obtain ⟨W, ⟨m0, w0⟩, turn⟩ := q D hDn
  -- the new list
  generalize hs3 : ({ s2 with heap := s2.heap.push { cls := .type "dict", data := .dict #[] } } : Shared) = s3
  have I3 : Inv X pins σ (upd H2 D (.dT [])) s3 := by
    rw [← hs3]
    refine I2.laid (t' := s2.toks) (fun b o e => Heap.get?_push_of_some _ e) (Nat.le_of_eq hD) ?_
    rw [← hD]
    exact dt_empty s2.heap I2.big
  have h3 : s3.heap = s2.heap.push { cls := .type "dict", data := .dict #[] } := by rw [← hs3]
  have sz : ∀ b ∈ fp, b < s2.heap.objs.size := fun b hb => by
    obtain ⟨o, e, _⟩ := T.obj _ _ st2 b hb
    exact Heap.lt_size e
  have f3 : ∀ b ∈ fp, FpOk X pins (upd H2 D (.dT [])) b ∧ b < s3.heap.objs.size := fun b hb => by
    have hlt := sz b hb
    refine ⟨⟨?_, (f2 b hb).2⟩, by rw [h3, Heap.size_push]; exact Nat.lt_succ_of_lt hlt⟩
    rw [upd_ne (by rw [← hD]; exact Nat.ne_of_lt hlt)]
    exact (f2 b hb).1
  have st3 : tn 0 s3.heap := T.keep _ _ _ st2 fun b _ o e => by rw [h3]; exact Heap.get?_push_of_some _ e
  have I4 := block_start I3 ok hN f3
  have pg := hg s3 (upd H2 D (.dT [])) s3.heap.objs.size (cellsFrom (s3.heap.objs.size + 1) scope.names (cloFrom X.env.cells scope.names [])) fp
  have pt := ht s3 (upd H2 D (.dT [])) s3.heap.objs.size (cellsFrom (s3.heap.objs.size + 1) scope.names (cloFrom X.env.cells scope.names [])) fp
  have pk := hk s3 (upd H2 D (.dT [])) s3.heap.objs.size (cellsFrom (s3.heap.objs.size + 1) scope.names (cloFrom X.env.cells scope.names [])) fp
  have pe := he s3 (upd H2 D (.dT [])) s3.heap.objs.size (cellsFrom (s3.heap.objs.size + 1) scope.names (cloFrom X.env.cells scope.names [])) fp
  show codeAny _ _ (.compStart (.DictComp kx vx [⟨tg, iter, ifs, 0⟩] scope pos) 0 (.ref it) (.ref D) (compEnvC scope (cellsFrom (s3.heap.objs.size + 1) scope.names (cloFrom X.env.cells scope.names [])) s3.heap.objs.size X.env)) (compPost (model X.prog X.w) X.A X.xe use Qf (.ref D) s3.heap.objs.size) { s3 with heap := pushCells (s3.heap.push { cls := .type "dict", data := .dict #[] }) scope.names }
  have nfp : ∀ b ∈ fp, (upd H2 D (.dT [])) b = none := fun b hb => (f3 b hb).1.1
  generalize hce : compEnvC scope (cellsFrom (s3.heap.objs.size + 1) scope.names (cloFrom X.env.cells scope.names [])) s3.heap.objs.size X.env = ce at I4 pg pt pk pe ⊢
  have cL : ce.locals = s3.heap.objs.size := by subst hce; rfl
  generalize hH3 : upd H2 D (.dT []) = H3 at I3 I4 pg pt pk pe w0 nfp f3
  generalize hs4 : ({ s3 with heap := pushCells (s3.heap.push { cls := .type "dict", data := .dict #[] }) scope.names } : Shared) = s4 at I4 ⊢
  have st4 : tn 0 s4.heap := T.keep _ _ _ st3 fun b _ o e => by rw [← hs4]; exact pushCells_keeps _ _ _ _ (Heap.get?_push_of_some _ e)
  have stat : ∀ {σ' : St} {H' : Hp} {s' : Shared}, Inv (X.blk s3 H3 scope ce fp) [] σ' H' s' → (∀ b ∈ fp, H' b = none) → ∀ b ∈ fp, FpOk (X.blk s3 H3 scope ce fp) [] H' b := fun {σ' H' s'} I' hn b hb =>
    ⟨hn b hb, (I'.ok.exf b hb).1, I'.ok.exfs b hb, .inl hb, fun x c e => (I'.ok.exf b hb).2 x c e, fun p hp => absurd (show p ∈ ([] : List (Addr × Obj)) ++ [] from hp) (by simp)⟩
  have loop : codeAny (model X.prog X.w) X.A (.compLoop (.DictComp kx vx [⟨tg, iter, ifs, 0⟩] scope pos) 0 (.ref it) (.ref D) ce) (compPost (model X.prog X.w) X.A X.xe use Qf (.ref D) s3.heap.objs.size) s4 := by
    refine compLoop_anyD (fun n s' => ∃ i H', Inv (X.blk s3 H3 scope ce fp) [] (wipe σ (own.map (·.2))) H' s' ∧ tn i s'.heap ∧ (∀ b ∈ fp, H' b = none) ∧ W i n H') ?_ m0 ⟨0, H3, I4, st4, nfp, w0⟩
    rintro n s5 ⟨i, H5, I5, st5, n5, w5⟩
    rcases turn i n H5 w5 with ⟨stop, qq⟩ | ⟨go, Nx, hNx, step⟩
    · have td := T.done (X.blk s3 H3 scope ce fp) rfl rfl rfl hc i [] s5 _ H5 (fun _ _ => False) I5 (stat I5 n5) st5 stop
      refine thnF td fun r s6 ⟨hr, I6⟩ => ?_
      subst hr
      -- back in the def's context
      have I7 : Inv X pins σ H5 s6 := I3.call' (ch := fp) I6.os I6.base I6.hok I6.bare fun b hb => ⟨(f3 b hb).1.2.2.2.1, (f3 b hb).1.2.1, (f3 b hb).1.2.2.2.2.1, (f3 b hb).1.2.2.2.2.2⟩
      have nC : H5 s3.heap.objs.size = none := by
        have z : H5 ce.locals = none := I6.free
        rw [cL] at z
        exact z
      obtain ⟨m, hn, _⟩ := I6.loc
      have hn : s6.heap.Ns ce.locals m := hn
      rw [cL] at hn
      exact hRR D s3.heap.objs.size s6 m H5 I7 qq hn (I3.fpOk (Nat.le_refl _) nC)
    · have ti := T.item (X.blk s3 H3 scope ce fp) rfl rfl rfl hc i [] s5 _ H5 (fun _ _ => False) I5 (stat I5 n5) st5 go
      refine thnF ti fun r s6 ⟨u, hr, h6⟩ => ?_
      subst hr
      refine thnF h6 fun _ s7 ⟨x, H7, I7, r7, y7, st7, n7⟩ => ?_
      have I7' := I7.pinned (stat I7 n7) (T.obj _ _ st7)
      refine thnF (pg.run _ s7 _ H7 x u _ I7' r7 (step x H7 y7)) fun _ s8 ⟨σ8, H8, I8, hw8, q8⟩ => ?_
      refine thnF (pt.run _ s8 σ8 H8 _ I8 q8) fun b s9 ⟨H9, I9, q9⟩ => ?_
      -- the turn's end
      have fin : ∀ {s' : Shared} {H' : Hp}, Inv (X.blk s3 H3 scope ce fp) ([] ++ pinsAt fp s7.heap) σ8 H' s' → Nx H' → ∃ m, m < n ∧ ∃ i H', Inv (X.blk s3 H3 scope ce fp) [] (wipe σ (own.map (·.2))) H' s' ∧ tn i s'.heap ∧ (∀ b ∈ fp, H' b = none) ∧ W i m H' := fun {s' H'} I' nx => by
        obtain ⟨m', hm, w'⟩ := hNx H' nx
        have pin' : ∀ b ∈ fp, ∀ o, s7.heap.get? b = some o → s'.heap.get? b = some o ∧ H' b = none := fun b hb o e =>
          let z := I'.pin (b, o) (List.mem_append_right _ (List.mem_append_right _ (mem_pinsAt hb e)))
          ⟨z.1, z.2.1⟩
        have hl : (wipe σ (own.map (·.2))).length = σ8.length := by rw [← hw8, wipe_length]
        refine ⟨m', hm, i + 1, H', (I'.unpinned (pins := [])).weak hl (fun j v e => ?_), T.keep _ _ _ st7 fun b hb o e => (pin' b hb o e).1, fun b hb => ?_, w'⟩
        · rw [← hw8] at e
          exact (wipe_some e).1
        · obtain ⟨o, e, _⟩ := T.obj _ _ st7 b hb
          exact (pin' b hb o e).2
      cases b with
      | false =>
        simp only [Bool.false_eq_true, if_false] at q9 ⊢
        exact fin I9 q9
      | true =>
        simp only [if_true] at q9 ⊢
        refine thnF (pk.run _ s9 σ8 H9 _ I9 q9) fun z s10 ⟨yk, H10, I10, r10, q10⟩ => ?_
        refine thnF (pe.run _ s10 σ8 H10 _ I10 q10) fun z2 s11 ⟨yv, H11, I11, r11, kvs, k, kb, ek, hb11, hD11, hz11, nx⟩ => ?_
        subst ek
        exact d_dictSetT (X := X.blk s3 H3 scope ce fp) hu I11 hD11 hb11 hz11 r10 r11 fun s12 I12 => fin I12 nx
  exact codeAny_compStart_dict loop (T.self X.A 0 _ _ _ st4 loop)
/-- as a value -/
theorem pe_dcT {kx vx tg iter : Expr} {ifs : List Expr} {scope : Scope} {own : List (Str × Nat)} {pos : Pos} {wi : TI} {g : TG} {tt : TT} {tk tv : TE} (hu : X.A.units + 1 < cLine) (hc : X.calm = true) (hN : X.N.Nodup) (hi : PI X tg iter wi) (ok : BlkOk X.N X.env.scope scope own)
    (hg : ∀ (s : Shared) (H : Hp) (C : Addr) (cl : List (Str × Addr)) (fp : List Addr), PG (X.blk s H scope (compEnvC scope cl C X.env) fp) tg g) (ht : ∀ (s : Shared) (H : Hp) (C : Addr) (cl : List (Str × Addr)) (fp : List Addr), PTs (X.blk s H scope (compEnvC scope cl C X.env) fp) ifs tt)
    (hk : ∀ (s : Shared) (H : Hp) (C : Addr) (cl : List (Str × Addr)) (fp : List Addr), PE (X.blk s H scope (compEnvC scope cl C X.env) fp) kx tk)
    (he : ∀ (s : Shared) (H : Hp) (C : Addr) (cl : List (Str × Addr)) (fp : List Addr), PE (X.blk s H scope (compEnvC scope cl C X.env) fp) vx tv) (hs : ∀ x, foldedSetIterable iter X.env x = pure x := by intro _; rfl) :
    PE X (.DictComp kx vx [⟨tg, iter, ifs, 0⟩] scope pos) (tDcT wi g tt tk tv (own.map (·.2))) := by
  refine ⟨fun pins s σ H Q I h => ?_⟩
  rw [arm_eval_DictComp]
  refine dc_coreT hu hc hN I hi ok hg ht hk he hs h fun D C s' m H' I' q hn f => ⟨m, hn, fun h'' sb => ?_⟩
  obtain ⟨f0, f1, f2, f3, f4, f5⟩ := f
  exact ⟨.ref D, H', I'.turned (t' := s'.toks) (fun b o hb e => (sb.2 b hb).trans e) f0 f1 f3 f4 f5, rfl, q⟩
end
end G
end L2
end G20_
section G21_
set_option Elab.async false
set_option linter.all false
set_option maxRecDepth 100000
set_option maxHeartbeats 1000000
namespace L2
namespace G
open PySem PySem.Spec PyProof.Rows
/-! ### {k: v for target in iter if ..} -/
def dcompL (tt : Bool) (ρ0 : Env) (t : D → Env → Option Env) (fc : Env → M Bool) (fk fv : Env → M D) : List D → List D → List D → M (List D × List D)
  | [], ks, vs => ret (ks, vs)
  | d :: ds, ks, vs => bnd (lift (t d ρ0)) fun ρ1 => bnd (fc ρ1) fun b => if b = true then bnd (fk ρ1) fun k => bnd (fv ρ1) fun v => if okKey tt k = true ∧ ks.length < LIM then dcompL tt ρ0 t fc fk fv ds (putL tt k v ks vs).1 (putL tt k v ks vs).2 else bad
    else dcompL tt ρ0 t fc fk fv ds ks vs
def E.dcomp (tt : Bool) (fi : Env → M (List D)) (vs : List Nat) (t : D → Env → Option Env) (fc : Env → M Bool) (fk fv : Env → M D) : Env → M D := fun ρ => bnd (fi ρ) fun ds => bnd (dcompL tt (wipeD ρ vs) t fc fk fv ds [] []) fun r => ret (.dct tt r.1 r.2)
section
variable {X : Cx} {O : List Nat} {Z : ZT} {e a b c tg iter kx vx : Expr} {es ifs : List Expr} {f fa fb fk fv : Env → M D} {fi r : Env → M (List D)} {fc : Env → M Bool} {t : D → Env → Option Env} {pos p : Pos} {x : Str} {scope : Scope} {own : List (Str × Nat)}
theorem dcomp_finT {vs : List Nat} {σ : L2.St} {H : Hp} {g : Gh} {Q : VK} (hO : ∀ i ∈ vs, i ∉ O) (ok : g.ok X.K O σ H)
    (q : Ev (E.dcomp true fi vs t fc fk fv g.ρ g.st) (fun d st' => ∀ as' v H', Grow g.as H as' H' → SRep X.K as' st' H' → Own X.K (fun a => Ff g.B as' O σ a ∨ v = .ref a) as' H' v d → (∀ p, v = .ref p → H p = none ∧ p ∉ as') → Q v H') (Zc X.K O g.B g.H0 g.as0 Z)) :
    tDcT (tIc X.K O Z fi) (tG X.K O vs t) (tT X.K O Z fc) (tE X.K O Z fk) (tE X.K O Z fv) vs σ H Q := by
  refine ⟨g, ok, (Ev.bnd q).mono (fun ds st1 q as1 H1 J g1 s1 wk D nD => ?_) fun _ _ z => z⟩
  have q := Ev.bnd q
  have ok1 := ok.step g1 s1
  have w1 : Wf X.K O g.B g.H0 g.as0 as1 (wipeD g.ρ vs) (L2.wipe σ vs) H1 := ok1.wf.wipe hO
  have own1 := ownA_wipe (σ := σ) hO
  have nDH : H D = none := by
    cases z : H D with
    | none => rfl
    | some o =>
      by_cases m : D ∈ g.as
      · exact absurd (g1.sub m) (not_as ok1 nD)
      · have := g1.keep D o z m
        rw [nD] at this; cases this
  have wD : ∀ {as2 : List Addr} {H2 : Hp} {st2 : Store} {acc : List (List Key × V)}, Grow as1 H1 as2 H2 → SRep X.K as2 st2 H2 → H2 D = some (.dT acc) → Wf X.K O (fun a => g.B a ∨ a = D) g.H0 g.as0 as2 (wipeD g.ρ vs) (L2.wipe σ vs) H2 := fun g2 s2 hD => w1.growB s1 nD g2 s2 ⟨_, hD⟩
  let PP : List G.D → Store → List G.D → List G.D → Prop := fun rest st2 ks vsD => Ev (dcompL true (wipeD g.ρ vs) t fc fk fv rest ks vsD st2) (fun r st' => ∀ as' v H', Grow g.as H as' H' → SRep X.K as' st' H' → Own X.K (fun a => Ff g.B as' O σ a ∨ v = .ref a) as' H' v (.dct true r.1 r.2) → (∀ p, v = .ref p → H p = none ∧ p ∉ as') → Q v H') (Zc X.K O g.B g.H0 g.as0 Z)
  let ST : Nat → Hp → Prop := fun i H2 => ∃ as2 st2 acc accD, SRep X.K as2 st2 H2 ∧ Grow as1 H1 as2 H2 ∧ H2 D = some (.dT acc) ∧ D ∉ as2 ∧
    Reps X.K (Ff (fun a => g.B a ∨ a = D) as2 O (L2.wipe σ vs)) as2 H2 (acc.map (·.2)) accD ∧ PP (ds.drop i) st2 (acc.map fun p => tkD p.1) accD
  refine ⟨fun i m H2 => m = ds.length - i ∧ i ≤ ds.length ∧ ST i H2,
    ⟨_, rfl, Nat.zero_le _, as1, st1, [], [], s1.new nD, Grow.new nD, upd_same, not_as ok1 nD, .nil, ?_⟩, ?_⟩
  · exact Ev.mono q (fun ys st' q as' v H' a b c d => q as' v H' a b c d) fun _ _ z => z
  · rintro i m H2 ⟨rfl, hi, as2, st2, acc, accD, s2, g2, hD, nA, rs, q2⟩
    have w2 := wD g2 s2 hD
    obtain ⟨_, ffs0⟩ := Step.stay (σ1 := σ) ok1.wf s1 (g2.step s2)
    have stay0 : Stay (· ∈ as1) H1 H2 := ⟨fun b o h n => g2.keep b o h n, grow_t s1 g2⟩
    have ffs : ∀ a o, H1 a = some o → Ff (fun a => g.B a ∨ a = D) as2 O (L2.wipe σ vs) a → Ff g.B as1 O σ a := fun a o h z => by
      rcases z with (z | z) | z | z
      · exact .inl z
      · rw [z, nD] at h; cases h
      · exact ffs0 a o h (.inr (.inl z))
      · exact .inr (.inr ((own1 a).mp z))
    by_cases hlt : i < ds.length
    · refine .inr ⟨wk.go i H2 stay0 hlt, ?_⟩
      have q2 : PP (ds[i] :: ds.drop (i + 1)) st2 (acc.map fun p => tkD p.1) accD := by rw [← List.drop_eq_getElem_cons hlt]; exact q2
      obtain ⟨ρ3, e3, q3⟩ := (Ev.bnd q2).lift
      have q3 := Ev.bnd q3
      refine ⟨ST (i + 1), fun H' n => ⟨ds.length - (i + 1), by omega, rfl, hlt, n⟩, fun x H3 y => ?_⟩
      obtain ⟨sm, rx⟩ := wk.yl i H2 x H3 _ (Ff (fun a => g.B a ∨ a = D) as2 O (L2.wipe σ vs)) as2 stay0 g2.pre ffs y (List.getElem?_eq_getElem hlt)
      have s3 := s2.same sm
      have w3 := w2.grow s2 (grow_same sm) s3
      refine ⟨⟨fun a => g.B a ∨ a = D, g.H0, g.as0, as2, wipeD g.ρ vs, st2⟩, _, ρ3, ⟨w3, s3⟩, rx, e3, fun σ4 w4 o4 l4 j4 => ⟨?_, ?_⟩⟩
      · rw [wipe_same l4 j4, wipe_wipe]
      have ff4 : ∀ (as : List Addr) a, Ff (fun a => g.B a ∨ a = D) as O σ4 a ↔ Ff (fun a => g.B a ∨ a = D) as O (L2.wipe σ vs) a := fun as a => or_congr Iff.rfl (or_congr Iff.rfl (o4 a))
      have hD3 := sm D _ hD
      have g3 := g2.trans (grow_same (as := as2) sm)
      have rs3 : Reps X.K (Ff (fun a => g.B a ∨ a = D) as2 O (L2.wipe σ vs)) as2 H3 (acc.map (·.2)) accD := rs.grow s2 (grow_same sm)
      have grows : ∀ {as5 : List Addr} {H5 : Hp} {st5 : Store}, Grow as2 H3 as5 H5 → SRep X.K as5 st5 H5 → H5 D = some (.dT acc) ∧ D ∉ as5 ∧ Reps X.K (Ff (fun a => g.B a ∨ a = D) as5 O (L2.wipe σ vs)) as5 H5 (acc.map (·.2)) accD := by
        intro as5 H5 st5 g5 s5
        refine ⟨g5.keep D _ hD3 nA, fun z => ?_, rs3.grow s3 g5⟩
        have := g5.fre D z nA
        rw [hD3] at this; cases this
      refine ⟨⟨fun a => g.B a ∨ a = D, g.H0, g.as0, as2, ρ3, st2⟩, ⟨w4, s3⟩, Ev.mono q3 (fun k st5 q5 as5 H5 g5 s5 => ?_) fun _ _ z => z.mono fun _ z => .inl z⟩
      obtain ⟨d5, n5, r5⟩ := grows g5 s5
      cases k with
      | false =>
        exact ⟨as5, st5, acc, accD, s5, g3.trans g5, d5, n5, r5, q5⟩
      | true =>
        have w5 := w4.grow s3 g5 s5
        refine ⟨⟨fun a => g.B a ∨ a = D, g.H0, g.as0, as5, ρ3, st5⟩, ⟨w5, s5⟩, (Ev.bnd q5).mono (fun kd st6 q6 as6 kv H6 g6 s6 rk => ?_) fun _ _ z => z.mono fun _ z => .inl z⟩
        have w6 := w5.grow s5 g6 s6
        refine ⟨⟨fun a => g.B a ∨ a = D, g.H0, g.as0, as6, ρ3, st6⟩, ⟨w6, s6⟩, (Ev.bnd q6).mono (fun y st7 q7 as7 yv H7 g7 s7 ry => ?_) fun _ _ z => z.mono fun _ z => .inl z⟩
        have g37 := (g5.trans g6).trans g7
        obtain ⟨d7, n7, r7⟩ := grows g37 s7
        by_cases hc : okKey true kd = true ∧ (acc.map fun p => tkD p.1).length < LIM
        · rw [if_pos hc] at q7
          have hc1 := hc.1
          unfold okKey at hc1
          rw [if_pos rfl] at hc1
          obtain ⟨k, ek⟩ := Option.isSome_iff_exists.mp hc1
          have ek := toTKey_eq ek
          subst ek
          obtain ⟨b, rfl, hb⟩ := rk.tkey
          have rk7 := rk.grow s6 g7
          obtain ⟨b', eb, hb7⟩ := rk7.tkey
          cases eb
          have ry' : Rep X.K (Ff (fun a => g.B a ∨ a = D) as7 O (L2.wipe σ vs)) as7 H7 yv y := ry.weak fun a o _ z => (ff4 as7 a).mpr z
          have kD : ∀ b o, H7 b = some o → ¬ Ff (fun a => g.B a ∨ a = D) as7 O (L2.wipe σ vs) b → upd H7 D (.dT (putK acc k yv)) b = some o := fun b o h n => by rw [upd_ne (fun (z : b = D) => n (.inl (.inr z)))]; exact h
          have kT : ∀ b o, H7 b = some o → TupO o → upd H7 D (.dT (putK acc k yv)) b = some o := fun b o h t => by
            rw [upd_ne (fun (z : b = D) => by rw [z, d7] at h; cases h; exact t)]; exact h
          obtain ⟨p1, p2⟩ := put_reps (t := true) (e := tkD) (fun _ _ => keyEq_t) (k := k) r7 ry'
          have sl : acc.length < sizeLine := by
            have := hc.2
            rw [List.length_map] at this
            exact Nat.lt_trans this lim_line
          refine ⟨acc, k, b, rfl, hb7, d7, sl, as7, st7, putK acc k yv, _, ?_, ?_, upd_same, n7, p2.frame kD kT fun _ _ h => h, by rw [← p1]; exact q7⟩
          · refine s7.frame fun b o h z => ?_
            rcases z with z | z
            · rw [upd_ne (fun (y : b = D) => n7 (by rw [← y]; exact z))]; exact h
            · exact kT b o h z
          · have gg := g3.trans g37
            exact ⟨gg.pre, fun b o h n => by rw [upd_ne (ne_of_none h nD)]; exact gg.keep b o h n, gg.fre⟩
        · rw [if_neg hc] at q7
          exact q7.elim
    · have e : i = ds.length := by omega
      subst e
      rw [List.drop_length] at q2
      refine .inl ⟨wk.stop _ H2 stay0 rfl, ?_⟩
      have q2 : ∀ as' v H', Grow g.as H as' H' → SRep X.K as' st2 H' → Own X.K (fun a => Ff g.B as' O σ a ∨ v = .ref a) as' H' v (.dct true (acc.map fun p => tkD p.1) accD) → (∀ p, v = .ref p → H p = none ∧ p ∉ as') → Q v H' := q2
      refine q2 as2 (.ref D) H2 (g1.trans g2) s2 ?_ fun p e => ?_
      · refine .dct hD (.inr ⟨acc, rfl, rfl, rfl, rfl⟩) (rs.weak fun a o _ z => ?_)
        rcases z with (z | z | z) | z
        · exact .inl (.inl z)
        · exact .inr (.inl z)
        · exact .inr (.inr ((own1 a).mpr z))
        · cases z; exact .inl (.inr rfl)
      · cases e
        exact ⟨nDH, nA⟩
theorem dn_dcompT (hu : X.A.units + 1 < cLine) (hc : X.calm = true) (hN : X.N.Nodup) (hi : DIc X O Z tg iter fi) (ok : BlkOk X.N X.env.scope scope own) (hO : ∀ i ∈ own.map (·.2), i ∉ O)
    (hg : ∀ (s : Shared) (H : Hp) (C : Addr) (cl : List (Str × Addr)) (fp : List Addr), DG (X.blk s H scope (compEnvC scope cl C X.env) fp) O (own.map (·.2)) tg t) (ht : ∀ (s : Shared) (H : Hp) (C : Addr) (cl : List (Str × Addr)) (fp : List Addr), DTs (X.blk s H scope (compEnvC scope cl C X.env) fp) O Z ifs fc)
    (hk : ∀ (s : Shared) (H : Hp) (C : Addr) (cl : List (Str × Addr)) (fp : List Addr), DE (X.blk s H scope (compEnvC scope cl C X.env) fp) O Z kx fk)
    (he : ∀ (s : Shared) (H : Hp) (C : Addr) (cl : List (Str × Addr)) (fp : List Addr), DE (X.blk s H scope (compEnvC scope cl C X.env) fp) O Z vx fv) (hs : ∀ x, foldedSetIterable iter X.env x = pure x := by intro _; rfl) :
    DN X O Z (.DictComp kx vx [⟨tg, iter, ifs, 0⟩] scope pos) (E.dcomp true fi (own.map (·.2)) t fc fk fv) :=
  PE.imp (pe_dcT hu hc hN hi ok hg ht hk he hs) fun σ H Q ⟨g, ok, q⟩ => dcomp_finT hO ok q
theorem dcomp_finK {vs : List Nat} {σ : L2.St} {H : Hp} {g : Gh} {Q : VK} (hO : ∀ i ∈ vs, i ∉ O) (ok : g.ok X.K O σ H)
    (q : Ev (E.dcomp false fi vs t fc fk fv g.ρ g.st) (fun d st' => ∀ as' v H', Grow g.as H as' H' → SRep X.K as' st' H' → Own X.K (fun a => Ff g.B as' O σ a ∨ v = .ref a) as' H' v d → (∀ p, v = .ref p → H p = none ∧ p ∉ as') → Q v H') (Zc X.K O g.B g.H0 g.as0 Z)) :
    tDc (tIc X.K O Z fi) (tG X.K O vs t) (tT X.K O Z fc) (tE X.K O Z fk) (tE X.K O Z fv) vs σ H Q := by
  refine ⟨g, ok, (Ev.bnd q).mono (fun ds st1 q as1 H1 J g1 s1 wk D nD => ?_) fun _ _ z => z⟩
  have q := Ev.bnd q
  have ok1 := ok.step g1 s1
  have w1 : Wf X.K O g.B g.H0 g.as0 as1 (wipeD g.ρ vs) (L2.wipe σ vs) H1 := ok1.wf.wipe hO
  have own1 := ownA_wipe (σ := σ) hO
  have nDH : H D = none := by
    cases z : H D with
    | none => rfl
    | some o =>
      by_cases m : D ∈ g.as
      · exact absurd (g1.sub m) (not_as ok1 nD)
      · have := g1.keep D o z m
        rw [nD] at this; cases this
  have wD : ∀ {as2 : List Addr} {H2 : Hp} {st2 : Store} {acc : List (Key × V)}, Grow as1 H1 as2 H2 → SRep X.K as2 st2 H2 → H2 D = some (.dK acc) → Wf X.K O (fun a => g.B a ∨ a = D) g.H0 g.as0 as2 (wipeD g.ρ vs) (L2.wipe σ vs) H2 := fun g2 s2 hD => w1.growB s1 nD g2 s2 ⟨_, hD⟩
  let PP : List G.D → Store → List G.D → List G.D → Prop := fun rest st2 ks vsD => Ev (dcompL false (wipeD g.ρ vs) t fc fk fv rest ks vsD st2) (fun r st' => ∀ as' v H', Grow g.as H as' H' → SRep X.K as' st' H' → Own X.K (fun a => Ff g.B as' O σ a ∨ v = .ref a) as' H' v (.dct false r.1 r.2) → (∀ p, v = .ref p → H p = none ∧ p ∉ as') → Q v H') (Zc X.K O g.B g.H0 g.as0 Z)
  let ST : Nat → Hp → Prop := fun i H2 => ∃ as2 st2 acc accD, SRep X.K as2 st2 H2 ∧ Grow as1 H1 as2 H2 ∧ H2 D = some (.dK acc) ∧ D ∉ as2 ∧
    Reps X.K (Ff (fun a => g.B a ∨ a = D) as2 O (L2.wipe σ vs)) as2 H2 (acc.map (·.2)) accD ∧ PP (ds.drop i) st2 (acc.map fun p => kD p.1) accD
  refine ⟨fun i m H2 => m = ds.length - i ∧ i ≤ ds.length ∧ ST i H2,
    ⟨_, rfl, Nat.zero_le _, as1, st1, [], [], s1.new nD, Grow.new nD, upd_same, not_as ok1 nD, .nil, ?_⟩, ?_⟩
  · exact Ev.mono q (fun ys st' q as' v H' a b c d => q as' v H' a b c d) fun _ _ z => z
  · rintro i m H2 ⟨rfl, hi, as2, st2, acc, accD, s2, g2, hD, nA, rs, q2⟩
    have w2 := wD g2 s2 hD
    obtain ⟨_, ffs0⟩ := Step.stay (σ1 := σ) ok1.wf s1 (g2.step s2)
    have stay0 : Stay (· ∈ as1) H1 H2 := ⟨fun b o h n => g2.keep b o h n, grow_t s1 g2⟩
    have ffs : ∀ a o, H1 a = some o → Ff (fun a => g.B a ∨ a = D) as2 O (L2.wipe σ vs) a → Ff g.B as1 O σ a := fun a o h z => by
      rcases z with (z | z) | z | z
      · exact .inl z
      · rw [z, nD] at h; cases h
      · exact ffs0 a o h (.inr (.inl z))
      · exact .inr (.inr ((own1 a).mp z))
    by_cases hlt : i < ds.length
    · refine .inr ⟨wk.go i H2 stay0 hlt, ?_⟩
      have q2 : PP (ds[i] :: ds.drop (i + 1)) st2 (acc.map fun p => kD p.1) accD := by rw [← List.drop_eq_getElem_cons hlt]; exact q2
      obtain ⟨ρ3, e3, q3⟩ := (Ev.bnd q2).lift
      have q3 := Ev.bnd q3
      refine ⟨ST (i + 1), fun H' n => ⟨ds.length - (i + 1), by omega, rfl, hlt, n⟩, fun x H3 y => ?_⟩
      obtain ⟨sm, rx⟩ := wk.yl i H2 x H3 _ (Ff (fun a => g.B a ∨ a = D) as2 O (L2.wipe σ vs)) as2 stay0 g2.pre ffs y (List.getElem?_eq_getElem hlt)
      have s3 := s2.same sm
      have w3 := w2.grow s2 (grow_same sm) s3
      refine ⟨⟨fun a => g.B a ∨ a = D, g.H0, g.as0, as2, wipeD g.ρ vs, st2⟩, _, ρ3, ⟨w3, s3⟩, rx, e3, fun σ4 w4 o4 l4 j4 => ⟨?_, ?_⟩⟩
      · rw [wipe_same l4 j4, wipe_wipe]
      have ff4 : ∀ (as : List Addr) a, Ff (fun a => g.B a ∨ a = D) as O σ4 a ↔ Ff (fun a => g.B a ∨ a = D) as O (L2.wipe σ vs) a := fun as a => or_congr Iff.rfl (or_congr Iff.rfl (o4 a))
      have hD3 := sm D _ hD
      have g3 := g2.trans (grow_same (as := as2) sm)
      have rs3 : Reps X.K (Ff (fun a => g.B a ∨ a = D) as2 O (L2.wipe σ vs)) as2 H3 (acc.map (·.2)) accD := rs.grow s2 (grow_same sm)
      have grows : ∀ {as5 : List Addr} {H5 : Hp} {st5 : Store}, Grow as2 H3 as5 H5 → SRep X.K as5 st5 H5 → H5 D = some (.dK acc) ∧ D ∉ as5 ∧ Reps X.K (Ff (fun a => g.B a ∨ a = D) as5 O (L2.wipe σ vs)) as5 H5 (acc.map (·.2)) accD := by
        intro as5 H5 st5 g5 s5
        refine ⟨g5.keep D _ hD3 nA, fun z => ?_, rs3.grow s3 g5⟩
        have := g5.fre D z nA
        rw [hD3] at this; cases this
      refine ⟨⟨fun a => g.B a ∨ a = D, g.H0, g.as0, as2, ρ3, st2⟩, ⟨w4, s3⟩, Ev.mono q3 (fun k st5 q5 as5 H5 g5 s5 => ?_) fun _ _ z => z.mono fun _ z => .inl z⟩
      obtain ⟨d5, n5, r5⟩ := grows g5 s5
      cases k with
      | false =>
        exact ⟨as5, st5, acc, accD, s5, g3.trans g5, d5, n5, r5, q5⟩
      | true =>
        have w5 := w4.grow s3 g5 s5
        refine ⟨⟨fun a => g.B a ∨ a = D, g.H0, g.as0, as5, ρ3, st5⟩, ⟨w5, s5⟩, (Ev.bnd q5).mono (fun kd st6 q6 as6 kv H6 g6 s6 rk => ?_) fun _ _ z => z.mono fun _ z => .inl z⟩
        have w6 := w5.grow s5 g6 s6
        refine ⟨⟨fun a => g.B a ∨ a = D, g.H0, g.as0, as6, ρ3, st6⟩, ⟨w6, s6⟩, (Ev.bnd q6).mono (fun y st7 q7 as7 yv H7 g7 s7 ry => ?_) fun _ _ z => z.mono fun _ z => .inl z⟩
        have g37 := (g5.trans g6).trans g7
        obtain ⟨d7, n7, r7⟩ := grows g37 s7
        by_cases hc : okKey false kd = true ∧ (acc.map fun p => kD p.1).length < LIM
        · rw [if_pos hc] at q7
          have hc1 := hc.1
          unfold okKey at hc1
          rw [if_neg Bool.false_ne_true] at hc1
          obtain ⟨k, ek⟩ := Option.isSome_iff_exists.mp hc1
          have ek := toKey_eq ek
          subst ek
          have ekv := rk.key
          subst ekv
          have ry' : Rep X.K (Ff (fun a => g.B a ∨ a = D) as7 O (L2.wipe σ vs)) as7 H7 yv y := ry.weak fun a o _ z => (ff4 as7 a).mpr z
          have kDD : ∀ b o, H7 b = some o → ¬ Ff (fun a => g.B a ∨ a = D) as7 O (L2.wipe σ vs) b → upd H7 D (.dK (putK acc k yv)) b = some o := fun b o h n => by rw [upd_ne (fun (z : b = D) => n (.inl (.inr z)))]; exact h
          have kT : ∀ b o, H7 b = some o → TupO o → upd H7 D (.dK (putK acc k yv)) b = some o := fun b o h t => by
            rw [upd_ne (fun (z : b = D) => by rw [z, d7] at h; cases h; exact t)]; exact h
          obtain ⟨p1, p2⟩ := put_reps (t := false) (e := kD) (fun _ _ => keyEq_k) (k := k) r7 ry'
          have sl : acc.length < sizeLine := by
            have := hc.2
            rw [List.length_map] at this
            exact Nat.lt_trans this lim_line
          refine ⟨acc, k, rfl, d7, sl, as7, st7, putK acc k yv, _, ?_, ?_, upd_same, n7, p2.frame kDD kT fun _ _ h => h, by rw [← p1]; exact q7⟩
          · refine s7.frame fun b o h z => ?_
            rcases z with z | z
            · rw [upd_ne (fun (y : b = D) => n7 (by rw [← y]; exact z))]; exact h
            · exact kT b o h z
          · have gg := g3.trans g37
            exact ⟨gg.pre, fun b o h n => by rw [upd_ne (ne_of_none h nD)]; exact gg.keep b o h n, gg.fre⟩
        · rw [if_neg hc] at q7
          exact q7.elim
    · have e : i = ds.length := by omega
      subst e
      rw [List.drop_length] at q2
      refine .inl ⟨wk.stop _ H2 stay0 rfl, ?_⟩
      have q2 : ∀ as' v H', Grow g.as H as' H' → SRep X.K as' st2 H' → Own X.K (fun a => Ff g.B as' O σ a ∨ v = .ref a) as' H' v (.dct false (acc.map fun p => kD p.1) accD) → (∀ p, v = .ref p → H p = none ∧ p ∉ as') → Q v H' := q2
      refine q2 as2 (.ref D) H2 (g1.trans g2) s2 ?_ fun p e => ?_
      · refine .dct hD (.inl ⟨acc, rfl, rfl, rfl, rfl⟩) (rs.weak fun a o _ z => ?_)
        rcases z with (z | z | z) | z
        · exact .inl (.inl z)
        · exact .inr (.inl z)
        · exact .inr (.inr ((own1 a).mpr z))
        · cases z; exact .inl (.inr rfl)
      · cases e
        exact ⟨nDH, nA⟩
theorem dn_dcompK (hc : X.calm = true) (hN : X.N.Nodup) (hi : DIc X O Z tg iter fi) (ok : BlkOk X.N X.env.scope scope own) (hO : ∀ i ∈ own.map (·.2), i ∉ O)
    (hg : ∀ (s : Shared) (H : Hp) (C : Addr) (cl : List (Str × Addr)) (fp : List Addr), DG (X.blk s H scope (compEnvC scope cl C X.env) fp) O (own.map (·.2)) tg t) (ht : ∀ (s : Shared) (H : Hp) (C : Addr) (cl : List (Str × Addr)) (fp : List Addr), DTs (X.blk s H scope (compEnvC scope cl C X.env) fp) O Z ifs fc)
    (hk : ∀ (s : Shared) (H : Hp) (C : Addr) (cl : List (Str × Addr)) (fp : List Addr), DE (X.blk s H scope (compEnvC scope cl C X.env) fp) O Z kx fk)
    (he : ∀ (s : Shared) (H : Hp) (C : Addr) (cl : List (Str × Addr)) (fp : List Addr), DE (X.blk s H scope (compEnvC scope cl C X.env) fp) O Z vx fv) (hs : ∀ x, foldedSetIterable iter X.env x = pure x := by intro _; rfl) :
    DN X O Z (.DictComp kx vx [⟨tg, iter, ifs, 0⟩] scope pos) (E.dcomp false fi (own.map (·.2)) t fc fk fv) :=
  PE.imp (pe_dc hc hN hi ok hg ht hk he hs) fun σ H Q ⟨g, ok, q⟩ => dcomp_finK hO ok q
end
end G
end L2
end G21_
section G22_
set_option Elab.async false
set_option linter.all false
set_option maxRecDepth 100000
set_option maxHeartbeats 1000000
namespace L2
namespace G
open PySem PySem.Spec PyProof.Rows
section
variable {X : Cx} {O : List Nat} {Z : ZT} {e a b c tg : Expr} {es : List Expr} {f fa fb fc : Env → M D} {r : Env → M (List D)} {pos p : Pos} {x : Str} {vs : List Nat} {t : D → Env → Option Env}
/-! ### *e in displays -/
def A.star (f : Env → M D) (r : Env → M (List D)) : Env → M (List D) := fun ρ => bnd (f ρ) fun d => bnd (lift (seqD d)) fun xs => bnd (r ρ) fun ys => if xs.length + ys.length < LIM then ret (xs ++ ys) else bad
theorem seq_sq {K : PySem.W.Frag} {F : Addr → Prop} {as : List Addr} {H : Hp} {v : V} {d : D} {ds : List D} (e : seqD d = some ds) (r : RepT K F as H v d) : ∃ a xs, v = .ref a ∧ (SqT K H a xs ∨ SqL K H a xs) ∧ Reps K F as H xs ds := by
  cases d with
  | lst xs => cases e; obtain ⟨a, us, h1, h2, h3⟩ := r.t_lst; exact ⟨a, us, h1, .inr h2, h3⟩
  | tup xs => cases e; obtain ⟨a, us, h1, h2, h3⟩ := r.t_tup; exact ⟨a, us, h1, .inl (SqT.of h2), h3⟩
  | ftup xs => cases e; obtain ⟨a, us, h1, h2, h3⟩ := r.t_ftup; exact ⟨a, us, h1, .inl h2.sq, h3⟩
  | _ => cases e
theorem da_star (he : DU X O Z e f) (hr : DA X O Z es r) (hs : starEach (.Starred e p :: es) X.env = (true, eval e X.env) :: starEach es X.env := by rfl) : DA X O Z (.Starred e p :: es) (A.star f r) := PA.imp (StX.pa_star he hr hs) fun σ H Q ⟨g, ok, q⟩ => by
  refine ⟨g, ok, (Ev.bnd q).mono (fun d st1 q as1 v H1 g1 s1 r1 => ?_) fun _ _ z => z⟩
  obtain ⟨xs, e, q⟩ := (Ev.bnd q).lift
  obtain ⟨a, us, rfl, sq, rs⟩ := seq_sq e r1
  refine ⟨a, us, rfl, sq, g.at as1 st1, ok.step g1 s1, (Ev.bnd q).mono (fun ys st2 q as2 ws H2 g2 s2 r2 => ?_) fun _ _ z => z⟩
  split at q
  · exact q as2 _ H2 (g1.trans g2) s2 ((rs.grow s1 g2).append r2)
  · exact q.elim
def Len (r : Env → M (List D)) (n : Nat) : Prop := ∀ ρ s ds s', r ρ s = .ok ds s' → ds.length ≤ n
theorem len_nil : Len A.nil 0 := fun ρ s ds s' h => by cases h; exact Nat.le_refl _
theorem len_cons {n : Nat} (h : Len r n) : Len (A.cons f r) (n + 1) := fun ρ s ds s' z => by
  unfold A.cons bnd at z
  cases e : f ρ s with
  | ok d s1 =>
    rw [e] at z
    dsimp only at z
    cases e2 : r ρ s1 with
    | ok d2 s2 =>
      rw [e2] at z
      cases z
      have := h _ _ _ _ e2
      simp; omega
    | exc x s2 => rw [e2] at z; cases z
    | bad => rw [e2] at z; cases z
  | exc x s2 => rw [e] at z; cases z
  | bad => rw [e] at z; cases z
theorem len_star : Len (A.star f r) LIM := fun ρ s ds s' z => by
  unfold A.star bnd at z
  cases e : f ρ s with
  | ok d s1 =>
    rw [e] at z
    dsimp only at z
    cases e2 : seqD d with
    | none => rw [e2] at z; cases z
    | some xs =>
      rw [e2] at z
      simp only [lift, ret] at z
      cases e3 : r ρ s1 with
      | ok d2 s2 =>
        rw [e3] at z
        dsimp only at z
        split at z
        · cases z
          rw [List.length_append]
          omega
        · cases z
      | exc x s2 => rw [e3] at z; cases z
      | bad => rw [e3] at z; cases z
  | exc x s2 => rw [e] at z; cases z
  | bad => rw [e] at z; cases z
theorem Len.ok {n : Nat} (h : Len r n) (hn : n ≤ LIM + 1000 := by decide) : ∀ ρ s ds s', r ρ s = .ok ds s' → ds.length ≤ sizeLine := fun ρ s ds s' z => by
  have := h ρ s ds s' z
  have := line_million
  unfold LIM at hn
  omega
/-! ### names of the module -/
theorem dn_globI {x : Str} {u : Value} {i : Int} {pos : Pos} (hg : Gl X x) (hm : X.mg x = some u) (r : RelV (.int i) u) (hd : (x == ("__debug__" : Str)) = false := by decide) : DN X O Z (.Name x pos) (E.cst (.int i)) :=
  PE.imp (pe_glob hg hm r hd) fun σ H Q ⟨g, ok, q⟩ => q _ _ H (Grow.refl _ _) ok.sr (.sca (.int i) fun p z => nomatch z) fun p z => nomatch z
theorem dn_globS {x : Str} {u : Value} {i : Str} {pos : Pos} (hg : Gl X x) (hm : X.mg x = some u) (r : RelV (.str i) u) (hd : (x == ("__debug__" : Str)) = false := by decide) : DN X O Z (.Name x pos) (E.cst (.str i)) :=
  PE.imp (pe_glob hg hm r hd) fun σ H Q ⟨g, ok, q⟩ => q _ _ H (Grow.refl _ _) ok.sr (.sca (.str i) fun p z => nomatch z) fun p z => nomatch z
/-! ### ** -/
def powD : D → D → Option D
  | .int i, .int j => if 0 ≤ j ∧ j ≤ 1000000 ∧ i.natAbs < 2 ^ 64 then some (.int (i ^ j.toNat)) else none
  | _, _ => none
theorem o_pow : Op2 X (binaryOp .Pow) powD := ⟨_, op_pow, fun F as H x y d1 d2 d Q tr r1 r2 e q => by
  unfold powD at e
  split at e
  · split at e
    · rename_i h
      cases e
      rw [r1.t_int, r2.t_int]
      exact ⟨_, _, rfl, rfl, h, q _ H (Same.refl _) (.int _)⟩
    · cases e
  · cases e⟩
/-! ### is, of booleans and None -/
def isD2 : D → D → Option D
  | a, .non => some (.bl a.isNon)
  | .bl a, .bl b => some (.bl (decide (a = b)))
  | _, _ => none
def isNotD2 : D → D → Option D
  | a, .non => some (.bl (!a.isNon))
  | .bl a, .bl b => some (.bl (!decide (a = b)))
  | _, _ => none
theorem o_is2 : Op2 X (compareOp .Is) isD2 := ⟨_, op_isN.or op_is_bl, fun F as H x y d1 d2 d Q tr r1 r2 e q => by
  unfold isD2 at e
  split at e
  · cases e
    rw [r2.t_non]
    exact .inl ⟨rfl, by rw [r1.isNon]; exact q _ H (Same.refl _) (.bl _)⟩
  · cases e
    rw [r1.t_bl, r2.t_bl]
    exact .inr ⟨_, _, rfl, rfl, q _ H (Same.refl _) (.bl _)⟩
  · cases e⟩
theorem o_isNot2 : Op2 X (compareOp .IsNot) isNotD2 := ⟨_, op_notN.or op_isnot_bl, fun F as H x y d1 d2 d Q tr r1 r2 e q => by
  unfold isNotD2 at e
  split at e
  · cases e
    rw [r2.t_non]
    exact .inl ⟨rfl, by rw [r1.isNon]; exact q _ H (Same.refl _) (.bl _)⟩
  · cases e
    rw [r1.t_bl, r2.t_bl]
    exact .inr ⟨_, _, rfl, rfl, q _ H (Same.refl _) (.bl _)⟩
  · cases e⟩
/-! ### >= of tuples of ints -/
def lexGe : List Int → List Int → Bool
  | _, [] => true
  | [], _ :: _ => false
  | x :: xs, y :: ys => if x = y then lexGe xs ys else decide (y ≤ x)
theorem lexAt_shift {e r : Nat → Bool} {z : Bool} : ∀ (k i : Nat), Ob.lexAt e r z (i + 1) k = Ob.lexAt (fun j => e (j + 1)) (fun j => r (j + 1)) z i k
  | 0, _ => rfl
  | k + 1, i => by rw [Ob.lexAt_succ, Ob.lexAt_succ, lexAt_shift k (i + 1)]
theorem lexAt_ge : ∀ (ns ms : List Int), Ob.lexAt (fun j => decide (ns.getD j 0 = ms.getD j 0)) (fun j => decide (ns.getD j 0 ≥ ms.getD j 0)) (decide (ns.length ≥ ms.length)) 0 (min ns.length ms.length) = lexGe ns ms
  | ns, [] => by
    have : min ns.length ([] : List Int).length = 0 := by simp
    rw [this, Ob.lexAt_zero]
    cases ns <;> simp [lexGe]
  | [], y :: ys => by
    have : min ([] : List Int).length (y :: ys).length = 0 := by simp
    rw [this, Ob.lexAt_zero]
    simp [lexGe]
  | x :: xs, y :: ys => by
    have : min (x :: xs).length (y :: ys).length = min xs.length ys.length + 1 := by simp only [List.length_cons]; omega
    rw [this, Ob.lexAt_succ, lexAt_shift]
    have ih := lexAt_ge xs ys
    have e2 : decide ((x :: xs).length ≥ (y :: ys).length) = decide (xs.length ≥ ys.length) := by simp
    rw [e2]
    unfold lexGe
    by_cases h : x = y
    · rw [if_pos h, if_pos (by simpa using h)]
      exact ih
    · rw [if_neg h, if_neg (by simpa using h)]
      simp
theorem op_geT (hu : X.A.units < cLine) : OpR X (compareOp .GtE) (fun x y H Q => ∃ (a b : Addr) (ns ms : List Int), x = .ref a ∧ y = .ref b ∧ SqT X.K H a (ns.map V.int) ∧ SqT X.K H b (ms.map V.int) ∧ Q (.bl (lexGe ns ms)) H) := by
  intro pins s σ H x y v u Q I rx ry h
  obtain ⟨a, b, ns, ms, rfl, rfl, ha, hb, q⟩ := h
  cases rx
  cases ry
  obtain ⟨its, r1, p1, _⟩ := I.tuple ha
  obtain ⟨its2, r2, p2, _⟩ := I.tuple hb
  have i1 : IntsAre its ns := Vals.ints r1
  have i2 : IntsAre its2 ms := Vals.ints r2
  have e1 : its.toArray.size = ns.length := by rw [List.size_toArray]; exact i1.length
  have e2 : its2.toArray.size = ms.length := by rw [List.size_toArray]; exact i2.length
  have at1 : ∀ j (h1 : j < its.toArray.size), ∃ t, its.toArray[j] = .int (ns.getD j 0) t := fun j h1 => PyProof.Rows.IntsAre.int_at i1 _ _ (by simp at h1; simp [h1])
  have at2 : ∀ j (h1 : j < its2.toArray.size), ∃ t, its2.toArray[j] = .int (ms.getD j 0) t := fun j h1 => PyProof.Rows.IntsAre.int_at i2 _ _ (by simp at h1; simp [h1])
  have R := Ob.RcOp.tuples_ge (A := X.A) (s := s) (e := fun j => decide (ns.getD j 0 = ms.getD j 0)) (r := fun j => decide (ns.getD j 0 ≥ ms.getD j 0)) p1 p2 hu (fun j h1 h2 => by
    obtain ⟨t, et⟩ := at1 j h1
    obtain ⟨t', et'⟩ := at2 j h2
    rw [et, et']
    have z : (ns.getD j 0 == ms.getD j 0) = decide (ns.getD j 0 = ms.getD j 0) := by
      by_cases q : ns.getD j 0 = ms.getD j 0
      · rw [decide_eq_true q]; exact beq_iff_eq.mpr q
      · rw [decide_eq_false q]; exact beq_eq_false_iff_ne.mpr q
    rw [← z]
    exact SeqAt.EqAt.int_int _ _ _ _) (fun j h1 h2 _ => by
    obtain ⟨t, et⟩ := at1 j h1
    obtain ⟨t', et'⟩ := at2 j h2
    rw [et, et']
    exact Ob.RcOp.ge_int _ _ _ _)
  rw [e1, e2, lexAt_ge] at R
  have z : wpAny (model X.prog X.w) X.A (compareOp .GtE (.ref a) (.ref b)) (EP X pins σ Q) X.xe s := R X.prog X.w X.xe (EP X pins σ Q) ⟨.bl _, H, I, rfl, q⟩
  exact z
def geD2 : D → D → Option D
  | .int i, .int j => some (.bl (decide (j ≤ i)))
  | .tup xs, .tup ys => (intsD xs).bind fun ns => (intsD ys).map fun ms => .bl (lexGe ns ms)
  | _, _ => none
theorem o_ge2 (hu : X.A.units < cLine) : Op2 X (compareOp .GtE) geD2 := by
  obtain ⟨r0, h0, k0⟩ := o_ge (X := X)
  refine ⟨_, h0.or (op_geT hu), fun F as H x y d1 d2 d Q tr r1 r2 e q => ?_⟩
  unfold geD2 at e
  split at e
  · exact .inl (k0 F as H x y _ _ d Q tr r1 r2 e q)
  · rw [Option.bind_eq_some_iff] at e
    obtain ⟨ns, e1, e⟩ := e
    rw [Option.map_eq_some_iff] at e
    obtain ⟨ms, e2, rfl⟩ := e
    obtain ⟨a, us, rfl, s1, q1⟩ := r1.t_tup
    obtain ⟨b, ws, rfl, s2, q2⟩ := r2.t_tup
    rw [q1.toInts e1] at s1
    rw [q2.toInts e2] at s2
    exact .inr ⟨a, b, ns, ms, rfl, rfl, SqT.of s1, SqT.of s2, q _ H (Same.refl _) (.bl _)⟩
  · cases e
/-! ### list(range(..)) -/
def rgL1 : List D → Option D
  | [.int j] => if -1000000 ≤ j ∧ j ≤ 1000000 then some (.lst (rangeD 0 j)) else none
  | _ => none
def rgL2 : List D → Option D
  | [.int i, .int j] => if -1000000 ≤ i ∧ i ≤ 1000000 ∧ -1000000 ≤ j ∧ j ≤ 1000000 then some (.lst (rangeD i j)) else none
  | _ => none
theorem reps_rg {K : PySem.W.Frag} {F : Addr → Prop} {as : List Addr} {H : Hp} (a b : Int) : Reps K F as H (rgV a b) (rangeD a b) := by
  unfold rgV rangeD
  generalize List.range (b - a).toNat = l
  induction l with
  | nil => exact .nil
  | cons k l ih => exact .cons (.int _) ih
theorem dn_listRange2 {p p2 pos2 : Pos} (hc : X.calm = true) (hg : Gl X "list") (hm : X.mg "list" = none) (hg2 : Gl X "range") (hm2 : X.mg "range" = none) (ha : DU X O Z a fa) (hb : DU X O Z b fb) (hs1 : starEach [.Call (.Name "range" p2) [a, b] [] pos2] X.env = (false, eval (.Call (.Name "range" p2) [a, b] [] pos2) X.env) :: starEach [] X.env := by rfl)
    (na : starEach [a, b] X.env = (false, eval a X.env) :: starEach [b] X.env := by rfl) (nb : starEach [b] X.env = (false, eval b X.env) :: starEach [] X.env := by rfl) (hp : (backTo pos2 (starEach [b] X.env)).any (·.1) = false := by rfl) :
    DN X O Z (.Call (.Name "list" p) [.Call (.Name "range" p2) [a, b] [] pos2] [] pos) (E.blt rgL2 (A.cons fa (A.cons fb A.nil))) := PE.imp (pe_listRg hc hg hm (prg_2 hg2 hm2 ha hb na nb hp) hs1) fun σ H Q ⟨g, ok, q⟩ => by
  have q := Ev.bnd q
  refine ⟨g, ok, (Ev.bnd q).mono (fun d1 st1 q as1 v1 H1 g1 s1 r1 => ⟨g.at as1 st1, ok.step g1 s1, (Ev.bnd (Ev.bnd q)).mono (fun d2 st2 q as2 v2 H2 g2 s2 r2 => ?_) fun _ _ z => z⟩) fun _ _ z => z⟩
  obtain ⟨d, e, q⟩ := Ev.lift (o := rgL2 [d1, d2]) (s := st2) q
  unfold rgL2 at e
  split at e
  · rename_i i j h
    cases h
    split at e
    · rename_i h
      cases e
      have ok2 := (ok.step g1 s1).step g2 s2
      refine ⟨i, j, r1.t_int, r2.t_int, ⟨by omega, by omega, by omega, by omega, by omega⟩, fun p np => ?_⟩
      have g12 := g1.trans g2
      refine q as2 _ _ (g12.trans (Grow.new np)) (s2.new np) (Own.newL np (reps_rg i j)) fun p' z => ?_
      cases z
      have na := not_as ok2 np
      exact ⟨fresh_back (K := X.K) (σ := σ) (st1 := st2) g12 np na, na⟩
    · cases e
  · cases e
end
end G
end L2
end G22_
section G23_
set_option Elab.async false
set_option linter.all false
set_option maxRecDepth 100000
set_option maxHeartbeats 1000000
namespace L2
namespace G
open PySem PySem.Spec PyProof.Rows
/-! ### a dict is locked while it is walked -/
theorem notTup_frz {o : HO} {od : Obj} (nt : ¬ TupO o) : ¬ TupO (.frz od o) := fun z => by
  cases o with
  | tup xs => exact nt trivial
  | _ => exact z
def NoFrz (o : HO) : Prop := ∀ x y, o ≠ .frz x y
section
variable {K : PySem.W.Frag} {F F' : Addr → Prop} {as as' : List Addr} {H H' : Hp}
theorem LstAt.frameR {a : Addr} {xs : List V} (k : ∀ b o, NoFrz o → Rd H b o → ¬ F b → Rd H' b o) (h : LstAt K F H a xs) : LstAt K F H' a xs := by
  rcases h with ⟨n, h⟩ | h
  · exact .inl ⟨n, k _ _ (fun _ _ z => nomatch z) h n⟩
  · exact .inr h
theorem DctO.noFrz {o : HO} {t : Bool} {ks : List D} {vs : List V} (h : DctO o t ks vs) : NoFrz o := by
  rcases h with ⟨_, _, rfl, _⟩ | ⟨_, _, rfl, _⟩ <;> exact fun _ _ z => nomatch z
mutual
theorem Rep.frameR {v : V} {d : D} (k : ∀ b o, NoFrz o → Rd H b o → ¬ F b → Rd H' b o) (kt : ∀ b o, H b = some o → TupO o → H' b = some o) : Rep K F as H v d → Rep K F as H' v d
  | .non => .non
  | .bl b => .bl b
  | .int i => .int i
  | .str x => .str x
  | .tup h r => .tup (kt _ _ h trivial) (r.frameR k kt)
  | .ftup h r => .ftup (h.frame kt) (r.frameR k kt)
  | .lst h r => .lst (h.frameR k) (r.frameR k kt)
  | .dct n h o r => .dct n (k _ _ o.noFrz h n) o (r.frameR k kt)
  | .ref h => .ref h
theorem Reps.frameR {vs : List V} {ds : List D} (k : ∀ b o, NoFrz o → Rd H b o → ¬ F b → Rd H' b o) (kt : ∀ b o, H b = some o → TupO o → H' b = some o) : Reps K F as H vs ds → Reps K F as H' vs ds
  | .nil => .nil
  | .cons h r => .cons (h.frameR k kt) (r.frameR k kt)
end
end
section
variable {K : PySem.W.Frag} {F : Addr → Prop} {O : List Nat} {B : Addr → Prop} {H0 : Hp} {as0 as as' : List Addr} {ρ : Env} {σ : L2.St} {H H' : Hp} {st : Store} {d : Addr} {u : HO} {od : Obj}
theorem lock_k (hd : H d = some u) (nf : NoFrz u) : ∀ b o, NoFrz o → Rd H b o → ¬ F b → Rd (upd H d (.frz od u)) b o := fun b o no r n => by
  by_cases e : b = d
  · subst e
    rcases r with r | ⟨x, r⟩
    · rw [hd] at r; cases r; exact .inr ⟨od, upd_same⟩
    · rw [hd] at r; cases r; exact absurd rfl (nf _ _)
  · rcases r with r | ⟨x, r⟩
    · exact .inl (by rw [upd_ne e]; exact r)
    · exact .inr ⟨x, by rw [upd_ne e]; exact r⟩
theorem unlock_k (hd : H d = some (.frz od u)) : ∀ b o, NoFrz o → Rd H b o → ¬ F b → Rd (upd H d u) b o := fun b o no r n => by
  by_cases e : b = d
  · subst e
    rcases r with r | ⟨x, r⟩
    · rw [hd] at r; cases r; exact absurd rfl (no _ _)
    · rw [hd] at r; cases r; exact .inl upd_same
  · rcases r with r | ⟨x, r⟩
    · exact .inl (by rw [upd_ne e]; exact r)
    · exact .inr ⟨x, by rw [upd_ne e]; exact r⟩
theorem upd_t {o : HO} (hd : ∃ w, H d = some w ∧ ¬ TupO w) : ∀ b u, H b = some u → TupO u → upd H d o b = some u := fun b xs e t => by
  obtain ⟨w, hd, n⟩ := hd
  rw [upd_ne (fun (z : b = d) => by rw [z, hd] at e; cases e; exact n t)]
  exact e
theorem SRep.lockd (h : SRep K as st H) (nd : d ∉ as) {o : HO} (hd : ∃ w, H d = some w ∧ ¬ TupO w) (hx : ∀ φ, H d ≠ some (.ext φ)) : SRep K as st (upd H d o) where
  nd := h.nd
  len := h.len
  at_ := fun i a c ha hc => by
    have q := h.at_ i a c ha hc
    have hm : a ≠ d := fun e => nd (by rw [← e]; exact List.mem_of_getElem? ha)
    cases c with
    | lst xs =>
      obtain ⟨vs, e, r⟩ := q
      exact ⟨vs, by rw [upd_ne hm]; exact e, r.frameR (fun _ _ _ _ n => absurd trivial n) (upd_t hd)⟩
    | dct t ks xs =>
      obtain ⟨o, vs, e, dd, r⟩ := q
      exact ⟨o, vs, by rw [upd_ne hm]; exact e, dd, r.frameR (fun _ _ _ _ n => absurd trivial n) (upd_t hd)⟩
    | tbl y =>
      obtain ⟨hy, ps, e, t, c⟩ := q
      refine ⟨hy, ps, by rw [upd_ne hm]; exact e, t, fun pos cv hcv => ?_⟩
      obtain ⟨c, e1, e2⟩ := c pos cv hcv
      exact ⟨c, e1, by rw [upd_ne (fun z => by rw [z] at e2; exact hx _ e2)]; exact e2⟩
/-- what stands while d is locked; of what was at first, d is forgotten -/
theorem Wf.lock (w : Wf K O B H0 as0 as ρ σ H) (hd : H d = some u) (nf : NoFrz u) (nt : ¬ TupO u) (nF : ¬ Ff B as O σ d) : Wf K O B (fun b => if b = d then none else H0 b) as0 as ρ σ (upd H d (.frz od u)) := by
  have ut : ∀ b o, H b = some o → TupO o → upd H d (.frz od u) b = some o := upd_t ⟨u, hd, nt⟩
  have ntf : ¬ TupO (.frz od u) := fun z => by
    cases u with
    | tup _ => exact nt trivial
    | _ => exact z
  have kF : ∀ b o, NoFrz o → Rd H b o → ¬ Ff B as O σ b → Rd (upd H d (.frz od u)) b o := lock_k hd nf
  refine ⟨w.len, fun i dd e n => ?_, fun i dd e m => ?_, fun i a m e => ?_, w.dis, fun a b => ?_, ⟨w.gr.pre, fun b o h n => ?_, fun a h n => ?_⟩⟩
  · obtain ⟨v, h, r⟩ := w.var i dd e n
    exact ⟨v, h, r.frameR kF ut⟩
  · obtain ⟨v, h, r⟩ := w.own i dd e m
    have hp : ∀ p, v = .ref p → p ≠ d := fun p z y => nF (.inr (.inr ⟨i, m, by rw [← y, ← z]; exact h⟩))
    refine ⟨v, h, ?_⟩
    cases r with
    | lst hh r => exact .lst (by rw [upd_ne (hp _ rfl)]; exact hh) (r.frameR kF ut)
    | dct hh o r => exact .dct (by rw [upd_ne (hp _ rfl)]; exact hh) o (r.frameR kF ut)
    | sca r q => exact .sca (r.frameR kF ut) q
  · obtain ⟨h1, h2, h3, o, h4, h5⟩ := w.slot i a m e
    have hp : a ≠ d := fun y => nF (.inr (.inr ⟨i, m, by rw [← y]; exact e⟩))
    exact ⟨by show (if a = d then none else H0 a) = none; rw [if_neg hp]; exact h1, h2, h3, o, by rw [upd_ne hp]; exact h4, h5⟩
  · obtain ⟨o, h⟩ := w.trB a b
    by_cases e : a = d
    · exact ⟨_, by rw [e]; exact upd_same⟩
    · exact ⟨o, by rw [upd_ne e]; exact h⟩
  · have h : (if b = d then none else H0 b) = some o := h
    by_cases e : b = d
    · rw [if_pos e] at h; cases h
    · rw [if_neg e] at h
      rw [upd_ne e]
      exact w.gr.keep b o h n
  · show (if a = d then none else H0 a) = none
    by_cases e : a = d
    · rw [if_pos e]
    · rw [if_neg e]; exact w.gr.fre a h n
end
/-! ### the keys of a dict, in a list comprehension -/
theorem noexc_ok {α : Type} {m : M α} {s : Store} {P : α → Store → Prop} {Z : Ex → Store → Prop} (h : Ev (noexc m s) P Z) (Z' : Ex → Store → Prop) : Ev (m s) P Z' := by
  unfold noexc at h
  cases e : m s with
  | ok a s' => rw [e] at h; exact h
  | exc x s' => rw [e] at h; exact h.elim
  | bad => rw [e] at h; exact h
theorem walk_keysT {K : PySem.W.Frag} {F : Addr → Prop} {as : List Addr} {H : Hp} {d : Addr} {o : Obj} {kvs : List (List Key × V)} (hd : H d = some (.frz o (.dT kvs))) (n : ¬ F d) (hl : kvs.length ≤ sizeLine) : Walk K F as H (Itkt d o kvs) (kvs.map fun p => tkD p.1) where
  len := by rw [List.length_map]; exact hl
  go := fun i H1 st hi => ⟨st.1 _ _ hd n, by rw [List.length_map] at hi; exact hi⟩
  yl := fun i H1 x H2 dd F1 as1 st p k y e => by
    obtain ⟨rfl, kk, v, q, h1, rfl, h2⟩ := y
    rw [List.getElem?_map, h1] at e
    cases e
    exact ⟨Same.refl _, .tup h2 (reps_keys kk)⟩
  stop := fun i H1 st hi => ⟨st.1 _ _ hd n, by rw [List.length_map] at hi; exact Nat.le_of_eq hi⟩
theorem walk_keysK {K : PySem.W.Frag} {F : Addr → Prop} {as : List Addr} {H : Hp} {d : Addr} {o : Obj} {kvs : List (Key × V)} (hd : H d = some (.frz o (.dK kvs))) (n : ¬ F d) (hl : kvs.length ≤ sizeLine) : Walk K F as H (Itk d o kvs) (kvs.map fun p => kD p.1) where
  len := by rw [List.length_map]; exact hl
  go := fun i H1 st hi => ⟨st.1 _ _ hd n, by rw [List.length_map] at hi; exact hi⟩
  yl := fun i H1 x H2 dd F1 as1 st p k y e => by
    obtain ⟨rfl, kk, v, h1, rfl⟩ := y
    rw [List.getElem?_map, h1] at e
    cases e
    exact ⟨Same.refl _, rep_key kk⟩
  stop := fun i H1 st hi => ⟨st.1 _ _ hd n, by rw [List.length_map] at hi; exact Nat.le_of_eq hi⟩
theorem PE.or {X : Cx} {e : Expr} {t t' : TE} (h : PE X e t) (k : PE X e t') : PE X e (fun σ H Q => t σ H Q ∨ t' σ H Q) := ⟨fun pins s σ H Q I q => q.elim (h.run pins s σ H Q I) (k.run pins s σ H Q I)⟩
/-- lengths of dicts -/
theorem pe_dlen {X : Cx} {e : Expr} {t : TE} (h : PE X e t) : PE X e (fun σ H Q => ((∀ a kvs, Rd H a (.dK kvs) → kvs.length ≤ sizeLine) → (∀ a kvs, Rd H a (.dT kvs) → kvs.length ≤ sizeLine) → t σ H Q)) := ⟨fun pins s σ H Q I q => h.run pins s σ H Q I (q (fun a kvs r => (r.ok I.hok).1) fun a kvs r => (r.ok I.hok).1)⟩
def E.compK (i : Nat) (vs : List Nat) (t : D → Env → Option Env) (c : Env → M Bool) (e : Env → M D) : Env → M D := fun ρ => match ρ[i]? with
  | some (some (.dct _ ks _)) => noexc (bnd (compL (wipeD ρ vs) t c e ks) fun rs => ret (.lst rs))
  | _ => bad
section
variable {X : Cx} {O : List Nat} {Z : ZT} {e a b c tg elt : Expr} {es ifs : List Expr} {f fa fb fe : Env → M D} {fi r : Env → M (List D)} {fc : Env → M Bool} {t : D → Env → Option Env} {pos p : Pos} {x : Str} {scope : Scope} {own : List (Str × Nat)}
theorem slot_dctE {ρ : Env} {i : Nat} {k : Bool → List D → List D → M D} {st : Store} {P : D → Store → Prop} {ZZ : Ex → Store → Prop} (q : Ev ((match ρ[i]? with
  | some (some (.dct t ks vs)) => k t ks vs
  | _ => G.bad) st) P ZZ) : ∃ t ks vs, ρ[i]? = some (some (.dct t ks vs)) ∧ Ev (k t ks vs st) P ZZ := by
  cases e : ρ[i]? with
  | none => rw [e] at q; exact q.elim
  | some o =>
    rw [e] at q
    cases o with
    | none => exact q.elim
    | some d =>
      cases d with
      | dct t ks vs => exact ⟨t, ks, vs, rfl, q⟩
      | _ => exact q.elim
theorem compK_fin {i : Nat} {vs : List Nat} {σ : L2.St} {H : Hp} {g : Gh} {Q : VK} (hiO : i ∉ O) (hO : ∀ i ∈ vs, i ∉ O) (ok : g.ok X.K O σ H) (L1 : ∀ a kvs, Rd H a (.dK kvs) → kvs.length ≤ sizeLine) (L2' : ∀ a kvs, Rd H a (.dT kvs) → kvs.length ≤ sizeLine)
    (q : Ev (E.compK i vs t fc fe g.ρ g.st) (fun d st' => ∀ as' v H', Grow g.as H as' H' → SRep X.K as' st' H' → Own X.K (fun a => Ff g.B as' O σ a ∨ v = .ref a) as' H' v d → (∀ p, v = .ref p → H p = none ∧ p ∉ as') → Q v H') (Zc X.K O g.B g.H0 g.as0 Z)) :
    tLockE (tLc (iKeys (tVar i)) (tG X.K O vs t) (tT X.K O Z0 fc) (tE X.K O Z0 fe) vs) σ H Q ∨ tLc (iKeys (tVar i)) (tG X.K O vs t) (tT X.K O Z0 fc) (tE X.K O Z0 fe) vs σ H Q := by
  unfold E.compK at q
  obtain ⟨tt, ks, ds, er, q⟩ := slot_dctE q
  have q := noexc_ok q (fun _ _ => False)
  obtain ⟨v, hv, r⟩ := ok.wf.var i _ er hiO
  cases r with
  | dct nF rd dd rs =>
    rename_i a o xs
    have nt := dd.notTup
    have nfz := dd.noFrz
    have nas : a ∉ g.as := fun z => nF (.inr (.inl z))
    rcases rd with hd | ⟨od, hd⟩
    · -- not yet locked
      left
      have mu : Mut (some o) := by rcases dd with ⟨_, _, rfl, _⟩ | ⟨_, _, rfl, _⟩ <;> trivial
      refine ⟨a, o, hd, mu, fun od => ⟨_, hv, a, od, rfl, ?_⟩⟩
      have hw : ∃ w, H a = some w ∧ ¬ TupO w := ⟨o, hd, nt⟩
      have w1 := ok.wf.lock (od := od) hd nfz nt nF
      have s1 := ok.sr.lockd nas (o := .frz od o) hw (fun φ z => by rw [hd] at z; cases z; exact nt trivial)
      have hb : ∀ {J : It}, WalkC X.K (Ff g.B g.as O σ) (· ∈ g.as) g.as (upd H a (.frz od o)) J ks → lcB (tG X.K O vs t) (tT X.K O Z0 fc) (tE X.K O Z0 fe) vs σ (fun v H' => H' a = some (.frz od o) ∧ Q v (upd H' a o)) J (upd H a (.frz od o)) := fun wk => by
        refine comp_core (g := ⟨g.B, fun b => if b = a then none else g.H0 b, g.as0, g.as, g.ρ, g.st⟩) (st1 := g.st) hO ⟨w1, s1⟩ (Grow.refl _ _) s1 wk (q.mono (fun d st' q as' v H' gr s r n => ?_) fun _ _ z => z.elim)
        have ha : H' a = some (.frz od o) := gr.keep a _ upd_same nas
        have ha' : ∃ w, H' a = some w ∧ ¬ TupO w := ⟨_, ha, notTup_frz nt⟩
        have na' : a ∉ as' := fun z => by
          have := gr.fre a z nas
          rw [upd_same] at this; cases this
        have vn : ∀ p, v = .ref p → p ≠ a := fun p z y => by
          have := (n p z).1
          rw [y, upd_same] at this; cases this
        refine ⟨ha, q as' v _ ⟨gr.pre, fun b u h n => ?_, fun b h n => ?_⟩ (s.lockd na' ha' (fun φ z => by rw [ha] at z; cases z)) ?_ fun p z => ?_⟩
        · by_cases e : b = a
          · rw [e, upd_same]; rw [e, hd] at h; exact h
          · rw [upd_ne e]
            exact gr.keep b u (by rw [upd_ne e]; exact h) n
        · have := gr.fre b h n
          by_cases e : b = a
          · rw [e, upd_same] at this; cases this
          · rw [upd_ne e] at this; exact this
        · have kF : ∀ b u, NoFrz u → Rd H' b u → ¬ (Ff g.B as' O σ b ∨ v = .ref b) → Rd (upd H' a o) b u := unlock_k ha
          have kT := upd_t (o := o) ha'
          cases r with
          | lst hh r => exact .lst (by rw [upd_ne (vn _ rfl)]; exact hh) (r.frameR kF kT)
          | dct hh o r => exact .dct (by rw [upd_ne (vn _ rfl)]; exact hh) o (r.frameR kF kT)
          | sca r q => exact .sca (r.frameR kF kT) q
        · obtain ⟨n1, n2⟩ := n p z
          rw [upd_ne (vn p z)] at n1
          exact ⟨n1, n2⟩
      rcases dd with ⟨kvs, rfl, rfl, rfl, rfl⟩ | ⟨kvs, rfl, rfl, rfl, rfl⟩
      · exact .inl ⟨kvs, upd_same, hb ((walk_keysK upd_same nF (L1 a kvs (.inl hd))).c fun a z => .inr (.inl z))⟩
      · exact .inr ⟨kvs, upd_same, hb ((walk_keysT upd_same nF (L2' a kvs (.inl hd))).c fun a z => .inr (.inl z))⟩
    · right
      refine ⟨_, hv, a, od, rfl, ?_⟩
      have hb : ∀ {J : It}, WalkC X.K (Ff g.B g.as O σ) (· ∈ g.as) g.as H J ks → lcB (tG X.K O vs t) (tT X.K O Z0 fc) (tE X.K O Z0 fe) vs σ Q J H := fun wk =>
        comp_core (st1 := g.st) hO ok (Grow.refl _ _) ok.sr wk (q.mono (fun d st' q as' v H' gr s r n => q as' v H' gr s r n) fun _ _ z => z.elim)
      rcases dd with ⟨kvs, rfl, rfl, rfl, rfl⟩ | ⟨kvs, rfl, rfl, rfl, rfl⟩
      · exact .inl ⟨kvs, hd, hb ((walk_keysK hd nF (L1 a kvs (.inr ⟨od, hd⟩))).c fun a z => .inr (.inl z))⟩
      · exact .inr ⟨kvs, hd, hb ((walk_keysT hd nF (L2' a kvs (.inr ⟨od, hd⟩))).c fun a z => .inr (.inl z))⟩
theorem dn_compK (i : Nat) {y : Str} {py : Pos} (hiO : i ∉ O) (hy : X.N[i]? = some y) (hv : Vis X.env.scope y) (hc : X.calm = true) (hN : X.N.Nodup) (ok : BlkOk X.N X.env.scope scope own) (hO : ∀ i ∈ own.map (·.2), i ∉ O)
    (hg : ∀ (s : Shared) (H : Hp) (C : Addr) (cl : List (Str × Addr)) (fp : List Addr), DG (X.blk s H scope (compEnvC scope cl C X.env) fp) O (own.map (·.2)) tg t) (ht : ∀ (s : Shared) (H : Hp) (C : Addr) (cl : List (Str × Addr)) (fp : List Addr), DTs (X.blk s H scope (compEnvC scope cl C X.env) fp) O Z0 ifs fc)
    (he : ∀ (s : Shared) (H : Hp) (C : Addr) (cl : List (Str × Addr)) (fp : List Addr), DE (X.blk s H scope (compEnvC scope cl C X.env) fp) O Z0 elt fe) (hs : ∀ x, foldedSetIterable (.Name y py) X.env x = pure x := by intro _; rfl)
    (hd : (y == ("__debug__" : Str)) = false := by decide) (hcd : (y == ("__classdict__" : Str)) = false := by decide) :
    DN X O Z (.ListComp elt [⟨tg, .Name y py, ifs, 0⟩] scope pos) (E.compK i (own.map (·.2)) t fc fe) :=
  PE.imp (pe_dlen (PE.or (pe_lock (pe_lc hc hN (pi_keys (pe_var (i := i) hy hv hd hcd)) ok hg ht he hs)) (pe_lc hc hN (pi_keys (pe_var (i := i) hy hv hd hcd)) ok hg ht he hs))) fun σ H Q ⟨g, ok, q⟩ => fun L1 L2' => compK_fin hiO hO ok L1 L2' q
end
end G
end L2
end G23_
section G24_
set_option Elab.async false
set_option linter.all false
set_option maxRecDepth 100000
set_option maxHeartbeats 1000000
namespace L2
namespace G
open PySem PySem.Spec PyProof.Rows
/-! ### dict(pairs) with tuples as keys -/
def mergeG {κ : Type} [DecidableEq κ] (kvs more : List (κ × V)) : List (κ × V) := more.foldl (fun acc kv => putK acc kv.1 kv.2) kvs
theorem KT.merge {H : Hp} : ∀ {more : List (List Key × V)} {rs : List (List Key × Addr × Value)} {kvs : List (List Key × V)} {xs : List (List Key × Addr × Value)}, KT H more rs → KT H kvs xs → KT H (mergeG kvs more) (storedAllH xs rs)
  | _, _, _, _, .nil, r => r
  | _, _, _, _, .cons (a := p) (b := x) h t, r => by
    show KT H (mergeG (putK _ p.1 p.2) _) (storedAllH (storedH _ x.1 x.2.1 x.2.2) _)
    refine KT.merge t ?_
    have := r.put p.1 (b := x.2.1) (y := p.2) (u := x.2.2) h.2.1 h.2.2
    rw [h.1] at this ⊢
    exact this
theorem length_mergeG {κ : Type} [DecidableEq κ] : ∀ (more kvs : List (κ × V)), (mergeG kvs more).length ≤ kvs.length + more.length
  | [], kvs => by show kvs.length ≤ kvs.length + 0; omega
  | p :: r, kvs => by
    have h1 := length_mergeG r (putK kvs p.1 p.2)
    have h2 := length_putK kvs p.1 p.2
    show (mergeG (putK kvs p.1 p.2) r).length ≤ _
    rw [List.length_cons]; omega
section
variable {X : Cx}
def PrT (K : PySem.W.Frag) (H : Hp) (p : Addr) (kv : List Key × V) : Prop := ∃ b, SqT K H p [.ref b, kv.2] ∧ H b = some (.tup (kv.1.map kV))
theorem pairsT_of {pins : List (Addr × Obj)} {σ : L2.St} {H : Hp} {s : Shared} (I : Inv X pins σ H s) : ∀ {ps : List Addr} {kvs : List (List Key × V)}, Paired (PrT X.K H) ps kvs →
    ∃ prs : List (List Key × Addr × Value), KT H kvs prs ∧ prs.length = ps.length ∧ ∀ (j : Nat) (q : List Key × Addr × Value), prs[j]? = some q → ∃ b, ps[j]? = some b ∧ IsTup s.heap b #[.ref q.2.1, q.2.2]
  | _, _, .nil => ⟨[], .nil, rfl, fun j q e => by simp at e⟩
  | _, _, .cons (a := p) (b := kv) h t => by
    obtain ⟨prs, r, hl, hp⟩ := pairsT_of I t
    obtain ⟨b, sq, hb⟩ := h
    obtain ⟨its, rv, pt, _⟩ := I.tuple sq
    obtain ⟨u1, u2, rfl, r1, r2⟩ : ∃ u1 u2, its = [u1, u2] ∧ RelV (.ref b) u1 ∧ RelV kv.2 u2 := by
      cases rv with
      | cons a1 q1 =>
        cases q1 with
        | cons a2 q2 =>
          cases q2
          exact ⟨_, _, rfl, a1, a2⟩
    cases (show u1 = Value.ref b from r1)
    refine ⟨(kv.1, b, u2) :: prs, .cons ⟨rfl, hb, r2⟩ r, by simp [hl], fun j q e => ?_⟩
    cases j with
    | zero =>
      simp at e
      subst e
      exact ⟨p, rfl, pt⟩
    | succ j =>
      obtain ⟨b', e1, e2⟩ := hp j q (by simpa using e)
      exact ⟨b', by simpa using e1, e2⟩
theorem call_dictPT (hcalm : X.calm = true) (hu : X.A.units + 65 < cLine) : CallR X (.type "dict") (fun xs H Q => ∃ (a : Addr) (ps : List Addr) (kvs : List (List Key × V)), xs = [.ref a] ∧ SqL X.K H a (ps.map V.ref) ∧ Paired (PrT X.K H) ps kvs ∧
    ∀ p, H p = none → Q (.ref p) (upd H p (.dT (mergeG [] kvs)))) := by
  intro pins s σ H xs us Q I r q
  obtain ⟨a, ps, kvs, ex, hq, hp, q⟩ := q
  subst ex
  obtain ⟨u, eu, rx⟩ := vals1 r
  subst eu
  cases rx
  obtain ⟨its, rv, pl, hz⟩ := I.list hq
  have ei := refs_at rv
  subst ei
  rw [List.length_map] at hz
  obtain ⟨prs, rel, hl, hpr⟩ := pairsT_of I hp
  have hlk : kvs.length = prs.length := Paired.length rel
  refine PySem.call_dict_pairsH (knd := tupleKind (mixKind X.prog X.w)) (ps := prs) (PairArg.list a (ps.map Value.ref).toArray (fun j => ps.getD j 0) (prs.map fun q => (Value.ref q.2.1, q.2.2))) (I.ok.hd hcalm) (show X.A.units + 1 + 1 < cLine by omega) ⟨pl, by simp [hl], fun j k v e => ?_⟩ ⟨by simp, fun i key v e => ?_⟩ (fun h' hk x hx => ?_) (by rw [List.length_map, hl]; exact hz) fun h' tk hd' k => ?_
  · rw [List.getElem?_map] at e
    cases e2 : prs[j]? with
    | none => rw [e2] at e; cases e
    | some x =>
      rw [e2] at e
      cases e
      obtain ⟨b, e3, e4⟩ := hpr j x e2
      have : ps.getD j 0 = b := by rw [List.getD_eq_getElem?_getD, e3]; rfl
      refine ⟨?_, .inl ?_⟩
      · show _ = some (Value.ref (ps.getD j 0))
        rw [this]; simp [e3]
      · show s.heap.IsTuple (ps.getD j 0) _
        rw [this]; exact e4
  · have e : (prs.map fun q => (Value.ref q.2.1, q.2.2))[i]? = some (key, v) := e
    rw [List.getElem?_map] at e
    cases e2 : prs[i]? with
    | none => rw [e2] at e; cases e
    | some x =>
      rw [e2] at e
      cases e
      exact ⟨x.1, x.2.1, rfl, rfl⟩
  · have I1 : Inv X pins σ H { s with heap := h', toks := s.toks } := I.kept fun b o e => hk b o (Nat.ne_of_lt (Heap.lt_size e)) (by simp) e
    have all : ∀ {kvs : List (List Key × V)} {prs : List (List Key × Addr × Value)}, KT H kvs prs → ∀ x ∈ prs, H x.2.1 = some (.tup (x.1.map kV)) := by
      intro kvs prs rel
      induction rel with
      | nil => intro x hx; cases hx
      | cons h t ih =>
        intro x hx
        rcases List.mem_cons.mp hx with z | z
        · subst z
          rw [← h.1]; exact h.2.1
        · exact ih x z
    exact key_of I1.hok (all rel x hx)
  · have hm : (s.heap.objs.size == sysModules) = false := beq_eq_false_iff_ne.mpr (Nat.ne_of_gt I.big)
    have hlen : (mergeG [] kvs).length ≤ sizeLine := by
      refine Nat.le_trans (length_mergeG kvs []) ?_
      rw [List.length_nil, Nat.zero_add, hlk, hl]
      exact hz
    obtain ⟨o, es, ep, hq', h2, h3, h4, _, h5⟩ := hd'
    have n0 := I.hok.fresh (Nat.le_refl s.heap.objs.size)
    refine ⟨.ref s.heap.objs.size, upd H s.heap.objs.size (.dT (mergeG [] kvs)), I.laid (t' := tk) (fun b o e => k b o (by simp) e) (Nat.le_refl _) (show ObjOk X.prog X.w _ _ _ (.dT (mergeG [] kvs)) from ⟨hlen, hm, storedAllH [] prs, (KT.merge rel .nil).keeps fun c ys ec => ?_, o, es, ep, hq', h2, h3, h4, h5⟩), rfl, q _ n0⟩
    rw [upd_ne (ne_of_none ec n0)]
    exact ec
/-! ### dict(l), by data -/
def pairD : D → Option (D × D)
  | .tup [k, v] => some (k, v)
  | _ => none
def pairsD : List D → Option (List (D × D))
  | [] => some []
  | d :: ds => (pairD d).bind fun p => (pairsD ds).map (p :: ·)
def dictL (t : Bool) (ps : List (D × D)) : List D × List D := ps.foldl (fun acc p => putL t p.1 p.2 acc.1 acc.2) ([], [])
def dictD (t : Bool) : List D → Option D
  | [.lst ds] => (pairsD ds).bind fun ps => if (ps.all fun p => okKey t p.1) = true then some (.dct t (dictL t ps).1 (dictL t ps).2) else none
  | _ => none
theorem pairD_eq {d k v : D} (h : pairD d = some (k, v)) : d = .tup [k, v] := by
  unfold pairD at h
  split at h
  · cases h; rfl
  · cases h
section
variable {K : PySem.W.Frag} {F : Addr → Prop} {as : List Addr} {H : Hp}
theorem fold_reps {κ : Type} [DecidableEq κ] {t : Bool} {e : κ → D} (he : ∀ a b, keyEq t (e a) (e b) = decide (a = b)) : ∀ {more : List (κ × V)} {ds : List D} {acc : List (κ × V)} {accD : List D}, Reps K F as H (more.map (·.2)) ds → Reps K F as H (acc.map (·.2)) accD →
    ((((more.map fun p => e p.1).zip ds).foldl (fun a p => putL t p.1 p.2 a.1 a.2) (acc.map (fun p => e p.1), accD)).1 = (mergeG acc more).map (fun p => e p.1)) ∧
    Reps K F as H ((mergeG acc more).map (·.2)) (((more.map fun p => e p.1).zip ds).foldl (fun a p => putL t p.1 p.2 a.1 a.2) (acc.map (fun p => e p.1), accD)).2
  | [], ds, acc, accD, r, ra => by cases r; exact ⟨rfl, ra⟩
  | p :: more, ds, acc, accD, r, ra => by
    cases r with
    | cons h1 h2 =>
      rename_i d ds
      obtain ⟨p1, p2⟩ := put_reps he (k := p.1) ra h1
      have ih := fold_reps he (acc := putK acc p.1 p.2) h2 p2
      simp only [List.map_cons, List.zip_cons_cons, List.foldl_cons]
      have e : putL t (e p.1) d (acc.map fun p => e p.1) accD = ((putK acc p.1 p.2).map (fun p => e p.1), (putL t (e p.1) d (acc.map fun p => e p.1) accD).2) := by rw [← p1]
      rw [e]
      exact ih
theorem pairs_T : ∀ {vs : List V} {ds : List D} {ps : List (D × D)}, Reps K F as H vs ds → pairsD ds = some ps → (ps.all fun p => okKey true p.1) = true →
    ∃ (bs : List Addr) (kvs : List (List Key × V)), vs = bs.map V.ref ∧ Paired (PrT K H) bs kvs ∧ ps.map (·.1) = kvs.map (fun p => tkD p.1) ∧ Reps K F as H (kvs.map (·.2)) (ps.map (·.2))
  | _, _, _, .nil, e, _ => by cases e; exact ⟨[], [], rfl, .nil, rfl, .nil⟩
  | _, _, _, .cons (d := d) (ds := ds) h r, e, ok => by
    simp only [pairsD, Option.bind_eq_some_iff, Option.map_eq_some_iff] at e
    obtain ⟨⟨k, v⟩, e1, ps', e2, rfl⟩ := e
    have e1 := pairD_eq e1
    subst e1
    simp only [List.all_cons, Bool.and_eq_true] at ok
    obtain ⟨bs, kvs, i1, i2, i3, i4⟩ := pairs_T r e2 ok.2
    have ok1 := ok.1
    unfold okKey at ok1
    rw [if_pos rfl] at ok1
    obtain ⟨kk, ek⟩ := Option.isSome_iff_exists.mp ok1
    have ek := toTKey_eq ek
    subst ek
    cases h with
    | tup ht hr =>
      cases hr with
      | cons r1 hr =>
        cases hr with
        | cons r2 hr =>
          cases hr
          obtain ⟨b, rfl, hb⟩ := r1.tkey
          exact ⟨_ :: bs, (kk, _) :: kvs, by rw [i1]; rfl, .cons ⟨b, SqT.of ht, hb⟩ i2, by simp [i3], .cons r2 i4⟩
theorem pairs_K : ∀ {vs : List V} {ds : List D} {ps : List (D × D)}, Reps K F as H vs ds → pairsD ds = some ps → (ps.all fun p => okKey false p.1) = true →
    ∃ (bs : List Addr) (kvs : List (Key × V)), vs = bs.map V.ref ∧ Paired (fun p kv => SqT K H p [kV kv.1, kv.2]) bs kvs ∧ ps.map (·.1) = kvs.map (fun p => kD p.1) ∧ Reps K F as H (kvs.map (·.2)) (ps.map (·.2))
  | _, _, _, .nil, e, _ => by cases e; exact ⟨[], [], rfl, .nil, rfl, .nil⟩
  | _, _, _, .cons (d := d) (ds := ds) h r, e, ok => by
    simp only [pairsD, Option.bind_eq_some_iff, Option.map_eq_some_iff] at e
    obtain ⟨⟨k, v⟩, e1, ps', e2, rfl⟩ := e
    have e1 := pairD_eq e1
    subst e1
    simp only [List.all_cons, Bool.and_eq_true] at ok
    obtain ⟨bs, kvs, i1, i2, i3, i4⟩ := pairs_K r e2 ok.2
    have ok1 := ok.1
    unfold okKey at ok1
    rw [if_neg Bool.false_ne_true] at ok1
    obtain ⟨kk, ek⟩ := Option.isSome_iff_exists.mp ok1
    have ek := toKey_eq ek
    subst ek
    cases h with
    | tup ht hr =>
      cases hr with
      | cons r1 hr =>
        cases hr with
        | cons r2 hr =>
          cases hr
          have := r1.key
          subst this
          exact ⟨_ :: bs, (kk, _) :: kvs, by rw [i1]; rfl, .cons (SqT.of ht) i2, by simp [i3], .cons r2 i4⟩
end
theorem zip_fs (ps : List (D × D)) : ((ps.map (·.1)).zip (ps.map (·.2))) = ps := by
  induction ps with
  | nil => rfl
  | cons p ps ih => simp [ih]
theorem b_dictT (hcalm : X.calm = true) (hu : X.A.units + 65 < cLine) : BlN X (.type "dict") (dictD true) := ⟨_, call_dictPT hcalm hu, fun F as H xs ds d Q tr r e q => by
  unfold dictD at e
  split at e
  · rw [Option.bind_eq_some_iff] at e
    obtain ⟨ps, e1, e⟩ := e
    split at e
    · rename_i hok
      cases e
      obtain ⟨v, rfl, rv⟩ := repTs1 r
      obtain ⟨a, us, rfl, s, rs⟩ := rv.t_lst
      obtain ⟨bs, kvs, i1, i2, i3, i4⟩ := pairs_T rs e1 hok
      rw [i1] at s
      obtain ⟨f1, f2⟩ := fold_reps (t := true) (e := tkD) (fun _ _ => keyEq_t) (acc := []) i4 .nil
      rw [← i3, zip_fs] at f1 f2
      refine ⟨a, bs, kvs, rfl, s, i2, fun p np => q _ _ (same_new np) (.dct upd_same (.inr ⟨mergeG [] kvs, rfl, rfl, f1, rfl⟩) ?_) fun p' z => by cases z; exact np⟩
      exact (f2.weak fun a o ha z => by
        rcases z with z | z
        · exact z
        · cases z; rw [np] at ha; cases ha).new np
    · cases e
  · cases e⟩
theorem b_dictK (hcalm : X.calm = true) : BlN X (.type "dict") (dictD false) := ⟨_, call_dictP hcalm, fun F as H xs ds d Q tr r e q => by
  unfold dictD at e
  split at e
  · rw [Option.bind_eq_some_iff] at e
    obtain ⟨ps, e1, e⟩ := e
    split at e
    · rename_i hok
      cases e
      obtain ⟨v, rfl, rv⟩ := repTs1 r
      obtain ⟨a, us, rfl, s, rs⟩ := rv.t_lst
      obtain ⟨bs, kvs, i1, i2, i3, i4⟩ := pairs_K rs e1 hok
      rw [i1] at s
      obtain ⟨f1, f2⟩ := fold_reps (t := false) (e := kD) (fun _ _ => keyEq_k) (acc := []) i4 .nil
      rw [← i3, zip_fs] at f1 f2
      refine ⟨a, bs, kvs, rfl, s, i2, fun p np => q _ _ (same_new np) (.dct upd_same (.inl ⟨mergeG [] kvs, rfl, rfl, f1, rfl⟩) ?_) fun p' z => by cases z; exact np⟩
      exact (f2.weak fun a o ha z => by
        rcases z with z | z
        · exact z
        · cases z; rw [np] at ha; cases ha).new np
    · cases e
  · cases e⟩
end
end G
end L2
end G24_
section G25_
set_option Elab.async false
set_option linter.all false
set_option maxRecDepth 100000
set_option maxHeartbeats 1000000
namespace L2
namespace G
open PySem PySem.Spec PyProof.Rows
theorem leD'_int (a b : Int) : leD' (.int a) (.int b) = decide (a ≤ b) := by
  have e : leD' (.int a) (.int b) = !(decide (b < a) || (!decide (a < b) && false)) := by
    unfold leD' PySem.W.dataLe PySem.W.sortLe
    simp only [D.py, PySem.W.keyToks]
    rfl
  rw [e]
  by_cases h : a ≤ b
  · simp [h, Int.not_lt.mpr h]
  · simp [h, Int.not_le.mp h]
/-! ### sorted of a dict with ints as keys -/
theorem intsD_map : ∀ {ds : List D} {ns : List Int}, intsD ds = some ns → ds = ns.map D.int
  | [], _, h => by cases h; rfl
  | d :: ds, ns, h => by
    cases d with
    | int i =>
      unfold intsD at h
      rw [Option.map_eq_some_iff] at h
      obtain ⟨r, h, rfl⟩ := h
      rw [intsD_map h]; rfl
    | _ => cases h
theorem sort_ints (ns ys : List Int) (h : ys.Perm ns) (hp : ys.Pairwise (· ≤ ·)) : ys.map D.int = (ns.map D.int).mergeSort leD' := by
  have e := List.map_mergeSort (r := fun a b : Int => decide (a ≤ b)) (s := leD') (f := D.int) (l := ns) fun a _ b _ => (leD'_int a b).symm
  rw [← e]
  congr 1
  refine List.Perm.eq_of_pairwise (le := fun a b => a ≤ b) (fun a b _ _ h1 h2 => Int.le_antisymm h1 h2) hp ?_ (h.trans (List.mergeSort_perm _ _).symm)
  exact (List.pairwise_mergeSort (le := fun a b : Int => decide (a ≤ b)) (by intro a b c; simp; omega) (by intro a b; simp; omega) ns).imp (by intro a b; simp)
def sortedD3 : List D → Option D
  | [.lst ds] => (sortL ds).map .lst
  | [.dct true ks _] => (sortL ks).map .lst
  | [.dct false ks _] => if ks.length < 64 ∧ (intsD ks).isSome = true then some (.lst (ks.mergeSort leD')) else none
  | _ => none
section
variable {X : Cx} {O : List Nat} {Z : ZT} {e a b c tg : Expr} {es : List Expr} {f fa fb fc : Env → M D} {r : Env → M (List D)} {pos p : Pos} {x : Str}
theorem b_sorted3 (hcalm : X.calm = true) (hu : X.A.units + 65 < cLine) : BlN X (.builtin "sorted") sortedD3 := by
  obtain ⟨r1, c1, h1⟩ := b_sortedD (X := X) hcalm hu
  refine ⟨_, c1.or (call_sortedDI hcalm), fun F as H xs ds d Q tr r e q => ?_⟩
  unfold sortedD3 at e
  split at e
  · exact .inl (h1 F as H xs _ d Q tr r e q)
  · exact .inl (h1 F as H xs _ d Q tr r e q)
  · split at e
    · rename_i ks _ h
      cases e
      obtain ⟨ns, en⟩ := Option.isSome_iff_exists.mp h.2
      obtain ⟨v, rfl, rv⟩ := repTs1 r
      obtain ⟨a, o, us, rfl, hs, dd, rs⟩ := rv.t_dct
      have em := intsD_map en
      rcases dd with ⟨kvs, _, rfl, rfl, rfl⟩ | ⟨_, z, _⟩
      · have hk : kvs.map (·.1) = ns.map Sum.inl := by
          have e2 : (kvs.map (·.1)).map kD = (ns.map Sum.inl).map kD := by rw [List.map_map, List.map_map]; exact em
          have inj : ∀ {l m : List Key}, l.map kD = m.map kD → l = m := by
            intro l
            induction l with
            | nil => intro m h; cases m with
              | nil => rfl
              | cons => cases h
            | cons x l ih => intro m h; cases m with
              | nil => cases h
              | cons y m =>
                simp only [List.map_cons, List.cons.injEq] at h
                rw [kD_inj h.1, ih h.2]
          exact inj e2
        have hl : ns.length < 64 := by
          have := congrArg List.length em
          rw [List.length_map, List.length_map] at this
          have h1 := h.1
          rw [List.length_map] at h1
          omega
        refine .inr ⟨a, kvs, ns, rfl, hs, hk, hl, fun ys p hp1 hp2 np => ?_⟩
        rw [em, ← sort_ints ns ys hp1 hp2] at q
        refine q _ _ (same_new np) (Own.newL np ?_) fun p' z => by cases z; exact np
        clear hp1 hp2 q
        induction ys with
        | nil => exact .nil
        | cons y ys ih => exact .cons (.int y) ih
      · cases z
    · cases e
  · cases e
end
end G
end L2
end G25_
section G26_
set_option Elab.async false
set_option linter.all false
set_option maxRecDepth 100000
set_option maxHeartbeats 1000000
namespace L2
namespace G
open PySem PySem.Spec PyProof.Rows
/-! ### what stands in the store -/
theorem SRep.cell {K : PySem.W.Frag} {as : List Addr} {st : Store} {H : Hp} (s : SRep K as st H) {n : Nat} {a : Addr} (h : as[n]? = some a) : ∃ c, st[n]? = some c ∧ CellAt K as H a c := by
  have hl : n < as.length := (List.getElem?_eq_some_iff.mp h).1
  have hl' : n < st.length := by rw [← s.len]; exact hl
  exact ⟨st[n], List.getElem?_eq_getElem hl', s.at_ n a _ h (List.getElem?_eq_getElem hl')⟩
theorem CellAt.obj {K : PySem.W.Frag} {as : List Addr} {H : Hp} {a : Addr} {c : Cell} (h : CellAt K as H a c) : ∃ o, H a = some o ∧ ¬ TupO o := by
  cases c with
  | lst xs => obtain ⟨vs, q, _⟩ := h; exact ⟨_, q, fun z => z⟩
  | dct t ks xs => obtain ⟨o, vs, q, r, _⟩ := h; exact ⟨_, q, r.notTup⟩
  | tbl y => obtain ⟨_, ps, q, _⟩ := h; exact ⟨_, q, fun z => z⟩
theorem SRep.put {K : PySem.W.Frag} {as : List Addr} {st : Store} {H : Hp} (s : SRep K as st H) {n : Nat} {a : Addr} {o : HO} {c : Cell} (h : as[n]? = some a) (hc : CellAt K as (upd H a o) a c) : SRep K as (st.set n c) (upd H a o) := by
  obtain ⟨c0, e0, h0⟩ := s.cell h
  obtain ⟨o0, ho0, nt⟩ := h0.obj
  have kt : ∀ b u, H b = some u → TupO u → upd H a o b = some u := fun b u e t => by rw [upd_ne (fun (z : b = a) => by rw [z, ho0] at e; cases e; exact nt t)]; exact e
  refine ⟨s.nd, by rw [List.length_set]; exact s.len, fun i b c' hb hc' => ?_⟩
  by_cases e : n = i
  · subst e
    rw [h] at hb; cases hb
    rw [List.getElem?_set_self (List.getElem?_eq_some_iff.mp e0).1] at hc'
    cases hc'
    exact hc
  · rw [List.getElem?_set_ne e] at hc'
    have q := s.at_ i b c' hb hc'
    have hne : b ≠ a := fun z => by
      subst z
      have h1 := List.getElem?_eq_some_iff.mp h
      have h2 := List.getElem?_eq_some_iff.mp hb
      obtain ⟨l1, e1⟩ := h1
      obtain ⟨l2, e2⟩ := h2
      have nd : ∀ i j (hi : i < as.length) (hj : j < as.length), i < j → as[i] ≠ as[j] := fun i j hi hj hij => List.pairwise_iff_getElem.mp s.nd i j hi hj hij
      rcases Nat.lt_trichotomy n i with z | z | z
      · exact nd n i l1 l2 z (by rw [e1, e2])
      · exact e z
      · exact nd i n l2 l1 z (by rw [e1, e2])
    cases c' with
    | lst xs =>
      obtain ⟨vs, e, r⟩ := q
      exact ⟨vs, by rw [upd_ne hne]; exact e, r.frame (fun _ _ _ n => absurd trivial n) kt fun _ _ h => h⟩
    | dct t ks xs =>
      obtain ⟨o', vs, e, d, r⟩ := q
      exact ⟨o', vs, by rw [upd_ne hne]; exact e, d, r.frame (fun _ _ _ n => absurd trivial n) kt fun _ _ h => h⟩
    | tbl y =>
      obtain ⟨hy, ps, e, t, c⟩ := q
      refine ⟨hy, ps, by rw [upd_ne hne]; exact e, t, fun pos cv hcv => ?_⟩
      obtain ⟨c, e1, e2⟩ := c pos cv hcv
      exact ⟨c, e1, kt _ _ e2 trivial⟩
theorem Grow.cell {as : List Addr} {H : Hp} {a : Addr} {o : HO} (h : a ∈ as) : Grow as H as (upd H a o) := ⟨fun _ _ h => h, fun b u e n => by rw [upd_ne (fun (z : b = a) => n (by rw [z]; exact h))]; exact e, fun _ h n => absurd h n⟩
theorem Rep.all {K : PySem.W.Frag} {F : Addr → Prop} {as : List Addr} {H : Hp} {v : V} {d : D} (r : Rep K (fun _ => True) as H v d) : Rep K F as H v d := r.weak fun _ _ _ _ => trivial
theorem Reps.all {K : PySem.W.Frag} {F : Addr → Prop} {as : List Addr} {H : Hp} {v : List V} {d : List D} (r : Reps K (fun _ => True) as H v d) : Reps K F as H v d := r.weak fun _ _ _ _ => trivial
def cellOf (x : D) (st : Store) : Option Cell := match x with
  | .ref n => st[n]?
  | _ => none
theorem ref_cell {K : PySem.W.Frag} {F : Addr → Prop} {as : List Addr} {H : Hp} {v : V} {x : D} {st : Store} {c : Cell} (s : SRep K as st H) (r : RepT K F as H v x) (e : cellOf x st = some c) : ∃ n a, x = .ref n ∧ v = .ref a ∧ as[n]? = some a ∧ st[n]? = some c ∧ CellAt K as H a c := by
  cases x with
  | ref n =>
    obtain ⟨a, rfl, ha⟩ := r.t_ref
    exact ⟨n, a, rfl, rfl, ha, e, s.at_ n a c ha e⟩
  | _ => cases e
/-- x[k] of a dict in the store -/
def E.sget (fa fb : Env → M D) : Env → M D := fun ρ => bnd (fa ρ) fun x => bnd (fb ρ) fun y st => match cellOf x st with
  | some (.dct false ks vs) => lift ((toKey y).bind fun _ => getL false y ks vs) st
  | _ => .bad
/-- x[i] of a list in the store -/
def E.six (fa fb : Env → M D) : Env → M D := fun ρ => bnd (fa ρ) fun x => bnd (fb ρ) fun y st => match cellOf x st with
  | some (.lst ds) => lift (ixD (.lst ds) y) st
  | _ => .bad
def E.slen (fa : Env → M D) : Env → M D := fun ρ => bnd (fa ρ) fun x st => match cellOf x st with
  | some (.lst ds) => .ok (.int ds.length) st
  | _ => .bad
def S.sputD (fo fi fv : Env → M D) : SD := fun ρ => bnd (fv ρ) fun v => bnd (fo ρ) fun x => bnd (fi ρ) fun y st => match x, cellOf x st with
  | .ref n, some (.dct false ks vs) => if okKey false y = true ∧ v.imm = true ∧ ks.length < LIM then .ok (.next, ρ) (st.set n (.dct false (putL false y v ks vs).1 (putL false y v ks vs).2)) else .bad
  | _, _ => .bad
def S.sputL (fo fi fv : Env → M D) : SD := fun ρ => bnd (fv ρ) fun v => bnd (fo ρ) fun x => bnd (fi ρ) fun y st => match x, cellOf x st, y with
  | .ref n, some (.lst ds), .int i => (match ixN ds.length i with
    | some j => if v.imm = true then .ok (.next, ρ) (st.set n (.lst (ds.set j v))) else .bad
    | none => .bad)
  | _, _, _ => .bad
theorem Reps.set {K : PySem.W.Frag} {F : Addr → Prop} {as : List Addr} {H : Hp} {v : V} {d : D} (rv : Rep K F as H v d) : ∀ (j : Nat) {vs : List V} {ds : List D}, Reps K F as H vs ds → Reps K F as H (vs.set j v) (ds.set j d)
  | _, _, _, .nil => by simp; exact .nil
  | 0, _, _, .cons h r => .cons rv r
  | j + 1, _, _, .cons h r => .cons h (r.set rv j)
section
variable {X : Cx} {O : List Nat} {Z : ZT} {e a b c tg i o value : Expr} {es : List Expr} {f fa fb fc fo fi fv : Env → M D} {r : Env → M (List D)} {pos p pos' : Pos} {x : Str}
theorem de_sget (hu : X.A.units + 1 < cLine) (ha : DU X O Z a fa) (hb : DU X O Z b fb) (hs : NoSl b := by exact fun _ _ => rfl) : DE X O Z (.Subscript a b pos) (E.sget fa fb) := PE.imp (pe_dget hu ha hb hs) fun σ H Q ⟨g, ok, q⟩ => by
  refine two (k := fun x y st => match cellOf x st with
    | some (.dct false ks vs) => lift ((toKey y).bind fun _ => getL false y ks vs) st
    | _ => .bad) (ZZ := fun _ _ => True) ok q fun d1 d2 x y as' st' H' g1 s1 r1 r2 q => ?_
  cases hc : cellOf d1 st' with
  | none => rw [hc] at q; exact q.elim
  | some c =>
    rw [hc] at q
    cases c with
    | lst _ => exact q.elim
    | tbl _ => exact q.elim
    | dct t ks vs =>
      cases t with
      | true => exact q.elim
      | false =>
        obtain ⟨d, e, q'⟩ := Ev.lift (o := (toKey d2).bind fun _ => getL false d2 ks vs) (s := st') q
        rw [Option.bind_eq_some_iff] at e
        obtain ⟨k, ek, e⟩ := e
        have ek := toKey_eq ek
        subst ek
        obtain ⟨n, p, rfl, rfl, hp, hst, ob, ws, h1, h2, h3⟩ := ref_cell s1 r1 hc
        rcases h2 with ⟨kvs, _, rfl, rfl, rfl⟩ | ⟨_, z, _⟩
        · have q : ∀ as' v H', Grow g.as H as' H' → SRep X.K as' st' H' → Rep X.K (Ff g.B as' O σ) as' H' v d → Q v H' := q'
          obtain ⟨v, ev, rv⟩ := (get_reps (t := false) (e := kD) (fun _ _ => keyEq_k) h3).1 d e
          have ey : y = kV k := by
            cases k with
            | inl i => exact r2.t_int
            | inr z => exact r2.t_str
          exact ⟨p, v, rfl, .inl ⟨kvs, k, .inl h1, ey, ev.symm⟩, q as' v H' g1 s1 rv.all⟩
        · cases z
theorem de_six (ha : DU X O Z a fa) (hb : DU X O Z b fb) (hs : PlainIx b := by exact fun _ _ => rfl) : DE X O Z (.Subscript a b pos) (E.six fa fb) := PE.imp (pe_ix ix_seq ha hb hs) fun σ H Q ⟨g, ok, q⟩ => by
  refine two (k := fun x y st => match cellOf x st with
    | some (.lst ds) => lift (ixD (.lst ds) y) st
    | _ => .bad) (ZZ := fun _ _ => True) ok q fun d1 d2 x y as' st' H' g1 s1 r1 r2 q => ?_
  cases hc : cellOf d1 st' with
  | none => rw [hc] at q; exact q.elim
  | some c =>
    rw [hc] at q
    cases c with
    | dct _ _ _ => exact q.elim
    | tbl _ => exact q.elim
    | lst ds =>
      obtain ⟨d, e, q'⟩ := Ev.lift (o := ixD (.lst ds) d2) (s := st') q
      obtain ⟨n, p, rfl, rfl, hp, hst, ws, h1, h3⟩ := ref_cell s1 r1 hc
      cases d2 with
      | int j =>
        obtain ⟨v, h, rv⟩ := atI_reps h3 e
        exact .inl ⟨p, ws, j, v, rfl, r2.t_int, .inl (.inl h1), h, q' as' v H' g1 s1 rv.all⟩
      | _ => cases e
theorem de_slen (hg : Gl X "len") (hm : X.mg "len" = none) (ha : DU X O Z a fa) (hs : starEach [a] X.env = (false, eval a X.env) :: starEach [] X.env := by rfl) (hpl : (backTo pos (starEach [] X.env)).any (·.1) = false := by rfl) :
    DE X O Z (.Call (.Name "len" p) [a] [] pos) (E.slen fa) := PE.imp (pe_callB call_len hg hm boot_len (pa_cons ha pa_nil hs) (by decide) (by decide) hs hpl) fun σ H Q ⟨g, ok, q⟩ =>
  ⟨g, ok, (Ev.bnd q).mono (fun d st' q as' v H' gr s r => by
    cases hc : cellOf d st' with
    | none => rw [hc] at q; exact q.elim
    | some c =>
      rw [hc] at q
      cases c with
      | dct _ _ _ => exact q.elim
      | tbl _ => exact q.elim
      | lst ds =>
        obtain ⟨n, p, rfl, rfl, hp, hst, ws, h1, h3⟩ := ref_cell s r hc
        exact ⟨_, _, rfl, .inl ⟨ws, .inl (.inl h1), rfl⟩, by rw [h3.length]; exact q as' _ H' gr s (.int _)⟩) fun _ _ z => z⟩
theorem three {σ : L2.St} {H : Hp} {g : Gh} {P : (Fl × Env) → Store → Prop} {k : D → D → D → M (Fl × Env)} {R : V → V → V → Hp → Prop} (ok : g.ok X.K O σ H)
    (q : Ev (bnd (fv g.ρ) (fun v => bnd (fo g.ρ) fun x => bnd (fi g.ρ) fun y => k v x y) g.st) P (Zc X.K O g.B g.H0 g.as0 Z))
    (hR : ∀ d1 dx d2 v x y as' st' H', Grow g.as H as' H' → SRep X.K as' st' H' → Rep X.K (Ff g.B as' O σ) as' H' v d1 → RepT X.K (Ff g.B as' O σ) as' H' x dx → RepT X.K (Ff g.B as' O σ) as' H' y d2 → Ev (k d1 dx d2 st') P (Zc X.K O g.B g.H0 g.as0 Z) → R v x y H') :
    tE X.K O Z fv σ H fun v H1 => tU X.K O Z fo σ H1 fun x H2 => tU X.K O Z fi σ H2 fun y H3 => R v x y H3 := by
  refine ⟨g, ok, (Ev.bnd q).mono (fun d1 st1 q as1 v H1 g1 s1 rv => ?_) fun _ _ z => z⟩
  refine ⟨g.at as1 st1, ok.step g1 s1, (Ev.bnd q).mono (fun dx st2 q as2 x H2 g2 s2 rx => ?_) fun _ _ z => z⟩
  have ok2 := (ok.step g1 s1).step g2 s2
  refine ⟨(g.at as1 st1).at as2 st2, ok2, (Ev.bnd q).mono (fun d2 st3 q as3 y H3 g3 s3 ry => ?_) fun _ _ z => z⟩
  exact hR d1 dx d2 v x y as3 st3 H3 (g1.trans (g2.trans g3)) s3 (rv.grow s1 (g2.trans g3)) (rx.grow s2 g3) ry q
theorem cell_fin {σ : L2.St} {H H' : Hp} {g : Gh} {as' : List Addr} {st' : Store} {n : Nat} {a : Addr} {o : HO} {c : Cell} (ok : g.ok X.K O σ H) (g1 : Grow g.as H as' H') (s1 : SRep X.K as' st' H') (ha : as'[n]? = some a) (hc : CellAt X.K as' (upd H' a o) a c) :
    Step O g.as σ H as' σ (upd H' a o) ∧ Wf X.K O g.B g.H0 g.as0 as' g.ρ σ (upd H' a o) ∧ SRep X.K as' (st'.set n c) (upd H' a o) := by
  have s4 := s1.put ha hc
  have g4 : Grow as' H' as' (upd H' a o) := Grow.cell (List.mem_of_getElem? ha)
  exact ⟨(g1.trans g4).step s4, (ok.step g1 s1).wf.grow s1 g4 s4, s4⟩
theorem ds_sputD (hu : X.A.units + 1 < cLine) (ho : DU X O Z o fo) (hi : DU X O Z i fi) (hv : DE X O Z value fv) (hs : swapsWith value (some (.Subscript o i pos')) pos.line X.env = pure false := by rfl) : DS X O Z (.Assign [.Subscript o i pos'] value pos) (S.sputD fo fi fv) :=
  PS.imp (ps_dput hu ho hi hv hs) fun D σ H ⟨g, ok, q⟩ => by
    refine three (k := fun v x y st => match x, cellOf x st with
      | .ref n, some (.dct false ks vs) => if okKey false y = true ∧ v.imm = true ∧ ks.length < LIM then .ok (.next, g.ρ) (st.set n (.dct false (putL false y v ks vs).1 (putL false y v ks vs).2)) else .bad
      | _, _ => .bad) ok q fun d1 dx d2 v x y as' st' H' g1 s1 rv rx ry q => ?_
    cases hc : cellOf dx st' with
    | none =>
      rw [hc] at q
      cases dx <;> exact q.elim
    | some c =>
      obtain ⟨n, p, rfl, rfl, hp, hst, cc⟩ := ref_cell s1 rx hc
      rw [hc] at q
      cases c with
      | lst _ => exact q.elim
      | tbl _ => exact q.elim
      | dct t ks vs =>
        cases t with
        | true => exact q.elim
        | false =>
          dsimp only at q
          split at q
          · rename_i hok
            obtain ⟨ob, ws, h1, h2, h3⟩ := cc
            rcases h2 with ⟨kvs, _, rfl, rfl, rfl⟩ | ⟨_, z, _⟩
            · have hk := hok.1
              unfold okKey at hk
              rw [if_neg Bool.false_ne_true] at hk
              obtain ⟨k, ek⟩ := Option.isSome_iff_exists.mp hk
              have ek := toKey_eq ek
              subst ek
              have ey : y = kV k := by
                cases k with
                | inl i => exact ry.t_int
                | inr z => exact ry.t_str
              have rv' : Rep X.K (fun _ => True) as' H' v d1 := rv.of_imm hok.2.1
              obtain ⟨p1, p2⟩ := put_reps (t := false) (e := kD) (fun _ _ => keyEq_k) (k := k) h3 rv'
              have kt : ∀ b u, H' b = some u → TupO u → upd H' p (.dK (putK kvs k v)) b = some u := fun b u e t => by rw [upd_ne (fun (z : b = p) => by rw [z, h1] at e; cases e; exact t)]; exact e
              obtain ⟨sp, w, s4⟩ := cell_fin (c := .dct false _ _) (o := .dK (putK kvs k v)) ok g1 s1 hp ⟨_, _, upd_same, .inl ⟨putK kvs k v, rfl, rfl, p1, rfl⟩, p2.frame (fun _ _ _ n => absurd trivial n) kt fun _ _ h => h⟩
              refine ⟨p, _, rfl, .inl ⟨kvs, k, h1, ey, ?_, rfl⟩, q as' σ _ sp w s4⟩
              have := hok.2.2
              rw [List.length_map] at this
              exact Nat.lt_trans this lim_line
            · cases z
          · exact q.elim
theorem ds_sputL (ho : DU X O Z o fo) (hi : DU X O Z i fi) (hv : DE X O Z value fv) (hs : swapsWithSole [.Subscript o i pos'] value pos.line X.env = pure false := by rfl) (hw : swappedStores [.Subscript o i pos'] value X.env = pure none := by rfl)
    (h1 : (assignEach [.Subscript o i pos'] X.env).map (·.2) = [assign (.Subscript o i pos') X.env] := by rfl)
    (ha : ∀ v, assign (.Subscript o i pos') X.env v = (do
      let ov ← holding [v] (eval o X.env)
      let iv ← holding [v, ov] (eval i X.env)
      standAt pos'
      holding [v, ov, iv] (setItem ov iv v)
      release [v, ov, iv] []) := by intro _; rfl) : DS X O Z (.Assign [.Subscript o i pos'] value pos) (S.sputL fo fi fv) :=
  PS.imp (ps_asg hv (pg_sub ho hi set_list ha) hs hw h1) fun D σ H ⟨g, ok, q⟩ => by
    refine three (k := fun v x y st => match x, cellOf x st, y with
      | .ref n, some (.lst ds), .int i => (match ixN ds.length i with
        | some j => if v.imm = true then .ok (.next, g.ρ) (st.set n (.lst (ds.set j v))) else .bad
        | none => .bad)
      | _, _, _ => .bad) ok q fun d1 dx d2 v x y as' st' H' g1 s1 rv rx ry q => ?_
    cases hc : cellOf dx st' with
    | none =>
      rw [hc] at q
      cases dx <;> exact q.elim
    | some c =>
      obtain ⟨n, p, rfl, rfl, hp, hst, cc⟩ := ref_cell s1 rx hc
      rw [hc] at q
      cases c with
      | dct _ _ _ => exact q.elim
      | tbl _ => exact q.elim
      | lst ds =>
        cases d2 with
        | int k =>
          dsimp only at q
          cases hj : ixN ds.length k with
          | none => rw [hj] at q; exact q.elim
          | some j =>
            rw [hj] at q
            dsimp only at q
            split at q
            · rename_i him
              obtain ⟨ws, h1, h3⟩ := cc
              have rv' : Rep X.K (fun _ => True) as' H' v d1 := rv.of_imm him
              have kt : ∀ b u, H' b = some u → TupO u → upd H' p (.lst (ws.set j v)) b = some u := fun b u e t => by rw [upd_ne (fun (z : b = p) => by rw [z, h1] at e; cases e; exact t)]; exact e
              obtain ⟨sp, w, s4⟩ := cell_fin (c := .lst (ds.set j d1)) (o := .lst (ws.set j v)) ok g1 s1 hp ⟨_, upd_same, (h3.set rv' j).frame (fun _ _ _ n => absurd trivial n) kt fun _ _ h => h⟩
              exact ⟨p, ws, k, j, rfl, ry.t_int, h1, by rw [h3.length]; exact hj, q as' σ _ sp w s4⟩
            · exact q.elim
        | _ => exact q.elim
end
end G
end L2
end G26_
section G27_
set_option Elab.async false
set_option linter.all false
set_option maxRecDepth 100000
set_option maxHeartbeats 1000000
namespace L2
namespace G
open PySem PySem.Spec PyProof.Rows
/-! ### a new list goes into the store -/
theorem get_app {α : Type} {l m : List α} {n : Nat} {a : α} (h : l[n]? = some a) : (l ++ m)[n]? = some a := by
  rw [List.getElem?_append_left (List.getElem?_eq_some_iff.mp h).1]; exact h
theorem CellAt.more {K : PySem.W.Frag} {as : List Addr} {H : Hp} {a : Addr} {c : Cell} (ms : List Addr) (h : CellAt K as H a c) : CellAt K (as ++ ms) H a c := by
  cases c with
  | lst xs => obtain ⟨vs, e, r⟩ := h; exact ⟨vs, e, r.frame (fun _ _ h _ => h) (fun _ _ h _ => h) fun _ _ h => get_app h⟩
  | dct t ks xs => obtain ⟨o, vs, e, d, r⟩ := h; exact ⟨o, vs, e, d, r.frame (fun _ _ h _ => h) (fun _ _ h _ => h) fun _ _ h => get_app h⟩
  | tbl y => exact h
theorem SRep.snoc {K : PySem.W.Frag} {as : List Addr} {st : Store} {H : Hp} {p : Addr} {c : Cell} (s : SRep K as st H) (n : p ∉ as) (hc : CellAt K (as ++ [p]) H p c) : SRep K (as ++ [p]) (st ++ [c]) H where
  nd := by
    rw [List.nodup_append]
    exact ⟨s.nd, by simp, by intro a ha b hb; simp at hb; subst hb; exact fun z => n (by rw [← z]; exact ha)⟩
  len := by rw [List.length_append, List.length_append, s.len]; rfl
  at_ := fun i a c' ha hc' => by
    by_cases h : i < as.length
    · rw [List.getElem?_append_left h] at ha
      rw [List.getElem?_append_left (by rw [← s.len]; exact h)] at hc'
      exact (s.at_ i a c' ha hc').more [p]
    · rw [List.getElem?_append_right (by omega)] at ha
      rw [List.getElem?_append_right (by rw [← s.len]; omega), ← s.len] at hc'
      cases k : i - as.length with
      | zero => rw [k] at ha hc'; cases ha; cases hc'; exact hc
      | succ m => rw [k] at ha; cases ha
def E.alloc (f : Env → M D) : Env → M D := fun ρ => bnd (f ρ) fun d st => match d with
  | .lst ds => if D.imms ds = true then .ok (.ref st.length) (st ++ [.lst ds]) else .bad
  | _ => .bad
section
variable {X : Cx} {O : List Nat} {Z : ZT} {e a b c tg i o value e1 e2 : Expr} {es : List Expr} {f fa fb f1 f2 : Env → M D} {r : Env → M (List D)} {pos p pos' : Pos} {x : Str}
theorem de_alloc (h : DN X O Z e f) : DE X O Z e (E.alloc f) := PE.imp h fun σ H Q ⟨g, ok, q⟩ => ⟨g, ok, (Ev.bnd q).mono (fun d st' q as' v H' gr s r n => by
  cases d with
  | lst ds =>
    dsimp only at q
    split at q
    · rename_i him
      cases r with
      | lst hh r =>
        rename_i p vs
        obtain ⟨n1, n2⟩ := n p rfl
        have s2 := s.snoc (c := .lst ds) n2 ⟨vs, hh, (r.of_imm him).frame (fun _ _ h _ => h) (fun _ _ h _ => h) fun _ _ h => get_app h⟩
        refine q (as' ++ [p]) _ H' ⟨fun n a h => get_app (gr.pre n a h), gr.keep, fun a h m => ?_⟩ s2 (.ref ?_)
        · rcases List.mem_append.mp h with h | h
          · exact gr.fre a h m
          · simp at h; rw [h]; exact n1
        · rw [← s.len, List.getElem?_append_right (Nat.le_refl _), Nat.sub_self]; rfl
      | sca r z => cases r; exact absurd rfl (z _)
    · exact q.elim
  | _ => exact q.elim) fun _ _ z => z⟩
theorem dn_ifx {t : Env → M Bool} (h : DT X O Z c t) (ha : DN X O Z a fa) (hb : DN X O Z b fb) : DN X O Z (.IfExp c a b pos) (E.ifx t fa fb) := PE.imp (pe_ifExp h ha hb) fun σ H Q ⟨g, ok, q⟩ =>
  ⟨g, ok, (Ev.bnd q).mono (fun x st' q as' H' gr s => by
    have fr : ∀ {p : Addr} {as2 : List Addr}, H' p = none → p ∉ as2 → (∀ a ∈ as', a ∈ as2) → H p = none := fun {p as2} n1 n2 sub => by
      cases z : H p with
      | none => rfl
      | some o =>
        by_cases m : p ∈ g.as
        · exact absurd (sub p (gr.sub m)) n2
        · have := gr.keep p o z m
          rw [n1] at this; cases this
    cases x with
    | true => exact ⟨g.at as' st', ok.step gr s, q.mono (fun y st2 q as2 v H2 g2 s2 r n => q as2 v H2 (gr.trans g2) s2 r fun p z => ⟨fr (n p z).1 (n p z).2 fun a h => g2.sub h, (n p z).2⟩) fun _ _ z => z⟩
    | false => exact ⟨g.at as' st', ok.step gr s, q.mono (fun y st2 q as2 v H2 g2 s2 r n => q as2 v H2 (gr.trans g2) s2 r fun p z => ⟨fr (n p z).1 (n p z).2 fun a h => g2.sub h, (n p z).2⟩) fun _ _ z => z⟩) fun _ _ z => z⟩
/-! ### a comprehension over an owned list -/
def I.own (i : Nat) : Env → M (List D) := fun ρ => match ρ[i]? with
  | some (some (.lst ds)) => ret ds
  | _ => bad
theorem walk_own {K : PySem.W.Frag} {F S : Addr → Prop} {as : List Addr} {H : Hp} {a : Addr} {xs : List V} {ds : List D} (hl : xs.length ≤ sizeLine) (h : H a = some (.lst xs)) (nS : ¬ S a) (hS : ∀ a, S a → F a) (r : Reps K F as H xs ds) : WalkC K F S as H (Itl K a) ds where
  len := by rw [← r.length]; exact hl
  go := fun i H1 st hi => ⟨xs, xs[i]'(by rw [r.length]; exact hi), .inl (.inl (st.1 _ _ h nS)), by simp⟩
  yl := fun i H1 x H2 d F1 as1 st p k y e => by
    obtain ⟨rfl, y⟩ := y
    have y := y xs (.inl (.inl (st.1 _ _ h nS)))
    obtain ⟨d', e', rv⟩ := r.get y
    rw [e] at e'; cases e'
    exact ⟨Same.refl _, rep_stay (st.up hS) p k rv⟩
  stop := fun i H1 st hi => ⟨xs, .inl (.inl (st.1 _ _ h nS)), by rw [r.length, hi]; exact Nat.le_refl _⟩
theorem dic_own (i : Nat) {y : Str} {py : Pos} {tg : Expr} (hO : i ∈ O) (hy : X.N[i]? = some y) (hv : Vis X.env.scope y) (hd : (y == ("__debug__" : Str)) = false := by decide) (hcd : (y == ("__classdict__" : Str)) = false := by decide) : DIc X O Z tg (.Name y py) (I.own i) :=
  PI.imp (pi_len (pi_seq (pe_var (i := i) hy hv hd hcd))) fun σ H R ⟨g, ok, q⟩ => by
    unfold I.own at q
    cases e : g.ρ[i]? with
    | none => rw [e] at q; exact q.elim
    | some o =>
      rw [e] at q
      cases o with
      | none => exact q.elim
      | some d =>
        cases d with
        | lst ds =>
          obtain ⟨p, vs, hσ, hp, rs⟩ := ok.wf.lst_at hO e
          obtain ⟨_, n2, _⟩ := ok.wf.slot i p hO hσ
          exact ⟨.ref p, hσ, p, vs, rfl, .inl ⟨.inl (.inl hp), fun L => q g.as H _ (Grow.refl _ _) ok.sr (walk_own (L _ _ (.inl (.inl (.inl hp)))) hp n2 (fun a z => .inr (.inl z)) rs)⟩⟩
        | _ => exact q.elim
end
end G
end L2
end G27_
section G28_
set_option Elab.async false
set_option linter.all false
set_option maxRecDepth 100000
set_option maxHeartbeats 1000000
namespace L2
namespace G
open PySem PySem.Spec PyProof.Rows
/-! ### the two statements of _law_begin -/
def kCells : D := .str "cells"
def kLefts : D := .str "lefts"
def kAt : D := .str "at"
def kRoom : D := .str "room"
def S.begin (f1 f2 : Env → M D) : SD := fun ρ => bnd (f1 ρ) fun d1 => match d1 with
  | .lst ds => if 1 < ρ.length ∧ D.imms ds = true then bnd (f2 (List.set ρ 1 (some (.lst ds)))) fun d2 st => if d2.imm = true then .ok (.ret (.ref (st.length + 1)), List.set (List.set ρ 1 (some (.lst ds))) 1 none) (st ++ [.lst ds] ++ [.dct false [kCells, kLefts, kAt, kRoom] [.ref st.length, d2, .int 0, .int 0]]) else .bad else G.bad
  | _ => G.bad
/-- an owned slot is dropped; what it held goes into the store -/
theorem Wf.leave {K : PySem.W.Frag} {O : List Nat} {B : Addr → Prop} {H0 : Hp} {as0 as : List Addr} {ρ : Env} {σ : L2.St} {H : Hp} {i : Nat} {c : Addr} (w : Wf K O B H0 as0 as ρ σ H) (hO : i ∈ O) (hc : σ[i]? = some (some (.ref c))) :
    Wf K O B H0 as0 (as ++ [c]) (List.set ρ i none) (σ.set i none) H := by
  have own' : ∀ a, ownA O (σ.set i none) a → ownA O σ a ∧ a ≠ c := by
    rintro a ⟨j, hj, e⟩
    rcases get_set_some e with ⟨_, e, _⟩ | ⟨ne, e⟩
    · cases e
    · exact ⟨⟨j, hj, e⟩, fun z => ne (by subst z; exact (w.dis i j _ hO hj hc e).symm)⟩
  have ff : ∀ a o, H a = some o → Ff B (as ++ [c]) O (σ.set i none) a → Ff B as O σ a := fun a o _ z => by
    rcases z with z | z | z
    · exact .inl z
    · rcases List.mem_append.mp z with z | z
      · exact .inr (.inl z)
      · simp at z; exact .inr (.inr ⟨i, hO, by rw [z]; exact hc⟩)
    · exact .inr (.inr (own' a z).1)
  have pr : ∀ (n : Nat) (a : Addr), as[n]? = some a → (as ++ [c])[n]? = some a := fun n a h => get_app h
  obtain ⟨c0, c1, c2, _⟩ := w.slot i c hO hc
  refine ⟨by rw [List.length_set, List.length_set]; exact w.len, fun j d e n => ?_, fun j d e m => ?_, fun j a m e => ?_, fun j k a hj hk e1 e2 => ?_, w.trB, ⟨fun n a h => pr n a (w.gr.pre n a h), w.gr.keep, fun a h n => ?_⟩⟩
  · rcases get_set_some e with ⟨_, e, _⟩ | ⟨ne, e⟩
    · cases e
    · obtain ⟨v, h, r⟩ := w.var j d e n
      exact ⟨v, by rw [List.getElem?_set_ne (Ne.symm ne)]; exact h, (r.weak ff).frame (fun _ _ h _ => h) (fun _ _ h _ => h) pr⟩
  · rcases get_set_some e with ⟨_, e, _⟩ | ⟨ne, e⟩
    · cases e
    · obtain ⟨v, h, r⟩ := w.own j d e m
      refine ⟨v, by rw [List.getElem?_set_ne (Ne.symm ne)]; exact h, ?_⟩
      cases r with
      | lst hh r => exact .lst hh ((r.weak ff).frame (fun _ _ h _ => h) (fun _ _ h _ => h) pr)
      | dct hh o r => exact .dct hh o ((r.weak ff).frame (fun _ _ h _ => h) (fun _ _ h _ => h) pr)
      | sca r q => exact .sca ((r.weak ff).frame (fun _ _ h _ => h) (fun _ _ h _ => h) pr) q
  · rcases get_set_some e with ⟨_, e, _⟩ | ⟨ne, e⟩
    · cases e
    · obtain ⟨h1, h2, h3, h4⟩ := w.slot j a m e
      refine ⟨h1, fun z => ?_, h3, h4⟩
      rcases List.mem_append.mp z with z | z
      · exact h2 z
      · simp at z; exact ne (by subst z; exact (w.dis i j _ hO m hc e).symm)
  · rcases get_set_some e1 with ⟨_, e, _⟩ | ⟨ne1, e1⟩
    · cases e
    · rcases get_set_some e2 with ⟨_, e, _⟩ | ⟨ne2, e2⟩
      · cases e
      · exact w.dis j k a hj hk e1 e2
  · rcases List.mem_append.mp h with h | h
    · exact w.gr.fre a h n
    · simp at h; rw [h]; exact c0
theorem Wf.toStore {K : PySem.W.Frag} {O : List Nat} {B : Addr → Prop} {H0 : Hp} {as0 as : List Addr} {ρ : Env} {σ : L2.St} {H : Hp} {p : Addr} {o o0 : HO} (w : Wf K O (fun a => B a ∨ a = p) H0 as0 as ρ σ H) (h0 : H0 p = none) (hp : H p = some o0) (nt : ¬ TupO o0) :
    Wf K O B H0 as0 (as ++ [p]) ρ σ (upd H p o) := by
  have ff : ∀ a u, H a = some u → Ff B (as ++ [p]) O σ a → Ff (fun a => B a ∨ a = p) as O σ a := fun a u _ z => by
    rcases z with z | z | z
    · exact .inl (.inl z)
    · rcases List.mem_append.mp z with z | z
      · exact .inr (.inl z)
      · simp at z; exact .inl (.inr z)
    · exact .inr (.inr z)
  have pr : ∀ (n : Nat) (a : Addr), as[n]? = some a → (as ++ [p])[n]? = some a := fun n a h => get_app h
  have fp : Ff B (as ++ [p]) O σ p := .inr (.inl (by simp))
  have kk : ∀ b u, H b = some u → ¬ Ff B (as ++ [p]) O σ b → upd H p o b = some u := fun b u h n => by rw [upd_ne (fun (z : b = p) => n (by rw [z]; exact fp))]; exact h
  have kt : ∀ b u, H b = some u → TupO u → upd H p o b = some u := fun b u h t => by rw [upd_ne (fun (z : b = p) => by rw [z, hp] at h; cases h; exact nt t)]; exact h
  refine ⟨w.len, fun j d e n => ?_, fun j d e m => ?_, fun j a m e => ?_, w.dis, fun a b => ?_, ⟨fun n a h => pr n a (w.gr.pre n a h), fun b u h n => ?_, fun a h n => ?_⟩⟩
  · obtain ⟨v, h, r⟩ := w.var j d e n
    exact ⟨v, h, (r.weak ff).frame kk kt pr⟩
  · obtain ⟨v, h, r⟩ := w.own j d e m
    have hne : ∀ q, v = .ref q → q ≠ p := fun q z y => by
      subst z y
      exact (w.slot j _ m h).2.2.1 (.inr rfl)
    refine ⟨v, h, ?_⟩
    cases r with
    | lst hh r => exact .lst (by rw [upd_ne (hne _ rfl)]; exact hh) ((r.weak ff).frame kk kt pr)
    | dct hh o r => exact .dct (by rw [upd_ne (hne _ rfl)]; exact hh) o ((r.weak ff).frame kk kt pr)
    | sca r q => exact .sca ((r.weak ff).frame kk kt pr) q
  · obtain ⟨h1, h2, h3, u, h4, h5⟩ := w.slot j a m e
    have hne : a ≠ p := fun y => h3 (.inr y)
    refine ⟨h1, fun z => ?_, fun z => h3 (.inl z), u, by rw [upd_ne hne]; exact h4, h5⟩
    rcases List.mem_append.mp z with z | z
    · exact h2 z
    · simp at z; exact hne z
  · obtain ⟨u, h⟩ := w.trB a (.inl b)
    by_cases e : a = p
    · exact ⟨o, by rw [e]; exact upd_same⟩
    · exact ⟨u, by rw [upd_ne e]; exact h⟩
  · rw [upd_ne (fun (z : b = p) => by rw [z, h0] at h; cases h)]
    exact w.gr.keep b u h n
  · rcases List.mem_append.mp h with h | h
    · exact w.gr.fre a h n
    · simp at h; rw [h]; exact h0
section
variable {X : Cx} {Z : ZT} {e1 e2 : Expr} {f1 f2 : Env → M D} {pos p pos' : Pos}
theorem dss_begin {p1 p2 q1 q2 q3 q4 q5 q6 pd pos1 pos2 : Pos} {j1 j2 j3 j4 j5 j6 : Nat} (hN : X.N.Nodup) (hi : X.N[1]? = some ("cells" : Str)) (hx : Loc X.env.scope "cells") (hv : Vis X.env.scope "cells") (h1 : DN X [1] Z e1 f1) (h2 : DE X [1] Z e2 f2)
    (hs : swapsWith e1 (some (.Name "cells" p1)) pos1.line X.env = pure false := by rfl) (hf : X.fn "cells" = true ∨ X.env.scope.names.lookup ("cells" : Str) = some .local := by first | exact .inl rfl | exact .inr rfl | assumption) :
    DSs X [1] Z [.Assign [.Name "cells" p1] e1 pos1, .Return (some (.Dict [some (.Constant (.str "cells") j1 q1), some (.Constant (.str "lefts") j2 q2), some (.Constant (.str "at") j3 q3), some (.Constant (.str "room") j4 q4)]
      [.Name "cells" p2, e2, .Constant (.int 0) j5 q5, .Constant (.int 0) j6 q6] pd)) pos2] (S.begin f1 f2) := by
  refine PSs.imp (pss_cons (ps_set hN hi hx h1 hs hf) (pss_one (ps_ret (pe_disp (pps_cons pe_str (pe_var (i := 1) hi hv (by decide) (by decide)) (pps_cons pe_str h2 (pps_cons pe_str pe_int (pps_cons pe_str pe_int pps_nil)))) rfl rfl (by simp) (by simp))))) fun DD σ H ⟨g, ok, q⟩ => ?_
  refine ⟨g, ok, (Ev.bnd q).mono (fun d1 st1 q as1 v1 H1 g1 s1 r1 n1 => ?_) fun _ _ z => z⟩
  have hO : (1 : Nat) ∈ [1] := by simp
  cases d1 with
  | lst ds =>
    dsimp only at q
    split at q
    · rename_i him
      obtain ⟨w1, sp1⟩ := ok.wf.setN ok.sr g1 s1 hO r1 n1
      cases r1 with
      | sca r z => cases r; exact absurd rfl (z _)
      | lst hh r =>
        rename_i c vs
        obtain ⟨c1, c2⟩ := n1 c rfl
        intro p np
        have np1 : H1 p = none := np
        have npc : c ≠ p := fun z => by rw [z, np1] at hh; cases hh
        have npas : p ∉ as1 := fun z => by obtain ⟨o, z, _⟩ := s1.mem z; rw [np1] at z; cases z
        have g2 : Grow as1 H1 as1 (upd H1 p (.dK [])) := Grow.new np1
        have s2 := s1.new (o := .dK []) np1
        have w2 := w1.growB (D0 := p) s1 np1 g2 s2 ⟨_, upd_same⟩
        have hl : 1 < σ.length := by rw [ok.wf.len]; exact him.1
        have hρ : (List.set g.ρ 1 (some (D.lst ds)))[1]? = some (some (.lst ds)) := by rw [List.getElem?_set_self him.1]
        refine ⟨.ref c, by rw [List.getElem?_set_self hl], ⟨fun a => g.B a ∨ a = p, g.H0, g.as0, as1, List.set g.ρ 1 (some (.lst ds)), st1⟩, ⟨w2, s2⟩, (Ev.bnd q).mono (fun d2 st3 q as3 v2 H3 g3 s3 r2 => ?_) fun _ _ z => z.mono fun _ z => .inl z⟩
        have hp3 : H3 p = some (.dK []) := g3.keep p _ upd_same npas
        have np3 : p ∉ as3 := fun z => by
          have := g3.fre p z npas
          rw [upd_same] at this; cases this
        have w3 := w2.grow s2 g3 s3
        obtain ⟨c', vs3, hc3, hcc, rs3⟩ := w3.lst_at hO hρ
        rw [List.getElem?_set_self hl] at hc3
        cases hc3
        have hσc : (σ.set 1 (some (V.ref c)))[1]? = some (some (.ref c)) := List.getElem?_set_self hl
        obtain ⟨_, nc3, _, _⟩ := w3.slot 1 c hO hσc
        have q : Ev (if d2.imm = true then Res.ok (Fl.ret (.ref (st3.length + 1)), List.set (List.set g.ρ 1 (some (.lst ds))) 1 none) (st3 ++ [.lst ds] ++ [.dct false [kCells, kLefts, kAt, kRoom] [.ref st3.length, d2, .int 0, .int 0]]) else Res.bad) _ _ := q
        split at q
        · rename_i him2
          have w4 := w3.leave hO hσc
          have np4 : p ∉ as3 ++ [c] := fun z => by
            rcases List.mem_append.mp z with z | z
            · exact np3 z
            · simp at z; exact npc z.symm
          have h0p : g.H0 p = none := by
            cases z : g.H0 p with
            | none => rfl
            | some o =>
              by_cases m : p ∈ g.as0
              · exact absurd (w1.gr.sub m) npas
              · have := w1.gr.keep p o z m
                rw [np1] at this; cases this
          let kvs : List (Key × V) := [(.inr "cells", .ref c), (.inr "lefts", v2), (.inr "at", .int 0), (.inr "room", .int 0)]
          have w5 := w4.toStore (o := .dK kvs) h0p hp3 (fun z => z)
          have nt3 : ∃ w, H3 p = some w ∧ ¬ TupO w := ⟨_, hp3, fun z => z⟩
          have kt : ∀ b u, H3 b = some u → TupO u → upd H3 p (.dK kvs) b = some u := fun b u h t => by rw [upd_ne (fun (z : b = p) => by rw [z, hp3] at h; cases h; exact t)]; exact h
          have s4 := s3.snoc (c := .lst ds) nc3 ⟨vs3, hcc, (rs3.of_imm him.2).frame (fun _ _ h _ => h) (fun _ _ h _ => h) fun _ _ h => get_app h⟩
          have s4' := s4.lockd np4 (o := .dK kvs) nt3 (fun φ z => by rw [hp3] at z; cases z)
          have ic : (as3 ++ [c] ++ [p])[st3.length]? = some c := by rw [← s3.len]; simp
          have ip : (as3 ++ [c] ++ [p])[st3.length + 1]? = some p := by rw [← s3.len]; simp
          have pr5 : ∀ (n : Nat) (a : Addr), as3[n]? = some a → (as3 ++ [c] ++ [p])[n]? = some a := fun n a h => get_app (get_app h)
          have s5 := s4'.snoc (c := .dct false [kCells, kLefts, kAt, kRoom] [.ref st3.length, d2, .int 0, .int 0]) np4 ⟨.dK kvs, [.ref c, v2, .int 0, .int 0], upd_same, .inl ⟨kvs, rfl, rfl, rfl, rfl⟩,
            .cons (.ref ic) (.cons ((r2.of_imm (F' := fun _ => True) him2).frame (fun _ _ _ n => absurd trivial n) kt pr5) (.cons (.int 0) (.cons (.int 0) .nil)))⟩
          have back : ∀ {a : Addr}, (upd H1 p (.dK [])) a = none → a ∉ as1 → a ∉ g.as → H a = none := fun {a} h n m => by
            by_cases e : a = p
            · rw [e, upd_same] at h; cases h
            · rw [upd_ne e] at h
              cases z : H a with
              | none => rfl
              | some o => rw [g1.keep a o z m] at h; cases h
          have hHp : H p = none := by
            cases z : H p with
            | none => rfl
            | some o =>
              by_cases m : p ∈ g.as
              · exact absurd (g1.sub m) npas
              · have := g1.keep p o z m
                rw [np1] at this; cases this
          have kp : ∀ b o, H b = some o → b ∉ g.as → upd H3 p (.dK kvs) b = some o := fun b o h n => by
            have nb : b ≠ p := fun z => by rw [z, hHp] at h; cases h
            have n1 : b ∉ as1 := fun z => by have := g1.fre b z n; rw [h] at this; cases this
            rw [upd_ne nb]
            exact g3.keep b o (by rw [upd_ne nb]; exact g1.keep b o h n) n1
          have stp : Step [1] g.as σ H (as3 ++ [c] ++ [p]) ((σ.set 1 (some (.ref c))).set 1 none) (upd H3 p (.dK kvs)) := by
            refine ⟨fun n a h => pr5 n a (g3.pre n a (g1.pre n a h)), fun b o h n _ => kp b o h n, fun a h n => ?_, fun a h => ?_, fun b o h => ?_⟩
            · rcases List.mem_append.mp h with h | h
              · rcases List.mem_append.mp h with h | h
                · by_cases m : a ∈ as1
                  · exact g1.fre a m n
                  · exact back (g3.fre a h m) m n
                · simp at h; rw [h]; exact c1
              · simp at h; rw [h]; exact hHp
            · exfalso
              obtain ⟨j, hj, e⟩ := h
              simp at hj
              subst hj
              rcases get_set_some e with ⟨_, e, _⟩ | ⟨ne, e⟩
              · cases e
              · exact ne rfl
            · by_cases m : b ∈ g.as
              · have : b ∈ as3 ++ [c] ++ [p] := by
                  have := g3.sub (g1.sub m)
                  simp [this]
                obtain ⟨o', h', _⟩ := s5.mem this
                exact ⟨o', h'⟩
              · exact ⟨o, kp b o h m⟩
          have fin := q _ _ _ stp w5 s5 (.ref p) (.ref ip)
          exact ⟨hp3, kvs, rfl, (show 4 ≤ 15 by decide), fin⟩
        · exact q.elim
    · exact q.elim
  | _ => exact q.elim
end
end G
end L2
end G28_
section G29_
set_option Elab.async false
set_option linter.all false
set_option maxRecDepth 100000
set_option maxHeartbeats 1000000
namespace L2
namespace G
open PySem PySem.Spec PyProof.Rows
/-! ### defs by name -/
structure Fc (P : Program) (w : World) (K : PySem.W.Frag) (mg : Str → Option Value) (base : Heap) (x : Str) (n k : Nat) (φ : List D → M D) : Prop where
  ex : ∃ f fd ps, FnG P w K mg base k f fd ps (spD K n φ) ∧ mg x = some (.ref f) ∧ PySem.W.keepIn K (.ref f) = true ∧ Binds K fd ps []
theorem Fc.dn {X : Cx} {x : Str} {n k : Nat} {φ : List D → M D} (h : Fc X.prog X.w X.K X.mg X.base x n k φ) : Dn X x n k φ := ⟨h.ex⟩
/-- a def of the top: its function object, known by name -/
def Fnc1 (K : PySem.W.Frag) (mg : Str → Option Value) (x : Str) (st : Stmt) : Prop := ∃ fd, FunD K x x (defArgs st) (defBody st) (defScope st) [] [] (He.fAd K (x, none)) fd ∧ mg x = some (.ref (He.fAd K (x, none)))
theorem code_of {K : PySem.W.Frag} {x : Str} {ar : Arguments} {bd : List Stmt} {sc : Scope} {fd : FuncData} (F : FunD K x x ar bd sc [] [] (He.fAd K (x, none)) fd) : fd.code = .ref (He.cT K (x, none)).1 := by
  obtain ⟨oc, od, dV, kV, doc, pm, an, cdv, ct, osl, rfl, lk, hcd, hD, hK⟩ := F.ex
  obtain ⟨c, rfl⟩ := He.codeIn_ref hcd
  exact congrArg Value.ref (He.codeOf_eq lk rfl).symm
theorem Fnc1.fc {P : Program} {w : World} {K : PySem.W.Frag} {mg : Str → Option Value} {base : Heap} {x : Str} {st : Stmt} {N ps : List Str} {k : Nat} {O : List Nat} {b : SD}
    (F : Fnc1 K mg x st) (S : FnScope N ps (defScope st)) (hO : ∀ i ∈ O, ps.length ≤ i)
    (hb : ∀ {f : Addr} (cdv : Value) (A : Around) (outer : List PySem.Env) (s : Shared) (H : Hp) (E : XK) {Z : ZT}, cdv = .ref (He.cT K (x, none)).1 → Rm k (A.deeper (envOfC x (defScope st) s.heap.objs.size f cdv)) →
      Takes (cxOf (L2.CX P w) P w K mg base N x (defScope st) f cdv A outer s H E) (WZ K Z) → DSs (cxOf (L2.CX P w) P w K mg base N x (defScope st) f cdv A outer s H E) O Z (defBody st) b)
    (h : ∀ (kV doc pm : Value) (an : Option Addr) (cdv ct : Value) (us : List Value), us.length = ps.length → bindArgs (PySem.W.fnOf x x (defArgs st) (defBody st) (defScope st) .none kV doc pm an cdv ct) ⟨us, []⟩ = pure (ps.zip us)) :
    Fc P w K mg base x ps.length (k + 1) (fnD N.length b) := by
  obtain ⟨fd, F, hm⟩ := F
  exact ⟨_, fd, ps, G.fn_ok F S hO fun cdv A outer s H E Z hcd hr tk => hb cdv A outer s H E (hcd.symm.trans (code_of F)) hr tk, hm, F.kp, F.bindsN h⟩
theorem r65 {k : Nat} {A : Around} (r : Rm k A) : A.units + 65 < cLine := by have := r.rm.un; omega
theorem r1 {k : Nat} {A : Around} (r : Rm k A) : A.units + 1 < cLine := by have := r.rm.un; omega
theorem r0 {k : Nat} {A : Around} (r : Rm k A) : A.units < cLine := by have := r.rm.un; omega
section
variable {X : Cx} {O : List Nat} {Z : ZT}
theorem dn_gI {x : Str} {i : Int} {pos : Pos} (hg : Gl X x) (hm : ∃ t, X.mg x = some (.int i t)) (hd : (x == ("__debug__" : Str)) = false := by decide) : DN X O Z (.Name x pos) (E.cst (.int i)) := by
  obtain ⟨t, hm⟩ := hm
  exact dn_globI hg hm ⟨t, rfl⟩ hd
theorem dn_gS {x : Str} {i : Str} {pos : Pos} (hg : Gl X x) (hm : ∃ t, X.mg x = some (.str i t)) (hd : (x == ("__debug__" : Str)) = false := by decide) : DN X O Z (.Name x pos) (E.cst (.str i)) := by
  obtain ⟨t, hm⟩ := hm
  exact dn_globS hg hm ⟨t, rfl⟩ hd
end
end G
end L2
end G29_
section G30_
set_option Elab.async false
set_option linter.all false
set_option maxRecDepth 100000
set_option maxHeartbeats 2000000
namespace L2
namespace G
open PySem PySem.Spec PyProof.Rows
/-! ### a lambda is made: what becomes of the heap -/
section
variable {X : Cx} {pins : List (Addr × Obj)} {σ : L2.St} {H : Hp} {s : Shared}
/-- the heap behind the making of a lambda -/
inductive Made (H : Hp) (P : Addr) (q : Str) : Hp → Addr → Prop
  | hit {c : Addr} : H c = some (LamX.CodeO c q) → Made H P q H c
  | new {c : Addr} {ps more : Array Value} : H P = some (.tbl ps) → H c = none → Made H P q (upd (upd H P (.tbl (ps ++ more))) c (LamX.CodeO c q)) c
theorem lam_make3 {c P : Addr} {q : Str} {params : Arguments} {body : Expr} {scope : Scope} {pos : Pos} {E : Value → Shared → Prop} {Q : Value → Shared → Prop}
    (I : Inv X pins σ H s) (TB : LamX.TabB X.base X.mg c P) (hcode : X.env.code = .ref c) (hq : X.env.qual ++ "<lambda>" = q) (hT : LamX.TabS H P q)
    (hdef : defaultsOf params X.env = ([], [])) (hfree : ∀ y ∈ scope.names, y.2 = .free → ∃ c, X.env.cells.lookup y.1 = some c)
    (h : ∀ (f c' : Addr) (pm ctv : Value) (H1 : Hp) (s' : Shared), Inv X pins σ H1 s' → Made H P q H1 c' → LamX.TabS H1 P q →
      s'.heap.get? f = some (PySem.W.kla_obj "<lambda>" q params body scope (cloFrom X.env.cells scope.names []) pm c' ctv) →
      H1 f = none → f ∉ frs X.stack → s.heap.objs.size ≤ f → Q (.ref f) s') :
    wpAny (model X.prog X.w) X.A (eval (.Lambda params body scope pos) X.env) Q E s := by
  subst hq
  obtain ⟨ps, hP, ht, ha⟩ := hT
  refine PySem.W.kla_eval hdef ?_
  have tabAt : s.heap.get? P = some { cls := .none, data := .fields ps } := I.hok P _ hP
  have notFrame : ∀ f, s.heap.objs.size ≤ f → f ∉ frs X.stack := fun f hf z => by
    rcases List.mem_cons.mp (I.stkSub _ z) with e | e
    · exact Nat.lt_irrefl _ (Nat.lt_of_lt_of_le (show f < _ by rw [e]; exact I.lt) hf)
    · exact I.nofs hf e
  cases among : codeAmong pos ps.toList with
  | some cv =>
    obtain ⟨c', e, known⟩ := ha pos cv among
    subst e
    refine PySem.W.kla_makeFunctionHit (mg := X.mg) (c := c) (P := P) (ps := ps) (closure_ok hfree) I.ok.glob (I.mod.glob.keeps I.bk) hcode (TB.code.keeps I.bk) tabAt ht among (TB.bm.keeps I.bk)
      fun ctv h' tk hx hsz => ?_
    refine h h'.objs.size c' ((X.mg "__name__").getD .none) ctv H _ (I.kept fun b o e => Heap.get?_push_of_some _ (hx b o e)) (.hit known) ⟨ps, hP, ht, ha⟩ (Heap.get?_push_size _ rfl) (I.hok.fresh hsz) (notFrame _ hsz) hsz
  | none =>
    refine PySem.W.kla_makeFunction (mg := X.mg) (c := c) (P := P) (ps := ps) (closure_ok hfree) I.ok.glob (I.mod.glob.keeps I.bk) hcode (TB.code.keeps I.bk) tabAt ht among TB.gP (TB.bm.keeps I.bk)
      fun c' ctv h' tk hx hge hlt hrec htb => ?_
    obtain ⟨c2, oc, vs, t, e2, hoc, hd, hv⟩ := hrec
    cases e2
    have grown : s.heap.objs.size ≤ h'.objs.size := Nat.le_trans hge (Nat.le_of_lt hlt)
    have isNew : H c' = none := I.hok.fresh hge
    let fo : Obj := PySem.W.kla_obj "<lambda>" (X.env.qual ++ "<lambda>") params body scope (cloFrom X.env.cells scope.names []) ((X.mg "__name__").getD .none) c' ctv
    let row : Array Value := #[rawInt pos.line, rawInt pos.col, .ref c']
    have J := LamX.inv_table (t' := tk) (more := row) (h' := h'.push fo) I hP (fun b o hb e => Heap.get?_push_of_some _ (hx b o hb e)) (Heap.get?_push_of_some _ htb) hge
      ⟨oc, vs, t, Heap.get?_push_of_some _ hoc, hd, hv⟩
    have listed : (ps ++ row).toList = ps.toList ++ [rawInt pos.line, rawInt pos.col, .ref c'] := by simp [row]
    refine h h'.objs.size c' ((X.mg "__name__").getD .none) ctv _ _ J (.new hP isNew) ⟨ps ++ row, by rw [upd_ne (ne_of_none hP isNew), upd_same], by rw [listed]; exact PySem.TriplesOk_snoc _ _ _ _ ht, fun p' cv hcv => ?_⟩ (Heap.get?_push_size _ rfl) ?_ (notFrame _ grown) grown
    · rw [listed] at hcv
      rcases LamX.among_app _ ht hcv with z | z
      · obtain ⟨c0, e1, e2⟩ := ha p' cv z
        refine ⟨c0, e1, ?_⟩
        rw [upd_ne (ne_of_none e2 isNew), upd_ne (fun z => by rw [z, hP] at e2; exact LamX.codeO_ne ps (Option.some.inj e2).symm)]
        exact e2
      · exact ⟨c', z, upd_same⟩
    · rw [upd_ne (Nat.ne_of_gt hlt), upd_ne (Nat.ne_of_gt (Nat.lt_of_lt_of_le (Heap.lt_size tabAt) grown))]
      exact I.hok.fresh grown
end
theorem Made.code {H H1 : Hp} {P c : Addr} {q : Str} (m : Made H P q H1 c) : H1 c = some (LamX.CodeO c q) := by
  cases m with
  | hit h => exact h
  | new h n => exact upd_same
theorem Made.keep {H H1 : Hp} {P c : Addr} {q : Str} (m : Made H P q H1 c) : ∀ b o, H b = some o → b ≠ P → H1 b = some o := fun b o e n => by
  cases m with
  | hit h => exact e
  | new h nn => rw [upd_ne (ne_of_none e nn), upd_ne n]; exact e
theorem Made.back {H H1 : Hp} {P c : Addr} {q : Str} (m : Made H P q H1 c) : ∀ b, H1 b = none → H b = none := fun b e => by
  cases m with
  | hit h => exact e
  | new h nn =>
    cases z : H b with
    | none => rfl
    | some o =>
      rw [upd_ne (ne_of_none z nn)] at e
      by_cases hb : b = P
      · rw [hb, upd_same] at e; cases e
      · rw [upd_ne hb, z] at e; cases e
/-! ### a lambda with one parameter -/
structure LamS1 (sc scope : Scope) (a : Str) : Prop where
  kind : scope.kind = .function
  co : scope.isCoroutine = false
  gen : scope.isGenerator = false
  par : scope.names.lookup a = some .local
  own : ∀ y ∈ scope.names, (y.2 = .local → y.1 = a) ∧ y.2 ≠ .cell
  free : ∀ y ∈ scope.names, y.2 = .free → sc.names.lookup y.1 = some .cell ∨ sc.names.lookup y.1 = some .free
def lamS1B (sc scope : Scope) (a : Str) : Bool :=
  decide (scope.kind = .function) && !scope.isCoroutine && !scope.isGenerator && decide (scope.names.lookup a = some .local) &&
    scope.names.all fun y => (!decide (y.2 = .local) || decide (y.1 = a)) && !decide (y.2 = .cell) && (!decide (y.2 = .free) || decide (sc.names.lookup y.1 = some .cell) || decide (sc.names.lookup y.1 = some .free))
theorem lamS1_by {sc scope : Scope} {a : Str} (h : lamS1B sc scope a = true) : LamS1 sc scope a := by
  unfold lamS1B at h
  simp only [Bool.and_eq_true, Bool.or_eq_true, Bool.not_eq_true', decide_eq_true_eq, decide_eq_false_iff_not, List.all_eq_true] at h
  obtain ⟨⟨⟨⟨h1, h2⟩, h3⟩, h5⟩, h4⟩ := h
  refine ⟨h1, h2, h3, h5, fun y hy => ⟨fun e => ?_, (h4 y hy).1.2⟩, fun y hy e => ?_⟩
  · rcases (h4 y hy).1.1 with z | z
    · exact absurd e z
    · exact z
  · rcases (h4 y hy).2 with (z | z) | z
    · exact absurd e z
    · exact .inl z
    · exact .inr z
section
variable {X : Cx} {pins : List (Addr × Obj)} {σ : L2.St} {H : Hp} {s : Shared} {scope : Scope} {a : Str}
theorem LamS1.has (L : LamS1 X.env.scope scope a) (ok : X.Ok) : ∀ y ∈ scope.names, y.2 = .free → ∃ c, X.env.cells.lookup y.1 = some c := fun y hy e =>
  (L.free y hy e).elim (fun k => ok.has _ (.inl k)) fun k => ok.has _ (.inr k)
theorem lam_start1 {A : Around} {outer : List PySem.Env} {E : XK} {f c' : Addr} {h₁ : Heap} {tk i : Nat} {v : V} {u : Value} (I : Inv X pins σ H s) (L : LamS1 X.env.scope scope a)
    (e0 : Env0 X.prog X.w X.K X.mg X.base A outer s H) (hd : A.handled = none) (hns : h₁.Ns s.heap.objs.size fun y => [(a, u)].reverse.lookup y) (kp : ∀ b o, s.heap.get? b = some o → h₁.get? b = some o)
    (hN : X.N.Nodup) (hi : X.N[i]? = some a) (rv : RelV v u) :
    Inv (LamX.lamCx X A outer s H E scope f c') [] (σ.set i (some v)) H { s with heap := h₁, toks := tk } := by
  have hfree := L.has I.ok
  let cl := cloFrom X.env.cells scope.names []
  have outerCell : ∀ {y c}, cl.lookup y = some c → X.env.cells.lookup y = some c := fun {y c} e => by
    rcases cloFrom_mem (PySem.mem_of_lookup e) with hm | ⟨h1, h2⟩
    · cases hm
    · obtain ⟨c1, hc⟩ := hfree _ h1 rfl
      have hc : X.env.cells.lookup y = some c1 := hc
      have e2 : c = c1 := by rw [h2, hc]; rfl
      rw [e2]; exact hc
  have found : ∀ {y}, scope.names.lookup y = some .free → ∃ c, cl.lookup y = some c := fun {y} hl =>
    mem_lookup (cloFrom_has (cells := X.env.cells) (acc := []) (PySem.mem_of_lookup hl : (y, NameKind.free) ∈ scope.names))
  have still : ∀ {c : Addr} {v : Option Value}, s.heap.IsCell c v → h₁.IsCell c v := fun {c v} ⟨o, ho, hd⟩ => ⟨o, kp _ _ ho, hd⟩
  have none_ex : ∀ b : Addr, b ∉ (LamX.lamCx X A outer s H E scope f c').ex := fun b z => absurd (show b ∈ ([] : List Addr) from z) (by simp)
  have hiσ : i < σ.length := by rw [I.len]; exact (List.getElem?_eq_some_iff.mp hi).1
  refine ⟨⟨e0.mod, L.kind, rfl, rfl, Nat.le_refl _, fun y z c e1 e2 => I.ok.inj y z c (outerCell e1) (outerCell e2), fun y hy => ?_, fun y c z _ => ?_, fun _ => hd, Around.frames_deeper e0.frames, .inr ⟨rfl, rfl⟩,
      fun b z => absurd z (none_ex b), e0.bs, e0.bsz, fun b _ _ => none_ex b, fun b z => absurd z (none_ex b), e0.funs, e0.frf⟩,
    rfl, e0.bare, Un.kept kp, ⟨_, hns, fun j y v' e1 e2 e3 => ?_⟩, fun y c e => ?_, e0.hok.fresh (Nat.le_refl _), fun y c e => ?_, fun q hq => absurd (show q ∈ ([] : List (Addr × Obj)) ++ [] from hq) (by simp), e0.hok.kept kp,
    by rw [List.length_set]; exact I.len⟩
  · rcases (show scope.names.lookup y = some .cell ∨ scope.names.lookup y = some .free from hy) with hy | hy
    · exact absurd rfl (L.own _ (PySem.mem_of_lookup hy)).2
    · exact found hy
  · exact absurd (show false = true from z) Bool.false_ne_true
  · rcases (show Vis scope y from e3) with k | k | k
    · have ey : y = a := (L.own _ (PySem.mem_of_lookup k)).1 rfl
      subst ey
      cases nodup_ix hN e1 hi
      rw [List.getElem?_set_self hiσ] at e2
      cases e2
      exact ⟨u, rv, .inl ⟨k, by simp⟩⟩
    · exact absurd rfl (L.own _ (PySem.mem_of_lookup k)).2
    · have ne : i ≠ j := fun z => by
        subst z
        have : X.N[i]? = some y := e1
        rw [hi] at this
        cases this
        rw [L.par] at k; cases k
      rw [List.getElem?_set_ne ne] at e2
      obtain ⟨m, hn, hl⟩ := I.loc
      have seen : Vis X.env.scope y := (L.free _ (PySem.mem_of_lookup k) rfl).elim (fun k => .inr (.inl k)) (fun k => .inr (.inr k))
      obtain ⟨w', r, q⟩ := hl j y v' e1 e2 seen
      obtain ⟨c2, h2⟩ := found k
      refine ⟨w', r, .inr ⟨.inr k, c2, h2, ?_⟩⟩
      have c1 := outerCell h2
      rcases q with ⟨k', _⟩ | ⟨_, c3, e', z⟩
      · have k' : X.env.scope.names.lookup y = some .local := k'
        rcases L.free _ (PySem.mem_of_lookup k) rfl with k2 | k2
        · rw [show X.env.scope.names.lookup y = _ from k2] at k'; cases k'
        · rw [show X.env.scope.names.lookup y = _ from k2] at k'; cases k'
      · rw [c1] at e'
        cases e'
        exact still z
  · obtain ⟨w', z⟩ := I.cell y c (outerCell e)
    exact ⟨w', still z⟩
  · exact I.freeC y c (outerCell e)
/-- the lambda is called, from a built-in function that this context called -/
theorem lam_call1 {f c' : Addr} {pm ctv : Value} {params : Arguments} {body : Expr} {k i : Nat} {q : Str} {tb : TE} {v : V} {u : Value} {Q : VK} (I : Inv X pins σ H s) (hq : X.env.qual ++ "<lambda>" = q) (L : LamS1 X.env.scope scope a)
    (hf : s.heap.get? f = some (PySem.W.kla_obj "<lambda>" q params body scope (cloFrom X.env.cells scope.names []) pm c' ctv)) (hc : H c' = some (LamX.CodeO c' q))
    (hbind : ∀ u, bindArgs (PySem.W.kla_fn "<lambda>" q params body scope (cloFrom X.env.cells scope.names []) pm (.ref c') ctv) ⟨[u], []⟩ = pure [(a, u)])
    (hr : Rm (k + 2) X.A) (hN : X.N.Nodup) (hi : X.N[i]? = some a) (rv : RelV v u)
    (hbody : ∀ (A : Around) (outer : List PySem.Env) (s : Shared) (H : Hp), Rm k (A.deeper (LamX.lamEnv X scope s.heap.objs.size f c')) → PE (LamX.lamCx X A outer s H C8.E0 scope f c').nox body tb) (ht : tb (σ.set i (some v)) H Q) :
    wpAny (model X.prog X.w) X.A.in1 (call (.ref f) [u]) (EP X pins σ Q) (fun _ _ => False) s := by
  subst hq
  have hr1 : Rm (k + 1) X.A.in1 := hr.in1
  obtain ⟨⟨oc, vs, t, hoc, hdc, hvc⟩, _, _⟩ := I.hok c' _ hc
  have e0 : Env0 X.prog X.w X.K X.mg X.base X.A.in1 X.stack s H := by
    have e := I.env0
    exact ⟨e.frames, e.mod, e.bs, e.bsz, e.funs, e.frf, e.hok, e.bare⟩
  have rc : codeAny (model X.prog X.w) X.A.in1 (.call (.ref f) ⟨[u], []⟩) (CR C8.CX0 X.stack X.prog X.w H s Q C8.E0) s := by
    refine PySem.W.kla_callFunE hr1.rm.depth hf rfl L.co L.gen rfl ⟨c', oc, vs, t, rfl, hoc, hdc, hvc⟩ ?_
    rw [hbind]
    refine wpAny_pure (wpAny_newFunctionEnv (fun y hy => (L.own y hy).2) (fun y hy => ?_) (fun h₁ hns hsb => ⟨I.nolimit.fresh _ hsb, ?_⟩) L.kind)
    · rw [List.mem_singleton.mp hy]; exact L.par
    show codeAny _ _ (.expr body (LamX.lamEnv X scope s.heap.objs.size f c')) _ _
    have kp : ∀ b o, s.heap.get? b = some o → h₁.get? b = some o := fun b o e => hsb.extBut b o (Nat.ne_of_lt (Heap.lt_size e)) (Heap.get?_push_of_some _ e)
    have J : Inv (LamX.lamCx X X.A.in1 X.stack s H C8.E0 scope f c').nox [] (σ.set i (some v)) H { s with heap := h₁, toks := s.toks + [(a, u)].length } :=
      (lam_start1 (E := C8.E0) (f := f) (c' := c') (tk := s.toks + [(a, u)].length) I L e0 hr1.rm.hd hns kp hN hi rv).wish _
    refine PySem.W.kla_codeExpr (wpAny_mono ((hbody _ _ s H (hr1.deeper _)).run [] _ _ H Q J ht) (fun v s' hq => ?_) fun e s' hq => (show False from hq).elim)
    obtain ⟨w', H', J', rv, q⟩ := hq
    exact ⟨w', H', J'.os, J'.bare, J'.base, J'.hok, rv, q⟩
  refine wpAny_call (codeAny_mono rc fun r s' hq => ?_)
  cases r with
  | error e => exact (show False from hq).elim
  | ok fl =>
    cases fl with
    | ret u => exact I.after hq
    | _ => exact False.elim hq
end
end G
end L2
end G30_
section G31_
set_option Elab.async false
set_option linter.all false
set_option maxRecDepth 100000
set_option maxHeartbeats 2000000
namespace L2
namespace G
open PySem PySem.Spec PyProof.Rows
/-! ### min(xs, key=f): the turns -/
section
variable {X : Cx} {pins : List (Addr × Obj)} {σ : L2.St}
theorem FpOk.heap {H H' : Hp} {b : Addr} (h : FpOk X pins H b) (n : H' b = none) : FpOk X pins H' b := ⟨n, h.2⟩
theorem Inv.turn {H : Hp} {s : Shared} {it : Addr} {h' : Heap} {t' : Nat} (I : Inv X pins σ H s) (f : FpOk X pins H it) (k : ∀ b o, b ≠ it → s.heap.get? b = some o → h'.get? b = some o) : Inv X pins σ H { s with heap := h', toks := t' } :=
  I.turned k f.1 f.2.1 f.2.2.2.1 f.2.2.2.2.1 f.2.2.2.2.2
/-- two objects of our own held beside the pins -/
theorem Inv.two {H : Hp} {s : Shared} {a b : Addr} {oa ob : Obj} (I : Inv X pins σ H s) (fa : FpOk X pins H a) (fb : FpOk X pins H b) (ha : s.heap.get? a = some oa) (hb : s.heap.get? b = some ob)
    (na : ∀ v, oa.data ≠ .cell v) (nb : ∀ v, ob.data ≠ .cell v) : Inv X ((a, oa) :: (b, ob) :: pins) σ H s := I.pins_of fun p hp => by
  rcases List.mem_cons.mp hp with rfl | hp
  · exact ⟨ha, fa.1, fa.2.1, fa.2.2.1, na⟩
  · rcases List.mem_cons.mp hp with rfl | hp
    · exact ⟨hb, fb.1, fb.2.1, fb.2.2.1, nb⟩
    · exact I.pin p (List.mem_append_right _ hp)
theorem Inv.untwo {H : Hp} {s : Shared} {a b : Addr} {oa ob : Obj} (I : Inv X ((a, oa) :: (b, ob) :: pins) σ H s) : Inv X pins σ H s ∧ (s.heap.get? a = some oa ∧ H a = none) ∧ (s.heap.get? b = some ob ∧ H b = none) := by
  refine ⟨I.pins_of fun p hp => I.pin p (List.mem_append_right _ (.tail _ (.tail _ hp))), ?_, ?_⟩
  · obtain ⟨h1, h2, _⟩ := I.pin (a, oa) (List.mem_append_right _ (.head _)); exact ⟨h1, h2⟩
  · obtain ⟨h1, h2, _⟩ := I.pin (b, ob) (List.mem_append_right _ (.tail _ (.head _))); exact ⟨h1, h2⟩
def MinR (X : Cx) (pins : List (Addr × Obj)) (σ : L2.St) (E : Value → Shared → Prop) (Q : VK) (r : Result) (s' : Shared) : Prop := match r with
  | .ok (.ret v) => EP X pins σ Q v s'
  | .ok _ => False
  | .error e => E e s'
theorem min_turns {l fq S It : Addr} {fo : Obj} {xs : List V} {E : Value → Shared → Prop} {Q : VK} (kf : Nat → Int) (Pv : Nat → Hp → Prop) (hh : X.A.handled = none)
    (hl : ∀ j H, Pv j H → SqL X.K H l xs) (hSI : S ≠ It) (hlI : l ≠ It) (hpf : (fq, fo) ∈ pins)
    (turn : ∀ (j : Nat) (x : V) (u : Value) (H : Hp) (s : Shared) (more : List (Addr × Obj)), xs[j]? = some x → Pv j H → Inv X (more ++ pins) σ H s → RelV x u →
      wpAny (model X.prog X.w) X.A.in1 (call (.ref fq) [u]) (EP X (more ++ pins) σ fun y H' => y = .int (kf j) ∧ Pv (j + 1) H') (fun _ _ => False) s)
    (hQ : ∀ i x H', xs[i]? = some x → (∀ j, j < xs.length → kf i ≤ kf j ∧ (j < i → kf i < kf j)) → Pv xs.length H' → Q x H') :
    ∀ (r j i : Nat) (s : Shared) (H : Hp) (xb : V) (vb : Value) (tb : Tok) (c : Nat), xs.length - (j + 1) = r → j + 1 ≤ xs.length → Inv X pins σ H s → Pv (j + 1) H → FpOk X pins H S → FpOk X pins H It →
      s.heap.get? S = some (seqObj "list" #[vb, .int (kf i) tb] c) → s.heap.IsListIter It l (j + 1) → xs[i]? = some xb → RelV xb vb → i ≤ j → (∀ j', j' ≤ j → kf i ≤ kf j' ∧ (j' < i → kf i < kf j')) →
      codeAny (model X.prog X.w) X.A (.builtin "min.loop" ⟨[.ref It, .ref fq, .ref S], []⟩) (MinR X pins σ E Q) s := by
  have loopName : (toString "min" ++ toString ".loop" : String) = "min.loop" := by decide
  intro r
  induction r with
  | zero =>
    intro j i s H xb vb tb c hr hj I pv fS fI gS hit hxb rb hij best
    obtain ⟨its, rvs, plain, hz⟩ := I.list (hl _ H pv)
    have ln : xs.length = its.length := rvs.length
    have W := Walks.list (prog := X.prog) (w := X.w) (A := X.A.in1) hh It l hlI its.toArray
    refine codeAny_builtin PySem.F.entry_min_loop ?_
    rw [Around.under_plainId PySem.F.plain_min_loop _]
    show wpAny _ X.A.in1 (seqItems? (.ref S) >>= _) _ _ _
    refine wpAny_bind (wpAny_seqItems gS rfl ?_)
    show wpAny _ X.A.in1 (tryCatch (pyNext (.ref It)) _ >>= _) _ _ _
    have at_end : its.toArray.size = j + 1 := by rw [List.size_toArray]; omega
    refine wpAny_bind (wpAny_tryCatch (W.done _ _ _ ⟨by rw [at_end]; exact hit, plain.isList⟩ fun h' tk' keep => ?_))
    have I1 : Inv X pins σ H { s with heap := h', toks := tk' } := Inv.turn I fI fun b o hb e => keep b o (by simpa using hb) e
    have gS1 := keep S _ (by simpa using hSI) gS
    have ch := Heap.SameBut.update h' S (Obj.mapSeq fun _ => (#[] : Array Value))
    show wpAny _ X.A.in1 (updateSeq S (fun _ => #[]) >>= _) _ _ _
    refine wpAny_bind (wpAny_updateSeq gS1 rfl (wpAny_bind (wpAny_letGo (wpAny_pure ?_))))
    have I2 := Inv.turn (h' := h'.update S (Obj.mapSeq fun _ => (#[] : Array Value))) (t' := tk') I1 fS fun b o hb e => (ch.2 b hb).trans e
    have done : j + 1 = xs.length := by omega
    rw [done] at pv
    exact ⟨xb, H, I2, rb, hQ i xb H hxb (fun j' hj' => best j' (by omega)) pv⟩
  | succ r ih =>
    intro j i s H xb vb tb c hr hj I pv fS fI gS hit hxb rb hij best
    have more : j + 1 < xs.length := by omega
    obtain ⟨its, rvs, plain, hz⟩ := I.list (hl _ H pv)
    have ln : xs.length = its.length := rvs.length
    have W := Walks.list (prog := X.prog) (w := X.w) (A := X.A.in1) hh It l hlI its.toArray
    refine codeAny_builtin PySem.F.entry_min_loop ?_
    rw [Around.under_plainId PySem.F.plain_min_loop _]
    show wpAny _ X.A.in1 (seqItems? (.ref S) >>= _) _ _ _
    refine wpAny_bind (wpAny_seqItems gS rfl ?_)
    show wpAny _ X.A.in1 (tryCatch (pyNext (.ref It)) _ >>= _) _ _ _
    refine wpAny_bind (wpAny_tryCatch (W.item (j + 1) _ _ _ (by rw [List.size_toArray, ← ln]; exact more) ⟨hit, plain.isList⟩ fun u h' tk' hu hst keep => ?_))
    have hu : its[j + 1]? = some u := by simpa using hu
    obtain ⟨x, hx, rx⟩ : ∃ x, xs[j + 1]? = some x ∧ RelV x u := by
      have hx : xs[j + 1]? = some xs[j + 1] := List.getElem?_eq_getElem more
      obtain ⟨u', hu', r'⟩ := rvs.get hx
      rw [hu] at hu'; cases hu'
      exact ⟨_, hx, r'⟩
    obtain ⟨oI, gI, hoc, hod⟩ := id hst.1
    have I1 : Inv X pins σ H { s with heap := h', toks := tk' } := Inv.turn I fI fun b o hb e => keep b o (by simpa using hb) e
    have gS1 := keep S _ (by simpa using hSI) gS
    have I2 := Inv.two I1 fS fI gS1 gI (fun v z => by cases z) (fun v z => by rw [hod] at z; cases z)
    show wpAny _ X.A.in1 (tryCatch (holding [u] (call (.ref fq) [u])) _ >>= _) _ _ _
    refine wpAny_bind (wpAny_tryCatch (wpAny_holding (wpAny_mono (turn (j + 1) x u H _ [(S, _), (It, oI)] hx pv I2 rx) (fun y s2 he => ?_) fun _ _ hF => hF.elim)))
    obtain ⟨y', H2, I3, ry, rfl, pv2⟩ := he
    obtain ⟨t2, rfl⟩ := ry
    obtain ⟨I4, ⟨gS2, nS2⟩, gI2, nI2⟩ := Inv.untwo I3
    have fS2 : FpOk X pins H2 S := FpOk.heap fS nS2
    have fI2 : FpOk X pins H2 It := FpOk.heap fI nI2
    have hit2 : s2.heap.IsListIter It l (j + 1 + 1) := ⟨oI, gI2, hoc, hod⟩
    show wpAny _ X.A.in1 (tryCatch (holding [u, .int (kf (j + 1)) t2] (richCompare .Lt (.int (kf (j + 1)) t2) (.int (kf i) tb) >>= _)) _ >>= _) _ _ _
    refine wpAny_bind (wpAny_tryCatch (wpAny_holding (wpAny_bind (CmpOf.ints_lt (prog := X.prog) (w := X.w) (A := X.A.in1) (P := fun i v => ∃ t, v = .int (kf i) t) kf (fun i v h => h) (j + 1) i _ _ _ _ _ ⟨t2, rfl⟩ ⟨tb, rfl⟩ ?_))))
    refine wpAny_bind (wpAny_holding (wpAny_truthy_bool ?_))
    refine wpAny_bind (wpAny_letGo (wpAny_pure ?_))
    by_cases less : kf (j + 1) < kf i
    · have ch := Heap.SameBut.update s2.heap S (Obj.mapSeq fun _ => #[u, .int (kf (j + 1)) t2])
      obtain ⟨c2, gS3⟩ : ∃ c2, (s2.heap.update S (Obj.mapSeq fun _ => #[u, .int (kf (j + 1)) t2])).get? S = some (seqObj "list" #[u, .int (kf (j + 1)) t2] c2) := ⟨_, get?_update_seq gS2 fun _ => #[u, .int (kf (j + 1)) t2]⟩
      simp only [less, decide_true, if_true]
      refine wpAny_bind (wpAny_updateSeq gS2 rfl (wpAny_bind (wpAny_letGo ?_)))
      rw [loopName]
      have I5 := Inv.turn (h' := s2.heap.update S (Obj.mapSeq fun _ => #[u, .int (kf (j + 1)) t2])) (t' := s2.toks) I4 fS2 fun b o hb e => (ch.2 b hb).trans e
      refine wpAny_pure ⟨plainId_quiet PySem.F.plain_min_loop _, ih (j + 1) (j + 1) _ H2 x u t2 c2 (by omega) more I5 pv2 fS2 fI2 gS3 ⟨oI, (ch.2 It hSI.symm).trans gI2, hoc, hod⟩ hx rx (Nat.le_refl _) fun j' hj' => ?_⟩
      by_cases e : j' = j + 1
      · subst e; exact ⟨by omega, fun _ => by omega⟩
      · have b1 := (best j' (by omega)).1
        exact ⟨by omega, fun _ => by omega⟩
    · simp only [less, decide_false, Bool.false_eq_true, if_false]
      refine wpAny_bind (wpAny_letGo ?_)
      rw [loopName]
      refine wpAny_pure ⟨plainId_quiet PySem.F.plain_min_loop _, ih (j + 1) i _ H2 xb vb tb c (by omega) more I4 pv2 fS2 fI2 gS2 hit2 hxb rb (by omega) fun j' hj' => ?_⟩
      by_cases e : j' = j + 1
      · subst e; exact ⟨by omega, fun _ => by omega⟩
      · exact best j' (by omega)
theorem min_key {l fq : Addr} {fo : Obj} {xs : List V} {H : Hp} {s : Shared} {Q : VK} (kf : Nat → Int) (Pv : Nat → Hp → Prop) (hh : X.A.handled = none) (I : Inv X pins σ H s) (pv : Pv 0 H) (hne : 0 < xs.length)
    (hl : ∀ j H, Pv j H → SqL X.K H l xs) (hpf : (fq, fo) ∈ pins)
    (turn : ∀ (j : Nat) (x : V) (u : Value) (H : Hp) (s : Shared) (more : List (Addr × Obj)), xs[j]? = some x → Pv j H → Inv X (more ++ pins) σ H s → RelV x u →
      wpAny (model X.prog X.w) X.A.in1 (call (.ref fq) [u]) (EP X (more ++ pins) σ fun y H' => y = .int (kf j) ∧ Pv (j + 1) H') (fun _ _ => False) s)
    (hQ : ∀ i x H', xs[i]? = some x → (∀ j, j < xs.length → kf i ≤ kf j ∧ (j < i → kf i < kf j)) → Pv xs.length H' → Q x H') :
    wpAny (model X.prog X.w) X.A (call (.builtin "min") [.ref l] [(Str.ofString "key", .ref fq)]) (EP X pins σ Q) X.xe s := by
  have loopName : (toString "min" ++ toString ".loop" : String) = "min.loop" := by decide
  obtain ⟨its, rvs, plain, hz⟩ := I.list (hl _ H pv)
  have ln : xs.length = its.length := rvs.length
  have hll : l < s.heap.objs.size := by
    obtain ⟨ol, hol, _⟩ := id plain.isList
    exact Heap.lt_size hol
  refine kmk_tree PySem.F.kind_min PySem.F.plain_min PySem.F.entry_min (kmk_min_key _ _) ?_
  show wpAny _ X.A.in1 (Builtin.Builtins.bindParams "min" ["key", "default"] 0 ⟨[], [(Str.ofString "key", .ref fq)]⟩ >>= _) _ _ s
  refine wpAny_bind (wpAny_of_eq (show Builtin.Builtins.bindParams "min" ["key", "default"] 0 ⟨[], [(Str.ofString "key", .ref fq)]⟩ = pure [some (.ref fq), none] from rfl) ?_)
  refine wpAny_bind (wpAny_pure ?_)
  refine wpAny_bind (wpAny_pyIter_list plain.isList ?_)
  refine wpAny_bind (wpAny_newList ?_ (Nat.zero_le _))
  rw [loopName]
  let it : Obj := { cls := .type "list_iterator", data := .fields #[.ref l, .int 0 0] }
  let h1 : Heap := s.heap.push it
  let h2 : Heap := h1.push (seqObj "list" #[] 0)
  have sz1 : h1.objs.size = s.heap.objs.size + 1 := size_push' ..
  have kp : ∀ b o, s.heap.get? b = some o → h2.get? b = some o := fun b o e => Heap.get?_push_of_some _ (Heap.get?_push_of_some _ e)
  have gI : h2.get? s.heap.objs.size = some it := Heap.get?_push_of_some _ (Heap.get?_push_size _ rfl)
  have gS : h2.get? h1.objs.size = some (seqObj "list" #[] 0) := Heap.get?_push_size _ rfl
  have I0 : Inv X pins σ H { s with heap := h2 } := I.kept (t' := s.toks) kp
  have fI : FpOk X pins H s.heap.objs.size := I.fpOk (Nat.le_refl _) (I.hok.fresh (Nat.le_refl _))
  have fS : FpOk X pins H h1.objs.size := I.fpOk (by omega) (I.hok.fresh (by omega))
  have hSI : h1.objs.size ≠ s.heap.objs.size := by omega
  have hlI : l ≠ s.heap.objs.size := Nat.ne_of_lt hll
  refine wpAny_pure ⟨plainId_quiet PySem.F.plain_min_loop _, ?_⟩
  have W := Walks.list (prog := X.prog) (w := X.w) (A := X.A.in1) hh s.heap.objs.size l hlI its.toArray
  obtain ⟨its0, rvs0, plain0, _⟩ := I0.list (hl _ H pv)
  have W := Walks.list (prog := X.prog) (w := X.w) (A := X.A.in1) hh s.heap.objs.size l hlI its0.toArray
  refine codeAny_builtin PySem.F.entry_min_loop ?_
  rw [Around.under_plainId PySem.F.plain_min_loop _]
  show wpAny _ X.A.in1 (seqItems? (.ref _) >>= _) _ _ _
  refine wpAny_bind (wpAny_seqItems gS rfl ?_)
  show wpAny _ X.A.in1 (tryCatch (pyNext (.ref s.heap.objs.size)) _ >>= _) _ _ _
  refine wpAny_bind (wpAny_tryCatch (W.item 0 _ _ _ (by rw [List.size_toArray, ← rvs0.length]; exact hne) ⟨⟨_, gI, rfl, rfl⟩, plain0.isList⟩ fun u h' tk' hu hst keep => ?_))
  have hu : its0[0]? = some u := by simpa using hu
  obtain ⟨x, hx, rx⟩ : ∃ x, xs[0]? = some x ∧ RelV x u := by
    have hx : xs[0]? = some xs[0] := List.getElem?_eq_getElem hne
    obtain ⟨u', hu', r'⟩ := rvs0.get hx
    rw [hu] at hu'; cases hu'
    exact ⟨_, hx, r'⟩
  obtain ⟨oI, gI1, hoc, hod⟩ := id hst.1
  have I1 : Inv X pins σ H { s with heap := h', toks := tk' } := Inv.turn (s := { s with heap := h2 }) (h' := h') (t' := tk') I0 fI fun b o hb e => keep b o (by simpa using hb) e
  have gS1 := keep h1.objs.size _ (by simpa using hSI) gS
  have I2 := Inv.two I1 fS fI gS1 gI1 (fun v z => by cases z) (fun v z => by rw [hod] at z; cases z)
  show wpAny _ X.A.in1 (tryCatch (holding [u] (call (.ref fq) [u])) _ >>= _) _ _ _
  refine wpAny_bind (wpAny_tryCatch (wpAny_holding (wpAny_mono (turn 0 x u H _ [(h1.objs.size, _), (s.heap.objs.size, oI)] hx pv I2 rx) (fun y s2 he => ?_) fun _ _ hF => hF.elim)))
  obtain ⟨y', H2, I3, ry, rfl, pv2⟩ := he
  obtain ⟨t2, rfl⟩ := ry
  obtain ⟨I4, ⟨gS2, nS2⟩, gI2, nI2⟩ := Inv.untwo I3
  have ch := Heap.SameBut.update s2.heap h1.objs.size (Obj.mapSeq fun _ => #[u, .int (kf 0) t2])
  obtain ⟨c2, gS3⟩ : ∃ c2, (s2.heap.update h1.objs.size (Obj.mapSeq fun _ => #[u, .int (kf 0) t2])).get? h1.objs.size = some (seqObj "list" #[u, .int (kf 0) t2] c2) := ⟨_, get?_update_seq gS2 fun _ => #[u, .int (kf 0) t2]⟩
  show wpAny _ X.A.in1 (updateSeq h1.objs.size (fun _ => #[u, .int (kf 0) t2]) >>= _) _ _ _
  refine wpAny_bind (wpAny_updateSeq gS2 rfl ?_)
  rw [loopName]
  have I5 := Inv.turn (h' := s2.heap.update h1.objs.size (Obj.mapSeq fun _ => #[u, .int (kf 0) t2])) (t' := s2.toks) I4 (FpOk.heap fS nS2) fun b o hb e => (ch.2 b hb).trans e
  refine wpAny_pure ⟨plainId_quiet PySem.F.plain_min_loop _, codeAny_mono (min_turns (E := X.xe) (Q := Q) kf Pv hh hl hSI hlI hpf turn hQ _ 0 0 _ H2 x u t2 c2 rfl hne I5 pv2 (FpOk.heap fS nS2) (FpOk.heap fI nI2) gS3 ⟨oI, (ch.2 _ hSI.symm).trans gI2, hoc, hod⟩ hx rx (Nat.le_refl _) fun j' hj' => ?_) fun r s' h => ?_⟩
  · have e : j' = 0 := by omega
    subst e
    exact ⟨Int.le_refl _, fun h => absurd h (Nat.lt_irrefl _)⟩
  · exact h
end
end G
end L2
end G31_
section G32_
set_option Elab.async false
set_option linter.all false
set_option maxRecDepth 100000
set_option maxHeartbeats 2000000
namespace L2
namespace G
open PySem PySem.Spec PyProof.Rows
/-! ### min(e, key=lambda a: b) -/
def keysL (ρ : Env) (i : Nat) (g : Env → M D) : List D → M (List Int)
  | [] => ret []
  | d :: ds => bnd (g (List.set ρ i (some d))) fun k => match k with
    | .int k => bnd (keysL ρ i g ds) fun ks => ret (k :: ks)
    | _ => bad
/-- the first item of the least key -/
def minK : List Int → List D → Option (Int × D)
  | k :: ks, d :: ds => (match minK ks ds with
    | none => some (k, d)
    | some p => if p.1 < k then some p else some (k, d))
  | _, _ => none
def isTab (x : Str) : Cell → Bool
  | .tbl y => decide (y = x)
  | _ => false
def hasTab (x : Str) (st : Store) : Bool := st.any (isTab x)
def E.minKey (x : Str) (i : Nat) (f g : Env → M D) : Env → M D := fun ρ => bnd (f ρ) fun d => match d with
  | .lst ds => fun st => if hasTab x st = true ∧ ds ≠ [] then bnd (noexc (keysL ρ i g ds)) (fun ks => lift ((minK ks ds).map (·.2))) st else .bad
  | _ => bad
theorem minK_spec : ∀ (ks : List Int) (ds : List D) (i : Nat) (k : Int) (d : D), ks.length = ds.length → ks[i]? = some k → ds[i]? = some d → (∀ j k', ks[j]? = some k' → k ≤ k' ∧ (j < i → k < k')) → minK ks ds = some (k, d) := by
  intro ks
  induction ks with
  | nil => intro ds i k d _ h; simp at h
  | cons a ks ih =>
    intro ds i k d hl hk hd hb
    cases ds with
    | nil => simp at hl
    | cons e ds =>
      have hl : ks.length = ds.length := by simpa using hl
      unfold minK
      cases i with
      | zero =>
        simp at hk hd
        subst hk; subst hd
        cases m : minK ks ds with
        | none => rfl
        | some p =>
          have key : ∀ (ks : List Int) (ds : List D) (p : Int × D), minK ks ds = some p → p.1 ∈ ks := by
            intro ks
            induction ks with
            | nil => intro ds p h; cases ds <;> cases h
            | cons b ks ih =>
              intro ds p h
              cases ds with
              | nil => cases h
              | cons f ds =>
                unfold minK at h
                cases q : minK ks ds with
                | none => rw [q] at h; cases h; exact .head _
                | some p' =>
                  rw [q] at h
                  dsimp only at h
                  split at h
                  · cases h; exact .tail _ (ih ds _ q)
                  · cases h; exact .head _
          obtain ⟨n, hn, en⟩ := List.getElem_of_mem (key ks ds p m)
          have := (hb (n + 1) p.1 (by simp [en, hn])).1
          dsimp only
          rw [if_neg (by omega)]
      | succ i =>
        have hk : ks[i]? = some k := by simpa using hk
        have hd : ds[i]? = some d := by simpa using hd
        have h0 := (hb 0 a (by simp)).2 (Nat.succ_pos _)
        rw [ih ds i k d hl hk hd fun j k' hj => ⟨(hb (j + 1) k' (by simpa using hj)).1, fun q => (hb (j + 1) k' (by simpa using hj)).2 (by omega)⟩]
        dsimp only
        rw [if_pos h0]
theorem keysL_len {ρ : Env} {i : Nat} {g : Env → M D} : ∀ (ds : List D) (st : Store) (ks : List Int) (st' : Store), keysL ρ i g ds st = .ok ks st' → ks.length = ds.length
  | [], st, ks, st', h => by cases h; rfl
  | d :: ds, st, ks, st', h => by
    unfold keysL bnd at h
    cases e : g (List.set ρ i (some d)) st with
    | ok k s1 =>
      rw [e] at h
      dsimp only at h
      cases k with
      | int k =>
        dsimp only at h
        cases e2 : keysL ρ i g ds s1 with
        | ok ks2 s2 => rw [e2] at h; cases h; rw [List.length_cons, List.length_cons, keysL_len ds s1 ks2 _ e2]
        | exc x s2 => rw [e2] at h; cases h
        | bad => rw [e2] at h; cases h
      | _ => cases h
    | exc x s1 => rw [e] at h; cases h
    | bad => rw [e] at h; cases h
/-- the table's cell -/
theorem SRep.tab {K : PySem.W.Frag} {as : List Addr} {st : Store} {H : Hp} (s : SRep K as st H) {x : Str} (h : hasTab x st = true) :
    ∃ n : Nat, as[n]? = some (He.cT K (x, none)).2 ∧ st[n]? = some (Cell.tbl x) ∧ LamX.TabS H (He.cT K (x, none)).2 (x ++ (".<locals>." : Str) ++ ("<lambda>" : Str)) := by
  unfold hasTab at h
  obtain ⟨c, hc, hx⟩ := List.any_eq_true.mp h
  obtain ⟨n, hn, e⟩ := List.getElem_of_mem hc
  cases c with
  | tbl y =>
    have ey : y = x := of_decide_eq_true hx
    subst ey
    have hn' : n < as.length := by rw [s.len]; exact hn
    have hst : st[n]? = some (.tbl y) := by rw [List.getElem?_eq_getElem hn, e]
    obtain ⟨h1, h2⟩ := s.at_ n as[n] _ (List.getElem?_eq_getElem hn') hst
    refine ⟨n, ?_, hst, ?_⟩
    · rw [List.getElem?_eq_getElem hn', h1]
    · rw [h1] at h2; exact h2
  | _ => cases hx
theorem set_self {α : Type} {l : List α} {n : Nat} {a : α} (h : l[n]? = some a) : l.set n a = l := by
  apply List.ext_getElem?
  intro m
  by_cases e : n = m
  · subst e; rw [List.getElem?_set_self (List.getElem?_eq_some_iff.mp h).1, h]
  · rw [List.getElem?_set_ne e]
theorem SRep.made {K : PySem.W.Frag} {as : List Addr} {st : Store} {H H1 : Hp} {n : Nat} {x : Str} {c : Addr} {q : Str} (s : SRep K as st H) (hn : as[n]? = some (He.cT K (x, none)).2) (hst : st[n]? = some (.tbl x))
    (m : Made H (He.cT K (x, none)).2 q H1 c) (hT : LamX.TabS H1 (He.cT K (x, none)).2 (x ++ (".<locals>." : Str) ++ ("<lambda>" : Str))) : SRep K as st H1 ∧ Grow as H as H1 := by
  have hm : (He.cT K (x, none)).2 ∈ as := List.mem_of_getElem? hn
  refine ⟨?_, ⟨fun _ _ h => h, fun b o e nb => m.keep b o e fun z => nb (by rw [z]; exact hm), fun _ h n => absurd h n⟩⟩
  cases m with
  | hit h => exact s
  | new hP hc =>
    rename_i ps more
    have ne : (He.cT K (x, none)).2 ≠ c := ne_of_none hP hc
    have comm : upd (upd H (He.cT K (x, none)).2 (.tbl (ps ++ more))) c (LamX.CodeO c q) = upd (upd H c (LamX.CodeO c q)) (He.cT K (x, none)).2 (.tbl (ps ++ more)) := by
      funext b
      by_cases e1 : b = c
      · rw [e1, upd_same, upd_ne (fun z => ne z.symm), upd_same]
      · by_cases e2 : b = (He.cT K (x, none)).2
        · rw [e2, upd_ne ne, upd_same, upd_same]
        · rw [upd_ne e1, upd_ne e2, upd_ne e2, upd_ne e1]
    rw [comm] at hT ⊢
    have s1 : SRep K as st (upd H c (LamX.CodeO c q)) := s.new hc
    have := s1.put (o := .tbl (ps ++ more)) (c := .tbl x) hn ⟨rfl, hT⟩
    rw [set_self hst] at this
    exact this
theorem RepT.lst_at {K : PySem.W.Frag} {O : List Nat} {B : Addr → Prop} {as : List Addr} {σ : L2.St} {H : Hp} {st : Store} {v : V} {ds : List D} (s : SRep K as st H) (r : RepT K (Ff B as O σ) as H v (.lst ds)) :
    ∃ a xs, v = .ref a ∧ Reps K (Ff B as O σ) as H xs ds ∧ ∀ as' H', Grow as H as' H' → SqL K H' a xs := by
  cases r with
  | rep r =>
    cases r with
    | lst h r => exact ⟨_, _, rfl, r, fun as' H' g => ((h.weak (ff_grow g)).frame (grow_k g)).sq⟩
  | own r n =>
    cases r with
    | lst h r => exact ⟨_, _, rfl, r, fun as' H' g => .inl (.inl (g.keep _ _ h (n _ rfl)))⟩
    | sca r z => cases r; exact absurd rfl (z _)
section
variable {X : Cx} {O : List Nat} {Z : ZT} {e : Expr} {f g : Env → M D} {p pos lpos kpos : Pos}
theorem de_minKey {x a : Str} (i : Nat) {k : Nat} {params : Arguments} {body : Expr} {scope : Scope} (hqual : X.env.qual = x ++ (".<locals>." : Str)) (hcode : X.env.code = .ref (He.cT X.K (x, none)).1)
    (TB : LamX.TabB X.base X.mg (He.cT X.K (x, none)).1 (He.cT X.K (x, none)).2) (hg : Gl X "min") (hm : X.mg "min" = none) (hO : i ∉ O) (hi : X.N[i]? = some a) (hN : X.N.Nodup) (hh : X.calm = true)
    (L : LamS1 X.env.scope scope a) (hdef : defaultsOf params X.env = ([], []))
    (hbind : ∀ (q : Str) (cl : List (Str × Addr)) (pm cv ctv : Value) (u : Value), bindArgs (PySem.W.kla_fn "<lambda>" q params body scope cl pm cv ctv) ⟨[u], []⟩ = pure [(a, u)])
    (hr : Rm (k + 2) X.A) (he : DU X O Z e f)
    (hbody : ∀ (A : Around) (outer : List PySem.Env) (s : Shared) (H : Hp) (fa c' : Addr), Rm k (A.deeper (LamX.lamEnv X scope s.heap.objs.size fa c')) → DE (LamX.lamCx X A outer s H C8.E0 scope fa c').nox O Z0 body g)
    (hs : starEach [e] X.env = (false, eval e X.env) :: starEach [] X.env := by rfl) :
    DE X O Z (.Call (.Name "min" p) [e] [⟨some "key", .Lambda params body scope lpos, kpos⟩] pos) (E.minKey x i f g) := by
  refine ⟨fun pins s σ H Q I ⟨gh, ok, q⟩ => ?_⟩
  refine wpAny_Call_Name_kw (ld_blt I hg hm (by rfl) ?_)
  refine PyProof.Rows.callWith_kw ?_ (by rw [hs]; rfl) (by rw [hs]; rfl) rfl rfl
  have hargs : PA X [e] (tCons (tU X.K O Z f) tNil) := pa_cons he pa_nil hs
  refine thn (hargs.run pos pins s σ H (fun vs H' => ∃ d st' as' v, vs = [v] ∧ Grow gh.as H as' H' ∧ SRep X.K as' st' H' ∧ RepT X.K (Ff gh.B as' O σ) as' H' v d ∧ Ev ((match d with
    | .lst ds => fun st => if hasTab x st = true ∧ ds ≠ [] then bnd (noexc (keysL gh.ρ i g ds)) (fun ks => lift ((minK ks ds).map (·.2))) st else .bad
    | _ => bad : M D) st') (fun d st' => ∀ as' v H', Grow gh.as H as' H' → SRep X.K as' st' H' → Rep X.K (Ff gh.B as' O σ) as' H' v d → Q v H') (Zc X.K O gh.B gh.H0 gh.as0 Z)) I
    ⟨gh, ok, (Ev.bnd q).mono (fun d st' q as' v H' gr s r => ⟨d, st', as', v, rfl, gr, s, r, q⟩) fun _ _ z => z⟩) fun us s1 ⟨vs, H1, I1, r1, q1⟩ => ?_
  obtain ⟨d, st1, as1, v, rfl, gr1, sr1, rv, q⟩ := q1
  cases d with
  | lst ds =>
    dsimp only at q
    by_cases hc : hasTab x st1 = true ∧ ds ≠ []
    · rw [if_pos hc] at q
      obtain ⟨n, hn, hst, hT⟩ := sr1.tab hc.1
      show wpAny _ _ (evalAll [do let v ← eval (.Lambda params body scope lpos) X.env; standAt pos; pure v]) _ _ s1
      have hq' : X.env.qual ++ ("<lambda>" : Str) = x ++ (".<locals>." : Str) ++ ("<lambda>" : Str) := by rw [hqual]
      refine wpAny_evalAll_cons (wpAny_bind (lam_make3 I1 TB hcode hq' hT hdef (L.has I1.ok) fun fq c' pm ctv H2 s2 I2 md hT2 hf hfn hfr hsz => wpAny_bind (wpAny_standAt (wpAny_pure (wpAny_evalAll_nil ?_)))))
      obtain ⟨sr2, gr2⟩ := sr1.made hn hst md hT2
      have rv2 := rv.grow sr1 gr2
      obtain ⟨l, xs, rfl, rxs, sq⟩ := rv2.lst_at sr2
      have eu : us = [.ref l] := by
        cases r1 with
        | cons r1 rest => cases rest; cases r1; rfl
      subst eu
      let fo : Obj := PySem.W.kla_obj "<lambda>" (x ++ (".<locals>." : Str) ++ ("<lambda>" : Str)) params body scope (cloFrom X.env.cells scope.names []) pm c' ctv
      have fp : FpOk X pins H2 fq := I1.fpOk hsz hfn
      have I3 : Inv X ((fq, fo) :: pins) σ H2 s2 := I2.pins_of fun p hp => by
        rcases List.mem_cons.mp hp with rfl | hp
        · exact ⟨hf, hfn, fp.2.1, fp.2.2.1, fun v z => by cases z⟩
        · exact I2.pin p (List.mem_append_right _ hp)
      show wpAny _ _ (call (.builtin "min") [.ref l] [(Str.ofString "key", .ref fq)]) _ _ s2
      -- the keys
      have q := Ev.bnd q
      unfold noexc at q
      cases ek : keysL gh.ρ i g ds st1 with
      | ok ks stF =>
        rw [ek] at q
        have q : Ev (lift ((minK ks ds).map (·.2)) stF) _ _ := q
        obtain ⟨dm, em, qm⟩ := q.lift
        have lk := keysL_len ds st1 ks stF ek
        let kf : Nat → Int := fun j => ks.getD j 0
        let Pv : Nat → Hp → Prop := fun j H => ∃ as' st', Grow as1 H2 as' H ∧ SRep X.K as' st' H ∧ keysL gh.ρ i g (ds.drop j) st' = .ok (ks.drop j) stF ∧ H c' = some (LamX.CodeO c' (x ++ (".<locals>." : Str) ++ ("<lambda>" : Str)))
        have lx : xs.length = ds.length := rxs.length
        have c'n : c' ∉ as1 := fun z => by
          obtain ⟨o, ho, nt⟩ := sr2.mem z
          rw [md.code] at ho; cases ho
          exact nt trivial
        refine wpAny_mono (min_key (fo := fo) (l := l) (fq := fq) (xs := xs) (Q := Q) kf Pv (I3.ok.hd hh) I3 ⟨as1, st1, Grow.refl _ _, sr2, ek, md.code⟩ ?_ (fun j H ⟨as', st', g', s', _, _⟩ => sq as' H g') (.head _) ?_ ?_) (fun v s' h => ?_) fun _ _ z => z
        · cases ds with
          | nil => exact absurd rfl hc.2
          | cons _ _ => rw [lx]; exact Nat.succ_pos _
        · intro j y u H s more hy ⟨as', st', g', s', ek', hcode'⟩ I ry
          have hj : j < ds.length := by rw [← lx]; exact (List.getElem?_eq_some_iff.mp hy).1
          have hfm : s.heap.get? fq = some fo := (I.pin (fq, fo) (List.mem_append_right _ (List.mem_append_right _ (.head _)))).1
          have ok2 := ((ok.step gr1 sr1).step gr2 sr2).step g' s'
          obtain ⟨d, hd, rd⟩ := (rxs.grow sr2 g').get hy
          refine lam_call1 (i := i) (v := y) (tb := tE X.K O Z0 g) I hq' L hfm hcode' (hbind _ _ _ _ _) hr hN hi ry (fun A outer s H hr' => hbody A outer s H fq c' hr') ?_
          refine ⟨⟨gh.B, gh.H0, gh.as0, as', List.set gh.ρ i (some d), st'⟩, ⟨ok2.wf.set hO rd, s'⟩, ?_⟩
          rw [List.drop_eq_getElem_cons hj] at ek'
          have ed : ds[j] = d := by rw [List.getElem?_eq_getElem hj] at hd; exact Option.some.inj hd
          rw [ed] at ek'
          have hjk : j < ks.length := by rw [lk]; exact hj
          rw [List.drop_eq_getElem_cons hjk] at ek'
          unfold keysL bnd at ek'
          cases e1 : g (List.set gh.ρ i (some d)) st' with
          | ok kk s1' =>
            rw [e1] at ek'
            dsimp only at ek'
            cases kk with
            | int kk =>
              dsimp only at ek'
              cases e2 : keysL gh.ρ i g (ds.drop (j + 1)) s1' with
              | ok ks2 s2' =>
                rw [e2] at ek'
                have ek' : Res.ok (kk :: ks2) s2' = Res.ok (ks[j] :: ks.drop (j + 1)) stF := ek'
                injection ek' with e3 e4
                injection e3 with e5 e6
                subst e4
                intro as2 w H' g2 s2 rw'
                cases rw'
                refine ⟨?_, as2, s1', g'.trans g2, s2, by rw [e2, e6], g2.keep _ _ hcode' fun z => ?_⟩
                · show V.int kk = V.int (ks.getD j 0)
                  rw [e5, List.getD_eq_getElem?_getD, List.getElem?_eq_getElem hjk]; rfl
                · obtain ⟨o, ho, nt⟩ := s'.mem z
                  rw [hcode'] at ho; cases ho
                  exact nt trivial
              | exc _ _ => rw [e2] at ek'; cases ek'
              | bad => rw [e2] at ek'; cases ek'
            | _ => cases ek'
          | exc _ _ => rw [e1] at ek'; cases ek'
          | bad => rw [e1] at ek'; cases ek'
        · intro j y H' hy best ⟨as', st', g', s', ek', _⟩
          have hj : j < ds.length := by rw [← lx]; exact (List.getElem?_eq_some_iff.mp hy).1
          have hjk : j < ks.length := by rw [lk]; exact hj
          have e1 : ds.drop xs.length = [] := List.drop_eq_nil_of_le (by omega)
          have e2 : ks.drop xs.length = [] := List.drop_eq_nil_of_le (by omega)
          rw [e1, e2] at ek'
          cases ek'
          obtain ⟨d, hd, rd⟩ := (rxs.grow sr2 g').get hy
          have gd : ∀ m (h : m < ks.length), ks.getD m 0 = ks[m] := fun m h => by rw [List.getD_eq_getElem?_getD, List.getElem?_eq_getElem h]; rfl
          have := minK_spec ks ds j ks[j] d lk (List.getElem?_eq_getElem hjk) hd fun m k' hm => by
            obtain ⟨hmk, em⟩ := List.getElem?_eq_some_iff.mp hm
            have b := best m (by omega)
            simp only [kf, gd j hjk, gd m hmk, em] at b
            exact b
          rw [this] at em
          cases em
          exact qm as' y H' ((gr1.trans gr2).trans g') s' rd
        · obtain ⟨w, H', I', rw', qw⟩ := h
          exact ⟨w, H', I'.pins_of fun p hp => I'.pin p (List.mem_append_right _ (.tail _ hp)), rw', qw⟩
      | exc _ _ => rw [ek] at q; exact q.elim
      | bad => rw [ek] at q; exact q.elim
    · rw [if_neg hc] at q; exact q.elim
  | _ => exact q.elim
end
end G
end L2
end G32_
section G33_
set_option Elab.async false
set_option linter.all false
set_option maxRecDepth 100000
set_option maxHeartbeats 1000000
namespace L2
namespace G
open PySem PySem.Spec PyProof.Rows
/-! ### the law is called -/
section
variable {P : Program} {w : World} {K : PySem.W.Frag} {mg mb : Str → Option Value} {k : Nat} {f a : Addr} {tabs : List (Addr × Addr)} {fd : FuncData} {x : Str} {sp : Sp} {s : Shared} {vs : List Value} {ns : List Int}
/-- what is tracked when the law begins: the script (if the written part does not have it), the tables -/
def H0of (K : PySem.W.Frag) (a : Addr) (scr : Obj) (ns : List Int) (T : List Addr) : Hp := fun b =>
  if b = a then (match K.lookup a with
    | none => some (.frz scr (.lst (ns.map V.int)))
    | some _ => none)
  else if b ∈ T then some (.tbl #[]) else none
theorem H0of_tab {scr : Obj} {T : List Addr} {b : Addr} (hb : b ∈ T) (na : b ≠ a) : H0of K a scr ns T b = some (.tbl #[]) := by
  unfold H0of; rw [if_neg na, if_pos hb]
theorem H0of_cases {scr : Obj} {T : List Addr} {b : Addr} {u : HO} (h : H0of K a scr ns T b = some u) : (b = a ∧ K.lookup a = none ∧ u = .frz scr (.lst (ns.map V.int))) ∨ (b ≠ a ∧ b ∈ T ∧ u = .tbl #[]) := by
  unfold H0of at h
  by_cases e : b = a
  · rw [if_pos e] at h
    cases q : K.lookup a with
    | none => rw [q] at h; exact .inl ⟨e, rfl, (Option.some.inj h).symm⟩
    | some o => rw [q] at h; cases h
  · rw [if_neg e] at h
    by_cases m : b ∈ T
    · rw [if_pos m] at h; exact .inr ⟨e, m, (Option.some.inj h).symm⟩
    · rw [if_neg m] at h; cases h
theorem law_callG (KX : K.In s.heap) (hns : s.heap.Ns mainGlobals mg) (hb : s.heap.Ns builtinsNs mb) (hbb : ∀ x : Str, x ≠ "__name__" → mb x = bootBuiltins x) (hlim : s.heap.NoLimit) (hg : s.gens = #[])
    (hT : ∀ p ∈ tabs, s.heap.get? p.2 = some { cls := .none, data := .fields #[] }) (nT : ∀ p ∈ tabs, K.lookup p.2 = none) (cH : ∀ p ∈ tabs, PySem.W.CodeHd s.heap p.1 p.2)
    (hbm : ∃ (bm : Addr) (ob : Obj), mg "__builtins__" = some (.ref bm) ∧ bm ≠ builtinsNs ∧ s.heap.get? bm = some ob ∧ ob.cls = .type "module" ∧ ob.dict = some builtinsNs ∧ ob.data = .plain)
    (ha : s.heap.get? a = some { cls := .type "list", data := .seq vs.toArray }) (hi : IntsAre vs ns) (hl : ns.length ≤ sizeLine) (hr : Rm k callerA)
    (F : ∀ base : Heap, K.In base → base.Ns mainGlobals mg → (∀ p ∈ tabs, LamX.TabB base mg p.1 p.2) → FnG P w K mg base k f fd [x] sp) (hbind : ∀ (s : Shared) (u : Value), BindsTo s fd ⟨[u], []⟩ [(x, u)])
    (hsp : ∀ H : Hp, (∀ p ∈ tabs, H p.2 = some (.tbl #[])) → SqL K H a (ns.map V.int) → sp [.ref a] H (fun v _ => v = .bl true) XE0) :
    codeAny (model P w) callerA (.call (.ref f) ⟨[.ref a], []⟩) (fun r s' => r = .ok (.ret (.bool true)) ∧ OldK s.heap s'.heap ∧ s'.os = s.os ∧ AllBare s'.gens) s := by
  let T : List Addr := tabs.map (·.2)
  let scr : Obj := { cls := .type "list", data := .seq vs.toArray }
  let H : Hp := H0of K a scr ns T
  have inT : ∀ {b : Addr}, b ∈ T → ∃ p ∈ tabs, p.2 = b := fun h => by
    obtain ⟨p, hp, e⟩ := List.mem_map.mp h; exact ⟨p, hp, e⟩
  have tabO : ∀ {b : Addr}, b ∈ T → s.heap.get? b = some { cls := .none, data := .fields #[] } := fun h => by
    obtain ⟨p, hp, rfl⟩ := inT h; exact hT p hp
  have apart : ∀ {b : Addr}, b ∈ T → b ≠ a := fun h e => by
    have q := tabO h
    rw [e, ha] at q
    have q := congrArg Obj.data (Option.some.inj q)
    cases q
  have atTab : ∀ p ∈ tabs, H p.2 = some (.tbl #[]) := fun p hp => H0of_tab (List.mem_map.mpr ⟨p, hp, rfl⟩) (apart (List.mem_map.mpr ⟨p, hp, rfl⟩))
  have rv : Vals (ns.map V.int) vs := vals_ints hi
  -- what is tracked is the script or a table
  have free : ∀ {b : Addr} {o : Obj}, s.heap.get? b = some o → (∀ its n, o.data ≠ .seq its n) → o.data ≠ .fields #[] → H b = none := fun {b o} e h1 h2 => by
    cases q : H b with
    | none => rfl
    | some u =>
      rcases H0of_cases q with ⟨rfl, _, _⟩ | ⟨_, m, _⟩
      · rw [ha] at e; cases e; exact (h1 _ _ rfl).elim
      · rw [tabO m] at e; cases e; exact (h2 rfl).elim
  have freeD : ∀ {b : Addr} {o : Obj} {es : Array DictEntry} {ep : Nat}, s.heap.get? b = some o → o.data = .dict es ep → H b = none := fun e d => free e (fun _ _ z => by rw [d] at z; cases z) fun z => by rw [d] at z; cases z
  let base : Heap := hidT s.heap H
  have nsIn : ∀ {b : Addr} {m : Str → Option Value}, s.heap.Ns b m → base.Ns b m := fun ⟨o, es, ep, e, d, r⟩ => ⟨o, es, ep, hidT_get e (freeD e d), d, r⟩
  have kIn : K.In base := fun b o e => hidT_get (KX b o e) (by
    cases q : H b with
    | none => rfl
    | some u =>
      rcases H0of_cases q with ⟨rfl, z, _⟩ | ⟨_, m, _⟩
      · rw [z] at e; cases e
      · obtain ⟨p, hp, rfl⟩ := inT m
        rw [nT p hp] at e; cases e)
  have md : L2.Mod K mg base := ⟨kIn, nsIn hns, ⟨mb, nsIn hb, hbb⟩, let ⟨mc, h1, h2⟩ := hlim; ⟨mc, nsIn h1, h2⟩⟩
  have tb : ∀ p ∈ tabs, LamX.TabB base mg p.1 p.2 := fun p hp => by
    refine ⟨?_, ?_, fun z => ?_⟩
    · obtain ⟨o, us, file, tf, flags, tg, inF, text, tt, e1, c1, c2, c3, c4, c5, c6, c7, c8, c9⟩ := cH p hp
      refine ⟨o, us, file, tf, flags, tg, inF, text, tt, hidT_get e1 (free e1 (fun _ _ z => by rw [c2] at z; cases z) fun z => ?_), c1, c2, c3, c4, c5, c6, c7, c8, c9⟩
      rw [c2] at z; cases z; simp at c3
    · obtain ⟨bm, ob, b1, b2, b3, b4, b5, b6⟩ := hbm
      have n1 : bm ≠ mainGlobals := fun q => by
        obtain ⟨o, es, ep, e, d, _⟩ := hns
        rw [q, e] at b3; cases b3; rw [d] at b6; cases b6
      have n2 : bm ≠ p.2 := fun q => by
        rw [q, hT p hp] at b3; cases b3; cases b6
      exact ⟨bm, ob, b1, b2, n1, n2, hidT_get b3 (free b3 (fun _ _ z => by rw [b6] at z; cases z) fun z => by rw [b6] at z; cases z), b4, b5, b6⟩
    · obtain ⟨o, es, ep, e, d, _⟩ := hns
      rw [z, hT p hp] at e; cases e; cases d
  have hok : HOk P w H s.heap := fun b u q => by
    rcases H0of_cases q with ⟨rfl, _, rfl⟩ | ⟨_, m, rfl⟩
    · exact ⟨ha, by rw [List.length_map]; exact hl, vs, _, rv, ha⟩
    · exact tabO m
  have sq : SqL K H a (ns.map V.int) := by
    cases q : K.lookup a with
    | none =>
      refine .inl (.inr ⟨scr, ?_⟩)
      show H0of K a scr ns T a = _
      unfold H0of; rw [if_pos rfl, q]
    | some o =>
      have e := KX a o q
      rw [ha] at e; cases e
      exact .inr ⟨_, vs.toArray, _, q, rfl, rfl, rfl, by rw [List.size_toArray, hi.length]; exact hl, by simpa using rv⟩
  have e0 : Env0 P w K mg base callerA [] s H := ⟨rfl, md, fun b o e => of_hidT e, Nat.le_of_eq (hidT_size _ _), trivial, fun b hb => absurd (show b ∈ ([] : List Addr) from hb) (by simp), hok, .of_eq hg⟩
  refine codeAny_mono ((F base kIn (nsIn hns) tb).run callerA [] s H ⟨[.ref a], []⟩ [.ref a] [.ref a] _ _ hr e0 (hbind s (.ref a)) (.cons rfl .nil) (hsp H atTab sq)) fun r s' h => ?_
  match r, h with
  | .error e, h =>
    obtain ⟨_, _, _, _, _, _, _, _, _, _, _, _, z⟩ := h
    exact z.elim
  | .ok (.ret u), h =>
    obtain ⟨v, H', os, bare, un, hok', rr, q⟩ := h
    have q : v = .bl true := q
    subst q
    obtain rfl : u = Value.bool true := rr
    have stay : ∀ b o, b ∉ T → s.heap.get? b = some o → s'.heap.get? b = some o := fun b o nb e => by
      cases q : H b with
      | none => exact un.keep b o e q (fun z => absurd (show b ∈ ([] : List Addr) from z) (by simp)) (by simp)
      | some u =>
        rcases H0of_cases q with ⟨rfl, _, rfl⟩ | ⟨_, m, _⟩
        · rw [ha] at e; cases e
          exact (hok' _ _ (un.frzs _ _ _ q)).1
        · exact absurd m nb
    have grown : ∀ {b : Addr}, b ∈ T → ∃ more : Array Value, s'.heap.get? b = some { cls := .none, data := .fields more } := fun m => by
      obtain ⟨p, hp, rfl⟩ := inT m
      obtain ⟨more, z⟩ := un.tbls p.2 #[] (atTab p hp)
      exact ⟨_, hok' p.2 _ z⟩
    refine ⟨rfl, ⟨fun b o e => ?_, fun b o e => ?_⟩, os, bare⟩
    · by_cases m : b ∈ T
      · obtain ⟨p, hp, rfl⟩ := inT m
        obtain ⟨more, z⟩ := grown m
        rw [hT p hp] at e; cases e
        exact .inr (.inl ⟨((cH p hp).tab (hT p hp)).isCodeTable, rfl, #[], more, rfl, by rw [Array.empty_append]; exact z⟩)
      · exact .inl (stay b o m e)
    · by_cases m : b ∈ T
      · obtain ⟨more, z⟩ := grown m; exact ⟨_, z⟩
      · exact ⟨o, stay b o m e⟩
end
/-- what is to be known of the law at the head's heap -/
def LawG (l : PySem.W.OpenLaw) (w : World) (K : PySem.W.Frag) (k n : Nat) (x : Str) (mg : Str → Option Value) (f : Addr) (h : Heap) : Prop :=
  ∃ (fd : FuncData) (tabs : List (Addr × Addr)) (sp : Sp), (∀ p ∈ tabs, h.get? p.2 = some { cls := .none, data := .fields #[] }) ∧ (∀ p ∈ tabs, K.lookup p.2 = none) ∧ (∀ p ∈ tabs, PySem.W.CodeHd h p.1 p.2) ∧ (∀ (s : Shared) (u : Value), BindsTo s fd ⟨[u], []⟩ [(x, u)]) ∧
    (∀ (H : Hp) (a : Addr) (ns : List Int), ns.length ≤ n → (∀ z ∈ ns, Builtin.Int.intBits z ≤ 1048576) → (∀ p ∈ tabs, H p.2 = some (.tbl #[])) → SqL K H a (ns.map V.int) → sp [.ref a] H (fun v _ => v = .bl true) XE0) ∧
    ∀ base : Heap, K.In base → base.Ns mainGlobals mg → (∀ p ∈ tabs, LamX.TabB base mg p.1 p.2) → FnG l.prog w K mg base k f fd [x] sp
theorem walk_G {l : PySem.W.OpenLaw} {n k : Nat} {q : Program} {loose : List Str} {XP : (Str → Option Value) → Heap → Prop} {YP : World → Heap → Prop} {d : DefRec} {x : Str} (hn : l.most = some n) (hn2 : n ≤ sizeLine) (hdf : d.params.defaults = []) (hr : Rm k callerA)
    (F : ∀ (w : World) (mg : Str → Option Value) (f : Addr) (h : Heap), YP w h → h.Ns mainGlobals mg → mg d.name = some (.ref f) → ∃ K : PySem.W.Frag, K.In h ∧ LawG l w K k n x mg f h) : PySem.W.WalkO q loose XP YP l.row.toRowW d [] (fun f vs => PySem.call f vs) :=
  Att.attach_callB hn hdf fun w s₀ s₁ mg mb f o pm cd doc a vs ns G Y ho hd hcd hmg hobj hints hlen hbits hg => by
    obtain ⟨K, KX, fd, tabs, sp, hT, nT, C, hb, hsp, hF⟩ := F w mg f _ Y G.T.g hmg
    exact law_callG KX G.T.g G.T.b G.T.builtins G.T.nolimit hg hT nT C G.T.bmain hobj hints (Nat.le_trans hlen hn2) hr hF hb (fun H hH hS => hsp H a ns hlen hbits hH hS)
end G
end L2
end G33_
section G34_
set_option Elab.async false
set_option linter.all false
set_option maxRecDepth 100000
set_option maxHeartbeats 1000000
namespace L2
namespace G
open PySem PySem.Spec PyProof.Rows
/-! ### the law's promise -/
theorem law_at {l : PySem.W.OpenLaw} {w : World} {K : PySem.W.Frag} {k : Nat} {mg : Str → Option Value} {f : Addr} {h : Heap} {fd : FuncData} {fa : List He.Fa} {fn : List He.DefD} {tf : List He.Defn} {ex : PySem.W.Frag → Bool} {φ : List D → M D}
    (X : K.In h) (c : He.SaysX fa fn [] tf ex w h K) (hnd : (tf.map fun p => (He.cT K p).2).Nodup) (htf : ∀ p ∈ tf, p.2 = none) (hb : ∀ (s : Shared) (u : Value), BindsTo s fd ⟨[u], []⟩ [("script", u)])
    (hl : ∀ ns : List Int, ns.length ≤ 63 → (∀ z ∈ ns, Builtin.Int.intBits z ≤ 1048576) → ∃ st', φ [.lst (ns.map .int)] (tf.map fun p => .tbl p.1) = .ok (.bl true) st')
    (hF : ∀ base : Heap, K.In base → base.Ns mainGlobals mg → (∀ p ∈ tf.map (He.cT K), LamX.TabB base mg p.1 p.2) → FnG l.prog w K mg base k f fd ["script"] (spD K 1 φ)) :
    LawG l w K k 63 "script" mg f h := by
  have inT : ∀ p ∈ tf.map (He.cT K), ∃ d ∈ tf, He.cT K d = p := fun p hp => List.mem_map.mp hp
  refine ⟨fd, tf.map (He.cT K), spD K 1 φ, fun p hp => ?_, fun p hp => ?_, fun p hp => ?_, hb, fun H a ns hn hbits hT hS => ?_, hF⟩
  · obtain ⟨d, hd, rfl⟩ := inT p hp; exact c.empty d hd
  · obtain ⟨d, hd, rfl⟩ := inT p hp; exact c.out d hd
  · obtain ⟨d, hd, rfl⟩ := inT p hp; exact PySem.W.codeHd_of_K X (c.hd d hd)
  · have hT' : ∀ d ∈ tf, H (He.cT K d).2 = some (.tbl #[]) := fun d hd => hT _ (List.mem_map.mpr ⟨d, hd, rfl⟩)
    have notTab : ∀ xs, Rd H a (.lst xs) → a ∉ tf.map fun p => (He.cT K p).2 := fun xs r z => by
      obtain ⟨d, hd, e⟩ := List.mem_map.mp z
      have e : (He.cT K d).2 = a := e
      have q := hT' d hd
      rw [e] at q
      rcases r with r | ⟨o, r⟩
      · rw [r] at q; cases q
      · rw [r] at q; cases q
    refine ⟨fun _ => False, tf.map fun p => (He.cT K p).2, tf.map fun p => .tbl p.1, [.lst (ns.map .int)], rfl, fun _ z => z.elim, ⟨hnd, by simp, fun i b cl hb hc => ?_⟩, .cons (.lst (xs := ns.map V.int) ?_ ?_) .nil, ?_⟩
    · rw [List.getElem?_map] at hb hc
      cases q : tf[i]? with
      | none => rw [q] at hb; cases hb
      | some d =>
        rw [q] at hb hc
        cases hb; cases hc
        have hd : d ∈ tf := List.mem_of_getElem? q
        have e : d = (d.1, none) := by rw [← htf d hd]
        refine ⟨by show (He.cT K d).2 = (He.cT K (d.1, none)).2; rw [← e], LamX.TabS.nil (hT' d hd)⟩
    · rcases hS with r | r
      · exact .inl ⟨fun z => z.elim id fun z => notTab _ r z, r⟩
      · exact .inr r
    · clear hS hn hbits
      induction ns with
      | nil => exact .nil
      | cons n ns ih => exact .cons (.int n) ih
    · obtain ⟨st', e⟩ := hl ns hn hbits
      rw [e]
      intro as' v H' _ _ r
      cases r
      rfl
end G
end L2
end G34_
section G35_
set_option Elab.async false
set_option linter.all false
set_option maxRecDepth 100000
set_option maxHeartbeats 1000000
namespace L2
namespace G
open PySem PySem.Spec PyProof.Rows
/-! ### own errors are made and raised -/
section
variable {X : Cx} {e : Expr} {es : List Expr} {ta : TA} {p1 p2 pos : Pos}
/-- C.__init__(self, ..), C an own class under ValueError without an own __init__ -/
theorem pe_ceinit {x0 : Str} {C0 : Addr} {mc : Value} {pl : Sem Bool} (hg : Gl X x0) (hm : X.mg x0 = some (.ref C0)) (r : ClX.CRead X.K C0 mc) (vV : PySem.W.findCls X.K (.ref C0) mc "__init__" = some (.val (.builtin "ValueError.__init__"))) (ha : PA X (e :: es) ta)
    (hdb : (x0 == ("__debug__" : Str)) = false := by decide)
    (hc : eval (.Call (.Attribute (.Name x0 p1) "__init__" p2) (e :: es) [] pos) X.env = (do
      let ov ← eval (.Name x0 p1) X.env
      standAt p2.atName
      let (f, first) ← holding [ov] (getMethod ov "__init__" pl)
      callWith pos f first (backTo pos (starEach (e :: es) X.env)) (backToKw pos (keywordEach [] X.env))) := by rfl)
    (he : starEach (e :: es) X.env = (false, eval e X.env) :: starEach es X.env := by rfl) (hpl : (backTo pos (starEach es X.env)).any (·.1) = false := by rfl) :
    PE X (.Call (.Attribute (.Name x0 p1) "__init__" p2) (e :: es) [] pos) (tVeI X.K ta) := by
  refine ⟨fun pins s σ H Q I h => ?_⟩
  refine PySem.W.methodCall_KW (ld_glob I hg hm ?_ hdb) hc
  refine PySem.W.method_cls I.kIn r.ga (PySem.W.cls_value I.kIn r.rd vV (by decide +kernel) ?_)
  show wpAny _ _ (callWith pos (Value.builtin "ValueError.__init__") [] (backTo pos (starEach (e :: es) X.env)) []) _ _ _
  refine PyProof.Rows.callWith_method1 (thn (ha.run pos pins _ σ H _ (I.tok _) h) fun us s1 ⟨vs, H1, I1, r1, a, C, ws, ev, hl, T, ea, q⟩ => ?_) he hpl
  subst ev
  cases r1 with
  | @cons _ u0 _ ur ra rw' =>
    obtain rfl : u0 = Value.ref a := ra
    have hlen : ur.length ≤ sizeLine := by
      rw [← Paired.length rw', sizeLine_eq]
      omega
    exact oinit_ok T I1 ea hlen fun s' J => ⟨.non, H1, J, rfl, q⟩
end
/-- what __init__(self, f) of the class at C does -/
def spI1 (C : Addr) (f : Str) : Sp := fun vs H Q _ => ∃ a v, vs = [.ref a, v] ∧ H a = some (exo a C none) ∧ ∀ dx, H dx = none → dx ≠ a → Q .non (upd (upd H dx (exd dx [(f, v)])) a (exo a C (some dx)))
/-- .. __init__(self, f, g) -/
def spI2 (C : Addr) (f g : Str) : Sp := fun vs H Q _ => ∃ a v u, vs = [.ref a, v, u] ∧ H a = some (exo a C none) ∧ ∀ dx, H dx = none → dx ≠ a → Q .non (upd (upd H dx (exd dx [(g, u), (f, v)])) a (exo a C (some dx)))
/-- what the text says of an error's class -/
structure ErC (K : PySem.W.Frag) (x : Str) (fs : List Str) : Prop where
  o : OexC K (He.ga K x)
  i : PySem.W.findIn K (.ref (He.ga K x)) "__init__" = some (some (.ref (He.ma K (He.ga K x) "__init__")))
  t : PySem.W.typeIn K (.ref (He.ma K (He.ga K x) "__init__")) = some (.type "function")
  no : ∀ f ∈ fs, PySem.W.findIn K (.ref (He.ga K x)) f = some none
  x : XfC K (He.ga K x)
/-- .. of the class above -/
structure ErB (K : PySem.W.Frag) (x : Str) : Prop where
  r : ClX.CRead K (He.ga K x) (.type "type")
  v : PySem.W.findCls K (.ref (He.ga K x)) (.type "type") "__init__" = some (.val (.builtin "ValueError.__init__"))
section
variable {K : PySem.W.Frag} {C : Addr} {f g z : Str} {H : Hp} {vs : List V} {Q : VK} {E : XK} {N : List Str}
theorem init_fin1 (T : OexC K C) (no : PySem.W.findIn K (.ref C) f = some none) (h : spI1 C f vs H Q E) :
    tSeq (tDrop (tVeI K (tCons (tVar 0) (tCons (tC (.str z)) tNil)))) (tSeq (tOst K f (tVar 0) (tVar 1)) tNext) { nx := fun _ H' => Q .non H', rt := Q } (start N vs) H := by
  obtain ⟨a, v, rfl, ha, q⟩ := h
  refine ⟨.ref a, rfl, a, C, [.str z], rfl, by simp, T, ha, ?_⟩
  exact ⟨v, rfl, .ref a, rfl, a, C, rfl, T, no, .inl ⟨ha, q⟩⟩
end
/-- an error class with one field -/
structure Er1 (P : Program) (w : World) (K : PySem.W.Frag) (mg : Str → Option Value) (base : Heap) (x f : Str) : Prop where
  c : ErC K x [f]
  m : mg x = some (.ref (He.ga K x))
  ex : ∃ fd, FnOk P w K mg base (L2.CX P w) 1 (He.ma K (He.ga K x) "__init__") fd ["self", f] (spI1 (He.ga K x) f) ∧ Binds K fd ["self", f] []
def S.raise (x : Str) (fs : List Str) (r : Env → M (List D)) : SD := fun ρ => bnd (r ρ) fun ds st => .exc ⟨x, fs.zip ds⟩ st
section
variable {X : Cx} {O : List Nat} {Z : ZT} {e : Expr} {fe : Env → M D} {pos p pos' : Pos} {x f : Str}
theorem passes_none : Passes (L2.CX X.prog X.w) X (fun _ _ _ => False) := fun _ _ _ _ _ _ _ c => by
  obtain ⟨_, _, _, _, _, _, _, _, _, _, _, _, z⟩ := c
  exact z.elim
theorem ds_raise1 (F : Er1 X.prog X.w X.K X.mg X.base x f) (hc : X.calm = true) (tk : Takes X (WZ X.K Z)) (hr : Rm 2 X.A) (hg : Gl X x) (ha : DA X O Z [e] (A.cons fe A.nil)) (hdb : (x == ("__debug__" : Str)) = false := by decide)
    (he : starEach [e] X.env = (false, eval e X.env) :: starEach [] X.env := by rfl) (hpl : (backTo pos (starEach [] X.env)).any (·.1) = false := by rfl) :
    DS X O Z (.Raise (some (.Call (.Name x p) [e] [] pos)) none pos') (S.raise x [f] (A.cons fe A.nil)) := by
  obtain ⟨fd, F1, hb⟩ := F.ex
  refine PS.imp (ps_raise hc tk (pmk_oex (dvs := []) F.c.o F.c.i F.c.t F1 hr.rm hb .nil passes_none hg F.m ha hdb he hpl)) fun D σ H ⟨g, ok, q⟩ => ?_
  refine ⟨g, ok, ?_⟩
  have q := Ev.bnd q
  cases er : A.cons fe A.nil g.ρ g.st with
  | exc x st' => rw [er] at q; exact q
  | bad => rw [er] at q; exact q
  | ok ds st' =>
    rw [er] at q
    intro as' vs H' gr s rs
    have hl : ds.length = 1 := alen_cons alen_nil _ _ _ _ er
    have hv : vs.length = 1 := by rw [rs.length, hl]
    obtain ⟨d, rfl⟩ := List.length_eq_one_iff.mp hl
    obtain ⟨v, rfl⟩ := List.length_eq_one_iff.mp hv
    refine ⟨by simp, fun a na => ⟨a, v, rfl, upd_same, fun dx nd ne => ⟨rfl, dx, [(f, v)], upd_same, ?_, ?_, ?_⟩⟩⟩
    · rw [upd_ne ne, upd_same]
    · rw [upd_ne ne] at nd; exact nd
    · have nd' : H' dx = none := by rw [upd_ne ne] at nd; exact nd
      have eH : upd (del (upd (upd (upd H' a (exo a (He.ga X.K x) none)) dx (exd dx [(f, v)])) a (exo a (He.ga X.K x) (some dx))) a) dx (.xd [(f, v)]) = upd H' dx (.xd [(f, v)]) := by
        funext b
        by_cases hb : b = dx
        · subst hb; rw [upd_same, upd_same]
        · rw [upd_ne hb, upd_ne hb]
          by_cases ha : b = a
          · subst ha; rw [del_same, na]
          · rw [del_ne ha, upd_ne ha, upd_ne hb, upd_ne ha]
      rw [eH]
      have sm : Same H' (upd H' dx (.xd [(f, v)])) := fun b o h => by rw [upd_ne (ne_of_none h nd')]; exact h
      have g2 := gr.trans (grow_same (as := as') sm)
      have s2 := s.same sm
      have w2 := ok.wf.grow ok.sr g2 s2
      refine ⟨Ff g.B [] O σ, ⟨x, [(f, d)]⟩, st', as', ⟨rfl, dx, [(f, v)], rfl, upd_same, rfl, ?_⟩, ?_⟩
      · have rs2 := rs.grow s (grow_same (as := as') sm)
        exact rs2.weak fun a o _ z => by
          rcases z with (z | z | z) | z
          · exact .inl z
          · cases z
          · exact .inr (.inr z)
          · exact .inr (.inl z)
      · exact q as' g.ρ σ _ _ (fun _ h => .inl h) w2 s2
end
end G
end L2
end G35_
section G36_
set_option Elab.async false
set_option linter.all false
set_option maxRecDepth 100000
set_option maxHeartbeats 1000000
namespace L2
namespace G
open PySem PySem.Spec PyProof.Rows
/-! ### what may raise, the slots being what they were -/
theorem ExR.grow {K : PySem.W.Frag} {O : List Nat} {B : Addr → Prop} {σ : L2.St} {as as' : List Addr} {H H' : Hp} {st : Store} {cls : Value} {d : Option Addr} {x : Ex} (s : SRep K as st H) (g : Grow as H as' H') (h : ExR K (Ff B as O σ) as H cls d x) : ExR K (Ff B as' O σ) as' H' cls d x := by
  obtain ⟨a, dd, fs, b, c, e, r⟩ := h
  refine ⟨a, dd, fs, b, g.keep dd _ c fun q => ?_, e, r.grow s g⟩
  obtain ⟨i, hi, eq⟩ := List.getElem_of_mem q
  have hi' : i < st.length := by rw [← s.len]; exact hi
  have q := s.at_ i dd st[i] (by rw [List.getElem?_eq_getElem hi, eq]) (List.getElem?_eq_getElem hi')
  cases hc : st[i] with
  | lst xs => rw [hc] at q; obtain ⟨vs, q, _⟩ := q; rw [c] at q; cases q
  | dct t ks xs => rw [hc] at q; obtain ⟨o, vs, q, r, _⟩ := q; rw [c] at q; cases q; rcases r with ⟨_, _, z, _⟩ | ⟨_, _, z, _⟩ <;> cases z
  | tbl y => rw [hc] at q; obtain ⟨_, ps, q, _⟩ := q; rw [c] at q; cases q
def zW (K : PySem.W.Frag) (O : List Nat) (W : WX) (g : Gh) (σ : L2.St) (H : Hp) : Ex → Store → Prop := fun x st' => ∀ as' H' cls d, Grow g.as H as' H' → SRep K as' st' H' → ExR K (Ff g.B as' O σ) as' H' cls d x → W cls d σ H'
def tEx (K : PySem.W.Frag) (O : List Nat) (W : WX) (f : Env → M D) : TE := fun σ H Q => ∃ g : Gh, g.ok K O σ H ∧ Ev (f g.ρ g.st) (fun d st' => ∀ as' v H', Grow g.as H as' H' → SRep K as' st' H' → Rep K (Ff g.B as' O σ) as' H' v d → Q v H') (zW K O W g σ H)
def tSx (K : PySem.W.Frag) (O : List Nat) (W : WX) (f : SD) : TS := fun E σ H => ∃ g : Gh, g.ok K O σ H ∧ Ev (f g.ρ g.st) (fun r st' => ∀ as' σ' H', Step O g.as σ H as' σ' H' → Wf K O g.B g.H0 g.as0 as' r.2 σ' H' → SRep K as' st' H' → match r.1 with
  | .next => E.nx σ' H'
  | .brk => E.bk σ' H'
  | .cont => E.ct σ' H'
  | .ret d => ∀ v, Rep K (fun a => g.B a ∨ a ∈ as') as' H' v d → E.rt v H') (zW K O W g σ H)
def E.appN (φ : List D → M D) (r : Env → M (List D)) : Env → M D := fun ρ => bnd (noexc (r ρ)) fun xs => φ xs
def E.one (f : Env → M D) : Env → M D := fun ρ => bnd (f ρ) fun d => ret (.lst [d])
section
variable {X : Cx} {O : List Nat} {W : WX} {e : Expr} {es : List Expr} {f : Env → M D} {r : Env → M (List D)} {pos p : Pos} {x : Str}
theorem dex_app {n k : Nat} {φ : List D → M D} (F : Dn X x n k φ) (tk : Takes X W) (hr : Rm k X.A) (hg : Gl X x) (ha : DA X O Z0 (e :: es) r) (hl : ∀ ρ s ds s', r ρ s = .ok ds s' → ds.length = n) (hdb : (x == ("__debug__" : Str)) = false := by decide)
    (he : starEach (e :: es) X.env = (false, eval e X.env) :: starEach es X.env := by rfl) (hpl : (backTo pos (starEach es X.env)).any (·.1) = false := by rfl) : PE X (.Call (.Name x p) (e :: es) [] pos) (tEx X.K O W (E.appN φ r)) := by
  obtain ⟨fa, fd, ps, F, hm, hk, hb⟩ := F.ex
  refine PE.imp (pe_callG (E := WE W) F hr hg hm hk hb (fun σ => passAt tk σ) ha hdb he hpl) fun σ H Q ⟨g, ok, q⟩ => ?_
  refine ⟨g, ok, ?_⟩
  have q := Ev.bnd q
  unfold noexc at q
  cases er : r g.ρ g.st with
  | exc x st' => rw [er] at q; exact q.elim
  | bad => rw [er] at q; exact q
  | ok ds st' =>
    rw [er] at q
    intro as' vs H' gr s rs
    have ok' := ok.step gr s
    refine ⟨fun a => g.B a ∨ ownA O σ a, as', st', ds, by rw [rs.length]; exact hl _ _ _ _ er, fun a z => ?_, s, rs.weak fun a o _ z => ?_, ?_⟩
    · rcases z with z | z
      · exact ok'.wf.tr s a (.inl z)
      · exact ok'.wf.tr s a (.inr (.inr z))
    · rcases z with (z | z) | z
      · exact .inl z
      · exact .inr (.inr z)
      · exact .inr (.inl z)
    · refine Ev.mono q (fun d st2 q as2 v H2 g2 s2 rv => q as2 v H2 (gr.trans g2) s2 (rv.weak fun a o _ z => ?_)) fun x st2 z as2 H2 cls d g2 s2 ex => z as2 H2 cls d (gr.trans g2) s2 (ex.weak fun a o _ z => ?_)
      · rcases z with z | z | z
        · exact .inl (.inl z)
        · exact .inr z
        · exact .inl (.inr z)
      · rcases z with z | z | z
        · exact .inl (.inl z)
        · exact .inr z
        · exact .inl (.inr z)
theorem dex_one (h : PE X e (tEx X.K O W f)) (hs : starEach [e] X.env = (false, eval e X.env) :: starEach [] X.env := by rfl) : PE X (.List [e] pos) (tEx X.K O W (E.one f)) := PE.imp (pe_lst (pa_cons h pa_nil hs)) fun σ H Q ⟨g, ok, q⟩ => by
  refine ⟨g, ok, (Ev.bnd q).mono (fun d st' q as' v H' gr s rv => ⟨by rw [sizeLine_eq]; simp, fun p np => ?_⟩) fun _ _ z => z⟩
  have ok' := ok.step gr s
  have nF : ¬ Ff g.B as' O σ p := fun z => by
    obtain ⟨o, z⟩ := ok'.wf.tr s p z
    rw [np] at z; cases z
  exact q as' _ _ (gr.trans (Grow.new np)) (s.new np) (.lst (.inl ⟨nF, .inl upd_same⟩) (.cons (rv.grow s (Grow.new np)) .nil))
theorem dsx_ret (h : PE X e (tEx X.K O W f)) : PSs X [.Return (some e) pos] (tSx X.K O W (S.ret f)) := PSs.imp (pss_one (ps_ret h)) fun D σ H ⟨g, ok, q⟩ =>
  ⟨g, ok, (Ev.bnd q).mono (fun d st' q as' v H' gr s r => q as' σ H' (gr.step s) (ok.wf.grow ok.sr gr s) s v (r.weak fun a o _ z => by
    rcases z with z | z
    · exact .inl z
    · exact .inr (.inl z))) fun _ _ z => z⟩
theorem dsx_expr (h : PE X e (tEx X.K O W f)) (hs : swapsWith e none pos.line X.env = pure false := by rfl) : PSs X [.Expr e pos] (tSx X.K O W (S.expr f)) := PSs.imp (pss_one (ps_expr h hs)) fun D σ H ⟨g, ok, q⟩ =>
  ⟨g, ok, (Ev.bnd q).mono (fun d st' q as' v H' gr s _ => q as' σ H' (gr.step s) (ok.wf.grow ok.sr gr s) s) fun _ _ z => z⟩
theorem dsx_set (i : Nat) {x : Str} {pos' : Pos} (hO : i ∉ O) (hN : X.N.Nodup) (hi : X.N[i]? = some x) (hx : Loc X.env.scope x) (he : PE X e (tEx X.K O W f)) (hs : swapsWith e (some (.Name x pos')) pos.line X.env = pure false := by rfl)
    (hf : X.fn x = true ∨ X.env.scope.names.lookup x = some .local := by first | exact .inl rfl | exact .inr rfl | assumption) : PSs X [.Assign [.Name x pos'] e pos] (tSx X.K O W (S.set i f)) := PSs.imp (pss_one (ps_set hN hi hx he hs hf)) fun D σ H ⟨g, ok, q⟩ =>
  ⟨g, ok, (Ev.bnd q).mono (fun d st' q as' v H' gr s r => q as' _ H' ((gr.step s).trans (Step.set hO _)) ((ok.wf.grow ok.sr gr s).set hO r) s) fun _ _ z => z⟩
end
/-! ### a clause's suite -/
structure HG (K : PySem.W.Frag) (O : List Nat) (i : Nat) (a : Addr) (cls : Value) (d : Option Addr) (g : Gh) (x : Ex) (σ : L2.St) (H : Hp) : Prop where
  ok : g.ok K O σ H
  at_ : σ[i]? = some (some (.ref a))
  ex : ExR K (Ff g.B g.as O σ) g.as H cls d x
theorem HG.step {K : PySem.W.Frag} {O : List Nat} {i : Nat} {a : Addr} {cls : Value} {d : Option Addr} {g : Gh} {x : Ex} {σ : L2.St} {H H' : Hp} {as' : List Addr} {st' : Store} (h : HG K O i a cls d g x σ H) (gr : Grow g.as H as' H') (s : SRep K as' st' H') : HG K O i a cls d (g.at as' st') x σ H' :=
  ⟨h.ok.step gr s, h.at_, h.ex.grow h.ok.sr gr⟩
def tHx (K : PySem.W.Frag) (O : List Nat) (i : Nat) (a : Addr) (cls : Value) (d : Option Addr) (f : Ex → Env → M D) : TE := fun σ H Q => ∃ (g : Gh) (x : Ex), HG K O i a cls d g x σ H ∧ Ev (f x g.ρ g.st) (fun u st' => ∀ as' v H', Grow g.as H as' H' → SRep K as' st' H' → Rep K (Ff g.B as' O σ) as' H' v u → Q v H') fun _ _ => False
def tHA (K : PySem.W.Frag) (O : List Nat) (i : Nat) (a : Addr) (cls : Value) (d : Option Addr) (f : Ex → Env → M (List D)) : TA := fun σ H Q => ∃ (g : Gh) (x : Ex), HG K O i a cls d g x σ H ∧ Ev (f x g.ρ g.st) (fun us st' => ∀ as' vs H', Grow g.as H as' H' → SRep K as' st' H' → Reps K (Ff g.B as' O σ) as' H' vs us → Q vs H') fun _ _ => False
def tH (K : PySem.W.Frag) (O : List Nat) (i : Nat) (a : Addr) (cls : Value) (d : Option Addr) (f : Ex → SD) : TS := fun E σ H => ∃ (g : Gh) (x : Ex), HG K O i a cls d g x σ H ∧ Ev (f x g.ρ g.st) (fun r st' => ∀ as' σ' H', Step O g.as σ H as' σ' H' → Wf K O g.B g.H0 g.as0 as' r.2 σ' H' → SRep K as' st' H' → match r.1 with
  | .next => E.nx σ' H'
  | .brk => E.bk σ' H'
  | .cont => E.ct σ' H'
  | .ret u => ∀ v, Rep K (fun a => g.B a ∨ a ∈ as') as' H' v u → E.rt v H') fun _ _ => False
/-- e.f of an error of the class c -/
def Ex.fld (c f : Str) (x : Ex) : Option D := if x.cls = c then x.fs.lookup f else none
theorem lookup_reps {K : PySem.W.Frag} {F : Addr → Prop} {as : List Addr} {H : Hp} {f : Str} {u : D} : ∀ {fs : List (Str × V)} {us : List (Str × D)}, fs.map (·.1) = us.map (·.1) → Reps K F as H (fs.map (·.2)) (us.map (·.2)) → us.lookup f = some u → ∃ v, fs.lookup f = some v ∧ Rep K F as H v u
  | [], [], _, _, e => by cases e
  | [], _ :: _, h, _, _ => by cases h
  | _ :: _, [], h, _, _ => by cases h
  | (k, v) :: fs, (k', u') :: us, h, r, e => by
    simp only [List.map_cons, List.cons.injEq] at h
    obtain ⟨rfl, h⟩ := h
    cases r with
    | cons rv r =>
      simp only [List.lookup] at e ⊢
      cases q : f == k with
      | true => rw [q] at e; cases e; exact ⟨v, rfl, rv⟩
      | false => rw [q] at e; exact lookup_reps h r e
section
variable {X : Cx} {O : List Nat} {i : Nat} {a : Addr} {oe : Obj} {cls : Value} {d : Option Addr} {pn : List (Addr × Obj)} {n c f : Str} {e : Expr} {es : List Expr} {pos p : Pos} {h : Ex → Env → M D} {r : Ex → Env → M (List D)}
theorem hx_fld (T : XfC X.K (He.ga X.K c)) (hno : PySem.W.findIn X.K (.ref (He.ga X.K c)) f = some none) (hz : L2.Zc cls d oe) (hf : ∃ vs, oe.data = .fields vs) (hN : X.N[i]? = some n) (hv : Vis X.env.scope n) (hd : (n == ("__debug__" : Str)) = false := by decide) (hcd : (n == ("__classdict__" : Str)) = false := by decide)
    (hb : attributeBase (.Name n p) f X.env (eval (.Name n p) X.env) = eval (.Name n p) X.env := by rfl) :
    PE (X.suite a ((a, oe) :: pn)) (.Attribute (.Name n p) f pos) (tHx X.K O i a cls d fun x _ => lift (x.fld c f)) := PE.imp (pe_xf T hno hz hf (pe_var (X := X.suite a ((a, oe) :: pn)) hN hv hd hcd) hb) fun σ H Q ⟨g, x, G, q⟩ => by
  obtain ⟨u, e, q⟩ := q.lift
  unfold Ex.fld at e
  split at e
  case isFalse => cases e
  case isTrue hc =>
    obtain ⟨e1, dd, fs, e2, e3, e4, rs⟩ := G.ex
    obtain ⟨v, lv, rv⟩ := lookup_reps e4 rs e
    exact ⟨.ref a, G.at_, rfl, by rw [e1, hc], dd, fs, v, e2, e3, lv, q g.as v H (Grow.refl _ _) G.ok.sr rv⟩
theorem hx_of {Z : ZT} {fe : Env → M D} (h : DE (X.suite a ((a, oe) :: pn)) O Z e fe) : PE (X.suite a ((a, oe) :: pn)) e (tHx X.K O i a cls d fun _ ρ => noexc (fe ρ)) := PE.imp h fun σ H Q ⟨g, x, G, q⟩ => by
  exact ⟨g, G.ok, Ev.of_noexc q⟩
theorem ha_nil : PA X [] (tHA X.K O i a cls d fun _ _ => ret []) := PA.imp pa_nil fun σ H Q ⟨g, x, G, q⟩ => q g.as [] H (Grow.refl _ _) G.ok.sr .nil
theorem ha_cons (h1 : PE X e (tHx X.K O i a cls d h)) (h2 : PA X es (tHA X.K O i a cls d r)) (hs : starEach (e :: es) X.env = (false, eval e X.env) :: starEach es X.env := by rfl) :
    PA X (e :: es) (tHA X.K O i a cls d fun x ρ => bnd (h x ρ) fun u => bnd (r x ρ) fun us => ret (u :: us)) := PA.imp (pa_cons h1 h2 hs) fun σ H Q ⟨g, x, G, q⟩ =>
  ⟨g, x, G, (Ev.bnd q).mono (fun u st1 q as1 v H1 g1 s1 r1 => ⟨g.at as1 st1, x, G.step g1 s1, (Ev.bnd q).mono (fun us st2 q as2 vs H2 g2 s2 r2 => q as2 _ H2 (g1.trans g2) s2 (.cons (r1.grow s1 g2) r2)) fun _ _ z => z⟩) fun _ _ z => z⟩
theorem hx_tup {x1} (h : PA X es (tHA X.K O i a cls d r)) : PE X (.Tuple es x1 pos) (tHx X.K O i a cls d fun x ρ => bnd (r x ρ) fun us => if us.length ≤ 60 then ret (.tup us) else bad) := PE.imp (pe_tup h) fun σ H Q ⟨g, x, G, q⟩ => by
  refine ⟨g, x, G, (Ev.bnd q).mono (fun us st' q as' vs H' gr s rs => ?_) fun _ _ z => z⟩
  split at q
  case isFalse => exact q.elim
  case isTrue hl => exact ⟨by rw [rs.length, sizeLine_eq]; omega, fun p np => q as' _ _ (gr.trans (Grow.new np)) (s.new np) (.tup upd_same (rs.grow s (Grow.new np)))⟩
theorem hx_lst (h : PA X es (tHA X.K O i a cls d r)) : PE X (.List es pos) (tHx X.K O i a cls d fun x ρ => bnd (r x ρ) fun us => if us.length ≤ 60 then ret (.lst us) else bad) := PE.imp (pe_lst h) fun σ H Q ⟨g, x, G, q⟩ => by
  refine ⟨g, x, G, (Ev.bnd q).mono (fun us st' q as' vs H' gr s rs => ?_) fun _ _ z => z⟩
  split at q
  case isFalse => exact q.elim
  case isTrue hl =>
    refine ⟨by rw [rs.length, sizeLine_eq]; omega, fun p np => ?_⟩
    have ok' := G.ok.step gr s
    have nF : ¬ Ff g.B as' O σ p := fun z => by
      obtain ⟨o, z⟩ := ok'.wf.tr s p z
      rw [np] at z; cases z
    exact q as' _ _ (gr.trans (Grow.new np)) (s.new np) (.lst (.inl ⟨nF, .inl upd_same⟩) (rs.grow s (Grow.new np)))
theorem hs_ret (h1 : PE X e (tHx X.K O i a cls d h)) : PSs X [.Return (some e) pos] (tH X.K O i a cls d fun x => S.ret (h x)) := PSs.imp (pss_one (ps_ret h1)) fun D σ H ⟨g, x, G, q⟩ =>
  ⟨g, x, G, (Ev.bnd q).mono (fun u st' q as' v H' gr s r => q as' σ H' (gr.step s) (G.ok.wf.grow G.ok.sr gr s) s v (r.weak fun a o _ z => by
    rcases z with z | z
    · exact .inl z
    · exact .inr (.inl z))) fun _ _ z => z⟩
theorem hs_set (j : Nat) {x : Str} {pos' : Pos} (hO : j ∉ O) (hN : X.N.Nodup) (hi : X.N[j]? = some x) (hx : Loc X.env.scope x) (he : PE X e (tHx X.K O i a cls d h)) (hs : swapsWith e (some (.Name x pos')) pos.line X.env = pure false := by rfl)
    (hf : X.fn x = true ∨ X.env.scope.names.lookup x = some .local := by first | exact .inl rfl | exact .inr rfl | assumption) : PSs X [.Assign [.Name x pos'] e pos] (tH X.K O i a cls d fun x => S.set j (h x)) := PSs.imp (pss_one (ps_set hN hi hx he hs hf)) fun D σ H ⟨g, x, G, q⟩ =>
  ⟨g, x, G, (Ev.bnd q).mono (fun d st' q as' v H' gr s r => q as' _ H' ((gr.step s).trans (Step.set hO _)) ((G.ok.wf.grow G.ok.sr gr s).set hO r) s) fun _ _ z => z⟩
end
/-! ### try .. except C as n -/
def unset (i : Nat) (r : Res (Fl × Env)) : Res (Fl × Env) := match r with
  | .ok (fl, ρ) st => .ok (fl, List.set ρ i none) st
  | _ => .bad
def catch1 (tab : List (Str × Bool)) (i : Nat) (h : Ex → SD) (x : Ex) (ρ : Env) (st' : Store) : Res (Fl × Env) := match tab.lookup x.cls with
  | some true => if i < ρ.length then unset i (h x (List.set ρ i none) st') else .bad
  | some false => .exc x st'
  | none => .bad
def tried (r : Res (Fl × Env)) (k : Ex → Store → Res (Fl × Env)) : Res (Fl × Env) := match r with
  | .exc x st' => k x st'
  | r => r
def S.try1 (tab : List (Str × Bool)) (i : Nat) (b : SD) (h : Ex → SD) : SD := fun ρ st => tried (b ρ st) fun x st' => catch1 tab i h x ρ st'
/-- what the clause of C says of the classes in tab -/
def TabX (K : PySem.W.Frag) (c : Str) (tab : List (Str × Bool)) : Prop := ∀ p ∈ tab, PySem.W.exmOne K (.ref (He.ga K p.1)) (.ref (He.ga K c)) = some p.2
section
variable {X : Cx} {O : List Nat} {Z : ZT} {n c : Str} {i : Nat} {body suite : List Stmt} {b₀ : Stmt} {np pos pos' : Pos} {tab : List (Str × Bool)} {b : SD} {h : Ex → SD}
theorem ds_try1 (hs : X.stack = X.env :: X.outer) (hf : X.env.frame = some X.env.locals) (hN : X.N.Nodup) (hO : i ∉ O) (hi : X.N[i]? = some n) (hln : X.env.kindOf n = some .local) (hg : Gl X c) (hm : X.mg c = some (.ref (He.ga X.K c))) (hd : (c == ("__debug__" : Str)) = false)
    (ht : TabX X.K c tab) (tk : Takes X (WZ X.K Z))
    (hb : ∀ (W : WX) (pn : List (Addr × Obj)) (xe : Value → Shared → Prop), Takes (X.tr pn xe) W → PassesOwn (model X.prog X.w) X.A X.env xe → PSs (X.tr pn xe) body (tSx X.K O W b))
    (hsu : ∀ (a : Addr) (oe : Obj) (cls : Value) (d : Option Addr) (pn : List (Addr × Obj)), L2.Zc cls d oe → (∃ vs, oe.data = .fields vs) → PSs (X.suite a ((a, oe) :: pn)) (b₀ :: suite) (tH X.K O i a cls d h)) :
    DS X O Z (.Try body [.ExceptHandler (some (.Name c np)) (some n) (b₀ :: suite) pos'] [] [] pos) (S.try1 tab i b h) := by
  refine PS.imp (ps_try_as hs hf hN hi hln ⟨hg, hd, .inl hm⟩ tk hb hsu) fun D σ H ⟨g, ok, q⟩ => ⟨g, ok, ?_⟩
  have q : Ev (tried (b g.ρ g.st) fun x st' => catch1 tab i h x g.ρ st') _ _ := q
  cases eb : b g.ρ g.st with
  | ok r st' => rw [eb] at q; exact q
  | bad => rw [eb] at q; exact q
  | exc x st' =>
    rw [eb] at q
    have q : Ev (catch1 tab i h x g.ρ st') _ _ := q
    intro as' H' cls d gr s ex
    have ok' := ok.step gr s
    have ex0 := ex
    obtain ⟨ec, _⟩ := ex0
    unfold catch1 at q
    cases el : tab.lookup x.cls with
    | none => rw [el] at q; exact q.elim
    | some bb =>
      rw [el] at q
      have hx : PySem.W.exmOne X.K cls (.ref (He.ga X.K c)) = some bb := by rw [ec]; exact ht _ (PySem.mem_of_lookup el)
      refine ⟨bb, hx, fun eb => ?_, fun eb => ?_⟩
      · subst eb
        intro a na
        have w := ok'.wf.drop (i := i) hO (some (.ref a))
        dsimp only at q
        split at q
        case isFalse => exact q.elim
        case isTrue hlt =>
          refine ⟨g.on as' (g.ρ.set i none) st', x, ⟨⟨w, s⟩, ?_, ?_⟩, ?_⟩
          · rw [List.getElem?_set_self (by rw [ok.wf.len]; exact hlt)]
          · show ExR X.K (Ff g.B as' O (σ.set i (some (.ref a)))) as' H' cls d x
            rw [ff_set hO]; exact ex
          · show Ev (h x (g.ρ.set i none) st') _ _
            cases eh : h x (g.ρ.set i none) st' with
            | bad => rw [eh] at q; exact q.elim
            | exc y st2 => rw [eh] at q; exact q.elim
            | ok r st2 =>
              rw [eh] at q
              obtain ⟨fl, ρ2⟩ := r
              have q : ∀ as2 σ2 H2, Step O g.as σ H as2 σ2 H2 → Wf X.K O g.B g.H0 g.as0 as2 (List.set ρ2 i none) σ2 H2 → SRep X.K as2 st2 H2 → _ := q
              intro as2 σ2 H2 sp2 w2 s2
              have sp0 : Step O g.as σ H as' (σ.set i (some (.ref a))) H' := (gr.step s).trans (Step.set hO _)
              have w3 := w2.drop (i := i) hO none
              have sp3 := (sp0.trans sp2).trans (Step.set (i := i) hO none)
              cases fl with
              | next => exact q as2 _ H2 sp3 w3 s2
              | brk => exact q as2 _ H2 sp3 w3 s2
              | cont => exact q as2 _ H2 sp3 w3 s2
              | ret u => exact q as2 _ H2 sp3 w3 s2
      · subst eb
        refine ⟨fun a => Ff g.B [] O σ a, x, st', as', ex.weak fun a o _ z => ?_, q as' g.ρ σ H' _ (fun _ h => .inl h) ok'.wf s⟩
        rcases z with (z | z | z) | z
        · exact .inl z
        · cases z
        · exact .inr (.inr z)
        · exact .inr (.inl z)
end
end G
end L2
end G36_
section G37_
set_option Elab.async false
set_option linter.all false
set_option maxRecDepth 100000
set_option maxHeartbeats 1000000
namespace L2
namespace G
open PySem PySem.Spec PyProof.Rows
section
variable {X : Cx} {O : List Nat} {Z : ZT} {o e : Expr} {fo fe : Env → M D} {apos cpos : Pos}
/-! ### a frozen tuple is made -/
theorem call_tuple_frz : CallR X (.type "tuple") (fun xs H Q => ∃ p ys, xs = [.ref p] ∧ SqL X.K H p ys ∧ ∀ (l : Addr) (o : Obj), o.cls = .type "tuple" → o.dict = none → H l = none → Q (.ref l) (upd H l (.frz o (.tup ys)))) := by
  intro pins s σ H xs us Q I r h
  obtain ⟨p, ys, rfl, hq, q⟩ := h
  obtain ⟨u, rfl, rx⟩ := vals1 r
  cases rx
  obtain ⟨its, r', pl, hz⟩ := I.list hq
  have hlen := r'.length
  refine call_tuple_list pl.isList (fun h' kp => ?_) (by simp only [List.size_toArray] <;> omega)
  have I1 : Inv X pins σ H { s with heap := h' } := I.kept (t' := s.toks) kp
  have I2 : Inv X pins σ (upd H h'.objs.size (.frz { cls := .type "tuple", data := .seq its.toArray } (.tup ys))) { s with heap := h'.push { cls := .type "tuple", data := .seq its.toArray } } :=
    I1.laid (t' := s.toks) (fun b o e => Heap.get?_push_of_some _ e) (Nat.le_refl _) (show ObjOk X.prog X.w _ _ _ (.frz _ (.tup ys)) from ⟨Heap.get?_push_size _ rfl, hz, its, r', IsTup.new _ _⟩)
  exact ⟨.ref h'.objs.size, _, I2, rfl, q _ _ rfl rfl (I1.hok.fresh (Nat.le_refl _))⟩
def tupleF : List D → Option D
  | [.lst ds] => some (.ftup ds)
  | _ => none
theorem b_tupleF : Bl X (.type "tuple") tupleF := ⟨_, call_tuple_frz, fun F as H xs ds d Q tr r e q => by
  unfold tupleF at e
  split at e
  · cases e
    obtain ⟨v, rfl, rv⟩ := repTs1 r
    obtain ⟨a, us, rfl, s, rs⟩ := rv.t_lst
    exact ⟨a, us, rfl, s, fun p o hc hd np => q _ _ (same_new np) (.ftup (.inl ⟨o, hc, hd, upd_same⟩) (rs.new np))⟩
  · cases e⟩
/-! ### t.index(x) -/
def tIdxT (K : PySem.W.Frag) (to te : TE) : TE := fun σ H Q => to σ H fun x H1 => ∃ (a : Addr) (ys : List V), x = .ref a ∧ FT K H1 a ys ∧ te σ H1 fun y H2 => ∃ (ys : List V) (d : PyData) (ds : List PyData) (j : Nat) (z : PyData), SqT K H2 a ys ∧ DpAll K H2 ys ds ∧ Dp K H2 y d ∧
  SeqAt.shaped (.tuple ds) = true ∧ SeqAt.shaped d = true ∧ ds[j]? = some z ∧ PyData.eqv z d = true ∧ (∀ (m : Nat) (z' : PyData), m < j → ds[m]? = some z' → PyData.eqv z' d = false) ∧ Q (.int (j : Nat)) H2
theorem FT.is {pins : List (Addr × Obj)} {σ : L2.St} {H : Hp} {s : Shared} {a : Addr} {xs : List V} (I : Inv X pins σ H s) (h : FT X.K H a xs) : ∃ ob, s.heap.get? a = some ob ∧ ob.cls = .type "tuple" ∧ ob.dict = none := by
  rcases h with ⟨o, c, d, h⟩ | ⟨o, its, n, h1, h2, h3, _⟩
  · exact ⟨o, (I.hok a _ h).1, c, d⟩
  · exact ⟨o, I.kIn a o h1, h2, h3⟩
theorem pe_idxT {to te : TE} (hu : X.A.units + 65 < cLine) (ho : PE X o to) (he : PE X e te) (hbase : attributeBase o "index" X.env (eval o X.env) = eval o X.env := by rfl)
    (hfew : ((backTo cpos (starEach [e] X.env)).all (fun x => !x.1) && (backToKw cpos (keywordEach [] X.env)).all (fun x => x.1.isSome)
      && decide ([e].length + ([] : List Keyword).length + (if ([] : List Keyword).isEmpty then 0 else 1) < 30)) = true := by rfl)
    (hline : (apos.endLine == cpos.line) = true := by rfl) (hs : starEach [e] X.env = (false, eval e X.env) :: starEach [] X.env := by rfl) (hplain : (backTo cpos (starEach [] X.env)).any (·.1) = false := by rfl) :
    PE X (.Call (.Attribute o "index" apos) [e] [] cpos) (tIdxT X.K to te) := by
  refine ⟨fun pins s σ H Q I h => ?_⟩
  refine wpAny_Call_method_late hbase hfew hline rfl (thn (ho.run pins s σ H _ I h) fun v s1 ⟨x, H1, I1, r1, a, ys, ex, ft, q1⟩ => ?_)
  subst ex
  obtain rfl : v = Value.ref a := r1
  obtain ⟨ob, hob, hc, hd⟩ := ft.is I1
  refine ⟨"tuple", "tuple.index", PySem.F.plainAttrs_tuple, PySem.F.slot_tuple_index, PySem.F.type_tuple_index, ⟨ob, hob, hc⟩, fun b e => by cases e; exact ⟨ob, hob, hd⟩, ?_⟩
  have ha : PA X [e] (tCons te tNil) := pa_cons he pa_nil hs
  have hA := ha.run cpos pins s1 σ H1 (fun vs H2 => match vs with
    | [y] => ∃ (ys : List V) (d : PyData) (ds : List PyData) (j : Nat) (z : PyData), SqT X.K H2 a ys ∧ DpAll X.K H2 ys ds ∧ Dp X.K H2 y d ∧
      SeqAt.shaped (.tuple ds) = true ∧ SeqAt.shaped d = true ∧ ds[j]? = some z ∧ PyData.eqv z d = true ∧ (∀ (m : Nat) (z' : PyData), m < j → ds[m]? = some z' → PyData.eqv z' d = false) ∧ Q (.int (j : Nat)) H2
    | _ => False) I1 q1
  rw [hs] at hA ⊢
  refine Calls.callWith_builtin (by show (false || (backTo cpos (starEach [] X.env)).any (·.1)) = false; rw [hplain] <;> rfl) (Calls.evalArgs_plain ?_)
  refine thn hA fun us s2 ⟨vs, H2, I2, r2, q⟩ => ?_
  match vs, r2, q with
  | [y], .cons (b := uy) ry .nil, ⟨ys2, d, ds, j, z, hs2, ha, hy, sl, sd, hz, hzj, hno, q⟩ =>
    obtain ⟨bs, r1⟩ := Dp.reads I2 d y uy hy ry
    have hxs : PyData.canLayAll0 ds = true := SeqAt.canLay_of_shaped sl
    have hroom : X.A.units + 1 + min (PyData.depthAll ds) d.depth < cLine := room_in_shaped sd hu
    obtain ⟨its, rv, pl, hlen⟩ := I2.tuple hs2
    obtain ⟨⟨cls, dd, data, sls⟩, ho, hc, n, hdt⟩ := pl
    simp only at hc hdt
    subst hc hdt
    obtain ⟨as, h4⟩ := Dp.readsAll I2 ds _ its ha rv
    have hn : its.length = ds.length := SeqAt.ReadsAll.length ds its as h4
    have hmap : its.map (SeqAt.readOf s2.heap) = ds := SeqAt.readsAll_map ds its as hxs h4
    obtain ⟨hjd, _⟩ := List.getElem?_eq_some_iff.mp hz
    have hjl : j < its.length := by omega
    have hj : j < its.toArray.size := by simpa using hjl
    have at_ : ∀ (m : Nat) (hm : m < its.toArray.size) (z' : PyData), ds[m]? = some z' → SeqAt.readOf s2.heap its.toArray[m] = z' := by
      intro m hm z' hz'
      have hml : m < its.length := by simpa using hm
      rw [← hmap, List.getElem?_map, List.getElem?_eq_getElem hml] at hz'
      have e1 : SeqAt.readOf s2.heap its[m] = z' := Option.some.inj (show some (SeqAt.readOf s2.heap its[m]) = some z' from hz')
      simpa using e1
    refine call_meets PySem.F.slot_tuple_index ⟨_, ho, rfl⟩ PySem.F.entry_tuple_index (PySem.F.args_tuple_index_2 _ _) (TI.tuple_indexAt a its.toArray n dd sls uy (fun u => PyData.eqv (SeqAt.readOf s2.heap u) d) j hj ?_ ?_)
      ⟨ho, SeqAt.items_eqAt (vs := its.toArray) (show ReadsAll s2.heap its.toArray.toList ds as from h4) r1 hxs (SeqAt.canLay_of_shaped sd) hroom, ?_⟩
    · show PyData.eqv (SeqAt.readOf s2.heap its.toArray[j]) d = true
      rw [at_ j hj z hz]
      exact hzj
    · intro m hm hmj
      have hmd : m < ds.length := by omega
      have hz' : ds[m]? = some ds[m] := List.getElem?_eq_getElem hmd
      show PyData.eqv (SeqAt.readOf s2.heap its.toArray[m]) d = false
      rw [at_ m hm _ hz']
      exact hno m _ hmj hz'
    · exact ⟨.int (j : Nat), H2, I2.tok _, ⟨_, rfl⟩, q⟩
def idxD (ds : List D) (y : D) : Option Nat := ds.findIdx? fun z => PyData.eqv z.py y.py
def idxE (ds : List D) (y : D) : Option D := if D.okds 60 ds && y.okd 60 then (idxD ds y).map fun j => .int (j : Nat) else none
def E.idxT (fo fe : Env → M D) : Env → M D := fun ρ => bnd (fo ρ) fun d => match d with
  | .ftup ds => bnd (fe ρ) fun y => lift (idxE ds y)
  | _ => bad
theorem pys_get {ds : List D} {j : Nat} : (D.pys ds)[j]? = ds[j]?.map D.py := by
  induction ds generalizing j with
  | nil => simp [D.pys]
  | cons d ds ih =>
    cases j with
    | zero => simp [D.pys]
    | succ j => simp [D.pys, ih]
theorem dn_idxT (hu : X.A.units + 65 < cLine) (ho : DU X O Z o fo) (he : DU X O Z e fe) (hbase : attributeBase o "index" X.env (eval o X.env) = eval o X.env := by rfl)
    (hfew : ((backTo cpos (starEach [e] X.env)).all (fun x => !x.1) && (backToKw cpos (keywordEach [] X.env)).all (fun x => x.1.isSome)
      && decide ([e].length + ([] : List Keyword).length + (if ([] : List Keyword).isEmpty then 0 else 1) < 30)) = true := by rfl)
    (hline : (apos.endLine == cpos.line) = true := by rfl) (hs : starEach [e] X.env = (false, eval e X.env) :: starEach [] X.env := by rfl) (hplain : (backTo cpos (starEach [] X.env)).any (·.1) = false := by rfl) :
    DN X O Z (.Call (.Attribute o "index" apos) [e] [] cpos) (E.idxT fo fe) := PE.imp (pe_idxT hu ho he hbase hfew hline hs hplain) fun σ H Q ⟨g, ok, q⟩ => by
  refine ⟨g, ok, (Ev.bnd q).mono (fun d st1 q as1 v H1 g1 s1 r1 => ?_) fun _ _ z => z⟩
  cases d with
  | ftup ds =>
    obtain ⟨a, ys, rfl, ft, rs⟩ := r1.t_ftup
    refine ⟨a, ys, rfl, ft, g.at as1 st1, ok.step g1 s1, (Ev.bnd q).mono (fun y st2 q as2 u H2 g2 s2 r2 => ?_) fun _ _ z => z⟩
    obtain ⟨d', e, q⟩ := q.lift
    unfold idxE at e
    split at e
    case isFalse => cases e
    case isTrue hok =>
      simp only [Bool.and_eq_true] at hok
      rw [Option.map_eq_some_iff] at e
      obtain ⟨j, ej, rfl⟩ := e
      have r3 := r1.grow s1 g2
      obtain ⟨a', ys', ea, ft', rs'⟩ := r3.t_ftup
      cases ea
      unfold idxD at ej
      rw [List.findIdx?_eq_some_iff_getElem] at ej
      obtain ⟨hj, h1, h2⟩ := ej
      have sh : SeqAt.shaped (.tuple (D.pys ds)) = true := by
        have := D.shaped (n := 61) (d := .ftup ds) (by simpa [D.okd] using hok.1) (by decide)
        simpa only [D.py] using this
      refine ⟨ys', y.py, D.pys ds, j, ds[j].py, ft'.sq, rs'.dp hok.1, r2.dp hok.2, sh, D.shaped hok.2 (by decide), ?_, h1, fun m z' hm hz => ?_, q as2 _ H2 (g1.trans g2) s2 (.sca (.int _) fun p z => nomatch z) fun p z => nomatch z⟩
      · rw [pys_get, List.getElem?_eq_getElem hj]; rfl
      · rw [pys_get, List.getElem?_eq_getElem (by omega)] at hz
        cases hz
        have := h2 m hm
        simpa using this
  | _ => exact q.elim
end
end G
end L2
end G37_
section G38_
set_option Elab.async false
set_option linter.all false
set_option maxRecDepth 100000
set_option maxHeartbeats 1000000
namespace L2
namespace G
open PySem PySem.Spec PyProof.Rows
/-! ### name = {k: v for ..} on one line, the name a local -/
theorem sw_trueD {kx vx : Expr} {gs : List Comprehension} {scope : Scope} {pos py : Pos} {y : Str} {l : Nat} {env : PySem.Env} (hk : env.scope.kind = .function) (hy : env.scope.names.lookup y = some .local) (hl : (py.line == pos.line) = true)
    (ha : (scope.names.any fun (n, k) => n == y && (k == .local || k == .cell)) = false) : swapsWith (.DictComp kx vx gs scope pos) (some (.Name y py)) l env = pure true := by
  have ky : env.kindOf y = some .local := hy
  have hb : env.blockKind = .function := by unfold Env.blockKind; rw [hk]; rfl
  unfold swapsWith
  simp only [hb, ky, ha, Expr.pos, hl]
  rfl
section
variable {X : Cx} {O : List Nat} {Z : ZT} {tg iter kx vx : Expr} {ifs : List Expr} {fk fv : Env → M D} {fi : Env → M (List D)} {fc : Env → M Bool} {t : D → Env → Option Env} {pos : Pos} {scope : Scope} {own : List (Str × Nat)}
theorem ps_setDcT {i : Nat} {y : Str} {py spos : Pos} {wi : TI} {g : TG} {tt : TT} {tk tv : TE} (hu : X.A.units + 1 < cLine) (hc : X.calm = true) (hN : X.N.Nodup) (hy : X.N[i]? = some y) (hyl : X.env.scope.names.lookup y = some .local)
    (hsw : swapsWith (.DictComp kx vx [⟨tg, iter, ifs, 0⟩] scope pos) (some (.Name y py)) spos.line X.env = pure true) (hi : PI X tg iter wi) (ok : BlkOk X.N X.env.scope scope own)
    (hg : ∀ (s : Shared) (H : Hp) (C : Addr) (cl : List (Str × Addr)) (fp : List Addr), PG (X.blk s H scope (compEnvC scope cl C X.env) fp) tg g) (ht : ∀ (s : Shared) (H : Hp) (C : Addr) (cl : List (Str × Addr)) (fp : List Addr), PTs (X.blk s H scope (compEnvC scope cl C X.env) fp) ifs tt)
    (hk : ∀ (s : Shared) (H : Hp) (C : Addr) (cl : List (Str × Addr)) (fp : List Addr), PE (X.blk s H scope (compEnvC scope cl C X.env) fp) kx tk)
    (he : ∀ (s : Shared) (H : Hp) (C : Addr) (cl : List (Str × Addr)) (fp : List Addr), PE (X.blk s H scope (compEnvC scope cl C X.env) fp) vx tv) (hs : ∀ x, foldedSetIterable iter X.env x = pure x := by intro _; rfl) :
    PS X (.Assign [.Name y py] (.DictComp kx vx [⟨tg, iter, ifs, 0⟩] scope pos) spos) (tAsg (tDcT wi g tt tk tv (own.map (·.2))) (gName i)) := by
  refine ⟨fun pins s σ H D I h => ?_⟩
  rw [exec_Assign_Name_used _ _ _ _ hsw]
  refine wpAny_bind (wpAny_standAt (wpAny_bind ?_))
  show wpAny _ X.A (do let _ ← comprehension (.DictComp kx vx [⟨tg, iter, ifs, 0⟩] scope pos) scope X.env (firstIterPos [⟨tg, iter, ifs, 0⟩] pos) newDict false (eval iter X.env) (some (assign (.Name y py) X.env))) _ _ s
  have h : tDcT wi g tt tk tv (own.map (·.2)) σ H (fun x H1 => gName i x σ H1 D.nx) := h
  refine wpAny_bind (thn (dc_coreT (Qf := fun _ s' => SP X pins D .next s') hu hc hN I hi ok hg ht hk he hs h fun L C s' m H' I' q hn f => ?_) fun _ s' hq => wpAny_pure (wpAny_pure hq))
  show wpAny _ _ (assign (.Name y py) X.env (.ref L)) _ _ _
  refine wpAny_assign_Name (store_ok2 (v := V.ref L) I' hN hy (.inl hyl) rfl (fun s2 I2 ⟨a, sb, ha⟩ => ?_) (.inr hyl))
  obtain ⟨f0, f1, f2, f3, f4, f5⟩ := f
  have haC : C ≠ a := by
    rcases ha with z | z
    · rw [z]; exact f1
    · exact fun e => f4 y a z e.symm
  refine ⟨m, hn.sameBut sb haC, fun h3 sb3 => ?_⟩
  exact ⟨_, H', I2.turned (t' := s2.toks) (fun b o hb e => (sb3.2 b hb).trans e) f0 f1 f3 f4 f5, q⟩
theorem ds_setDcompT (i : Nat) {y : Str} {py spos : Pos} (hyO : i ∉ O) (hu : X.A.units + 1 < cLine) (hc : X.calm = true) (hN : X.N.Nodup) (hy : X.N[i]? = some y) (hyl : X.env.scope.names.lookup y = some .local)
    (hsw : swapsWith (.DictComp kx vx [⟨tg, iter, ifs, 0⟩] scope pos) (some (.Name y py)) spos.line X.env = pure true) (hi : DIc X O Z tg iter fi) (ok : BlkOk X.N X.env.scope scope own) (hO : ∀ i ∈ own.map (·.2), i ∉ O)
    (hg : ∀ (s : Shared) (H : Hp) (C : Addr) (cl : List (Str × Addr)) (fp : List Addr), DG (X.blk s H scope (compEnvC scope cl C X.env) fp) O (own.map (·.2)) tg t) (ht : ∀ (s : Shared) (H : Hp) (C : Addr) (cl : List (Str × Addr)) (fp : List Addr), DTs (X.blk s H scope (compEnvC scope cl C X.env) fp) O Z ifs fc)
    (hk : ∀ (s : Shared) (H : Hp) (C : Addr) (cl : List (Str × Addr)) (fp : List Addr), DE (X.blk s H scope (compEnvC scope cl C X.env) fp) O Z kx fk)
    (he : ∀ (s : Shared) (H : Hp) (C : Addr) (cl : List (Str × Addr)) (fp : List Addr), DE (X.blk s H scope (compEnvC scope cl C X.env) fp) O Z vx fv) (hs : ∀ x, foldedSetIterable iter X.env x = pure x := by intro _; rfl) :
    DS X O Z (.Assign [.Name y py] (.DictComp kx vx [⟨tg, iter, ifs, 0⟩] scope pos) spos) (S.set i (E.dcomp true fi (own.map (·.2)) t fc fk fv)) :=
  PS.imp (ps_setDcT hu hc hN hy hyl hsw hi ok hg ht hk he hs) fun D σ H ⟨g, ok, q⟩ => by
    refine dcomp_finT (X := X) (Z := Z) hO ok ((Ev.bnd q).mono (fun d st' q as' v H' gr s r n => ?_) fun _ _ z => z)
    have nF : ∀ p, v = .ref p → ¬ Ff g.B as' O σ p := fun p e z => by
      obtain ⟨n1, n2⟩ := n p e
      rcases z with z | z | ⟨i, hi, z⟩
      · obtain ⟨o, z⟩ := ok.wf.trB p z; rw [n1] at z; cases z
      · exact n2 z
      · obtain ⟨_, _, _, o, z, _⟩ := ok.wf.slot i p hi z; rw [n1] at z; cases z
    have r' : Rep X.K (Ff g.B as' O σ) as' H' v d := by
      cases r with
      | lst h r => exact .lst (.inl ⟨nF _ rfl, .inl h⟩) (r.weak fun _ _ _ z => .inl z)
      | dct h o r => exact .dct (nF _ rfl) (.inl h) o (r.weak fun _ _ _ z => .inl z)
      | sca r _ => exact r.weak fun _ _ _ z => .inl z
    exact q as' _ H' ((gr.step s).trans (Step.set hyO _)) ((ok.wf.grow ok.sr gr s).set hyO r') s
theorem ds_setDcompTN (i : Nat) {y : Str} {py spos : Pos} (hyO : i ∈ O) (hu : X.A.units + 1 < cLine) (hc : X.calm = true) (hN : X.N.Nodup) (hy : X.N[i]? = some y) (hyl : X.env.scope.names.lookup y = some .local)
    (hsw : swapsWith (.DictComp kx vx [⟨tg, iter, ifs, 0⟩] scope pos) (some (.Name y py)) spos.line X.env = pure true) (hi : DIc X O Z tg iter fi) (ok : BlkOk X.N X.env.scope scope own) (hO : ∀ i ∈ own.map (·.2), i ∉ O)
    (hg : ∀ (s : Shared) (H : Hp) (C : Addr) (cl : List (Str × Addr)) (fp : List Addr), DG (X.blk s H scope (compEnvC scope cl C X.env) fp) O (own.map (·.2)) tg t) (ht : ∀ (s : Shared) (H : Hp) (C : Addr) (cl : List (Str × Addr)) (fp : List Addr), DTs (X.blk s H scope (compEnvC scope cl C X.env) fp) O Z ifs fc)
    (hk : ∀ (s : Shared) (H : Hp) (C : Addr) (cl : List (Str × Addr)) (fp : List Addr), DE (X.blk s H scope (compEnvC scope cl C X.env) fp) O Z kx fk)
    (he : ∀ (s : Shared) (H : Hp) (C : Addr) (cl : List (Str × Addr)) (fp : List Addr), DE (X.blk s H scope (compEnvC scope cl C X.env) fp) O Z vx fv) (hs : ∀ x, foldedSetIterable iter X.env x = pure x := by intro _; rfl) :
    DS X O Z (.Assign [.Name y py] (.DictComp kx vx [⟨tg, iter, ifs, 0⟩] scope pos) spos) (S.set i (E.dcomp true fi (own.map (·.2)) t fc fk fv)) :=
  PS.imp (ps_setDcT hu hc hN hy hyl hsw hi ok hg ht hk he hs) fun D σ H ⟨g, ok, q⟩ => by
    refine dcomp_finT (X := X) (Z := Z) hO ok ((Ev.bnd q).mono (fun d st' q as' v H' gr s r n => ?_) fun _ _ z => z)
    obtain ⟨w, sp⟩ := ok.wf.setN ok.sr gr s hyO r n
    exact q as' _ H' sp w s
theorem ps_setDcK {i : Nat} {y : Str} {py spos : Pos} {wi : TI} {g : TG} {tt : TT} {tk tv : TE} (hc : X.calm = true) (hN : X.N.Nodup) (hy : X.N[i]? = some y) (hyl : X.env.scope.names.lookup y = some .local)
    (hsw : swapsWith (.DictComp kx vx [⟨tg, iter, ifs, 0⟩] scope pos) (some (.Name y py)) spos.line X.env = pure true) (hi : PI X tg iter wi) (ok : BlkOk X.N X.env.scope scope own)
    (hg : ∀ (s : Shared) (H : Hp) (C : Addr) (cl : List (Str × Addr)) (fp : List Addr), PG (X.blk s H scope (compEnvC scope cl C X.env) fp) tg g) (ht : ∀ (s : Shared) (H : Hp) (C : Addr) (cl : List (Str × Addr)) (fp : List Addr), PTs (X.blk s H scope (compEnvC scope cl C X.env) fp) ifs tt)
    (hk : ∀ (s : Shared) (H : Hp) (C : Addr) (cl : List (Str × Addr)) (fp : List Addr), PE (X.blk s H scope (compEnvC scope cl C X.env) fp) kx tk)
    (he : ∀ (s : Shared) (H : Hp) (C : Addr) (cl : List (Str × Addr)) (fp : List Addr), PE (X.blk s H scope (compEnvC scope cl C X.env) fp) vx tv) (hs : ∀ x, foldedSetIterable iter X.env x = pure x := by intro _; rfl) :
    PS X (.Assign [.Name y py] (.DictComp kx vx [⟨tg, iter, ifs, 0⟩] scope pos) spos) (tAsg (tDc wi g tt tk tv (own.map (·.2))) (gName i)) := by
  refine ⟨fun pins s σ H D I h => ?_⟩
  rw [exec_Assign_Name_used _ _ _ _ hsw]
  refine wpAny_bind (wpAny_standAt (wpAny_bind ?_))
  show wpAny _ X.A (do let _ ← comprehension (.DictComp kx vx [⟨tg, iter, ifs, 0⟩] scope pos) scope X.env (firstIterPos [⟨tg, iter, ifs, 0⟩] pos) newDict false (eval iter X.env) (some (assign (.Name y py) X.env))) _ _ s
  have h : tDc wi g tt tk tv (own.map (·.2)) σ H (fun x H1 => gName i x σ H1 D.nx) := h
  refine wpAny_bind (thn (dc_core (Qf := fun _ s' => SP X pins D .next s') hc hN I hi ok hg ht hk he hs h fun L C s' m H' I' q hn f => ?_) fun _ s' hq => wpAny_pure (wpAny_pure hq))
  show wpAny _ _ (assign (.Name y py) X.env (.ref L)) _ _ _
  refine wpAny_assign_Name (store_ok2 (v := V.ref L) I' hN hy (.inl hyl) rfl (fun s2 I2 ⟨a, sb, ha⟩ => ?_) (.inr hyl))
  obtain ⟨f0, f1, f2, f3, f4, f5⟩ := f
  have haC : C ≠ a := by
    rcases ha with z | z
    · rw [z]; exact f1
    · exact fun e => f4 y a z e.symm
  refine ⟨m, hn.sameBut sb haC, fun h3 sb3 => ?_⟩
  exact ⟨_, H', I2.turned (t' := s2.toks) (fun b o hb e => (sb3.2 b hb).trans e) f0 f1 f3 f4 f5, q⟩
theorem ds_setDcompK (i : Nat) {y : Str} {py spos : Pos} (hyO : i ∉ O) (hc : X.calm = true) (hN : X.N.Nodup) (hy : X.N[i]? = some y) (hyl : X.env.scope.names.lookup y = some .local)
    (hsw : swapsWith (.DictComp kx vx [⟨tg, iter, ifs, 0⟩] scope pos) (some (.Name y py)) spos.line X.env = pure true) (hi : DIc X O Z tg iter fi) (ok : BlkOk X.N X.env.scope scope own) (hO : ∀ i ∈ own.map (·.2), i ∉ O)
    (hg : ∀ (s : Shared) (H : Hp) (C : Addr) (cl : List (Str × Addr)) (fp : List Addr), DG (X.blk s H scope (compEnvC scope cl C X.env) fp) O (own.map (·.2)) tg t) (ht : ∀ (s : Shared) (H : Hp) (C : Addr) (cl : List (Str × Addr)) (fp : List Addr), DTs (X.blk s H scope (compEnvC scope cl C X.env) fp) O Z ifs fc)
    (hk : ∀ (s : Shared) (H : Hp) (C : Addr) (cl : List (Str × Addr)) (fp : List Addr), DE (X.blk s H scope (compEnvC scope cl C X.env) fp) O Z kx fk)
    (he : ∀ (s : Shared) (H : Hp) (C : Addr) (cl : List (Str × Addr)) (fp : List Addr), DE (X.blk s H scope (compEnvC scope cl C X.env) fp) O Z vx fv) (hs : ∀ x, foldedSetIterable iter X.env x = pure x := by intro _; rfl) :
    DS X O Z (.Assign [.Name y py] (.DictComp kx vx [⟨tg, iter, ifs, 0⟩] scope pos) spos) (S.set i (E.dcomp false fi (own.map (·.2)) t fc fk fv)) :=
  PS.imp (ps_setDcK hc hN hy hyl hsw hi ok hg ht hk he hs) fun D σ H ⟨g, ok, q⟩ => by
    refine dcomp_finK (X := X) (Z := Z) hO ok ((Ev.bnd q).mono (fun d st' q as' v H' gr s r n => ?_) fun _ _ z => z)
    have nF : ∀ p, v = .ref p → ¬ Ff g.B as' O σ p := fun p e z => by
      obtain ⟨n1, n2⟩ := n p e
      rcases z with z | z | ⟨i, hi, z⟩
      · obtain ⟨o, z⟩ := ok.wf.trB p z; rw [n1] at z; cases z
      · exact n2 z
      · obtain ⟨_, _, _, o, z, _⟩ := ok.wf.slot i p hi z; rw [n1] at z; cases z
    have r' : Rep X.K (Ff g.B as' O σ) as' H' v d := by
      cases r with
      | lst h r => exact .lst (.inl ⟨nF _ rfl, .inl h⟩) (r.weak fun _ _ _ z => .inl z)
      | dct h o r => exact .dct (nF _ rfl) (.inl h) o (r.weak fun _ _ _ z => .inl z)
      | sca r _ => exact r.weak fun _ _ _ z => .inl z
    exact q as' _ H' ((gr.step s).trans (Step.set hyO _)) ((ok.wf.grow ok.sr gr s).set hyO r') s
theorem ds_setDcompKN (i : Nat) {y : Str} {py spos : Pos} (hyO : i ∈ O) (hc : X.calm = true) (hN : X.N.Nodup) (hy : X.N[i]? = some y) (hyl : X.env.scope.names.lookup y = some .local)
    (hsw : swapsWith (.DictComp kx vx [⟨tg, iter, ifs, 0⟩] scope pos) (some (.Name y py)) spos.line X.env = pure true) (hi : DIc X O Z tg iter fi) (ok : BlkOk X.N X.env.scope scope own) (hO : ∀ i ∈ own.map (·.2), i ∉ O)
    (hg : ∀ (s : Shared) (H : Hp) (C : Addr) (cl : List (Str × Addr)) (fp : List Addr), DG (X.blk s H scope (compEnvC scope cl C X.env) fp) O (own.map (·.2)) tg t) (ht : ∀ (s : Shared) (H : Hp) (C : Addr) (cl : List (Str × Addr)) (fp : List Addr), DTs (X.blk s H scope (compEnvC scope cl C X.env) fp) O Z ifs fc)
    (hk : ∀ (s : Shared) (H : Hp) (C : Addr) (cl : List (Str × Addr)) (fp : List Addr), DE (X.blk s H scope (compEnvC scope cl C X.env) fp) O Z kx fk)
    (he : ∀ (s : Shared) (H : Hp) (C : Addr) (cl : List (Str × Addr)) (fp : List Addr), DE (X.blk s H scope (compEnvC scope cl C X.env) fp) O Z vx fv) (hs : ∀ x, foldedSetIterable iter X.env x = pure x := by intro _; rfl) :
    DS X O Z (.Assign [.Name y py] (.DictComp kx vx [⟨tg, iter, ifs, 0⟩] scope pos) spos) (S.set i (E.dcomp false fi (own.map (·.2)) t fc fk fv)) :=
  PS.imp (ps_setDcK hc hN hy hyl hsw hi ok hg ht hk he hs) fun D σ H ⟨g, ok, q⟩ => by
    refine dcomp_finK (X := X) (Z := Z) hO ok ((Ev.bnd q).mono (fun d st' q as' v H' gr s r n => ?_) fun _ _ z => z)
    obtain ⟨w, sp⟩ := ok.wf.setN ok.sr gr s hyO r n
    exact q as' _ H' sp w s
end
end G
end L2
end G38_
section G39_
set_option Elab.async false
set_option linter.all false
set_option maxRecDepth 100000
set_option maxHeartbeats 1000000
namespace L2
namespace G
open PySem PySem.Spec PyProof.Rows
theorem rg {k : Nat} {A : Around} (r : Rm k A) : A.guards = some [] := r.gd
section
variable {X : Cx} {O : List Nat} {Z : ZT} {o e ke ve a b : Expr} {fo fe fk fv fa fb : Env → M D} {pos apos cpos : Pos}
/-! ### repr -/
def seqy : D → Bool
  | .tup _ => true
  | .lst _ => true
  | .ftup _ => true
  | _ => false
def reprD : List D → Option D
  | [d] => if seqy d && d.okd 60 && d.py.showable && decide (d.py.shown.length ≤ 1000000) then some (.str d.py.shown) else none
  | _ => none
theorem call_reprD (hu : X.A.units + 65 < cLine) (hg : X.A.guards = some []) : CallR X (.builtin "repr") (fun xs H Q => ∃ (a : Addr) (d : PyData), xs = [.ref a] ∧ Dp X.K H (.ref a) d ∧ d.canLay0 = true ∧ d.depth ≤ 60 ∧ d.showable = true ∧ d.shown.length ≤ sizeLine ∧ Q (.str d.shown) H) := by
  intro pins s σ H xs us Q I r h
  obtain ⟨a, d, rfl, hd, hc, hp, hs, hz, q⟩ := h
  obtain ⟨u, rfl, rx⟩ := vals1 r
  obtain rfl : u = Value.ref a := rx
  obtain ⟨as, r1⟩ := Dp.reads I d (.ref a) (.ref a) hd rfl
  exact repr_of_reads' (h₀ := s.heap) r1 hs (PyData.noDict_hsm (PyData.hasDict_of_canLay d hc)) hg (by omega) (fun _ _ e => e) (fun h' u tk hk => ⟨.str _, H, I.kept hk, ⟨_, rfl⟩, q⟩) hz
theorem b_repr (hu : X.A.units + 65 < cLine) (hg : X.A.guards = some []) : Bl X (.builtin "repr") reprD := ⟨_, call_reprD hu hg, fun F as H xs ds d Q tr r e q => by
  unfold reprD at e
  split at e
  · rename_i d1
    split at e
    · rename_i h
      cases e
      simp only [Bool.and_eq_true, decide_eq_true_eq] at h
      obtain ⟨v, rfl, rv⟩ := repTs1 r
      have hp := rv.dp h.1.1.2
      have ha : ∃ a, v = .ref a := by
        cases d1 with
        | tup xs => obtain ⟨a, us, rfl, _⟩ := rv.t_tup; exact ⟨a, rfl⟩
        | lst xs => obtain ⟨a, us, rfl, _⟩ := rv.t_lst; exact ⟨a, rfl⟩
        | ftup xs => obtain ⟨a, us, rfl, _⟩ := rv.t_ftup; exact ⟨a, rfl⟩
        | _ => simp [seqy] at h
      obtain ⟨a, rfl⟩ := ha
      have lay := D.okd_lay h.1.1.2
      have := line_million
      exact ⟨a, _, rfl, hp, lay.1, lay.2, h.1.2, by omega, q _ H (Same.refl _) (.str _)⟩
    · cases e
  · cases e⟩
/-! ### d[k], k in d, d.get(k), of local dicts -/
def dgetD : D → D → Option (Option D)
  | .dct t ks vs, y => if okKey t y = true then some (getL t y ks vs) else none
  | _, _ => none
theorem dget_of {K : PySem.W.Frag} {F : Addr → Prop} {as : List Addr} {H : Hp} {x y : V} {d1 d2 : D} {r : Option D} (r1 : RepT K F as H x d1) (r2 : RepT K F as H y d2) (e : dgetD d1 d2 = some r) :
    ∃ (p : Addr) (v : Option V), x = .ref p ∧ IsD H p ∧ DGet H p y v ∧ v.isSome = r.isSome ∧ ∀ d, r = some d → ∃ u, v = some u ∧ Rep K F as H u d := by
  unfold dgetD at e
  split at e
  · rename_i t ks vs y'
    split at e
    · rename_i hk
      cases e
      obtain ⟨p, ob, us, rfl, hs, dd, rs⟩ := r1.t_dct
      rcases dd with ⟨kvs, rfl, rfl, rfl, rfl⟩ | ⟨kvs, rfl, rfl, rfl, rfl⟩
      · unfold okKey at hk
        rw [if_neg Bool.false_ne_true] at hk
        obtain ⟨k, ek⟩ := Option.isSome_iff_exists.mp hk
        have ek := toKey_eq ek
        subst ek
        have ey : y = kV k := by
          cases k with
          | inl i => exact r2.t_int
          | inr z => exact r2.t_str
        obtain ⟨g1, g2⟩ := get_reps (t := false) (e := kD) (fun _ _ => keyEq_k) (k := k) rs
        exact ⟨p, valV kvs k, rfl, .inl ⟨kvs, hs⟩, .inl ⟨kvs, k, hs, ey, rfl⟩, g2.symm, g1⟩
      · unfold okKey at hk
        rw [if_pos rfl] at hk
        obtain ⟨k, ek⟩ := Option.isSome_iff_exists.mp hk
        have ek := toTKey_eq ek
        subst ek
        obtain ⟨b, rfl, hb⟩ : ∃ b, y = .ref b ∧ H b = some (.tup (k.map kV)) := by
          cases r2 with
          | rep r2 => exact r2.tkey
          | own r2 _ =>
            unfold tkD at r2
            cases r2 with
            | sca r _ => exact Rep.tkey (k := k) r
        obtain ⟨g1, g2⟩ := get_reps (t := true) (e := tkD) (fun _ _ => keyEq_t) (k := k) rs
        exact ⟨p, valV kvs k, rfl, .inr ⟨kvs, hs⟩, .inr ⟨kvs, k, b, hs, rfl, hb, rfl⟩, g2.symm, g1⟩
    · cases e
  · cases e
def dixD (x y : D) : Option D := (dgetD x y).bind id
def E.dix (fa fb : Env → M D) : Env → M D := E.op2 dixD fa fb
theorem de_dix (hu : X.A.units + 1 < cLine) (ha : DU X O Z a fa) (hb : DU X O Z b fb) (hs : NoSl b := by exact fun _ _ => rfl) : DE X O Z (.Subscript a b pos) (E.dix fa fb) := PE.imp (pe_dget hu ha hb hs) fun σ H Q ⟨g, ok, q⟩ => by
  refine two (k := fun x y => lift (dixD x y)) (ZZ := fun _ _ => True) ok q fun d1 d2 x y as' st' H' g1 s1 r1 r2 q => ?_
  obtain ⟨d, e, q⟩ := q.lift
  unfold dixD at e
  rw [Option.bind_eq_some_iff] at e
  obtain ⟨r, e1, e2⟩ := e
  obtain ⟨p, v, rfl, _, dg, _, hr⟩ := dget_of r1 r2 e1
  obtain ⟨u, rfl, ru⟩ := hr d e2
  exact ⟨p, u, rfl, dg, q as' u H' g1 s1 ru⟩
def dinD (x y : D) : Option D := (dgetD y x).map fun r => .bl r.isSome
def dnotInD (x y : D) : Option D := (dgetD y x).map fun r => .bl (!r.isSome)
theorem op_din (hu : X.A.units + 1 < cLine) : OpR X (compareOp .In) (fun x y H Q => ∃ a o, y = .ref a ∧ DGet H a x o ∧ Q (.bl o.isSome) H) := by
  intro pins s σ H x y v u Q I rx ry h
  obtain ⟨a, o, rfl, dg, q⟩ := h
  obtain rfl : u = Value.ref a := ry
  exact d_in hu I dg rx fun s' I' => ⟨.bl _, H, I', rfl, q⟩
theorem op_dnotIn (hu : X.A.units + 1 < cLine) : OpR X (compareOp .NotIn) (fun x y H Q => ∃ a o, y = .ref a ∧ DGet H a x o ∧ Q (.bl (!o.isSome)) H) := by
  intro pins s σ H x y v u Q I rx ry h
  obtain ⟨a, o, rfl, dg, q⟩ := h
  obtain rfl : u = Value.ref a := ry
  exact d_notIn hu I dg rx fun s' I' => ⟨.bl _, H, I', rfl, q⟩
theorem o_din (hu : X.A.units + 1 < cLine) : Op2 X (compareOp .In) dinD := ⟨_, op_din hu, fun F as H x y d1 d2 d Q tr r1 r2 e q => by
  unfold dinD at e
  rw [Option.map_eq_some_iff] at e
  obtain ⟨r, e1, rfl⟩ := e
  obtain ⟨p, v, rfl, _, dg, es, _⟩ := dget_of r2 r1 e1
  exact ⟨p, v, rfl, dg, by rw [es]; exact q _ H (Same.refl _) (.bl _)⟩⟩
theorem o_dnotIn (hu : X.A.units + 1 < cLine) : Op2 X (compareOp .NotIn) dnotInD := ⟨_, op_dnotIn hu, fun F as H x y d1 d2 d Q tr r1 r2 e q => by
  unfold dnotInD at e
  rw [Option.map_eq_some_iff] at e
  obtain ⟨r, e1, rfl⟩ := e
  obtain ⟨p, v, rfl, _, dg, es, _⟩ := dget_of r2 r1 e1
  exact ⟨p, v, rfl, dg, by rw [es]; exact q _ H (Same.refl _) (.bl _)⟩⟩
def getD1 (x y : D) : Option D := (dgetD x y).map fun r => r.getD .non
def isDctB : D → Bool
  | .dct _ _ _ => true
  | _ => false
def E.dget1 (fa fb : Env → M D) : Env → M D := fun ρ => bnd (fa ρ) fun x => if isDctB x = true then bnd (fb ρ) fun y => lift (getD1 x y) else bad
theorem de_dget1 (hu : X.A.units + 1 < cLine) (ho : DU X O Z o fo) (he : DU X O Z e fe) (hbase : attributeBase o "get" X.env (eval o X.env) = eval o X.env := by rfl)
    (hfew : ((backTo cpos (starEach [e] X.env)).all (fun x => !x.1) && (backToKw cpos (keywordEach [] X.env)).all (fun x => x.1.isSome)
      && decide (([e] : List Expr).length + ([] : List Keyword).length + (if ([] : List Keyword).isEmpty then 0 else 1) < 30)) = true := by rfl)
    (hline : (apos.endLine == cpos.line) = true := by rfl) (ht : backTo cpos (starEach [e] X.env) = [(false, eval e X.env)] := by rfl) :
    DE X O Z (.Call (.Attribute o "get" apos) [e] [] cpos) (E.dget1 fo fe) := PE.imp (pe_dget1 hu ho he ⟨hbase, hfew, hline, ht⟩) fun σ H Q ⟨g, ok, q⟩ => by
  refine ⟨g, ok, (Ev.bnd q).mono (fun d st1 q as1 v H1 g1 s1 r1 => ?_) fun _ _ z => z⟩
  by_cases hd : isDctB d = true
  · rw [if_pos hd] at q
    cases d with
    | dct t ks vs =>
      obtain ⟨p, ob, us, rfl, hs, dd, rs⟩ := r1.t_dct
      have isd : IsD H1 p := by
        rcases dd with ⟨kvs, rfl, rfl, rfl, rfl⟩ | ⟨kvs, rfl, rfl, rfl, rfl⟩
        · exact .inl ⟨kvs, hs⟩
        · exact .inr ⟨kvs, hs⟩
      refine ⟨p, rfl, isd, g.at as1 st1, ok.step g1 s1, (Ev.bnd q).mono (fun y st2 q as2 u H2 g2 s2 r2 => ?_) fun _ _ z => z⟩
      obtain ⟨d', e, q⟩ := q.lift
      unfold getD1 at e
      rw [Option.map_eq_some_iff] at e
      obtain ⟨r, e1, rfl⟩ := e
      have r3 := r1.grow s1 g2
      obtain ⟨p', w, ep, _, dg, es, hr⟩ := dget_of r3 r2 e1
      cases ep
      cases r with
      | none =>
        have : w = none := by cases w with
          | none => rfl
          | some _ => cases es
        subst this
        exact ⟨none, dg, q as2 _ H2 (g1.trans g2) s2 .non⟩
      | some d' =>
        obtain ⟨u', rfl, ru⟩ := hr d' rfl
        exact ⟨some u', dg, q as2 _ H2 (g1.trans g2) s2 ru⟩
    | _ => cases hd
  · rw [if_neg hd] at q
    exact q.elim
/-! ### {k: v} -/
def E.disp1 (fk fv : Env → M D) : Env → M D := fun ρ => bnd (fk ρ) fun k => bnd (fv ρ) fun v => if okKey false k = true then ret (.dct false [k] [v]) else bad
theorem dn_disp1 (hk : DE X O Z ke fk) (hv : DE X O Z ve fv) : DN X O Z (.Dict [some ke] [ve] pos) (E.disp1 fk fv) := PE.imp (pe_disp (pps_cons hk hv pps_nil) rfl rfl (by simp) (by simp)) fun σ H Q ⟨g, ok, q⟩ => by
  intro D nD
  have nA : D ∉ g.as := not_as ok nD
  have w1 : Wf X.K O (fun a => g.B a ∨ a = D) g.H0 g.as0 g.as g.ρ σ (upd H D (.dK [])) := ok.wf.growB ok.sr nD (Grow.new nD) (ok.sr.new nD) ⟨_, upd_same⟩
  refine ⟨⟨fun a => g.B a ∨ a = D, g.H0, g.as0, g.as, g.ρ, g.st⟩, ⟨w1, ok.sr.new nD⟩, (Ev.bnd q).mono (fun kd st1 q as1 kv H1 g1 s1 rk => ?_) fun _ _ z => z.mono fun _ z => .inl z⟩
  have w2 := w1.grow (ok.sr.new nD) g1 s1
  refine ⟨⟨fun a => g.B a ∨ a = D, g.H0, g.as0, as1, g.ρ, st1⟩, ⟨w2, s1⟩, (Ev.bnd q).mono (fun vd st2 q as2 vv H2 g2 s2 rv => ?_) fun _ _ z => z.mono fun _ z => .inl z⟩
  have g12 := g1.trans g2
  have d2 : H2 D = some (.dK []) := g12.keep D _ upd_same nA
  have n2 : D ∉ as2 := fun z => by
    have := g12.fre D z nA
    rw [upd_same] at this; cases this
  by_cases hc : okKey false kd = true
  · rw [if_pos hc] at q
    have hc1 := hc
    unfold okKey at hc1
    rw [if_neg Bool.false_ne_true] at hc1
    obtain ⟨k, ek⟩ := Option.isSome_iff_exists.mp hc1
    have ek := toKey_eq ek
    subst ek
    have ey : kv = kV k := rk.key
    subst ey
    have kD' : ∀ b o, H2 b = some o → ¬ Ff (fun a => g.B a ∨ a = D) as2 O σ b → upd H2 D (.dK [(k, vv)]) b = some o := fun b o h n => by rw [upd_ne (fun (z : b = D) => n (.inl (.inr z)))]; exact h
    have kT : ∀ b o, H2 b = some o → TupO o → upd H2 D (.dK [(k, vv)]) b = some o := fun b o h t => by
      rw [upd_ne (fun (z : b = D) => by rw [z, d2] at h; cases h; exact t)]; exact h
    have gg := (Grow.new (as := g.as) (o := .dK []) nD).trans g12
    refine ⟨d2, [(k, vv)], rfl, by simp, ?_⟩
    refine q as2 (.ref D) (upd H2 D (.dK [(k, vv)])) ⟨gg.pre, fun b o h n => by rw [upd_ne (ne_of_none h nD)]; exact gg.keep b o h n, gg.fre⟩ ?_ ?_ fun p e => ?_
    · refine s2.frame fun b o h z => ?_
      rcases z with z | z
      · rw [upd_ne (fun (y : b = D) => n2 (by rw [← y]; exact z))]; exact h
      · exact kT b o h z
    · refine .dct upd_same (.inl ⟨[(k, vv)], rfl, rfl, rfl, rfl⟩) (Reps.cons ((rv.frame kD' kT fun _ _ h => h).weak fun a o _ z => ?_) .nil)
      rcases z with (z | z | z) | z
      · exact .inl (.inl z)
      · exact .inr (.inl z)
      · exact .inr (.inr z)
      · cases z; exact .inl (.inr rfl)
    · cases e
      exact ⟨nD, n2⟩
  · rw [if_neg hc] at q
    exact q.elim
end
end G
end L2
end G39_
section G40_
set_option Elab.async false
set_option linter.all false
set_option maxRecDepth 100000
set_option maxHeartbeats 1000000
namespace L2
namespace G
open PySem PySem.Spec PyProof.Rows
/-! ### min(xs), xs a list of data that compare -/
def ltPy (a b : D) : Bool := PySem.W.dataLt a.py b.py
def bestD (lt : D → D → Bool) : List D → Option D
  | [] => none
  | d :: ds => some (ds.foldl (fun a y => if lt y a then y else a) d)
def minD2 : List D → Option D
  | [.lst ds] => if (shapes.any fun sh => ds.all (D.is sh)) && D.okds 59 ds then bestD ltPy ds else none
  | _ => none
theorem pys_map (ds : List D) : D.pys ds = ds.map D.py := by
  induction ds with
  | nil => simp [D.pys]
  | cons d ds ih => simp [D.pys, ih]
theorem alikeAll_of {ps : List PyData} (h : AlikeK ps) : PySem.W.AlikeAll ps := by
  refine ⟨fun x hx y hy => h.1 x hx y hy, fun x hx e => ?_⟩
  rcases h.2.1 with q | q
  · obtain ⟨xs, z⟩ := q x hx
    rw [e] at z; cases z
  · exact (q x hx).1 e
section
variable {prog : Program} {w : World} {A : Around} {E : Value → Shared → Prop} {s : Shared}
open PySem.W in
theorem min_list_ix {l : Addr} {vs : Array Value} {x : PyData} {xs : List PyData} {as : List Addr} {Q : Value → Shared → Prop} (hh : A.handled = none) (hl : s.heap.IsList l vs) (hr : ReadsAll s.heap vs.toList (x :: xs) as) (ha : AlikeAll (x :: xs)) (hu : A.units + 1 + PyData.depthAll (x :: xs) < cLine)
    (h : ∀ v h' tk, vs[argBest (fun i j => dataLt ((x :: xs).getD i .none) ((x :: xs).getD j .none)) xs.length]? = some v → (∀ b o, s.heap.get? b = some o → h'.get? b = some o) → Q v { s with heap := h', toks := tk }) :
    wpAny (model prog w) A (call (.builtin "min") [.ref l]) Q E s := by
  have hn : vs.size = xs.length + 1 := readsAll_len hr
  refine call_min_walkH (iter_listW (A := A.in1) hh hl fun s₂ e W st hfp hw hk => ?_)
  refine ⟨_, _, _, _, _, _, _, s.heap, _, rfl, W, st, hfp, by omega, hw, hk, cmpIn_lt (A := A.in1) hr ha (by show A.units + 1 + _ < _; exact hu), fun v s' hP m => ?_⟩
  obtain ⟨h', tk, rfl, hk'⟩ := moved_old e rfl m
  have e1 : vs.size - 1 = xs.length := by omega
  rw [e1] at hP
  exact h v h' tk hP hk'
end
section
variable {X : Cx}
theorem depthAll_le {ds : List PyData} {n : Nat} (h : ∀ d ∈ ds, d.depth ≤ n) : PyData.depthAll ds ≤ n := by
  induction ds with
  | nil => simp [PyData.depthAll]
  | cons d ds ih =>
    simp only [PyData.depthAll]
    have h1 := h d (.head _)
    have h2 := ih fun x hx => h x (.tail _ hx)
    omega
theorem vals_get' : ∀ {xs : List V} {us : List Value} {i : Nat} {u : Value}, Vals xs us → us[i]? = some u → ∃ x, xs[i]? = some x ∧ RelV x u
  | _, _, _, _, .nil, e => by simp at e
  | _, _, 0, _, .cons h _, e => by simp at e; subst e; exact ⟨_, rfl, h⟩
  | _, _, i + 1, _, .cons _ t, e => vals_get' (i := i) t (by simpa using e)
theorem call_minD (hc : X.calm = true) (hu : X.A.units + 65 < cLine) : CallR X (.builtin "min") (fun xs H Q => ∃ (a : Addr) (ys : List V) (d : PyData) (ds : List PyData), xs = [.ref a] ∧ SqL X.K H a ys ∧ DpAll X.K H ys (d :: ds) ∧ AlikeK (d :: ds) ∧
    ∀ u, ys[argBest (fun i j => PySem.W.dataLt ((d :: ds).getD i .none) ((d :: ds).getD j .none)) ds.length]? = some u → Q u H) := by
  intro pins s σ H xs us Q I r h
  obtain ⟨a, ys, d, ds, rfl, hq, hd, ha, q⟩ := h
  obtain ⟨its, rv, hl, _⟩ := I.list hq
  rw [Vals.ref1 r]
  obtain ⟨as, h4⟩ := Dp.readsAll I (d :: ds) ys its hd rv
  refine min_list_ix (I.ok.hd hc) hl.isList (by simpa using h4) (alikeAll_of ha) ?_ fun v h' tk hv hk => ?_
  · have := depthAll_le ha.2.2
    omega
  · have hv : its[argBest (fun i j => PySem.W.dataLt ((d :: ds).getD i .none) ((d :: ds).getD j .none)) ds.length]? = some v := by simpa using hv
    obtain ⟨u, eu, ru⟩ := vals_get' rv hv
    exact ⟨u, H, I.kept hk, ru, q u eu⟩
theorem b_minD (hc : X.calm = true) (hu : X.A.units + 65 < cLine) : Bl X (.builtin "min") minD2 := ⟨_, call_minD hc hu, fun F as H xs ds d Q tr r e q => by
  unfold minD2 at e
  split at e
  · rename_i ds
    split at e
    · rename_i h
      have ha := sort_alike h
      obtain ⟨v, rfl, rv⟩ := repTs1 r
      obtain ⟨a, us, rfl, sq, rs⟩ := rv.t_lst
      cases ds with
      | nil => cases e
      | cons d0 ds =>
        have ho : D.okds 59 (d0 :: ds) = true := by simp only [Bool.and_eq_true] at h; exact h.2
        have hd := rs.dp ho
        rw [pys_map] at hd
        have es : (d0 :: ds).map D.py = d0.py :: ds.map D.py := rfl
        rw [es] at hd ha
        refine ⟨a, us, d0.py, ds.map D.py, rfl, sq, hd, ha, fun u hu => ?_⟩
        have key := (PySem.W.argBest_fold ltPy .non d0 ds ds.length (Nat.le_refl _))
        have eqf : (fun i j => PySem.W.dataLt ((d0.py :: ds.map D.py).getD i .none) ((d0.py :: ds.map D.py).getD j .none)) = fun i j => ltPy ((d0 :: ds).getD i .non) ((d0 :: ds).getD j .non) := by
          funext i j
          have g : ∀ i, (d0.py :: ds.map D.py).getD i .none = ((d0 :: ds).getD i .non).py := fun i => by
            rw [← es, List.getD_eq_getElem?_getD, List.getD_eq_getElem?_getD, List.getElem?_map]
            cases (d0 :: ds)[i]? <;> simp [D.py]
          rw [g, g]; rfl
        rw [eqf, List.length_map] at hu
        obtain ⟨d', e', rd⟩ := rs.get hu
        have k2 := key.2
        rw [List.getD_eq_getElem?_getD, e', Option.getD_some, List.take_length] at k2
        have : some d' = some d := by rw [k2]; exact e
        cases this
        exact q _ H (Same.refl _) rd
    · cases e
  · cases e⟩
end
end G
end L2
end G40_
section G41_
set_option Elab.async false
set_option linter.all false
set_option maxRecDepth 100000
set_option maxHeartbeats 1000000
namespace L2
namespace G
open PySem PySem.Spec PyProof.Rows
/-! ### equality of texts, whatever their signs -/
def eqS : D → D → Option D
  | .str a, .str b => some (.bl (decide (a = b)))
  | _, _ => none
def neS : D → D → Option D
  | .str a, .str b => some (.bl (!decide (a = b)))
  | _, _ => none
section
variable {X : Cx}
theorem o_eqS : Op2 X (compareOp .Eq) eqS := ⟨_, op_eq, fun F as H x y d1 d2 d Q tr r1 r2 e q => by
  unfold eqS at e
  split at e
  · rename_i a b
    cases e
    rw [r1.t_str, r2.t_str]
    refine ⟨rfl, ?_⟩
    have : decide (V.str a = V.str b) = decide (a = b) := by rw [decide_eq_decide]; exact ⟨fun h => by cases h; rfl, fun h => by rw [h]⟩
    rw [this]
    exact q _ H (Same.refl _) (.bl _)
  · cases e⟩
theorem o_neS : Op2 X (compareOp .NotEq) neS := ⟨_, op_ne, fun F as H x y d1 d2 d Q tr r1 r2 e q => by
  unfold neS at e
  split at e
  · rename_i a b
    cases e
    rw [r1.t_str, r2.t_str]
    refine ⟨rfl, ?_⟩
    have : decide (V.str a = V.str b) = decide (a = b) := by rw [decide_eq_decide]; exact ⟨fun h => by cases h; rfl, fun h => by rw [h]⟩
    rw [this]
    exact q _ H (Same.refl _) (.bl _)
  · cases e⟩
end
end G
end L2
end G41_
section GP1_
set_option Elab.async false
set_option linter.all false
set_option maxRecDepth 100000
set_option maxHeartbeats 1000000
namespace L2
namespace G
open PySem PySem.Spec PyProof.Rows
/-! ### how denotations are computed -/
section
variable {α β γ : Type}
@[simp] theorem bnd_ret (a : α) (k : α → M β) : bnd (ret a) k = k a := rfl
@[simp] theorem bnd_bad (k : α → M β) : bnd (bad : M α) k = bad := rfl
@[simp] theorem bnd_bnd (m : M α) (k : α → M β) (l : β → M γ) : bnd (bnd m k) l = bnd m fun a => bnd (k a) l := by
  funext s
  unfold bnd
  cases m s <;> rfl
@[simp] theorem lift_some (a : α) : lift (some a) = ret a := rfl
@[simp] theorem lift_none : lift (none : Option α) = bad := rfl
@[simp] theorem noexc_ret (a : α) : noexc (ret a) = ret a := rfl
def run (m : M α) (st : Store) : Res α := m st
@[simp] theorem run_ret (a : α) (st : Store) : run (ret a) st = .ok a st := rfl
theorem run_bnd {m : M α} {k : α → M β} {st st' : Store} {a : α} (h : run m st = .ok a st') : run (bnd m k) st = run (k a) st' := by
  unfold run bnd at *; rw [h]
theorem run_noexc {m : M α} {st st' : Store} {a : α} (h : run m st = .ok a st') : run (noexc m) st = .ok a st' := by
  unfold run noexc at *; rw [h]
def fnM (m : M (Fl × Env)) : M D := fun s => match m s with
  | .ok q s' => (match q.1 with
    | .ret d => .ok d s'
    | .next => .ok .non s'
    | _ => .bad)
  | .exc x s' => .exc x s'
  | .bad => .bad
theorem fnD_eq (N : Nat) (b : SD) (ds : List D) : fnD N b ds = fnM (b (ds.map some ++ List.replicate (N - ds.length) none)) := rfl
@[simp] theorem fnM_ret (d : D) (ρ : Env) : fnM (ret (.ret d, ρ)) = ret d := rfl
@[simp] theorem fnM_next (ρ : Env) : fnM (ret (.next, ρ)) = ret .non := rfl
@[simp] theorem fnM_bnd (m : M α) (k : α → M (Fl × Env)) : fnM (bnd m k) = bnd m fun a => fnM (k a) := by
  funext s
  unfold fnM bnd
  cases m s <;> rfl
end
section
variable (a b c : Env → M D) (r : Env → M (List D)) (ρ : Env) (s t : SD) (g h : D → D → Option D) (g1 : D → Option D) (gl : List D → Option D) (tt uu : Env → M Bool)
@[simp] theorem u_cst (d : D) : E.cst d ρ = ret d := rfl
@[simp] theorem u_op2 : E.op2 g a b ρ = bnd (a ρ) fun x => bnd (b ρ) fun y => lift (g x y) := rfl
@[simp] theorem u_op1 : E.op1 g1 a ρ = bnd (a ρ) fun x => lift (g1 x) := rfl
@[simp] theorem u_nil : A.nil ρ = ret [] := rfl
@[simp] theorem u_cons : A.cons a r ρ = bnd (a ρ) fun x => bnd (r ρ) fun xs => ret (x :: xs) := rfl
@[simp] theorem u_tup : E.tup r ρ = bnd (r ρ) fun xs => ret (.tup xs) := rfl
@[simp] theorem u_lst : E.lst r ρ = bnd (r ρ) fun xs => ret (.lst xs) := rfl
@[simp] theorem u_val : T.val a ρ = bnd (a ρ) fun x => match x with
  | .bl b => ret b
  | _ => bad := rfl
@[simp] theorem u_tnot : T.not tt ρ = bnd (tt ρ) fun b => ret (!b) := rfl
@[simp] theorem u_tand : T.and tt uu ρ = bnd (tt ρ) fun x => if x = true then uu ρ else ret false := rfl
@[simp] theorem u_tor : T.or tt uu ρ = bnd (tt ρ) fun x => if x = true then ret true else uu ρ := rfl
@[simp] theorem u_tyes : T.yes ρ = ret true := rfl
@[simp] theorem u_and : E.and a b ρ = bnd (a ρ) fun x => match x with
  | .bl true => b ρ
  | .bl false => ret (.bl false)
  | _ => bad := rfl
@[simp] theorem u_or : E.or a b ρ = bnd (a ρ) fun x => match x with
  | .bl false => b ρ
  | .bl true => ret (.bl true)
  | _ => bad := rfl
@[simp] theorem u_not : E.not a ρ = bnd (a ρ) fun x => match x with
  | .bl b => ret (.bl (!b))
  | _ => bad := rfl
@[simp] theorem u_ifx : E.ifx tt a b ρ = bnd (tt ρ) fun c => if c = true then a ρ else b ρ := rfl
@[simp] theorem u_blt : E.blt gl r ρ = bnd (r ρ) fun xs => lift (gl xs) := rfl
@[simp] theorem u_app (φ : List D → M D) : E.app φ r ρ = bnd (r ρ) fun xs => noexc (φ xs) := rfl
@[simp] theorem u_ix : E.ix a b ρ = bnd (a ρ) fun x => bnd (b ρ) fun y => lift (ixD' x y) := rfl
@[simp] theorem u_chain : E.chain g h a b c ρ = bnd (a ρ) fun x => bnd (b ρ) fun y => bnd (lift (g x y)) fun z => match z with
  | .bl true => bnd (c ρ) fun w => lift (h y w)
  | .bl false => ret (.bl false)
  | _ => bad := rfl
@[simp] theorem u_oNone : E.oNone ρ = ret none := rfl
@[simp] theorem u_oSome : E.oSome a ρ = bnd (a ρ) fun d => match d with
  | .int i => ret (some i)
  | _ => bad := rfl
@[simp] theorem u_slice (l u : Env → M (Option Int)) : E.slice a l u ρ = bnd (a ρ) fun d => bnd (l ρ) fun l => bnd (u ρ) fun h => lift (sliceD d l h) := rfl
@[simp] theorem u_iseq : I.seq a ρ = bnd (a ρ) fun d => lift (seqD d) := rfl
@[simp] theorem u_irange (f : List D → Option (List D)) : I.range f r ρ = bnd (r ρ) fun xs => lift (f xs) := rfl
@[simp] theorem u_ion (f : List D → Option (List D)) : I.on f r ρ = bnd (r ρ) fun xs => lift (f xs) := rfl
@[simp] theorem u_comp (i : Env → M (List D)) (vs : List Nat) (tg : D → Env → Option Env) : E.comp i vs tg tt a ρ = bnd (i ρ) fun ds => bnd (compL (wipeD ρ vs) tg tt a ds) fun rs => ret (.lst rs) := rfl
@[simp] theorem u_star : A.star a r ρ = bnd (a ρ) fun d => bnd (lift (seqD d)) fun xs => bnd (r ρ) fun ys => if xs.length + ys.length < LIM then ret (xs ++ ys) else bad := rfl
@[simp] theorem u_seq : S.seq s t ρ = bnd (s ρ) fun q => match q.1 with
  | .next => t q.2
  | .brk => ret (.brk, q.2)
  | .cont => ret (.cont, q.2)
  | .ret d => ret (.ret d, q.2) := rfl
@[simp] theorem u_snil : S.nil ρ = ret (.next, ρ) := rfl
@[simp] theorem u_sbad : S.bad ρ = bad := rfl
@[simp] theorem u_sret : S.ret a ρ = bnd (a ρ) fun d => ret (.ret d, ρ) := rfl
@[simp] theorem u_sretN : S.retN ρ = ret (.ret .non, ρ) := rfl
@[simp] theorem u_sexpr : S.expr a ρ = bnd (a ρ) fun _ => ret (.next, ρ) := rfl
@[simp] theorem u_site : S.ite tt s t ρ = bnd (tt ρ) fun c => if c = true then s ρ else t ρ := rfl
@[simp] theorem u_sset (i : Nat) : S.set i a ρ = bnd (a ρ) fun d => ret (.next, List.set ρ i (some d)) := rfl
@[simp] theorem u_spar (i j : Nat) : S.par i j a b ρ = bnd (a ρ) fun x => bnd (b ρ) fun y => ret (.next, List.set (List.set ρ i (some x)) j (some y)) := rfl
@[simp] theorem u_sasg (tg : D → Env → Option Env) : S.asg a tg ρ = bnd (a ρ) fun d => bnd (lift (tg d ρ)) fun ρ' => ret (.next, ρ') := rfl
@[simp] theorem u_sfor (i : Env → M (List D)) (tg : D → Env → Option Env) : S.for_ i tg s ρ = bnd (i ρ) fun ds => forL tg s ds ρ := rfl
@[simp] theorem u_gname (i : Nat) (d : D) : Gt.name i d ρ = some (List.set ρ i (some d)) := rfl
@[simp] theorem u_gnil : Gt.nil [] ρ = some ρ := rfl
@[simp] theorem u_gcons (t : D → Env → Option Env) (u : List D → Env → Option Env) (d : D) (r : List D) : Gt.cons t u (d :: r) ρ = (t d ρ).bind (u r) := rfl
@[simp] theorem u_gtup (n : Nat) (u : List D → Env → Option Env) (ds : List D) : Gt.tup n u (.tup ds) ρ = if ds.length = n then u ds ρ else none := rfl
@[simp] theorem u_var0 (o : D) (ρ : Env) : E.var 0 (some o :: ρ) = ret o := rfl
@[simp] theorem u_varS (i : Nat) (o : Option D) (ρ : Env) : E.var (i + 1) (o :: ρ) = E.var i ρ := rfl
@[simp] theorem u_wipe0 : wipeD ρ [] = ρ := rfl
@[simp] theorem u_wipeS (v : Nat) (vs : List Nat) : wipeD ρ (v :: vs) = List.set (wipeD ρ vs) v none := rfl
end
@[simp] theorem seqD_lst (l : List D) : seqD (.lst l) = some l := rfl
@[simp] theorem seqD_tup (l : List D) : seqD (.tup l) = some l := rfl
/-! ### statements, one after another -/
section
variable {s t : SD} {ρ ρ' : Env} {st st' st1 : Store} {d x y : D} {e a b : Env → M D} {i : Nat} {tt : Env → M Bool} {q : Bool}
theorem fn_step (h : run (s ρ) st = .ok (.next, ρ') st') : run (fnM (S.seq s t ρ)) st = run (fnM (t ρ')) st' := by
  have e : S.seq s t ρ = bnd (s ρ) _ := rfl
  rw [e, fnM_bnd, run_bnd h]
theorem fn_ret (h : run (s ρ) st = .ok (.ret d, ρ') st') : run (fnM (S.seq s t ρ)) st = .ok d st' := by
  have e : S.seq s t ρ = bnd (s ρ) _ := rfl
  rw [e, fnM_bnd, run_bnd h]
  rfl
theorem seq_step (h : run (s ρ) st = .ok (.next, ρ') st') : run (S.seq s t ρ) st = run (t ρ') st' := by
  have e : S.seq s t ρ = bnd (s ρ) _ := rfl
  rw [e, run_bnd h]
theorem seq_ret (h : run (s ρ) st = .ok (.ret d, ρ') st') : run (S.seq s t ρ) st = .ok (.ret d, ρ') st' := by
  have e : S.seq s t ρ = bnd (s ρ) _ := rfl
  rw [e, run_bnd h]
  rfl
theorem set_run (h : run (e ρ) st = .ok d st') : run (S.set i e ρ) st = .ok (.next, List.set ρ i (some d)) st' := by
  have q : S.set i e ρ = bnd (e ρ) _ := rfl
  rw [q, run_bnd h]
  rfl
theorem ret_run (h : run (e ρ) st = .ok d st') : run (S.ret e ρ) st = .ok (.ret d, ρ) st' := by
  have q : S.ret e ρ = bnd (e ρ) _ := rfl
  rw [q, run_bnd h]
  rfl
theorem ite_run (h : run (tt ρ) st = .ok q st') : run (S.ite tt s t ρ) st = run (if q = true then s ρ else t ρ) st' := by
  have z : S.ite tt s t ρ = bnd (tt ρ) _ := rfl
  rw [z, run_bnd h]
theorem val_run (h : run (e ρ) st = .ok (.bl q) st') : run (T.val e ρ) st = .ok q st' := by
  have z : T.val e ρ = bnd (e ρ) _ := rfl
  rw [z, run_bnd h]
  rfl
theorem op2_run {g : D → D → Option D} (ha : run (a ρ) st = .ok x st') (hb : run (b ρ) st' = .ok y st1) (hg : g x y = some d) : run (E.op2 g a b ρ) st = .ok d st1 := by
  have z : E.op2 g a b ρ = bnd (a ρ) _ := rfl
  rw [z, run_bnd ha, run_bnd hb, hg]
  rfl
theorem var_run {o : D} (h : ρ[i]? = some (some o)) : run (E.var i ρ) st = .ok o st := by
  unfold run E.var
  rw [h]
  rfl
theorem cst_run : run (E.cst d ρ) st = .ok d st := rfl
theorem pure_run (h : e ρ = ret d) : run (e ρ) st = .ok d st := by rw [h]; rfl
theorem blt1_run {g : List D → Option D} (h : run (e ρ) st = .ok x st') (hg : g [x] = some d) : run (E.blt g (A.cons e A.nil) ρ) st = .ok d st' := by
  have z : E.blt g (A.cons e A.nil) ρ = bnd (bnd (e ρ) _) _ := rfl
  rw [z, bnd_bnd, run_bnd h]
  simp [hg]
theorem app1_run {φ : List D → M D} (h : run (e ρ) st = .ok x st') (hg : run (φ [x]) st' = .ok d st1) : run (E.app φ (A.cons e A.nil) ρ) st = .ok d st1 := by
  have z : E.app φ (A.cons e A.nil) ρ = bnd (bnd (e ρ) _) _ := rfl
  rw [z, bnd_bnd, run_bnd h]
  simp [run_noexc hg]
theorem app2_run {φ : List D → M D} {st2 : Store} (ha : run (a ρ) st = .ok x st') (hb : run (b ρ) st' = .ok y st1) (hg : run (φ [x, y]) st1 = .ok d st2) : run (E.app φ (A.cons a (A.cons b A.nil)) ρ) st = .ok d st2 := by
  have z : E.app φ (A.cons a (A.cons b A.nil)) ρ = bnd (bnd (a ρ) _) _ := rfl
  rw [z, bnd_bnd, run_bnd ha]
  have z2 : A.cons b A.nil ρ = bnd (b ρ) _ := rfl
  rw [z2, bnd_bnd, bnd_bnd, run_bnd hb]
  simp [run_noexc hg]
end
/-! ### comprehensions, loops -/
theorem compL_pure {ρ : Env} {t : D → Env → Option Env} {c : Env → M Bool} {e : Env → M D} (ρ' : D → Env) (p : D → Bool) (g : D → D) : ∀ ds : List D, (∀ d ∈ ds, t d ρ = some (ρ' d) ∧ c (ρ' d) = ret (p d) ∧ (p d = true → e (ρ' d) = ret (g d))) →
    compL ρ t c e ds = ret ((ds.filter p).map g)
  | [], _ => rfl
  | d :: ds, h => by
    obtain ⟨h1, h2, h3⟩ := h d (.head _)
    unfold compL
    rw [h1, lift_some, bnd_ret, h2, bnd_ret, compL_pure ρ' p g ds fun x hx => h x (.tail _ hx)]
    cases q : p d with
    | true => rw [if_pos rfl, h3 q]; simp [q]
    | false => simp [q]
theorem compL_map {α : Type} {ρ : Env} {t : D → Env → Option Env} {c : Env → M Bool} {e : Env → M D} (f : α → D) (ρ' : α → Env) (p : α → Bool) (g : α → D) : ∀ l : List α, (∀ x ∈ l, t (f x) ρ = some (ρ' x) ∧ c (ρ' x) = ret (p x) ∧ (p x = true → e (ρ' x) = ret (g x))) →
    compL ρ t c e (l.map f) = ret ((l.filter p).map g)
  | [], _ => rfl
  | x :: l, h => by
    obtain ⟨h1, h2, h3⟩ := h x (.head _)
    rw [List.map_cons]
    unfold compL
    rw [h1, lift_some, bnd_ret, h2, bnd_ret, compL_map f ρ' p g l fun x hx => h x (.tail _ hx)]
    cases q : p x with
    | true => rw [if_pos rfl, h3 q]; simp [q]
    | false => simp [q]
theorem compL_all {α : Type} {ρ : Env} {t : D → Env → Option Env} {e : Env → M D} (f : α → D) (ρ' : α → Env) (g : α → D) : ∀ l : List α, (∀ x ∈ l, t (f x) ρ = some (ρ' x) ∧ e (ρ' x) = ret (g x)) →
    compL ρ t T.yes e (l.map f) = ret (l.map g)
  | [], _ => rfl
  | x :: l, h => by
    obtain ⟨h1, h3⟩ := h x (.head _)
    rw [List.map_cons]
    unfold compL
    rw [h1, lift_some, bnd_ret, u_tyes, bnd_ret, compL_all f ρ' g l fun x hx => h x (.tail _ hx), if_pos rfl, h3]
    rfl
theorem zipD_map {α β : Type} (f : α → D) (g : β → D) : ∀ (a : List α) (b : List β), zipD (a.map f) (b.map g) = (a.zip b).map fun p => .tup [f p.1, g p.2]
  | [], _ => by simp [zipD]
  | _ :: _, [] => by simp [zipD]
  | x :: a, y :: b => by simp [zipD, zipD_map f g a b]
theorem enumD_map {α : Type} (f : α → D) : ∀ (l : List α) (k : Nat), enumD (k : Int) (l.map f) = (l.zipIdx k).map fun p => .tup [.int p.2, f p.1]
  | [], _ => by simp [enumD]
  | x :: l, k => by
    have := enumD_map f l (k + 1)
    simp only [List.map_cons, enumD, List.zipIdx_cons]
    rw [← this]
    rfl
/-- a walk that goes through -/
theorem forL_pure {t : D → Env → Option Env} {b : SD} (f : D → Env → Env) : ∀ (ds : List D) (ρ : Env) (Inv : Env → Prop), Inv ρ → (∀ d ∈ ds, ∀ ρ, Inv ρ → Inv (f d ρ) ∧ ∃ ρ1, t d ρ = some ρ1 ∧ b ρ1 = ret (.next, f d ρ)) → forL t b ds ρ = ret (.next, ds.foldl (fun ρ d => f d ρ) ρ)
  | [], ρ, _, _, _ => rfl
  | d :: ds, ρ, Inv, h0, h => by
    obtain ⟨h1, ρ1, h2, h3⟩ := h d (.head _) ρ h0
    unfold forL
    rw [h2, lift_some, bnd_ret, h3, bnd_ret]
    exact forL_pure f ds _ Inv h1 fun x hx => h x (.tail _ hx)
/-! ### ints, clauses, bundles as data -/
abbrev cl (c : List Int) : D := .tup (c.map .int)
abbrev li (c : List Int) : D := .lst (c.map .int)
abbrev bu (n : Int) (cs : List (List Int)) : D := .tup [.int n, .tup (cs.map cl)]
theorem eqvAll_ints : ∀ a b : List Int, PyData.eqvAll (D.pys (a.map .int)) (D.pys (b.map .int)) = decide (a = b)
  | [], [] => by simp [D.pys, PyData.eqvAll]
  | [], _ :: _ => by simp [D.pys, PyData.eqvAll]
  | _ :: _, [] => by simp [D.pys, PyData.eqvAll]
  | x :: a, y :: b => by
    simp only [List.map_cons, D.pys, PyData.eqvAll, D.py, PyData.eqv, eqvAll_ints a b]
    by_cases h : x = y <;> simp [h]
theorem eqvAll_cls : ∀ a b : List (List Int), PyData.eqvAll (D.pys (a.map cl)) (D.pys (b.map cl)) = decide (a = b)
  | [], [] => by simp [D.pys, PyData.eqvAll]
  | [], _ :: _ => by simp [D.pys, PyData.eqvAll]
  | _ :: _, [] => by simp [D.pys, PyData.eqvAll]
  | x :: a, y :: b => by
    simp only [List.map_cons, D.pys, PyData.eqvAll, D.py, PyData.eqv, eqvAll_cls a b, eqvAll_ints]
    by_cases h : x = y <;> simp [h]
@[simp] theorem eq_int (a b : Int) : D.eq (.int a) (.int b) = decide (a = b) := by unfold D.eq; simp only [D.py, PyData.eqv]; by_cases h : a = b <;> simp [h]
@[simp] theorem eq_cl (a b : List Int) : D.eq (cl a) (cl b) = decide (a = b) := by unfold D.eq; simp only [D.py, PyData.eqv, eqvAll_ints]
@[simp] theorem eq_li (a b : List Int) : D.eq (li a) (li b) = decide (a = b) := by unfold D.eq; simp only [D.py, PyData.eqv, eqvAll_ints]
@[simp] theorem eq_bu (n m : Int) (a b : List (List Int)) : D.eq (bu n a) (bu m b) = (decide (n = m) && decide (a = b)) := by
  unfold D.eq; simp only [D.py, D.pys, PyData.eqv, PyData.eqvAll, eqvAll_cls, Bool.and_true]
  by_cases h : n = m <;> simp [h]
theorem okds_ints (n : Nat) : ∀ a : List Int, D.okds n (a.map .int) = true
  | [] => by simp [D.okds]
  | x :: a => by simp [D.okds, D.okd, okds_ints n a]
@[simp] theorem okd_int (n : Nat) (i : Int) : D.okd n (.int i) = true := by simp [D.okd]
@[simp] theorem okd_cl (n : Nat) (a : List Int) : D.okd (n + 1) (cl a) = true := by simp [D.okd, okds_ints]
@[simp] theorem okd_li (n : Nat) (a : List Int) : D.okd (n + 1) (li a) = true := by simp [D.okd, okds_ints]
theorem okds_cls (n : Nat) : ∀ a : List (List Int), D.okds (n + 1) (a.map cl) = true
  | [] => by simp [D.okds]
  | x :: a => by simp [D.okds, okds_cls n a]
@[simp] theorem okd_bu (n : Nat) (i : Int) (a : List (List Int)) : D.okd (n + 3) (bu i a) = true := by simp [D.okd, D.okds, okds_cls]
theorem inL_int (x : Int) (a : List Int) : inL (.int x) (a.map .int) = decide (x ∈ a) := by
  unfold inL
  induction a with
  | nil => simp
  | cons y a ih =>
    rw [List.map_cons, List.any_cons, ih, eq_int]
    by_cases h : y = x
    · simp [h]
    · have h' : ¬ x = y := fun z => h z.symm
      simp [h, h']
@[simp] theorem inD_cl (x : Int) (a : List Int) : inD (.int x) (cl a) = some (.bl (decide (x ∈ a))) := by simp [inD, seqD, okds_ints, inL_int]
@[simp] theorem inD_li (x : Int) (a : List Int) : inD (.int x) (li a) = some (.bl (decide (x ∈ a))) := by simp [inD, seqD, okds_ints, inL_int]
@[simp] theorem notInD_cl (x : Int) (a : List Int) : notInD (.int x) (cl a) = some (.bl (!decide (x ∈ a))) := by simp [notInD, seqD, okds_ints, inL_int]
@[simp] theorem notInD_li (x : Int) (a : List Int) : notInD (.int x) (li a) = some (.bl (!decide (x ∈ a))) := by simp [notInD, seqD, okds_ints, inL_int]
theorem bools_map (p : α → Bool) : ∀ l : List α, bools (l.map fun x => .bl (p x)) = some (l.map p)
  | [] => rfl
  | x :: l => by simp [bools, bools_map p l]
theorem filter_map_comm {α β : Type} (f : α → β) (p : β → Bool) (l : List α) : (l.map f).filter p = (l.filter fun x => p (f x)).map f := by
  induction l with
  | nil => rfl
  | cons x l ih => simp only [List.map_cons, List.filter_cons, ih]; split <;> simp
end G
end L2
end GP1_
section GP2_
set_option Elab.async false
set_option linter.all false
set_option maxRecDepth 100000
set_option maxHeartbeats 1000000
namespace L2
namespace G
open PySem PySem.Spec PyProof.Rows
/-! ### rows of ints in order -/
def ltI : List Int → List Int → Bool
  | [], [] => false
  | [], _ :: _ => true
  | _ :: _, [] => false
  | x :: a, y :: b => decide (x < y) || (!decide (y < x) && ltI a b)
theorem toks_lt : ∀ a b : List Int, PyProof.Rows.lexLt itemOrd (PySem.W.keyToksAll (D.pys (a.map .int))) (PySem.W.keyToksAll (D.pys (b.map .int))) = ltI a b
  | [], [] => rfl
  | [], _ :: _ => rfl
  | _ :: _, [] => rfl
  | x :: a, y :: b => by
    have ih := toks_lt a b
    simp only [List.map_cons, D.pys, PySem.W.keyToksAll, D.py, PySem.W.keyToks, List.singleton_append]
    rw [lex_cons, lex_cons, ih]
    show (decide ((1 : Int) < 1) || (!decide ((1 : Int) < 1) && (decide (x < y) || (!decide (y < x) && ltI a b)))) = _
    simp [ltI]
theorem leD_cl (a b : List Int) : leD' (cl a) (cl b) = !ltI b a := by
  show (!PyProof.Rows.lexLt itemOrd (PySem.W.keyToksAll (D.pys (b.map .int))) (PySem.W.keyToksAll (D.pys (a.map .int)))) = _
  rw [toks_lt]
theorem lexGe_eq : ∀ a b : List Int, lexGe a b = !ltI a b
  | [], [] => rfl
  | [], _ :: _ => rfl
  | _ :: _, [] => rfl
  | x :: a, y :: b => by
    unfold lexGe ltI
    rw [lexGe_eq a b]
    by_cases h : x = y
    · subst h; simp
    · rw [if_neg h]
      by_cases l : x < y
      · have : ¬ y ≤ x := by omega
        simp [l, this]
      · have l2 : y < x := by omega
        have : y ≤ x := by omega
        simp [l, l2, this]
def leI (a b : List Int) : Bool := !ltI b a
theorem ltI_irrefl : ∀ a : List Int, ltI a a = false
  | [] => rfl
  | x :: a => by simp [ltI, ltI_irrefl a]
theorem ltI_trans : ∀ a b c : List Int, ltI a b = true → ltI b c = true → ltI a c = true
  | [], [], c, h, _ => by cases h
  | [], _ :: _, [], _, h => by cases h
  | [], _ :: _, _ :: _, _, _ => rfl
  | _ :: _, [], _, h, _ => by cases h
  | _ :: _, _ :: _, [], _, h => by cases h
  | x :: a, y :: b, z :: c, h1, h2 => by
    have ih := ltI_trans a b c
    simp only [ltI, Bool.or_eq_true, Bool.and_eq_true, decide_eq_true_eq, Bool.not_eq_true', decide_eq_false_iff_not] at h1 h2 ⊢
    rcases h1 with h1 | ⟨h1, h1'⟩ <;> rcases h2 with h2 | ⟨h2, h2'⟩
    · exact .inl (by omega)
    · exact .inl (by omega)
    · exact .inl (by omega)
    · by_cases l : x < z
      · exact .inl l
      · exact .inr ⟨by omega, ih h1' h2'⟩
theorem ltI_tri : ∀ a b : List Int, ltI a b = false → ltI b a = false → a = b
  | [], [], _, _ => rfl
  | [], _ :: _, h, _ => by cases h
  | _ :: _, [], _, h => by cases h
  | x :: a, y :: b, h1, h2 => by
    simp only [ltI, Bool.or_eq_false_iff, decide_eq_false_iff_not] at h1 h2
    have e : x = y := by omega
    subst e
    have := ltI_tri a b (by simpa using h1.2) (by simpa using h2.2)
    rw [this]
theorem ltI_asymm {a b : List Int} (h : ltI a b = true) : ltI b a = false := by
  cases q : ltI b a with
  | false => rfl
  | true => have := ltI_trans a b a h q; rw [ltI_irrefl] at this; cases this
theorem leI_trans (a b c : List Int) (h1 : leI a b = true) (h2 : leI b c = true) : leI a c = true := by
  unfold leI at *
  simp only [Bool.not_eq_true'] at *
  cases q : ltI c a with
  | false => rfl
  | true =>
    -- c < a; b ≤ c, a ≤ b
    cases l : ltI b c with
    | true => have := ltI_trans b c a l q; rw [h1] at this; cases this
    | false =>
      have e := ltI_tri b c l h2
      subst e
      rw [q] at h1; cases h1
theorem leI_total (a b : List Int) : (leI a b || leI b a) = true := by
  unfold leI
  cases h : ltI b a with
  | false => rfl
  | true => simp [ltI_asymm h]
theorem sort_cls (l : List (List Int)) : (l.map cl).mergeSort leD' = (l.mergeSort leI).map cl := by
  rw [List.map_mergeSort (r := leI) (s := leD')]
  intro a _ b _
  rw [leD_cl]; rfl
theorem sortL_cls (l : List (List Int)) : sortL (l.map cl) = some ((l.mergeSort leI).map cl) := by
  unfold sortL
  have h1 : (shapes.any fun sh => (l.map cl).all (D.is sh)) = true := by
    refine List.any_eq_true.mpr ⟨.t .i, by simp [shapes], ?_⟩
    rw [List.all_eq_true]
    intro d hd
    obtain ⟨c, _, rfl⟩ := List.mem_map.mp hd
    simp only [cl, D.is]
    rw [List.all_eq_true]
    intro e he
    obtain ⟨x, _, rfl⟩ := List.mem_map.mp he
    rfl
  rw [h1, okds_cls, sort_cls]
  rfl
/-- sorted, and none twice -/
theorem sorted_strict {l : List (List Int)} (nd : l.Nodup) : (l.mergeSort leI).Pairwise fun a b => ltI a b = true := by
  have h1 := List.pairwise_mergeSort leI_trans leI_total l
  have h2 : (l.mergeSort leI).Nodup := (List.mergeSort_perm l leI).nodup_iff.mpr nd
  have := h1.and h2
  refine this.imp fun {a b} h => ?_
  cases q : ltI a b with
  | true => rfl
  | false =>
    have : ltI b a = false := by have := h.1; unfold leI at this; simpa using this
    exact absurd (ltI_tri a b q this) h.2
end G
end L2
end GP2_
section W_k09_
set_option Elab.async false
set_option linter.all false
set_option maxRecDepth 100000
set_option maxHeartbeats 0
namespace L2
namespace G
namespace K09
open PySem PySem.Spec PyProof.Rows
def top (i : Nat) : Stmt := PySem.Challenge.pw_idleclauses_k09_whole_readings.main.body.getD i (.Pass ⟨0, 0, 0, 0⟩)

/-! ### law_begin -/
def d_law_begin : SD :=
    (S.begin (E.ifx (T.val (E.op2 neD (E.var 0) (E.lst A.nil))) (E.blt listD (A.cons (E.var 0) A.nil)) (E.lst (A.cons (E.cst (.int 0)) A.nil))) (E.alloc (E.comp (I.own 1) [2] (Gt.name 2) T.yes (E.ifx (T.val (E.op2 geD2 (E.var 2) (E.op2 powD (E.cst (.int 10)) (E.cst (.int 18))))) (E.var 2) (E.cst (.int 0))))))
def φ_law_begin : List D → M D := fnD 3 d_law_begin
theorem sc_law_begin : FnScope ["script", "cells", "cell"] ["script"] (defScope (top 39)) := ⟨rfl, rfl, rfl, by decide +kernel, rfl, by decide +kernel, by decide +kernel⟩
theorem fc_law_begin {P : Program} {w : World} {K : PySem.W.Frag} {mg : Str → Option Value} {base : Heap} (F : Fnc1 K mg "_law_begin" (top 39)) (m_list : mg "list" = none) : Fc P w K mg base "_law_begin" 1 1 φ_law_begin := by
  refine Fnc1.fc F sc_law_begin (O := [1]) (by decide) (k := 0) (fun cdv A outer s H E Z hcdv hr tk => ?_) (fun _ _ _ _ _ _ us hl => match us, hl with | [_], _ => rfl)
  have nd := sc_law_begin.nd
  exact (dss_begin nd rfl (Or.inl rfl) (by first | exact Or.inl rfl | exact Or.inr (Or.inl rfl) | exact Or.inr (Or.inr rfl)) (dn_ifx (dt_cmp (o_ne (r65 hr)) (DE.du (de_var 0)) (DN.du (dn_lst da_nil (Len.ok len_nil))) rfl) (dn_bltT b_list rfl m_list (by rfl) (dau_cons (DE.du (de_var 0)) dau_nil)) (dn_lst (da_cons (DN.de dn_int) da_nil) (Len.ok (len_cons len_nil)))) (de_alloc (dn_comp (own := [("cell", 2)]) rfl nd (dic_own 1 (by decide) rfl (by first | exact Or.inl rfl | exact Or.inr (Or.inl rfl) | exact Or.inr (Or.inr rfl))) (blkOk_by (by rfl)) (by decide) (fun _ _ _ _ _ => (dg_name 2 (by decide) (by decide) nd rfl (by first | exact Or.inl rfl | exact Or.inr rfl))) (fun _ _ _ _ _ => dts_nil) (fun _ _ _ _ _ => (de_ifx (dt_cmp (o_ge2 (r0 hr)) (DE.du (de_var 2)) (DE.du (de_bin o_pow (DN.du dn_int) (DN.du dn_int))) rfl) (de_var 2) (DN.de dn_int))))))
/-! ### lots_of -/
def d_lots_of : SD :=
    (S.seq (S.set 1 (E.lst (A.cons (E.tup A.nil) A.nil)))
    (S.seq (S.for_ (I.range rng2 (A.cons (E.cst (.int 1)) (A.cons (E.op2 addD (E.var 0) (E.cst (.int 1))) A.nil))) (Gt.name 2)
    (S.seq (S.set 1 (E.op2 addD (E.var 1) (E.comp (I.seq (E.var 1)) [3] (Gt.name 3) T.yes (E.tup (A.star (E.var 3) (A.cons (E.var 2) A.nil))))))
    S.nil))
    (S.seq (S.ret (E.blt sortedD3 (A.cons (E.var 1) A.nil)))
    S.nil)))
def φ_lots_of : List D → M D := fnD 4 d_lots_of
theorem sc_lots_of : FnScope ["names", "found", "name", "lot"] ["names"] (defScope (top 24)) := ⟨rfl, rfl, rfl, by decide +kernel, rfl, by decide +kernel, by decide +kernel⟩
theorem fc_lots_of {P : Program} {w : World} {K : PySem.W.Frag} {mg : Str → Option Value} {base : Heap} (F : Fnc1 K mg "lots_of" (top 24)) (m_range : mg "range" = none) (m_sorted : mg "sorted" = none) : Fc P w K mg base "lots_of" 1 1 φ_lots_of := by
  refine Fnc1.fc F sc_lots_of (O := []) (by decide) (k := 0) (fun cdv A outer s H E Z hcdv hr tk => ?_) (fun _ _ _ _ _ _ us hl => match us, hl with | [_], _ => rfl)
  have nd := sc_lots_of.nd
  exact (dss_cons (ds_set 1 (by decide) nd rfl (Or.inl rfl) (DN.de (dn_lst (da_cons (de_tup da_nil (Len.ok len_nil)) da_nil) (Len.ok (len_cons len_nil)))))
    (dss_cons (ds_for (vs := [2]) (passes_of rfl) rfl (di_range2 rfl m_range (dau_cons (DN.du dn_int) (dau_cons (DE.du (de_bin o_add (DE.du (de_var 0)) (DN.du dn_int))) dau_nil))) (dg_name 2 (by decide) (by decide) nd rfl (by first | exact Or.inl rfl | exact Or.inr rfl))
    (dss_cons (ds_set 1 (by decide) nd rfl (Or.inl rfl) (de_bin o_add (DE.du (de_var 1)) (DN.du (dn_comp (own := [("lot", 3)]) rfl nd (DI.c (di_seq (de_var 1))) (blkOk_by (by rfl)) (by decide) (fun _ _ _ _ _ => (dg_name 3 (by decide) (by decide) nd rfl (by first | exact Or.inl rfl | exact Or.inr rfl))) (fun _ _ _ _ _ => dts_nil) (fun _ _ _ _ _ => (de_tup (da_star (DE.du (de_var 3)) (da_cons (de_var 2) da_nil)) (Len.ok len_star)))))))
    dss_nil))
    (dss_cons (ds_ret (DN.de (dn_bltB (b_sorted3 rfl (r65 hr)) rfl m_sorted (by rfl) (dau_cons (DE.du (de_var 1)) dau_nil))))
    dss_nil)))
/-! ### is_up -/
def d_is_up : SD :=
    (S.seq (S.ret (E.op2 neD (E.op2 gtD (E.var 1) (E.cst (.int 0))) (E.op2 inD (E.blt absD (A.cons (E.var 1) A.nil)) (E.var 0))))
    S.nil)
def φ_is_up : List D → M D := fnD 2 d_is_up
theorem sc_is_up : FnScope ["lot", "literal"] ["lot", "literal"] (defScope (top 20)) := ⟨rfl, rfl, rfl, by decide +kernel, rfl, by decide +kernel, by decide +kernel⟩
theorem fc_is_up {P : Program} {w : World} {K : PySem.W.Frag} {mg : Str → Option Value} {base : Heap} (F : Fnc1 K mg "is_up" (top 20)) (m_abs : mg "abs" = none) : Fc P w K mg base "is_up" 2 1 φ_is_up := by
  refine Fnc1.fc F sc_is_up (O := []) (by decide) (k := 0) (fun cdv A outer s H E Z hcdv hr tk => ?_) (fun _ _ _ _ _ _ us hl => match us, hl with | [_, _], _ => rfl)
  have nd := sc_is_up.nd
  exact (dss_cons (ds_ret (de_cmp (o_ne (r65 hr)) (DE.du (de_cmp o_gt (DE.du (de_var 1)) (DN.du dn_int) rfl)) (DE.du (de_cmp (o_in (r65 hr)) (DE.du (de_bltB b_abs rfl m_abs (by rfl) (dau_cons (DE.du (de_var 1)) dau_nil))) (DE.du (de_var 0)) rfl)) rfl))
    dss_nil)
/-! ### crowded_in -/
def d_crowded_in : SD :=
    (S.seq (S.ret (E.blt lenD (A.cons (E.comp (I.seq (E.ix (E.var 0) (E.cst (.int 1)))) [2] (Gt.name 2) (T.val (E.op2 gtD (E.blt lenD (A.cons (E.comp (I.seq (E.var 2)) [3] (Gt.name 3) (T.val (E.app φ_is_up (A.cons (E.var 1) (A.cons (E.var 3) A.nil)))) (E.var 3)) A.nil)) (E.cst (.int 1)))) (E.var 2)) A.nil)))
    S.nil)
def φ_crowded_in : List D → M D := fnD 4 d_crowded_in
theorem sc_crowded_in : FnScope ["bundle", "lot", "clause", "one"] ["bundle", "lot"] (defScope (top 22)) := ⟨rfl, rfl, rfl, by decide +kernel, rfl, by decide +kernel, by decide +kernel⟩
theorem fc_crowded_in {P : Program} {w : World} {K : PySem.W.Frag} {mg : Str → Option Value} {base : Heap} (F : Fnc1 K mg "crowded_in" (top 22)) (m_len : mg "len" = none) (F_is_up : Fc P w K mg base "is_up" 2 1 φ_is_up) : Fc P w K mg base "crowded_in" 2 2 φ_crowded_in := by
  refine Fnc1.fc F sc_crowded_in (O := []) (by decide) (k := 1) (fun cdv A outer s H E Z hcdv hr tk => ?_) (fun _ _ _ _ _ _ us hl => match us, hl with | [_, _], _ => rfl)
  have nd := sc_crowded_in.nd
  exact (dss_cons (ds_ret (de_bltB b_len rfl m_len (by rfl) (dau_cons (DN.du (dn_comp (own := [("clause", 2)]) rfl nd (DI.c (di_seq (de_ix (DE.du (de_var 0)) (DN.du dn_int)))) (blkOk_by (by rfl)) (by decide) (fun _ _ _ _ _ => (dg_name 2 (by decide) (by decide) nd rfl (by first | exact Or.inl rfl | exact Or.inr rfl))) (fun _ _ _ _ _ => (dts_one (dt_cmp o_gt (DE.du (de_bltB b_len rfl m_len (by rfl) (dau_cons (DN.du (dn_comp (own := [("one", 3)]) rfl nd (DI.c (di_seq (de_var 2))) (blkOk_by (by rfl)) (by decide) (fun _ _ _ _ _ => (dg_name 3 (by decide) (by decide) nd rfl (by first | exact Or.inl rfl | exact Or.inr rfl))) (fun _ _ _ _ _ => (dts_one (dt_val (de_app (Fc.dn F_is_up) (hr.mono (by decide)) rfl (da_cons (de_var 1) (da_cons (de_var 3) da_nil)) (alen_cons (alen_cons alen_nil)))))) (fun _ _ _ _ _ => (de_var 3)))) dau_nil))) (DN.du dn_int) rfl))) (fun _ _ _ _ _ => (de_var 2)))) dau_nil)))
    dss_nil)
/-! ### plain_in -/
def d_plain_in : SD :=
    (S.seq (S.ret (E.comp (I.seq (E.app φ_lots_of (A.cons (E.ix (E.var 0) (E.cst (.int 0))) A.nil))) [1] (Gt.name 1) (T.val (E.op2 eqD (E.app φ_crowded_in (A.cons (E.var 0) (A.cons (E.var 1) A.nil))) (E.cst (.int 0)))) (E.var 1)))
    S.nil)
def φ_plain_in : List D → M D := fnD 2 d_plain_in
theorem sc_plain_in : FnScope ["bundle", "lot"] ["bundle"] (defScope (top 25)) := ⟨rfl, rfl, rfl, by decide +kernel, rfl, by decide +kernel, by decide +kernel⟩
theorem fc_plain_in {P : Program} {w : World} {K : PySem.W.Frag} {mg : Str → Option Value} {base : Heap} (F : Fnc1 K mg "plain_in" (top 25)) (F_lots_of : Fc P w K mg base "lots_of" 1 1 φ_lots_of) (F_crowded_in : Fc P w K mg base "crowded_in" 2 2 φ_crowded_in) : Fc P w K mg base "plain_in" 1 3 φ_plain_in := by
  refine Fnc1.fc F sc_plain_in (O := []) (by decide) (k := 2) (fun cdv A outer s H E Z hcdv hr tk => ?_) (fun _ _ _ _ _ _ us hl => match us, hl with | [_], _ => rfl)
  have nd := sc_plain_in.nd
  exact (dss_cons (ds_ret (DN.de (dn_comp (own := [("lot", 1)]) rfl nd (DI.c (di_seq (de_app (Fc.dn F_lots_of) (hr.mono (by decide)) rfl (da_cons (de_ix (DE.du (de_var 0)) (DN.du dn_int)) da_nil) (alen_cons alen_nil)))) (blkOk_by (by rfl)) (by decide) (fun _ _ _ _ _ => (dg_name 1 (by decide) (by decide) nd rfl (by first | exact Or.inl rfl | exact Or.inr rfl))) (fun _ _ _ _ _ => (dts_one (dt_cmp (o_eq (r65 hr)) (DE.du (de_app (Fc.dn F_crowded_in) (hr.mono (by decide)) rfl (da_cons (de_var 0) (da_cons (de_var 1) da_nil)) (alen_cons (alen_cons alen_nil)))) (DN.du dn_int) rfl))) (fun _ _ _ _ _ => (de_var 1)))))
    dss_nil)
/-! ### is_integer -/
def d_is_integer : SD :=
    (S.seq (S.ret (E.and (E.op1 isInt (E.var 0)) (E.not (E.op1 isBool (E.var 0)))))
    S.nil)
def φ_is_integer : List D → M D := fnD 1 d_is_integer
theorem sc_is_integer : FnScope ["thing"] ["thing"] (defScope (top 1)) := ⟨rfl, rfl, rfl, by decide +kernel, rfl, by decide +kernel, by decide +kernel⟩
theorem fc_is_integer {P : Program} {w : World} {K : PySem.W.Frag} {mg : Str → Option Value} {base : Heap} (F : Fnc1 K mg "is_integer" (top 1)) (m_bool : mg "bool" = none) (m_int : mg "int" = none) (m_isinstance : mg "isinstance" = none) : Fc P w K mg base "is_integer" 1 1 φ_is_integer := by
  refine Fnc1.fc F sc_is_integer (O := []) (by decide) (k := 0) (fun cdv A outer s H E Z hcdv hr tk => ?_) (fun _ _ _ _ _ _ us hl => match us, hl with | [_], _ => rfl)
  have nd := sc_is_integer.nd
  exact (dss_cons (ds_ret (de_and (de_isi isi_int rfl m_isinstance rfl m_int (by rfl) (DE.du (de_var 0))) (de_one (de_not (de_isi isi_bool rfl m_isinstance rfl m_bool (by rfl) (DE.du (de_var 0)))))))
    dss_nil)
/-! ### is_between -/
def d_is_between : SD :=
    (S.seq (S.ret (E.and (E.app φ_is_integer (A.cons (E.var 0) A.nil)) (E.chain leD leD (E.var 1) (E.var 0) (E.var 2))))
    S.nil)
def φ_is_between : List D → M D := fnD 3 d_is_between
theorem sc_is_between : FnScope ["thing", "least", "most"] ["thing", "least", "most"] (defScope (top 2)) := ⟨rfl, rfl, rfl, by decide +kernel, rfl, by decide +kernel, by decide +kernel⟩
theorem fc_is_between {P : Program} {w : World} {K : PySem.W.Frag} {mg : Str → Option Value} {base : Heap} (F : Fnc1 K mg "is_between" (top 2)) (F_is_integer : Fc P w K mg base "is_integer" 1 1 φ_is_integer) : Fc P w K mg base "is_between" 3 2 φ_is_between := by
  refine Fnc1.fc F sc_is_between (O := []) (by decide) (k := 1) (fun cdv A outer s H E Z hcdv hr tk => ?_) (fun _ _ _ _ _ _ us hl => match us, hl with | [_, _, _], _ => rfl)
  have nd := sc_is_between.nd
  exact (dss_cons (ds_ret (de_and (de_app (Fc.dn F_is_integer) (hr.mono (by decide)) rfl (da_cons (de_var 0) da_nil) (alen_cons alen_nil)) (de_one (de_chain o_le o_le (DE.du (de_var 1)) (DE.du (de_var 0)) (DE.du (de_var 2))))))
    dss_nil)
/-! ### are_rising -/
def d_are_rising : SD :=
    (S.seq (S.ret (E.blt allD (A.cons (E.comp (I.on zp (A.cons (E.var 0) (A.cons (E.slice (E.var 0) (E.oSome (E.cst (.int 1))) E.oNone) A.nil))) [1, 2] (Gt.tup 2 (Gt.cons (Gt.name 1) (Gt.cons (Gt.name 2) Gt.nil))) T.yes (E.op2 ltD (E.var 1) (E.var 2))) A.nil)))
    S.nil)
def φ_are_rising : List D → M D := fnD 3 d_are_rising
theorem sc_are_rising : FnScope ["some", "one", "other"] ["some"] (defScope (top 3)) := ⟨rfl, rfl, rfl, by decide +kernel, rfl, by decide +kernel, by decide +kernel⟩
theorem fc_are_rising {P : Program} {w : World} {K : PySem.W.Frag} {mg : Str → Option Value} {base : Heap} (F : Fnc1 K mg "are_rising" (top 3)) (m_all : mg "all" = none) (m_zip : mg "zip" = none) : Fc P w K mg base "are_rising" 1 1 φ_are_rising := by
  refine Fnc1.fc F sc_are_rising (O := []) (by decide) (k := 0) (fun cdv A outer s H E Z hcdv hr tk => ?_) (fun _ _ _ _ _ _ us hl => match us, hl with | [_], _ => rfl)
  have nd := sc_are_rising.nd
  exact (dss_cons (ds_ret (de_bltB (b_all rfl) rfl m_all (by rfl) (dau_cons (DN.du (dn_comp (own := [("one", 1), ("other", 2)]) rfl nd (DI.c (di_zip rfl m_zip (da_cons (de_var 0) (da_cons (de_slice (DE.du (de_var 0)) (do_some (DN.du dn_int)) do_none) da_nil)))) (blkOk_by (by rfl)) (by decide) (fun _ _ _ _ _ => (dg_tup rfl (dgs_cons (dg_name 1 (by decide) (by decide) nd rfl (by first | exact Or.inl rfl | exact Or.inr rfl)) (dgs_cons (dg_name 2 (by decide) (by decide) nd rfl (by first | exact Or.inl rfl | exact Or.inr rfl)) dgs_nil)))) (fun _ _ _ _ _ => dts_nil) (fun _ _ _ _ _ => (de_cmp o_lt (DE.du (de_var 1)) (DE.du (de_var 2)) rfl)))) dau_nil)))
    dss_nil)
/-! ### is_literal -/
def d_is_literal : SD :=
    (S.seq (S.ret (E.and (E.app φ_is_integer (A.cons (E.var 1) A.nil)) (E.chain leD leD (E.cst (.int 1)) (E.blt absD (A.cons (E.var 1) A.nil)) (E.var 0))))
    S.nil)
def φ_is_literal : List D → M D := fnD 2 d_is_literal
theorem sc_is_literal : FnScope ["names", "thing"] ["names", "thing"] (defScope (top 4)) := ⟨rfl, rfl, rfl, by decide +kernel, rfl, by decide +kernel, by decide +kernel⟩
theorem fc_is_literal {P : Program} {w : World} {K : PySem.W.Frag} {mg : Str → Option Value} {base : Heap} (F : Fnc1 K mg "is_literal" (top 4)) (m_abs : mg "abs" = none) (F_is_integer : Fc P w K mg base "is_integer" 1 1 φ_is_integer) : Fc P w K mg base "is_literal" 2 2 φ_is_literal := by
  refine Fnc1.fc F sc_is_literal (O := []) (by decide) (k := 1) (fun cdv A outer s H E Z hcdv hr tk => ?_) (fun _ _ _ _ _ _ us hl => match us, hl with | [_, _], _ => rfl)
  have nd := sc_is_literal.nd
  exact (dss_cons (ds_ret (de_and (de_app (Fc.dn F_is_integer) (hr.mono (by decide)) rfl (da_cons (de_var 1) da_nil) (alen_cons alen_nil)) (de_one (de_chain o_le o_le (DN.du dn_int) (DE.du (de_bltB b_abs rfl m_abs (by rfl) (dau_cons (DE.du (de_var 1)) dau_nil))) (DE.du (de_var 0))))))
    dss_nil)
/-! ### is_clause -/
def d_is_clause : SD :=
    (S.seq (S.ite (T.or (T.not (T.val (E.op1 isTup (E.var 1)))) (T.not (T.val (E.blt allD (A.cons (E.comp (I.seq (E.var 1)) [2] (Gt.name 2) T.yes (E.app φ_is_literal (A.cons (E.var 0) (A.cons (E.var 2) A.nil)))) A.nil)))))
    (S.seq (S.ret (E.cst (.bl false)))
    S.nil)
    S.nil)
    (S.seq (S.ret (E.app φ_are_rising (A.cons (E.comp (I.seq (E.var 1)) [2] (Gt.name 2) T.yes (E.blt absD (A.cons (E.var 2) A.nil))) A.nil)))
    S.nil))
def φ_is_clause : List D → M D := fnD 3 d_is_clause
theorem sc_is_clause : FnScope ["names", "thing", "literal"] ["names", "thing"] (defScope (top 5)) := ⟨rfl, rfl, rfl, by decide +kernel, rfl, by decide +kernel, by decide +kernel⟩
theorem fc_is_clause {P : Program} {w : World} {K : PySem.W.Frag} {mg : Str → Option Value} {base : Heap} (F : Fnc1 K mg "is_clause" (top 5)) (m_abs : mg "abs" = none) (m_all : mg "all" = none) (m_isinstance : mg "isinstance" = none) (m_tuple : mg "tuple" = none) (F_are_rising : Fc P w K mg base "are_rising" 1 1 φ_are_rising) (F_is_literal : Fc P w K mg base "is_literal" 2 2 φ_is_literal) : Fc P w K mg base "is_clause" 2 3 φ_is_clause := by
  refine Fnc1.fc F sc_is_clause (O := []) (by decide) (k := 2) (fun cdv A outer s H E Z hcdv hr tk => ?_) (fun _ _ _ _ _ _ us hl => match us, hl with | [_, _], _ => rfl)
  have nd := sc_is_clause.nd
  exact (dss_cons (ds_if (dt_w (dw_or (dt_not (dt_val (de_isi isi_tuple rfl m_isinstance rfl m_tuple (by rfl) (DE.du (de_var 1))))) (dw_or1 (dt_not (dt_val (de_bltB (b_all rfl) rfl m_all (by rfl) (dau_cons (DN.du (dn_comp (own := [("literal", 2)]) rfl nd (DI.c (di_seq (de_var 1))) (blkOk_by (by rfl)) (by decide) (fun _ _ _ _ _ => (dg_name 2 (by decide) (by decide) nd rfl (by first | exact Or.inl rfl | exact Or.inr rfl))) (fun _ _ _ _ _ => dts_nil) (fun _ _ _ _ _ => (de_app (Fc.dn F_is_literal) (hr.mono (by decide)) rfl (da_cons (de_var 0) (da_cons (de_var 2) da_nil)) (alen_cons (alen_cons alen_nil)))))) dau_nil)))))))
    (dss_cons (ds_ret (DN.de dn_bl))
    dss_nil)
    dss_nil)
    (dss_cons (ds_ret (de_app (Fc.dn F_are_rising) (hr.mono (by decide)) rfl (da_cons (DN.de (dn_comp (own := [("literal", 2)]) rfl nd (DI.c (di_seq (de_var 1))) (blkOk_by (by rfl)) (by decide) (fun _ _ _ _ _ => (dg_name 2 (by decide) (by decide) nd rfl (by first | exact Or.inl rfl | exact Or.inr rfl))) (fun _ _ _ _ _ => dts_nil) (fun _ _ _ _ _ => (de_bltB b_abs rfl m_abs (by rfl) (dau_cons (DE.du (de_var 2)) dau_nil))))) da_nil) (alen_cons alen_nil)))
    dss_nil))
/-! ### need_bundle -/
def d_need_bundle : SD :=
    (S.seq (S.ite (T.or (T.not (T.val (E.op1 isTup (E.var 0)))) (T.val (E.op2 neD (E.blt lenD (A.cons (E.var 0) A.nil)) (E.cst (.int 2)))))
    (S.seq S.bad
    S.nil)
    S.nil)
    (S.seq (S.asg (E.var 0) (Gt.tup 2 (Gt.cons (Gt.name 1) (Gt.cons (Gt.name 2) Gt.nil))))
    (S.seq (S.ite (T.not (T.val (E.app φ_is_between (A.cons (E.var 1) (A.cons (E.cst (.int 1)) (A.cons (E.cst (.int 7)) A.nil))))))
    (S.seq S.bad
    S.nil)
    S.nil)
    (S.seq (S.ite (T.or (T.not (T.val (E.op1 isTup (E.var 2)))) (T.val (E.op2 gtD (E.blt lenD (A.cons (E.var 2) A.nil)) (E.cst (.int 16)))))
    (S.seq S.bad
    S.nil)
    S.nil)
    (S.seq (S.for_ (I.on enm (A.cons (E.var 2) A.nil)) (Gt.tup 2 (Gt.cons (Gt.name 3) (Gt.cons (Gt.name 4) Gt.nil)))
    (S.seq (S.ite (T.or (T.not (T.val (E.app φ_is_clause (A.cons (E.var 1) (A.cons (E.var 4) A.nil))))) (T.and (T.val (E.op2 gtD (E.var 3) (E.cst (.int 0)))) (T.val (E.op2 geD2 (E.ix (E.var 2) (E.op2 subD (E.var 3) (E.cst (.int 1)))) (E.var 4)))))
    (S.seq S.bad
    S.nil)
    S.nil)
    S.nil))
    (S.seq (S.ret (E.var 0))
    S.nil))))))
def φ_need_bundle : List D → M D := fnD 5 d_need_bundle
theorem sc_need_bundle : FnScope ["thing", "names", "clauses", "number", "clause"] ["thing"] (defScope (top 15)) := ⟨rfl, rfl, rfl, by decide +kernel, rfl, by decide +kernel, by decide +kernel⟩
theorem fc_need_bundle {P : Program} {w : World} {K : PySem.W.Frag} {mg : Str → Option Value} {base : Heap} (F : Fnc1 K mg "need_bundle" (top 15)) (m_enumerate : mg "enumerate" = none) (m_isinstance : mg "isinstance" = none) (m_len : mg "len" = none) (m_tuple : mg "tuple" = none) (g_MOST_CLAUSES : ∃ t, mg "MOST_CLAUSES" = some (.int 16 t)) (g_MOST_NAMES : ∃ t, mg "MOST_NAMES" = some (.int 7 t)) (F_is_clause : Fc P w K mg base "is_clause" 2 3 φ_is_clause) (F_is_between : Fc P w K mg base "is_between" 3 2 φ_is_between) : Fc P w K mg base "need_bundle" 1 4 φ_need_bundle := by
  refine Fnc1.fc F sc_need_bundle (O := []) (by decide) (k := 3) (fun cdv A outer s H E Z hcdv hr tk => ?_) (fun _ _ _ _ _ _ us hl => match us, hl with | [_], _ => rfl)
  have nd := sc_need_bundle.nd
  exact (dss_cons (ds_if (dt_w (dw_or (dt_not (dt_val (de_isi isi_tuple rfl m_isinstance rfl m_tuple (by rfl) (DE.du (de_var 0))))) (dw_or1 (dt_cmp (o_ne (r65 hr)) (DE.du (de_bltB b_len rfl m_len (by rfl) (dau_cons (DE.du (de_var 0)) dau_nil))) (DN.du dn_int) rfl))))
    (dss_cons ds_bad
    dss_nil)
    dss_nil)
    (dss_cons (ds_asg (vs := [1, 2]) (de_var 0) (dg_tup rfl (dgs_cons (dg_name 1 (by decide) (by decide) nd rfl (by first | exact Or.inl rfl | exact Or.inr rfl)) (dgs_cons (dg_name 2 (by decide) (by decide) nd rfl (by first | exact Or.inl rfl | exact Or.inr rfl)) dgs_nil))))
    (dss_cons (ds_if (dt_not (dt_val (de_app (Fc.dn F_is_between) (hr.mono (by decide)) rfl (da_cons (de_var 1) (da_cons (DN.de dn_int) (da_cons (DN.de (dn_gI rfl g_MOST_NAMES)) da_nil))) (alen_cons (alen_cons (alen_cons alen_nil))))))
    (dss_cons ds_bad
    dss_nil)
    dss_nil)
    (dss_cons (ds_if (dt_w (dw_or (dt_not (dt_val (de_isi isi_tuple rfl m_isinstance rfl m_tuple (by rfl) (DE.du (de_var 2))))) (dw_or1 (dt_cmp o_gt (DE.du (de_bltB b_len rfl m_len (by rfl) (dau_cons (DE.du (de_var 2)) dau_nil))) (DN.du (dn_gI rfl g_MOST_CLAUSES)) rfl))))
    (dss_cons ds_bad
    dss_nil)
    dss_nil)
    (dss_cons (ds_for (vs := [3, 4]) (passes_of rfl) rfl (di_enum rfl m_enumerate (da_cons (de_var 2) da_nil)) (dg_tup rfl (dgs_cons (dg_name 3 (by decide) (by decide) nd rfl (by first | exact Or.inl rfl | exact Or.inr rfl)) (dgs_cons (dg_name 4 (by decide) (by decide) nd rfl (by first | exact Or.inl rfl | exact Or.inr rfl)) dgs_nil)))
    (dss_cons (ds_if (dt_w (dw_or (dt_not (dt_val (de_app (Fc.dn F_is_clause) (hr.mono (by decide)) rfl (da_cons (de_var 1) (da_cons (de_var 4) da_nil)) (alen_cons (alen_cons alen_nil))))) (dw_or1 (dt_w (dw_and (dt_cmp o_gt (DE.du (de_var 3)) (DN.du dn_int) rfl) (dw_and1 (dt_cmp (o_ge2 (r0 hr)) (DE.du (de_ix (DE.du (de_var 2)) (DE.du (de_bin o_sub (DE.du (de_var 3)) (DN.du dn_int))))) (DE.du (de_var 4)) rfl)))))))
    (dss_cons ds_bad
    dss_nil)
    dss_nil)
    dss_nil))
    (dss_cons (ds_ret (de_var 0))
    dss_nil))))))
/-! ### steps_from -/
def d_steps_from : SD :=
    (S.seq (S.set 2 (E.lst A.nil))
    (S.seq (S.for_ (I.on enm (A.cons (E.ix (E.var 0) (E.cst (.int 1))) A.nil)) (Gt.tup 2 (Gt.cons (Gt.name 3) (Gt.cons (Gt.name 4) Gt.nil)))
    (S.seq (S.ite (T.val (E.op2 inD (E.var 1) (E.var 4)))
    (S.seq (S.extend 2 (E.comp (I.seq (E.var 4)) [5] (Gt.name 5) (T.val (E.op2 neD (E.var 5) (E.var 1))) (E.tup (A.cons (E.var 3) (A.cons (E.op2 subD (E.cst (.int 0)) (E.var 5)) A.nil)))))
    S.nil)
    S.nil)
    S.nil))
    (S.seq (S.ret (E.var 2))
    S.nil)))
def φ_steps_from : List D → M D := fnD 6 d_steps_from
theorem sc_steps_from : FnScope ["bundle", "literal", "found", "number", "clause", "other"] ["bundle", "literal"] (defScope (top 29)) := ⟨rfl, rfl, rfl, by decide +kernel, rfl, by decide +kernel, by decide +kernel⟩
theorem fc_steps_from {P : Program} {w : World} {K : PySem.W.Frag} {mg : Str → Option Value} {base : Heap} (F : Fnc1 K mg "steps_from" (top 29)) (m_enumerate : mg "enumerate" = none) : Fc P w K mg base "steps_from" 2 1 φ_steps_from := by
  refine Fnc1.fc F sc_steps_from (O := [2]) (by decide) (k := 0) (fun cdv A outer s H E Z hcdv hr tk => ?_) (fun _ _ _ _ _ _ us hl => match us, hl with | [_, _], _ => rfl)
  have nd := sc_steps_from.nd
  exact (dss_cons (ds_setN 2 (by decide) nd rfl (Or.inl rfl) (dn_lst da_nil (Len.ok len_nil)))
    (dss_cons (ds_for (vs := [3, 4]) (passes_of rfl) rfl (di_enum rfl m_enumerate (da_cons (de_ix (DE.du (de_var 0)) (DN.du dn_int)) da_nil)) (dg_tup rfl (dgs_cons (dg_name 3 (by decide) (by decide) nd rfl (by first | exact Or.inl rfl | exact Or.inr rfl)) (dgs_cons (dg_name 4 (by decide) (by decide) nd rfl (by first | exact Or.inl rfl | exact Or.inr rfl)) dgs_nil)))
    (dss_cons (ds_if (dt_cmp (o_in (r65 hr)) (DE.du (de_var 1)) (DE.du (de_var 4)) rfl)
    (dss_cons (ds_extend 2 (by decide) rfl (by first | exact Or.inl rfl | exact Or.inr (Or.inl rfl) | exact Or.inr (Or.inr rfl)) (dn_comp (own := [("other", 5)]) rfl nd (DI.c (di_seq (de_var 4))) (blkOk_by (by rfl)) (by decide) (fun _ _ _ _ _ => (dg_name 5 (by decide) (by decide) nd rfl (by first | exact Or.inl rfl | exact Or.inr rfl))) (fun _ _ _ _ _ => (dts_one (dt_cmp (o_ne (r65 hr)) (DE.du (de_var 5)) (DE.du (de_var 1)) rfl))) (fun _ _ _ _ _ => (de_tup (da_cons (de_var 3) (da_cons (de_bin o_sub (DN.du dn_int) (DE.du (de_var 5))) da_nil)) (Len.ok (len_cons (len_cons len_nil)))))))
    dss_nil)
    dss_nil)
    dss_nil))
    (dss_cons (ds_retV 2)
    dss_nil)))
/-! ### way_to -/
def d_way_to : SD :=
    (S.seq (S.par 3 4 (E.disp1 (E.var 1) (E.lst A.nil)) (E.lst (A.cons (E.var 1) A.nil)))
    (S.seq (whileN (T.val (E.op2 neD (E.var 4) (E.lst A.nil)))
    (S.seq (S.set 5 (E.lst A.nil))
    (S.seq (S.for_ (I.seq (E.var 4)) (Gt.name 6)
    (S.seq (S.for_ (I.seq (E.app φ_steps_from (A.cons (E.var 0) (A.cons (E.var 6) A.nil)))) (Gt.tup 2 (Gt.cons (Gt.name 7) (Gt.cons (Gt.name 8) Gt.nil)))
    (S.seq (S.ite (T.val (E.op2 dnotInD (E.var 8) (E.var 3)))
    (S.seq (S.dput 3 (E.var 8) (E.lst (A.star (E.dix (E.var 3) (E.var 6)) (A.cons (E.tup (A.cons (E.var 6) (A.cons (E.var 7) A.nil))) A.nil))))
    (S.seq (S.append 5 (E.var 8))
    S.nil))
    S.nil)
    S.nil))
    S.nil))
    (S.seq (S.set 4 (E.blt listD (A.cons (E.var 5) A.nil)))
    S.nil))) 40)
    (S.seq (S.ret (E.dget1 (E.var 3) (E.var 2)))
    S.nil)))
def φ_way_to : List D → M D := fnD 9 d_way_to
theorem sc_way_to : FnScope ["bundle", "begin", "end", "known", "layer", "later", "literal", "number", "other"] ["bundle", "begin", "end"] (defScope (top 30)) := ⟨rfl, rfl, rfl, by decide +kernel, rfl, by decide +kernel, by decide +kernel⟩
theorem fc_way_to {P : Program} {w : World} {K : PySem.W.Frag} {mg : Str → Option Value} {base : Heap} (F : Fnc1 K mg "way_to" (top 30)) (m_list : mg "list" = none) (F_steps_from : Fc P w K mg base "steps_from" 2 1 φ_steps_from) : Fc P w K mg base "way_to" 3 2 φ_way_to := by
  refine Fnc1.fc F sc_way_to (O := [3, 5]) (by decide) (k := 1) (fun cdv A outer s H E Z hcdv hr tk => ?_) (fun _ _ _ _ _ _ us hl => match us, hl with | [_, _, _], _ => rfl)
  have nd := sc_way_to.nd
  exact (dss_cons (ds_parNE 3 4 (by decide) (by decide) rfl nd rfl rfl (by decide) rfl rfl (dn_disp1 (de_var 1) (DN.de (dn_lst da_nil (Len.ok len_nil)))) (DN.de (dn_lst (da_cons (de_var 1) da_nil) (Len.ok (len_cons len_nil)))) (by rfl))
    (dss_cons (ds_while 40 (passes_of rfl) (dt_cmp (o_ne (r65 hr)) (DE.du (de_var 4)) (DN.du (dn_lst da_nil (Len.ok len_nil))) rfl)
    (dss_cons (ds_setN 5 (by decide) nd rfl (Or.inl rfl) (dn_lst da_nil (Len.ok len_nil)))
    (dss_cons (ds_for (vs := [6]) (passes_of rfl) rfl (di_seq (de_var 4)) (dg_name 6 (by decide) (by decide) nd rfl (by first | exact Or.inl rfl | exact Or.inr rfl))
    (dss_cons (ds_for (vs := [7, 8]) (passes_of rfl) rfl (di_seq (de_app (Fc.dn F_steps_from) (hr.mono (by decide)) rfl (da_cons (de_var 0) (da_cons (de_var 6) da_nil)) (alen_cons (alen_cons alen_nil)))) (dg_tup rfl (dgs_cons (dg_name 7 (by decide) (by decide) nd rfl (by first | exact Or.inl rfl | exact Or.inr rfl)) (dgs_cons (dg_name 8 (by decide) (by decide) nd rfl (by first | exact Or.inl rfl | exact Or.inr rfl)) dgs_nil)))
    (dss_cons (ds_if (dt_cmp (o_dnotIn (r1 hr)) (DE.du (de_var 8)) (du_var 3) rfl)
    (dss_cons (ds_dput 3 (r1 hr) (by decide) rfl (by first | exact Or.inl rfl | exact Or.inr (Or.inl rfl) | exact Or.inr (Or.inr rfl)) (de_var 8) (DN.de (dn_lst (da_star (DE.du (de_dix (r1 hr) (du_var 3) (DE.du (de_var 6)))) (da_cons (de_tup (da_cons (de_var 6) (da_cons (de_var 7) da_nil)) (Len.ok (len_cons (len_cons len_nil)))) da_nil)) (Len.ok len_star))))
    (dss_cons (ds_append 5 (by decide) rfl (by first | exact Or.inl rfl | exact Or.inr (Or.inl rfl) | exact Or.inr (Or.inr rfl)) (de_var 8))
    dss_nil))
    dss_nil)
    dss_nil))
    dss_nil))
    (dss_cons (ds_set 4 (by decide) nd rfl (Or.inl rfl) (DN.de (dn_bltT b_list rfl m_list (by rfl) (dau_cons (du_var 5) dau_nil))))
    dss_nil))))
    (dss_cons (ds_ret (de_dget1 (r1 hr) (du_var 3) (DE.du (de_var 2))))
    dss_nil)))
/-! ### ring_in -/
def d_ring_in : SD :=
    (S.seq (S.for_ (I.range rng2 (A.cons (E.cst (.int 1)) (A.cons (E.op2 addD (E.ix (E.var 0) (E.cst (.int 0))) (E.cst (.int 1))) A.nil))) (Gt.name 1)
    (S.seq (S.par 2 3 (E.app φ_way_to (A.cons (E.var 0) (A.cons (E.var 1) (A.cons (E.op2 subD (E.cst (.int 0)) (E.var 1)) A.nil)))) (E.app φ_way_to (A.cons (E.var 0) (A.cons (E.op2 subD (E.cst (.int 0)) (E.var 1)) (A.cons (E.var 1) A.nil)))))
    (S.seq (S.ite (T.and (T.val (E.op2 isNotD2 (E.var 2) (E.cst .non))) (T.val (E.op2 isNotD2 (E.var 3) (E.cst .non))))
    (S.seq (S.ret (E.blt tupleD (A.cons (E.op2 addD (E.var 2) (E.var 3)) A.nil)))
    S.nil)
    S.nil)
    S.nil)))
    (S.seq (S.ret (E.cst .non))
    S.nil))
def φ_ring_in : List D → M D := fnD 4 d_ring_in
theorem sc_ring_in : FnScope ["bundle", "name", "there", "back"] ["bundle"] (defScope (top 31)) := ⟨rfl, rfl, rfl, by decide +kernel, rfl, by decide +kernel, by decide +kernel⟩
theorem fc_ring_in {P : Program} {w : World} {K : PySem.W.Frag} {mg : Str → Option Value} {base : Heap} (F : Fnc1 K mg "ring_in" (top 31)) (m_range : mg "range" = none) (m_tuple : mg "tuple" = none) (F_way_to : Fc P w K mg base "way_to" 3 2 φ_way_to) : Fc P w K mg base "ring_in" 1 3 φ_ring_in := by
  refine Fnc1.fc F sc_ring_in (O := []) (by decide) (k := 2) (fun cdv A outer s H E Z hcdv hr tk => ?_) (fun _ _ _ _ _ _ us hl => match us, hl with | [_], _ => rfl)
  have nd := sc_ring_in.nd
  exact (dss_cons (ds_for (vs := [1]) (passes_of rfl) rfl (di_range2 rfl m_range (dau_cons (DN.du dn_int) (dau_cons (DE.du (de_bin o_add (DE.du (de_ix (DE.du (de_var 0)) (DN.du dn_int))) (DN.du dn_int))) dau_nil))) (dg_name 1 (by decide) (by decide) nd rfl (by first | exact Or.inl rfl | exact Or.inr rfl))
    (dss_cons (ds_parEE 2 3 (by decide) (by decide) rfl nd rfl rfl (by decide) rfl rfl (de_app (Fc.dn F_way_to) (hr.mono (by decide)) rfl (da_cons (de_var 0) (da_cons (de_var 1) (da_cons (de_bin o_sub (DN.du dn_int) (DE.du (de_var 1))) da_nil))) (alen_cons (alen_cons (alen_cons alen_nil)))) (de_app (Fc.dn F_way_to) (hr.mono (by decide)) rfl (da_cons (de_var 0) (da_cons (de_bin o_sub (DN.du dn_int) (DE.du (de_var 1))) (da_cons (de_var 1) da_nil))) (alen_cons (alen_cons (alen_cons alen_nil)))) (by rfl))
    (dss_cons (ds_if (dt_w (dw_and (dt_cmp o_isNot2 (DE.du (de_var 2)) (DN.du dn_non) rfl) (dw_and1 (dt_cmp o_isNot2 (DE.du (de_var 3)) (DN.du dn_non) rfl))))
    (dss_cons (ds_ret (de_bltT b_tuple rfl m_tuple (by rfl) (dau_cons (DE.du (de_bin o_add (DE.du (de_var 2)) (DE.du (de_var 3)))) dau_nil)))
    dss_nil)
    dss_nil)
    dss_nil)))
    (dss_cons (ds_ret (DN.de dn_non))
    dss_nil))
/-! ### reading_paper -/
def d_reading_paper : SD :=
    (S.seq (S.set 1 (E.app φ_plain_in (A.cons (E.app φ_need_bundle (A.cons (E.var 0) A.nil)) A.nil)))
    (S.seq (S.ret (E.ifx (T.val (E.op2 neD (E.var 1) (E.lst A.nil))) (E.tup (A.cons (E.cst (.str "plain")) (A.cons (E.ix (E.var 1) (E.cst (.int 0))) A.nil))) (E.tup (A.cons (E.cst (.str "ring")) (A.cons (E.app φ_ring_in (A.cons (E.var 0) A.nil)) A.nil)))))
    S.nil))
def φ_reading_paper : List D → M D := fnD 2 d_reading_paper
theorem sc_reading_paper : FnScope ["bundle", "found"] ["bundle"] (defScope (top 32)) := ⟨rfl, rfl, rfl, by decide +kernel, rfl, by decide +kernel, by decide +kernel⟩
theorem fc_reading_paper {P : Program} {w : World} {K : PySem.W.Frag} {mg : Str → Option Value} {base : Heap} (F : Fnc1 K mg "reading_paper" (top 32)) (g_PLAIN : ∃ t, mg "PLAIN" = some (.str "plain" t)) (g_RING : ∃ t, mg "RING" = some (.str "ring" t)) (F_ring_in : Fc P w K mg base "ring_in" 1 3 φ_ring_in) (F_plain_in : Fc P w K mg base "plain_in" 1 3 φ_plain_in) (F_need_bundle : Fc P w K mg base "need_bundle" 1 4 φ_need_bundle) : Fc P w K mg base "reading_paper" 1 5 φ_reading_paper := by
  refine Fnc1.fc F sc_reading_paper (O := []) (by decide) (k := 4) (fun cdv A outer s H E Z hcdv hr tk => ?_) (fun _ _ _ _ _ _ us hl => match us, hl with | [_], _ => rfl)
  have nd := sc_reading_paper.nd
  exact (dss_cons (ds_set 1 (by decide) nd rfl (Or.inl rfl) (de_app (Fc.dn F_plain_in) (hr.mono (by decide)) rfl (da_cons (de_app (Fc.dn F_need_bundle) (hr.mono (by decide)) rfl (da_cons (de_var 0) da_nil) (alen_cons alen_nil)) da_nil) (alen_cons alen_nil)))
    (dss_cons (ds_ret (de_ifx (dt_cmp (o_ne (r65 hr)) (DE.du (de_var 1)) (DN.du (dn_lst da_nil (Len.ok len_nil))) rfl) (de_tup (da_cons (DN.de (dn_gS rfl g_PLAIN)) (da_cons (de_ix (DE.du (de_var 1)) (DN.du dn_int)) da_nil)) (Len.ok (len_cons (len_cons len_nil)))) (de_tup (da_cons (DN.de (dn_gS rfl g_RING)) (da_cons (de_app (Fc.dn F_ring_in) (hr.mono (by decide)) rfl (da_cons (de_var 0) da_nil) (alen_cons alen_nil)) da_nil)) (Len.ok (len_cons (len_cons len_nil))))))
    dss_nil))
/-! ### law_lots -/
def d_law_lots : SD :=
    (S.seq (S.set 1 (E.lst (A.cons (E.tup A.nil) A.nil)))
    (S.seq (S.for_ (I.range rng2 (A.cons (E.cst (.int 1)) (A.cons (E.op2 addD (E.var 0) (E.cst (.int 1))) A.nil))) (Gt.name 2)
    (S.seq (S.set 1 (E.op2 addD (E.var 1) (E.comp (I.seq (E.var 1)) [3] (Gt.name 3) T.yes (E.op2 addD (E.var 3) (E.tup (A.cons (E.var 2) A.nil))))))
    S.nil))
    (S.seq (S.ret (E.blt sortedD3 (A.cons (E.var 1) A.nil)))
    S.nil)))
def φ_law_lots : List D → M D := fnD 4 d_law_lots
theorem sc_law_lots : FnScope ["names", "rows", "name", "row"] ["names"] (defScope (top 43)) := ⟨rfl, rfl, rfl, by decide +kernel, rfl, by decide +kernel, by decide +kernel⟩
theorem fc_law_lots {P : Program} {w : World} {K : PySem.W.Frag} {mg : Str → Option Value} {base : Heap} (F : Fnc1 K mg "_law_lots" (top 43)) (m_range : mg "range" = none) (m_sorted : mg "sorted" = none) : Fc P w K mg base "_law_lots" 1 1 φ_law_lots := by
  refine Fnc1.fc F sc_law_lots (O := []) (by decide) (k := 0) (fun cdv A outer s H E Z hcdv hr tk => ?_) (fun _ _ _ _ _ _ us hl => match us, hl with | [_], _ => rfl)
  have nd := sc_law_lots.nd
  exact (dss_cons (ds_set 1 (by decide) nd rfl (Or.inl rfl) (DN.de (dn_lst (da_cons (de_tup da_nil (Len.ok len_nil)) da_nil) (Len.ok (len_cons len_nil)))))
    (dss_cons (ds_for (vs := [2]) (passes_of rfl) rfl (di_range2 rfl m_range (dau_cons (DN.du dn_int) (dau_cons (DE.du (de_bin o_add (DE.du (de_var 0)) (DN.du dn_int))) dau_nil))) (dg_name 2 (by decide) (by decide) nd rfl (by first | exact Or.inl rfl | exact Or.inr rfl))
    (dss_cons (ds_set 1 (by decide) nd rfl (Or.inl rfl) (de_bin o_add (DE.du (de_var 1)) (DN.du (dn_comp (own := [("row", 3)]) rfl nd (DI.c (di_seq (de_var 1))) (blkOk_by (by rfl)) (by decide) (fun _ _ _ _ _ => (dg_name 3 (by decide) (by decide) nd rfl (by first | exact Or.inl rfl | exact Or.inr rfl))) (fun _ _ _ _ _ => dts_nil) (fun _ _ _ _ _ => (de_bin o_add (DE.du (de_var 3)) (DE.du (de_tup (da_cons (de_var 2) da_nil) (Len.ok (len_cons len_nil))))))))))
    dss_nil))
    (dss_cons (ds_ret (DN.de (dn_bltB (b_sorted3 rfl (r65 hr)) rfl m_sorted (by rfl) (dau_cons (DE.du (de_var 1)) dau_nil))))
    dss_nil)))
/-! ### law_read -/
def d_law_read : SD :=
    (S.seq (S.set 2 (E.comp (I.seq (E.ix (E.var 0) (E.cst (.int 1)))) [3] (Gt.name 3) T.yes (E.blt tupleD (A.cons (E.comp (I.seq (E.var 3)) [4] (Gt.name 4) T.yes (E.ifx (T.val (E.op2 inD (E.blt absD (A.cons (E.var 4) A.nil)) (E.var 1))) (E.op2 subD (E.cst (.int 0)) (E.var 4)) (E.var 4))) A.nil))))
    (S.seq (S.ret (E.tup (A.cons (E.ix (E.var 0) (E.cst (.int 0))) (A.cons (E.blt tupleD (A.cons (E.blt sortedD3 (A.cons (E.var 2) A.nil)) A.nil)) A.nil))))
    S.nil))
def φ_law_read : List D → M D := fnD 5 d_law_read
theorem sc_law_read : FnScope ["bundle", "lot", "rows", "clause", "one"] ["bundle", "lot"] (defScope (top 51)) := ⟨rfl, rfl, rfl, by decide +kernel, rfl, by decide +kernel, by decide +kernel⟩
theorem fc_law_read {P : Program} {w : World} {K : PySem.W.Frag} {mg : Str → Option Value} {base : Heap} (F : Fnc1 K mg "_law_read" (top 51)) (m_abs : mg "abs" = none) (m_sorted : mg "sorted" = none) (m_tuple : mg "tuple" = none) : Fc P w K mg base "_law_read" 2 1 φ_law_read := by
  refine Fnc1.fc F sc_law_read (O := []) (by decide) (k := 0) (fun cdv A outer s H E Z hcdv hr tk => ?_) (fun _ _ _ _ _ _ us hl => match us, hl with | [_, _], _ => rfl)
  have nd := sc_law_read.nd
  exact (dss_cons (ds_setComp (own := [("clause", 3)]) 2 (by decide) rfl nd rfl rfl (sw_true rfl rfl rfl (by rfl)) (DI.c (di_seq (de_ix (DE.du (de_var 0)) (DN.du dn_int)))) (blkOk_by (by rfl)) (by decide) (fun _ _ _ _ _ => (dg_name 3 (by decide) (by decide) nd rfl (by first | exact Or.inl rfl | exact Or.inr rfl))) (fun _ _ _ _ _ => dts_nil) (fun _ _ _ _ _ => (de_bltT b_tuple rfl m_tuple (by rfl) (dau_cons (DN.du (dn_comp (own := [("one", 4)]) rfl nd (DI.c (di_seq (de_var 3))) (blkOk_by (by rfl)) (by decide) (fun _ _ _ _ _ => (dg_name 4 (by decide) (by decide) nd rfl (by first | exact Or.inl rfl | exact Or.inr rfl))) (fun _ _ _ _ _ => dts_nil) (fun _ _ _ _ _ => (de_ifx (dt_cmp (o_in (r65 hr)) (DE.du (de_bltB b_abs rfl m_abs (by rfl) (dau_cons (DE.du (de_var 4)) dau_nil))) (DE.du (de_var 1)) rfl) (de_bin o_sub (DN.du dn_int) (DE.du (de_var 4))) (de_var 4))))) dau_nil))))
    (dss_cons (ds_ret (de_tup (da_cons (de_ix (DE.du (de_var 0)) (DN.du dn_int)) (da_cons (de_bltT b_tuple rfl m_tuple (by rfl) (dau_cons (DN.du (dn_bltB (b_sorted3 rfl (r65 hr)) rfl m_sorted (by rfl) (dau_cons (DE.du (de_var 2)) dau_nil))) dau_nil)) da_nil)) (Len.ok (len_cons (len_cons len_nil)))))
    dss_nil))
/-! ### law_is_int -/
def d_law_is_int : SD :=
    (S.seq (S.ret (E.and (E.op1 isInt (E.var 0)) (E.and (E.not (E.op1 isBool (E.var 0))) (E.chain leD leD (E.var 1) (E.var 0) (E.var 2)))))
    S.nil)
def φ_law_is_int : List D → M D := fnD 3 d_law_is_int
theorem sc_law_is_int : FnScope ["thing", "least", "most"] ["thing", "least", "most"] (defScope (top 46)) := ⟨rfl, rfl, rfl, by decide +kernel, rfl, by decide +kernel, by decide +kernel⟩
theorem fc_law_is_int {P : Program} {w : World} {K : PySem.W.Frag} {mg : Str → Option Value} {base : Heap} (F : Fnc1 K mg "_law_is_int" (top 46)) (m_bool : mg "bool" = none) (m_int : mg "int" = none) (m_isinstance : mg "isinstance" = none) : Fc P w K mg base "_law_is_int" 3 1 φ_law_is_int := by
  refine Fnc1.fc F sc_law_is_int (O := []) (by decide) (k := 0) (fun cdv A outer s H E Z hcdv hr tk => ?_) (fun _ _ _ _ _ _ us hl => match us, hl with | [_, _, _], _ => rfl)
  have nd := sc_law_is_int.nd
  exact (dss_cons (ds_ret (de_and (de_isi isi_int rfl m_isinstance rfl m_int (by rfl) (DE.du (de_var 0))) (de_and (de_not (de_isi isi_bool rfl m_isinstance rfl m_bool (by rfl) (DE.du (de_var 0)))) (de_one (de_chain o_le o_le (DE.du (de_var 1)) (DE.du (de_var 0)) (DE.du (de_var 2)))))))
    dss_nil)
/-! ### law_is_ring -/
def d_law_is_ring : SD :=
    (S.seq (S.ite (T.or (T.not (T.val (E.op1 isTup (E.var 1)))) (T.val (E.op2 ltD (E.blt lenD (A.cons (E.var 1) A.nil)) (E.cst (.int 2)))))
    (S.seq (S.ret (E.cst (.bl false)))
    S.nil)
    S.nil)
    (S.seq (S.for_ (I.seq (E.var 1)) (Gt.name 2)
    (S.seq (S.ite (T.or (T.not (T.val (E.op1 isTup (E.var 2)))) (T.or (T.val (E.op2 neD (E.blt lenD (A.cons (E.var 2) A.nil)) (E.cst (.int 2)))) (T.not (T.val (E.app φ_law_is_int (A.cons (E.ix (E.var 2) (E.cst (.int 0))) (A.cons (E.op2 subD (E.cst (.int 0)) (E.ix (E.var 0) (E.cst (.int 0)))) (A.cons (E.ix (E.var 0) (E.cst (.int 0))) A.nil))))))))
    (S.seq (S.ret (E.cst (.bl false)))
    S.nil)
    S.nil)
    (S.seq (S.ite (T.or (T.not (T.val (E.app φ_law_is_int (A.cons (E.ix (E.var 2) (E.cst (.int 1))) (A.cons (E.cst (.int 0)) (A.cons (E.op2 subD (E.blt lenD (A.cons (E.ix (E.var 0) (E.cst (.int 1))) A.nil)) (E.cst (.int 1))) A.nil)))))) (T.val (E.op2 notInD (E.ix (E.var 2) (E.cst (.int 0))) (E.ix (E.ix (E.var 0) (E.cst (.int 1))) (E.ix (E.var 2) (E.cst (.int 1)))))))
    (S.seq (S.ret (E.cst (.bl false)))
    S.nil)
    S.nil)
    S.nil)))
    (S.seq (S.for_ (I.on enm (A.cons (E.var 1) A.nil)) (Gt.tup 2 (Gt.cons (Gt.name 3) (Gt.cons (Gt.name 2) Gt.nil)))
    (S.seq (S.set 4 (E.ix (E.ix (E.var 1) (E.op2 modD (E.op2 addD (E.var 3) (E.cst (.int 1))) (E.blt lenD (A.cons (E.var 1) A.nil)))) (E.cst (.int 0))))
    (S.seq (S.ite (T.or (T.val (E.op2 notInD (E.op2 subD (E.cst (.int 0)) (E.var 4)) (E.ix (E.ix (E.var 0) (E.cst (.int 1))) (E.ix (E.var 2) (E.cst (.int 1)))))) (T.val (E.op2 eqD (E.op2 subD (E.cst (.int 0)) (E.var 4)) (E.ix (E.var 2) (E.cst (.int 0))))))
    (S.seq (S.ret (E.cst (.bl false)))
    S.nil)
    S.nil)
    S.nil)))
    (S.seq (S.set 5 (E.comp (I.seq (E.var 1)) [2] (Gt.name 2) T.yes (E.ix (E.var 2) (E.cst (.int 0)))))
    (S.seq (S.ret (E.op2 neD (E.comp (I.seq (E.var 5)) [6] (Gt.name 6) (T.val (E.op2 inD (E.op2 subD (E.cst (.int 0)) (E.var 6)) (E.var 5))) (E.cst (.int 1))) (E.lst A.nil)))
    S.nil)))))
def φ_law_is_ring : List D → M D := fnD 7 d_law_is_ring
theorem sc_law_is_ring : FnScope ["bundle", "thing", "step", "spot", "later", "some", "literal"] ["bundle", "thing"] (defScope (top 49)) := ⟨rfl, rfl, rfl, by decide +kernel, rfl, by decide +kernel, by decide +kernel⟩
theorem fc_law_is_ring {P : Program} {w : World} {K : PySem.W.Frag} {mg : Str → Option Value} {base : Heap} (F : Fnc1 K mg "_law_is_ring" (top 49)) (m_enumerate : mg "enumerate" = none) (m_isinstance : mg "isinstance" = none) (m_len : mg "len" = none) (m_tuple : mg "tuple" = none) (F_law_is_int : Fc P w K mg base "_law_is_int" 3 1 φ_law_is_int) : Fc P w K mg base "_law_is_ring" 2 2 φ_law_is_ring := by
  refine Fnc1.fc F sc_law_is_ring (O := []) (by decide) (k := 1) (fun cdv A outer s H E Z hcdv hr tk => ?_) (fun _ _ _ _ _ _ us hl => match us, hl with | [_, _], _ => rfl)
  have nd := sc_law_is_ring.nd
  exact (dss_cons (ds_if (dt_w (dw_or (dt_not (dt_val (de_isi isi_tuple rfl m_isinstance rfl m_tuple (by rfl) (DE.du (de_var 1))))) (dw_or1 (dt_cmp o_lt (DE.du (de_bltB b_len rfl m_len (by rfl) (dau_cons (DE.du (de_var 1)) dau_nil))) (DN.du dn_int) rfl))))
    (dss_cons (ds_ret (DN.de dn_bl))
    dss_nil)
    dss_nil)
    (dss_cons (ds_for (vs := [2]) (passes_of rfl) rfl (di_seq (de_var 1)) (dg_name 2 (by decide) (by decide) nd rfl (by first | exact Or.inl rfl | exact Or.inr rfl))
    (dss_cons (ds_if (dt_w (dw_or (dt_not (dt_val (de_isi isi_tuple rfl m_isinstance rfl m_tuple (by rfl) (DE.du (de_var 2))))) (dw_or (dt_cmp (o_ne (r65 hr)) (DE.du (de_bltB b_len rfl m_len (by rfl) (dau_cons (DE.du (de_var 2)) dau_nil))) (DN.du dn_int) rfl) (dw_or1 (dt_not (dt_val (de_app (Fc.dn F_law_is_int) (hr.mono (by decide)) rfl (da_cons (de_ix (DE.du (de_var 2)) (DN.du dn_int)) (da_cons (de_bin o_sub (DN.du dn_int) (DE.du (de_ix (DE.du (de_var 0)) (DN.du dn_int)))) (da_cons (de_ix (DE.du (de_var 0)) (DN.du dn_int)) da_nil))) (alen_cons (alen_cons (alen_cons alen_nil))))))))))
    (dss_cons (ds_ret (DN.de dn_bl))
    dss_nil)
    dss_nil)
    (dss_cons (ds_if (dt_w (dw_or (dt_not (dt_val (de_app (Fc.dn F_law_is_int) (hr.mono (by decide)) rfl (da_cons (de_ix (DE.du (de_var 2)) (DN.du dn_int)) (da_cons (DN.de dn_int) (da_cons (de_bin o_sub (DE.du (de_bltB b_len rfl m_len (by rfl) (dau_cons (DE.du (de_ix (DE.du (de_var 0)) (DN.du dn_int))) dau_nil))) (DN.du dn_int)) da_nil))) (alen_cons (alen_cons (alen_cons alen_nil)))))) (dw_or1 (dt_cmp (o_notIn (r65 hr)) (DE.du (de_ix (DE.du (de_var 2)) (DN.du dn_int))) (DE.du (de_ix (DE.du (de_ix (DE.du (de_var 0)) (DN.du dn_int))) (DE.du (de_ix (DE.du (de_var 2)) (DN.du dn_int))))) rfl))))
    (dss_cons (ds_ret (DN.de dn_bl))
    dss_nil)
    dss_nil)
    dss_nil)))
    (dss_cons (ds_for (vs := [3, 2]) (passes_of rfl) rfl (di_enum rfl m_enumerate (da_cons (de_var 1) da_nil)) (dg_tup rfl (dgs_cons (dg_name 3 (by decide) (by decide) nd rfl (by first | exact Or.inl rfl | exact Or.inr rfl)) (dgs_cons (dg_name 2 (by decide) (by decide) nd rfl (by first | exact Or.inl rfl | exact Or.inr rfl)) dgs_nil)))
    (dss_cons (ds_set 4 (by decide) nd rfl (Or.inl rfl) (de_ix (DE.du (de_ix (DE.du (de_var 1)) (DE.du (de_bin o_mod (DE.du (de_bin o_add (DE.du (de_var 3)) (DN.du dn_int))) (DE.du (de_bltB b_len rfl m_len (by rfl) (dau_cons (DE.du (de_var 1)) dau_nil))))))) (DN.du dn_int)))
    (dss_cons (ds_if (dt_w (dw_or (dt_cmp (o_notIn (r65 hr)) (DE.du (de_bin o_sub (DN.du dn_int) (DE.du (de_var 4)))) (DE.du (de_ix (DE.du (de_ix (DE.du (de_var 0)) (DN.du dn_int))) (DE.du (de_ix (DE.du (de_var 2)) (DN.du dn_int))))) rfl) (dw_or1 (dt_cmp (o_eq (r65 hr)) (DE.du (de_bin o_sub (DN.du dn_int) (DE.du (de_var 4)))) (DE.du (de_ix (DE.du (de_var 2)) (DN.du dn_int))) rfl))))
    (dss_cons (ds_ret (DN.de dn_bl))
    dss_nil)
    dss_nil)
    dss_nil)))
    (dss_cons (ds_set 5 (by decide) nd rfl (Or.inr rfl) (DN.de (dn_comp (own := [("step", 2)]) rfl nd (DI.c (di_seq (de_var 1))) (blkOk_by (by rfl)) (by decide) (fun _ _ _ _ _ => (dg_name 2 (by decide) (by decide) nd rfl (by first | exact Or.inl rfl | exact Or.inr rfl))) (fun _ _ _ _ _ => dts_nil) (fun _ _ _ _ _ => (de_ix (DE.du (de_var 2)) (DN.du dn_int))))))
    (dss_cons (ds_ret (de_cmp (o_ne (r65 hr)) (DN.du (dn_comp (own := [("literal", 6)]) rfl nd (DI.c (di_seq (de_var 5))) (blkOk_by (by rfl)) (by decide) (fun _ _ _ _ _ => (dg_name 6 (by decide) (by decide) nd rfl (by first | exact Or.inl rfl | exact Or.inr rfl))) (fun _ _ _ _ _ => (dts_one (dt_cmp (o_in (r65 hr)) (DE.du (de_bin o_sub (DN.du dn_int) (DE.du (de_var 6)))) (DE.du (de_var 5)) rfl))) (fun _ _ _ _ _ => (DN.de dn_int)))) (DN.du (dn_lst da_nil (Len.ok len_nil))) rfl))
    dss_nil)))))
/-! ### law_are_rising -/
def d_law_are_rising : SD :=
    (S.seq (S.ret (E.op2 eqD (E.comp (I.range rng2 (A.cons (E.cst (.int 1)) (A.cons (E.blt lenD (A.cons (E.var 0) A.nil)) A.nil))) [1] (Gt.name 1) (T.val (E.op2 geD2 (E.ix (E.var 0) (E.op2 subD (E.var 1) (E.cst (.int 1)))) (E.ix (E.var 0) (E.var 1)))) (E.cst (.int 1))) (E.lst A.nil)))
    S.nil)
def φ_law_are_rising : List D → M D := fnD 2 d_law_are_rising
theorem sc_law_are_rising : FnScope ["thing", "spot"] ["thing"] (defScope (top 47)) := ⟨rfl, rfl, rfl, by decide +kernel, rfl, by decide +kernel, by decide +kernel⟩
theorem fc_law_are_rising {P : Program} {w : World} {K : PySem.W.Frag} {mg : Str → Option Value} {base : Heap} (F : Fnc1 K mg "_law_are_rising" (top 47)) (m_len : mg "len" = none) (m_range : mg "range" = none) : Fc P w K mg base "_law_are_rising" 1 1 φ_law_are_rising := by
  refine Fnc1.fc F sc_law_are_rising (O := []) (by decide) (k := 0) (fun cdv A outer s H E Z hcdv hr tk => ?_) (fun _ _ _ _ _ _ us hl => match us, hl with | [_], _ => rfl)
  have nd := sc_law_are_rising.nd
  exact (dss_cons (ds_ret (de_cmp (o_eq (r65 hr)) (DN.du (dn_comp (own := [("spot", 1)]) rfl nd (DI.c (di_range2 rfl m_range (dau_cons (DN.du dn_int) (dau_cons (DE.du (de_bltB b_len rfl m_len (by rfl) (dau_cons (DE.du (de_var 0)) dau_nil))) dau_nil)))) (blkOk_by (by rfl)) (by decide) (fun _ _ _ _ _ => (dg_name 1 (by decide) (by decide) nd rfl (by first | exact Or.inl rfl | exact Or.inr rfl))) (fun _ _ _ _ _ => (dts_one (dt_cmp (o_ge2 (r0 hr)) (DE.du (de_ix (DE.du (de_var 0)) (DE.du (de_bin o_sub (DE.du (de_var 1)) (DN.du dn_int))))) (DE.du (de_ix (DE.du (de_var 0)) (DE.du (de_var 1)))) rfl))) (fun _ _ _ _ _ => (DN.de dn_int)))) (DN.du (dn_lst da_nil (Len.ok len_nil))) rfl))
    dss_nil)
/-! ### law_is_lot -/
def d_law_is_lot : SD :=
    (S.seq (S.ite (T.or (T.not (T.val (E.op1 isTup (E.var 1)))) (T.val (E.op2 neD (E.comp (I.seq (E.var 1)) [2] (Gt.name 2) (T.not (T.val (E.app φ_law_is_int (A.cons (E.var 2) (A.cons (E.cst (.int 1)) (A.cons (E.var 0) A.nil)))))) (E.cst (.int 1))) (E.lst A.nil))))
    (S.seq (S.ret (E.cst (.bl false)))
    S.nil)
    S.nil)
    (S.seq (S.ret (E.app φ_law_are_rising (A.cons (E.var 1) A.nil)))
    S.nil))
def φ_law_is_lot : List D → M D := fnD 3 d_law_is_lot
theorem sc_law_is_lot : FnScope ["names", "thing", "one"] ["names", "thing"] (defScope (top 48)) := ⟨rfl, rfl, rfl, by decide +kernel, rfl, by decide +kernel, by decide +kernel⟩
theorem fc_law_is_lot {P : Program} {w : World} {K : PySem.W.Frag} {mg : Str → Option Value} {base : Heap} (F : Fnc1 K mg "_law_is_lot" (top 48)) (m_isinstance : mg "isinstance" = none) (m_tuple : mg "tuple" = none) (F_law_are_rising : Fc P w K mg base "_law_are_rising" 1 1 φ_law_are_rising) (F_law_is_int : Fc P w K mg base "_law_is_int" 3 1 φ_law_is_int) : Fc P w K mg base "_law_is_lot" 2 2 φ_law_is_lot := by
  refine Fnc1.fc F sc_law_is_lot (O := []) (by decide) (k := 1) (fun cdv A outer s H E Z hcdv hr tk => ?_) (fun _ _ _ _ _ _ us hl => match us, hl with | [_, _], _ => rfl)
  have nd := sc_law_is_lot.nd
  exact (dss_cons (ds_if (dt_w (dw_or (dt_not (dt_val (de_isi isi_tuple rfl m_isinstance rfl m_tuple (by rfl) (DE.du (de_var 1))))) (dw_or1 (dt_cmp (o_ne (r65 hr)) (DN.du (dn_comp (own := [("one", 2)]) rfl nd (DI.c (di_seq (de_var 1))) (blkOk_by (by rfl)) (by decide) (fun _ _ _ _ _ => (dg_name 2 (by decide) (by decide) nd rfl (by first | exact Or.inl rfl | exact Or.inr rfl))) (fun _ _ _ _ _ => (dts_one (dt_not (dt_val (de_app (Fc.dn F_law_is_int) (hr.mono (by decide)) rfl (da_cons (de_var 2) (da_cons (DN.de dn_int) (da_cons (de_var 0) da_nil))) (alen_cons (alen_cons (alen_cons alen_nil)))))))) (fun _ _ _ _ _ => (DN.de dn_int)))) (DN.du (dn_lst da_nil (Len.ok len_nil))) rfl))))
    (dss_cons (ds_ret (DN.de dn_bl))
    dss_nil)
    dss_nil)
    (dss_cons (ds_ret (de_app (Fc.dn F_law_are_rising) (hr.mono (by decide)) rfl (da_cons (de_var 1) da_nil) (alen_cons alen_nil)))
    dss_nil))
/-! ### law_is_up -/
def d_law_is_up : SD :=
    (S.seq (S.ret (E.or (E.and (E.op2 gtD (E.var 1) (E.cst (.int 0))) (E.op2 notInD (E.var 1) (E.var 0))) (E.and (E.op2 ltD (E.var 1) (E.cst (.int 0))) (E.op2 inD (E.op2 subD (E.cst (.int 0)) (E.var 1)) (E.var 0)))))
    S.nil)
def φ_law_is_up : List D → M D := fnD 2 d_law_is_up
theorem sc_law_is_up : FnScope ["lot", "literal"] ["lot", "literal"] (defScope (top 44)) := ⟨rfl, rfl, rfl, by decide +kernel, rfl, by decide +kernel, by decide +kernel⟩
theorem fc_law_is_up {P : Program} {w : World} {K : PySem.W.Frag} {mg : Str → Option Value} {base : Heap} (F : Fnc1 K mg "_law_is_up" (top 44))  : Fc P w K mg base "_law_is_up" 2 1 φ_law_is_up := by
  refine Fnc1.fc F sc_law_is_up (O := []) (by decide) (k := 0) (fun cdv A outer s H E Z hcdv hr tk => ?_) (fun _ _ _ _ _ _ us hl => match us, hl with | [_, _], _ => rfl)
  have nd := sc_law_is_up.nd
  exact (dss_cons (ds_ret (de_or (de_and (de_cmp o_gt (DE.du (de_var 1)) (DN.du dn_int) rfl) (de_one (de_cmp (o_notIn (r65 hr)) (DE.du (de_var 1)) (DE.du (de_var 0)) rfl))) (de_one (de_and (de_cmp o_lt (DE.du (de_var 1)) (DN.du dn_int) rfl) (de_one (de_cmp (o_in (r65 hr)) (DE.du (de_bin o_sub (DN.du dn_int) (DE.du (de_var 1)))) (DE.du (de_var 0)) rfl))))))
    dss_nil)
/-! ### law_crowded -/
def d_law_crowded : SD :=
    (S.seq (S.ret (E.blt sumD (A.cons (E.comp (I.seq (E.ix (E.var 0) (E.cst (.int 1)))) [2] (Gt.name 2) T.yes (E.blt intD (A.cons (E.op2 gtD (E.blt lenD (A.cons (E.comp (I.seq (E.var 2)) [3] (Gt.name 3) (T.val (E.app φ_law_is_up (A.cons (E.var 1) (A.cons (E.var 3) A.nil)))) (E.var 3)) A.nil)) (E.cst (.int 1))) A.nil))) A.nil)))
    S.nil)
def φ_law_crowded : List D → M D := fnD 4 d_law_crowded
theorem sc_law_crowded : FnScope ["bundle", "lot", "clause", "one"] ["bundle", "lot"] (defScope (top 45)) := ⟨rfl, rfl, rfl, by decide +kernel, rfl, by decide +kernel, by decide +kernel⟩
theorem fc_law_crowded {P : Program} {w : World} {K : PySem.W.Frag} {mg : Str → Option Value} {base : Heap} (F : Fnc1 K mg "_law_crowded" (top 45)) (m_int : mg "int" = none) (m_len : mg "len" = none) (m_sum : mg "sum" = none) (F_law_is_up : Fc P w K mg base "_law_is_up" 2 1 φ_law_is_up) : Fc P w K mg base "_law_crowded" 2 2 φ_law_crowded := by
  refine Fnc1.fc F sc_law_crowded (O := []) (by decide) (k := 1) (fun cdv A outer s H E Z hcdv hr tk => ?_) (fun _ _ _ _ _ _ us hl => match us, hl with | [_, _], _ => rfl)
  have nd := sc_law_crowded.nd
  exact (dss_cons (ds_ret (de_bltB (b_sum rfl) rfl m_sum (by rfl) (dau_cons (DN.du (dn_comp (own := [("clause", 2)]) rfl nd (DI.c (di_seq (de_ix (DE.du (de_var 0)) (DN.du dn_int)))) (blkOk_by (by rfl)) (by decide) (fun _ _ _ _ _ => (dg_name 2 (by decide) (by decide) nd rfl (by first | exact Or.inl rfl | exact Or.inr rfl))) (fun _ _ _ _ _ => dts_nil) (fun _ _ _ _ _ => (de_bltT b_int rfl m_int (by rfl) (dau_cons (DE.du (de_cmp o_gt (DE.du (de_bltB b_len rfl m_len (by rfl) (dau_cons (DN.du (dn_comp (own := [("one", 3)]) rfl nd (DI.c (di_seq (de_var 2))) (blkOk_by (by rfl)) (by decide) (fun _ _ _ _ _ => (dg_name 3 (by decide) (by decide) nd rfl (by first | exact Or.inl rfl | exact Or.inr rfl))) (fun _ _ _ _ _ => (dts_one (dt_val (de_app (Fc.dn F_law_is_up) (hr.mono (by decide)) rfl (da_cons (de_var 1) (da_cons (de_var 3) da_nil)) (alen_cons (alen_cons alen_nil)))))) (fun _ _ _ _ _ => (de_var 3)))) dau_nil))) (DN.du dn_int) rfl)) dau_nil))))) dau_nil)))
    dss_nil)
/-! ### law_due -/
def d_law_due : SD :=
    (S.seq (S.ite (T.or (T.not (T.val (E.op1 isTup (E.var 1)))) (T.or (T.val (E.op2 neD (E.blt lenD (A.cons (E.var 1) A.nil)) (E.cst (.int 2)))) (T.not (T.val (E.op1 isStr (E.ix (E.var 1) (E.cst (.int 0))))))))
    (S.seq (S.ret (E.cst (.str "form")))
    S.nil)
    S.nil)
    (S.seq (S.ite (T.val (E.op2 notInD (E.ix (E.var 1) (E.cst (.int 0))) (E.tup (A.cons (E.cst (.str "plain")) (A.cons (E.cst (.str "ring")) A.nil)))))
    (S.seq (S.ret (E.cst (.str "form")))
    S.nil)
    S.nil)
    (S.seq (S.ite (T.val (E.op2 eqD (E.ix (E.var 1) (E.cst (.int 0))) (E.cst (.str "plain"))))
    (S.seq (S.ret (E.ifx (T.and (T.val (E.app φ_law_is_lot (A.cons (E.ix (E.var 0) (E.cst (.int 0))) (A.cons (E.ix (E.var 1) (E.cst (.int 1))) A.nil)))) (T.val (E.op2 eqD (E.app φ_law_crowded (A.cons (E.var 0) (A.cons (E.ix (E.var 1) (E.cst (.int 1))) A.nil))) (E.cst (.int 0))))) (E.lst (A.cons (E.cst (.str "plain")) A.nil)) (E.cst (.str "plain"))))
    S.nil)
    S.nil)
    (S.seq (S.ret (E.ifx (T.val (E.app φ_law_is_ring (A.cons (E.var 0) (A.cons (E.ix (E.var 1) (E.cst (.int 1))) A.nil)))) (E.lst (A.cons (E.cst (.str "ring")) A.nil)) (E.cst (.str "ring"))))
    S.nil))))
def φ_law_due : List D → M D := fnD 2 d_law_due
theorem sc_law_due : FnScope ["bundle", "sheet"] ["bundle", "sheet"] (defScope (top 50)) := ⟨rfl, rfl, rfl, by decide +kernel, rfl, by decide +kernel, by decide +kernel⟩
theorem fc_law_due {P : Program} {w : World} {K : PySem.W.Frag} {mg : Str → Option Value} {base : Heap} (F : Fnc1 K mg "_law_due" (top 50)) (m_isinstance : mg "isinstance" = none) (m_len : mg "len" = none) (m_str : mg "str" = none) (m_tuple : mg "tuple" = none) (F_law_is_ring : Fc P w K mg base "_law_is_ring" 2 2 φ_law_is_ring) (F_law_crowded : Fc P w K mg base "_law_crowded" 2 2 φ_law_crowded) (F_law_is_lot : Fc P w K mg base "_law_is_lot" 2 2 φ_law_is_lot) : Fc P w K mg base "_law_due" 2 3 φ_law_due := by
  refine Fnc1.fc F sc_law_due (O := []) (by decide) (k := 2) (fun cdv A outer s H E Z hcdv hr tk => ?_) (fun _ _ _ _ _ _ us hl => match us, hl with | [_, _], _ => rfl)
  have nd := sc_law_due.nd
  exact (dss_cons (ds_if (dt_w (dw_or (dt_not (dt_val (de_isi isi_tuple rfl m_isinstance rfl m_tuple (by rfl) (DE.du (de_var 1))))) (dw_or (dt_cmp (o_ne (r65 hr)) (DE.du (de_bltB b_len rfl m_len (by rfl) (dau_cons (DE.du (de_var 1)) dau_nil))) (DN.du dn_int) rfl) (dw_or1 (dt_not (dt_val (de_isi isi_str rfl m_isinstance rfl m_str (by rfl) (DE.du (de_ix (DE.du (de_var 1)) (DN.du dn_int))))))))))
    (dss_cons (ds_ret (DN.de dn_str))
    dss_nil)
    dss_nil)
    (dss_cons (ds_if (dt_cmp (o_notIn (r65 hr)) (DE.du (de_ix (DE.du (de_var 1)) (DN.du dn_int))) (DE.du (de_tup (da_cons (DN.de dn_str) (da_cons (DN.de dn_str) da_nil)) (Len.ok (len_cons (len_cons len_nil))))) rfl)
    (dss_cons (ds_ret (DN.de dn_str))
    dss_nil)
    dss_nil)
    (dss_cons (ds_if (dt_cmp (o_eq (r65 hr)) (DE.du (de_ix (DE.du (de_var 1)) (DN.du dn_int))) (DN.du dn_str) rfl)
    (dss_cons (ds_ret (DN.de (dn_ifx (dt_w (dw_and (dt_val (de_app (Fc.dn F_law_is_lot) (hr.mono (by decide)) rfl (da_cons (de_ix (DE.du (de_var 0)) (DN.du dn_int)) (da_cons (de_ix (DE.du (de_var 1)) (DN.du dn_int)) da_nil)) (alen_cons (alen_cons alen_nil)))) (dw_and1 (dt_cmp (o_eq (r65 hr)) (DE.du (de_app (Fc.dn F_law_crowded) (hr.mono (by decide)) rfl (da_cons (de_var 0) (da_cons (de_ix (DE.du (de_var 1)) (DN.du dn_int)) da_nil)) (alen_cons (alen_cons alen_nil)))) (DN.du dn_int) rfl)))) (dn_lst (da_cons (DN.de dn_str) da_nil) (Len.ok (len_cons len_nil))) dn_str)))
    dss_nil)
    dss_nil)
    (dss_cons (ds_ret (DN.de (dn_ifx (dt_val (de_app (Fc.dn F_law_is_ring) (hr.mono (by decide)) rfl (da_cons (de_var 0) (da_cons (de_ix (DE.du (de_var 1)) (DN.du dn_int)) da_nil)) (alen_cons (alen_cons alen_nil)))) (dn_lst (da_cons (DN.de dn_str) da_nil) (Len.ok (len_cons len_nil))) dn_str)))
    dss_nil))))
/-! ### need_form -/
def d_need_form : SD :=
    (S.seq (S.ite (T.or (T.not (T.val (E.op1 isTup (E.var 0)))) (T.or (T.val (E.op2 neD (E.blt lenD (A.cons (E.var 0) A.nil)) (E.cst (.int 2)))) (T.or (T.not (T.val (E.op1 isStr (E.ix (E.var 0) (E.cst (.int 0)))))) (T.val (E.op2 notInD (E.ix (E.var 0) (E.cst (.int 0))) (E.var 1))))))
    (S.seq S.bad
    S.nil)
    S.nil)
    S.nil)
def φ_need_form : List D → M D := fnD 2 d_need_form
theorem sc_need_form : FnScope ["paper", "words"] ["paper", "words"] (defScope (top 35)) := ⟨rfl, rfl, rfl, by decide +kernel, rfl, by decide +kernel, by decide +kernel⟩
theorem fc_need_form {P : Program} {w : World} {K : PySem.W.Frag} {mg : Str → Option Value} {base : Heap} (F : Fnc1 K mg "need_form" (top 35)) (m_isinstance : mg "isinstance" = none) (m_len : mg "len" = none) (m_str : mg "str" = none) (m_tuple : mg "tuple" = none) : Fc P w K mg base "need_form" 2 1 φ_need_form := by
  refine Fnc1.fc F sc_need_form (O := []) (by decide) (k := 0) (fun cdv A outer s H E Z hcdv hr tk => ?_) (fun _ _ _ _ _ _ us hl => match us, hl with | [_, _], _ => rfl)
  have nd := sc_need_form.nd
  exact (dss_cons (ds_if (dt_w (dw_or (dt_not (dt_val (de_isi isi_tuple rfl m_isinstance rfl m_tuple (by rfl) (DE.du (de_var 0))))) (dw_or (dt_cmp (o_ne (r65 hr)) (DE.du (de_bltB b_len rfl m_len (by rfl) (dau_cons (DE.du (de_var 0)) dau_nil))) (DN.du dn_int) rfl) (dw_or (dt_not (dt_val (de_isi isi_str rfl m_isinstance rfl m_str (by rfl) (DE.du (de_ix (DE.du (de_var 0)) (DN.du dn_int)))))) (dw_or1 (dt_cmp (o_notIn (r65 hr)) (DE.du (de_ix (DE.du (de_var 0)) (DN.du dn_int))) (DE.du (de_var 1)) rfl))))))
    (dss_cons ds_bad
    dss_nil)
    dss_nil)
    dss_nil)
/-! ### is_step -/
def d_is_step : SD :=
    (S.seq (S.ite (T.or (T.not (T.val (E.op1 isTup (E.var 1)))) (T.or (T.val (E.op2 neD (E.blt lenD (A.cons (E.var 1) A.nil)) (E.cst (.int 2)))) (T.not (T.val (E.app φ_is_literal (A.cons (E.ix (E.var 0) (E.cst (.int 0))) (A.cons (E.ix (E.var 1) (E.cst (.int 0))) A.nil)))))))
    (S.seq (S.ret (E.cst (.bl false)))
    S.nil)
    S.nil)
    (S.seq (S.ret (E.and (E.app φ_is_between (A.cons (E.ix (E.var 1) (E.cst (.int 1))) (A.cons (E.cst (.int 0)) (A.cons (E.op2 subD (E.blt lenD (A.cons (E.ix (E.var 0) (E.cst (.int 1))) A.nil)) (E.cst (.int 1))) A.nil)))) (E.op2 inD (E.ix (E.var 1) (E.cst (.int 0))) (E.ix (E.ix (E.var 0) (E.cst (.int 1))) (E.ix (E.var 1) (E.cst (.int 1)))))))
    S.nil))
def φ_is_step : List D → M D := fnD 2 d_is_step
theorem sc_is_step : FnScope ["bundle", "thing"] ["bundle", "thing"] (defScope (top 33)) := ⟨rfl, rfl, rfl, by decide +kernel, rfl, by decide +kernel, by decide +kernel⟩
theorem fc_is_step {P : Program} {w : World} {K : PySem.W.Frag} {mg : Str → Option Value} {base : Heap} (F : Fnc1 K mg "is_step" (top 33)) (m_isinstance : mg "isinstance" = none) (m_len : mg "len" = none) (m_tuple : mg "tuple" = none) (F_is_between : Fc P w K mg base "is_between" 3 2 φ_is_between) (F_is_literal : Fc P w K mg base "is_literal" 2 2 φ_is_literal) : Fc P w K mg base "is_step" 2 3 φ_is_step := by
  refine Fnc1.fc F sc_is_step (O := []) (by decide) (k := 2) (fun cdv A outer s H E Z hcdv hr tk => ?_) (fun _ _ _ _ _ _ us hl => match us, hl with | [_, _], _ => rfl)
  have nd := sc_is_step.nd
  exact (dss_cons (ds_if (dt_w (dw_or (dt_not (dt_val (de_isi isi_tuple rfl m_isinstance rfl m_tuple (by rfl) (DE.du (de_var 1))))) (dw_or (dt_cmp (o_ne (r65 hr)) (DE.du (de_bltB b_len rfl m_len (by rfl) (dau_cons (DE.du (de_var 1)) dau_nil))) (DN.du dn_int) rfl) (dw_or1 (dt_not (dt_val (de_app (Fc.dn F_is_literal) (hr.mono (by decide)) rfl (da_cons (de_ix (DE.du (de_var 0)) (DN.du dn_int)) (da_cons (de_ix (DE.du (de_var 1)) (DN.du dn_int)) da_nil)) (alen_cons (alen_cons alen_nil)))))))))
    (dss_cons (ds_ret (DN.de dn_bl))
    dss_nil)
    dss_nil)
    (dss_cons (ds_ret (de_and (de_app (Fc.dn F_is_between) (hr.mono (by decide)) rfl (da_cons (de_ix (DE.du (de_var 1)) (DN.du dn_int)) (da_cons (DN.de dn_int) (da_cons (de_bin o_sub (DE.du (de_bltB b_len rfl m_len (by rfl) (dau_cons (DE.du (de_ix (DE.du (de_var 0)) (DN.du dn_int))) dau_nil))) (DN.du dn_int)) da_nil))) (alen_cons (alen_cons (alen_cons alen_nil)))) (de_one (de_cmp (o_in (r65 hr)) (DE.du (de_ix (DE.du (de_var 1)) (DN.du dn_int))) (DE.du (de_ix (DE.du (de_ix (DE.du (de_var 0)) (DN.du dn_int))) (DE.du (de_ix (DE.du (de_var 1)) (DN.du dn_int))))) rfl))))
    dss_nil))
/-! ### is_ring -/
def d_is_ring : SD :=
    (S.seq (S.ite (T.or (T.not (T.val (E.op1 isTup (E.var 1)))) (T.or (T.val (E.op2 ltD (E.blt lenD (A.cons (E.var 1) A.nil)) (E.cst (.int 2)))) (T.not (T.val (E.blt allD (A.cons (E.comp (I.seq (E.var 1)) [7] (Gt.name 7) T.yes (E.app φ_is_step (A.cons (E.var 0) (A.cons (E.var 7) A.nil)))) A.nil))))))
    (S.seq (S.ret (E.cst (.bl false)))
    S.nil)
    S.nil)
    (S.seq (S.for_ (I.on zp (A.cons (E.var 1) (A.cons (E.op2 addD (E.slice (E.var 1) (E.oSome (E.cst (.int 1))) E.oNone) (E.slice (E.var 1) E.oNone (E.oSome (E.cst (.int 1))))) A.nil))) (Gt.tup 2 (Gt.cons (Gt.tup 2 (Gt.cons (Gt.name 2) (Gt.cons (Gt.name 3) Gt.nil))) (Gt.cons (Gt.tup 2 (Gt.cons (Gt.name 4) (Gt.cons (Gt.name 5) Gt.nil))) Gt.nil)))
    (S.seq (S.ite (T.or (T.val (E.op2 notInD (E.op2 subD (E.cst (.int 0)) (E.var 4)) (E.ix (E.ix (E.var 0) (E.cst (.int 1))) (E.var 3)))) (T.val (E.op2 eqD (E.op2 subD (E.cst (.int 0)) (E.var 4)) (E.var 2))))
    (S.seq (S.ret (E.cst (.bl false)))
    S.nil)
    S.nil)
    S.nil))
    (S.seq (S.set 6 (E.comp (I.seq (E.var 1)) [7] (Gt.name 7) T.yes (E.ix (E.var 7) (E.cst (.int 0)))))
    (S.seq (S.ret (E.blt anyD (A.cons (E.comp (I.seq (E.var 6)) [2] (Gt.name 2) T.yes (E.op2 inD (E.op2 subD (E.cst (.int 0)) (E.var 2)) (E.var 6))) A.nil)))
    S.nil))))
def φ_is_ring : List D → M D := fnD 8 d_is_ring
theorem sc_is_ring : FnScope ["bundle", "thing", "literal", "number", "later", "far", "some", "step"] ["bundle", "thing"] (defScope (top 34)) := ⟨rfl, rfl, rfl, by decide +kernel, rfl, by decide +kernel, by decide +kernel⟩
theorem fc_is_ring {P : Program} {w : World} {K : PySem.W.Frag} {mg : Str → Option Value} {base : Heap} (F : Fnc1 K mg "is_ring" (top 34)) (m_all : mg "all" = none) (m_any : mg "any" = none) (m_isinstance : mg "isinstance" = none) (m_len : mg "len" = none) (m_tuple : mg "tuple" = none) (m_zip : mg "zip" = none) (F_is_step : Fc P w K mg base "is_step" 2 3 φ_is_step) : Fc P w K mg base "is_ring" 2 4 φ_is_ring := by
  refine Fnc1.fc F sc_is_ring (O := []) (by decide) (k := 3) (fun cdv A outer s H E Z hcdv hr tk => ?_) (fun _ _ _ _ _ _ us hl => match us, hl with | [_, _], _ => rfl)
  have nd := sc_is_ring.nd
  exact (dss_cons (ds_if (dt_w (dw_or (dt_not (dt_val (de_isi isi_tuple rfl m_isinstance rfl m_tuple (by rfl) (DE.du (de_var 1))))) (dw_or (dt_cmp o_lt (DE.du (de_bltB b_len rfl m_len (by rfl) (dau_cons (DE.du (de_var 1)) dau_nil))) (DN.du dn_int) rfl) (dw_or1 (dt_not (dt_val (de_bltB (b_all rfl) rfl m_all (by rfl) (dau_cons (DN.du (dn_comp (own := [("step", 7)]) rfl nd (DI.c (di_seq (de_var 1))) (blkOk_by (by rfl)) (by decide) (fun _ _ _ _ _ => (dg_name 7 (by decide) (by decide) nd rfl (by first | exact Or.inl rfl | exact Or.inr rfl))) (fun _ _ _ _ _ => dts_nil) (fun _ _ _ _ _ => (de_app (Fc.dn F_is_step) (hr.mono (by decide)) rfl (da_cons (de_var 0) (da_cons (de_var 7) da_nil)) (alen_cons (alen_cons alen_nil)))))) dau_nil))))))))
    (dss_cons (ds_ret (DN.de dn_bl))
    dss_nil)
    dss_nil)
    (dss_cons (ds_for (vs := [2, 3, 4, 5]) (passes_of rfl) rfl (di_zip rfl m_zip (da_cons (de_var 1) (da_cons (de_bin o_add (DE.du (de_slice (DE.du (de_var 1)) (do_some (DN.du dn_int)) do_none)) (DE.du (de_slice (DE.du (de_var 1)) do_none (do_some (DN.du dn_int))))) da_nil))) (dg_tup rfl (dgs_cons (dg_tup rfl (dgs_cons (dg_name 2 (by decide) (by decide) nd rfl (by first | exact Or.inl rfl | exact Or.inr rfl)) (dgs_cons (dg_name 3 (by decide) (by decide) nd rfl (by first | exact Or.inl rfl | exact Or.inr rfl)) dgs_nil))) (dgs_cons (dg_tup rfl (dgs_cons (dg_name 4 (by decide) (by decide) nd rfl (by first | exact Or.inl rfl | exact Or.inr rfl)) (dgs_cons (dg_name 5 (by decide) (by decide) nd rfl (by first | exact Or.inl rfl | exact Or.inr rfl)) dgs_nil))) dgs_nil)))
    (dss_cons (ds_if (dt_w (dw_or (dt_cmp (o_notIn (r65 hr)) (DE.du (de_bin o_sub (DN.du dn_int) (DE.du (de_var 4)))) (DE.du (de_ix (DE.du (de_ix (DE.du (de_var 0)) (DN.du dn_int))) (DE.du (de_var 3)))) rfl) (dw_or1 (dt_cmp (o_eq (r65 hr)) (DE.du (de_bin o_sub (DN.du dn_int) (DE.du (de_var 4)))) (DE.du (de_var 2)) rfl))))
    (dss_cons (ds_ret (DN.de dn_bl))
    dss_nil)
    dss_nil)
    dss_nil))
    (dss_cons (ds_set 6 (by decide) nd rfl (Or.inr rfl) (DN.de (dn_comp (own := [("step", 7)]) rfl nd (DI.c (di_seq (de_var 1))) (blkOk_by (by rfl)) (by decide) (fun _ _ _ _ _ => (dg_name 7 (by decide) (by decide) nd rfl (by first | exact Or.inl rfl | exact Or.inr rfl))) (fun _ _ _ _ _ => dts_nil) (fun _ _ _ _ _ => (de_ix (DE.du (de_var 7)) (DN.du dn_int))))))
    (dss_cons (ds_ret (de_bltB (b_any rfl) rfl m_any (by rfl) (dau_cons (DN.du (dn_comp (own := [("literal", 2)]) rfl nd (DI.c (di_seq (de_var 6))) (blkOk_by (by rfl)) (by decide) (fun _ _ _ _ _ => (dg_name 2 (by decide) (by decide) nd rfl (by first | exact Or.inl rfl | exact Or.inr rfl))) (fun _ _ _ _ _ => dts_nil) (fun _ _ _ _ _ => (de_cmp (o_in (r65 hr)) (DE.du (de_bin o_sub (DN.du dn_int) (DE.du (de_var 2)))) (DE.du (de_var 6)) rfl)))) dau_nil)))
    dss_nil))))
/-! ### is_lot -/
def d_is_lot : SD :=
    (S.seq (S.ite (T.or (T.not (T.val (E.op1 isTup (E.var 1)))) (T.not (T.val (E.blt allD (A.cons (E.comp (I.seq (E.var 1)) [2] (Gt.name 2) T.yes (E.app φ_is_between (A.cons (E.var 2) (A.cons (E.cst (.int 1)) (A.cons (E.var 0) A.nil))))) A.nil)))))
    (S.seq (S.ret (E.cst (.bl false)))
    S.nil)
    S.nil)
    (S.seq (S.ret (E.app φ_are_rising (A.cons (E.var 1) A.nil)))
    S.nil))
def φ_is_lot : List D → M D := fnD 3 d_is_lot
theorem sc_is_lot : FnScope ["names", "thing", "name"] ["names", "thing"] (defScope (top 6)) := ⟨rfl, rfl, rfl, by decide +kernel, rfl, by decide +kernel, by decide +kernel⟩
theorem fc_is_lot {P : Program} {w : World} {K : PySem.W.Frag} {mg : Str → Option Value} {base : Heap} (F : Fnc1 K mg "is_lot" (top 6)) (m_all : mg "all" = none) (m_isinstance : mg "isinstance" = none) (m_tuple : mg "tuple" = none) (F_are_rising : Fc P w K mg base "are_rising" 1 1 φ_are_rising) (F_is_between : Fc P w K mg base "is_between" 3 2 φ_is_between) : Fc P w K mg base "is_lot" 2 3 φ_is_lot := by
  refine Fnc1.fc F sc_is_lot (O := []) (by decide) (k := 2) (fun cdv A outer s H E Z hcdv hr tk => ?_) (fun _ _ _ _ _ _ us hl => match us, hl with | [_, _], _ => rfl)
  have nd := sc_is_lot.nd
  exact (dss_cons (ds_if (dt_w (dw_or (dt_not (dt_val (de_isi isi_tuple rfl m_isinstance rfl m_tuple (by rfl) (DE.du (de_var 1))))) (dw_or1 (dt_not (dt_val (de_bltB (b_all rfl) rfl m_all (by rfl) (dau_cons (DN.du (dn_comp (own := [("name", 2)]) rfl nd (DI.c (di_seq (de_var 1))) (blkOk_by (by rfl)) (by decide) (fun _ _ _ _ _ => (dg_name 2 (by decide) (by decide) nd rfl (by first | exact Or.inl rfl | exact Or.inr rfl))) (fun _ _ _ _ _ => dts_nil) (fun _ _ _ _ _ => (de_app (Fc.dn F_is_between) (hr.mono (by decide)) rfl (da_cons (de_var 2) (da_cons (DN.de dn_int) (da_cons (de_var 0) da_nil))) (alen_cons (alen_cons (alen_cons alen_nil))))))) dau_nil)))))))
    (dss_cons (ds_ret (DN.de dn_bl))
    dss_nil)
    dss_nil)
    (dss_cons (ds_ret (de_app (Fc.dn F_are_rising) (hr.mono (by decide)) rfl (da_cons (de_var 1) da_nil) (alen_cons alen_nil)))
    dss_nil))
/-! ### check_reading -/
def d_check_reading : SD :=
    (S.seq (S.expr (E.app φ_need_bundle (A.cons (E.var 0) A.nil)))
    (S.seq (S.expr (E.app φ_need_form (A.cons (E.var 1) (A.cons (E.tup (A.cons (E.cst (.str "plain")) (A.cons (E.cst (.str "ring")) A.nil))) A.nil))))
    (S.seq (S.ite (T.val (E.op2 eqD (E.ix (E.var 1) (E.cst (.int 0))) (E.cst (.str "plain"))))
    (S.seq (S.set 2 (E.and (E.app φ_is_lot (A.cons (E.ix (E.var 0) (E.cst (.int 0))) (A.cons (E.ix (E.var 1) (E.cst (.int 1))) A.nil))) (E.op2 eqD (E.app φ_crowded_in (A.cons (E.var 0) (A.cons (E.ix (E.var 1) (E.cst (.int 1))) A.nil))) (E.cst (.int 0)))))
    S.nil)
    (S.seq (S.set 2 (E.app φ_is_ring (A.cons (E.var 0) (A.cons (E.ix (E.var 1) (E.cst (.int 1))) A.nil))))
    S.nil))
    (S.seq (S.ite (T.not (T.val (E.var 2)))
    (S.seq S.bad
    S.nil)
    S.nil)
    (S.seq (S.ret (E.ix (E.var 1) (E.cst (.int 0))))
    S.nil)))))
def φ_check_reading : List D → M D := fnD 3 d_check_reading
theorem sc_check_reading : FnScope ["bundle", "paper", "holds"] ["bundle", "paper"] (defScope (top 36)) := ⟨rfl, rfl, rfl, by decide +kernel, rfl, by decide +kernel, by decide +kernel⟩
theorem fc_check_reading {P : Program} {w : World} {K : PySem.W.Frag} {mg : Str → Option Value} {base : Heap} (F : Fnc1 K mg "check_reading" (top 36)) (g_PLAIN : ∃ t, mg "PLAIN" = some (.str "plain" t)) (g_RING : ∃ t, mg "RING" = some (.str "ring" t)) (F_crowded_in : Fc P w K mg base "crowded_in" 2 2 φ_crowded_in) (F_is_lot : Fc P w K mg base "is_lot" 2 3 φ_is_lot) (F_is_ring : Fc P w K mg base "is_ring" 2 4 φ_is_ring) (F_need_form : Fc P w K mg base "need_form" 2 1 φ_need_form) (F_need_bundle : Fc P w K mg base "need_bundle" 1 4 φ_need_bundle) : Fc P w K mg base "check_reading" 2 5 φ_check_reading := by
  refine Fnc1.fc F sc_check_reading (O := []) (by decide) (k := 4) (fun cdv A outer s H E Z hcdv hr tk => ?_) (fun _ _ _ _ _ _ us hl => match us, hl with | [_, _], _ => rfl)
  have nd := sc_check_reading.nd
  exact (dss_cons (ds_expr (DE.du (de_app (Fc.dn F_need_bundle) (hr.mono (by decide)) rfl (da_cons (de_var 0) da_nil) (alen_cons alen_nil))))
    (dss_cons (ds_expr (DE.du (de_app (Fc.dn F_need_form) (hr.mono (by decide)) rfl (da_cons (de_var 1) (da_cons (de_tup (da_cons (DN.de (dn_gS rfl g_PLAIN)) (da_cons (DN.de (dn_gS rfl g_RING)) da_nil)) (Len.ok (len_cons (len_cons len_nil)))) da_nil)) (alen_cons (alen_cons alen_nil)))))
    (dss_cons (ds_if (dt_cmp (o_eq (r65 hr)) (DE.du (de_ix (DE.du (de_var 1)) (DN.du dn_int))) (DN.du (dn_gS rfl g_PLAIN)) rfl)
    (dss_cons (ds_set 2 (by decide) nd rfl (Or.inl rfl) (de_and (de_app (Fc.dn F_is_lot) (hr.mono (by decide)) rfl (da_cons (de_ix (DE.du (de_var 0)) (DN.du dn_int)) (da_cons (de_ix (DE.du (de_var 1)) (DN.du dn_int)) da_nil)) (alen_cons (alen_cons alen_nil))) (de_one (de_cmp (o_eq (r65 hr)) (DE.du (de_app (Fc.dn F_crowded_in) (hr.mono (by decide)) rfl (da_cons (de_var 0) (da_cons (de_ix (DE.du (de_var 1)) (DN.du dn_int)) da_nil)) (alen_cons (alen_cons alen_nil)))) (DN.du dn_int) rfl))))
    dss_nil)
    (dss_cons (ds_set 2 (by decide) nd rfl (Or.inl rfl) (de_app (Fc.dn F_is_ring) (hr.mono (by decide)) rfl (da_cons (de_var 0) (da_cons (de_ix (DE.du (de_var 1)) (DN.du dn_int)) da_nil)) (alen_cons (alen_cons alen_nil))))
    dss_nil))
    (dss_cons (ds_if (dt_not (dt_val (de_var 2)))
    (dss_cons ds_bad
    dss_nil)
    dss_nil)
    (dss_cons (ds_ret (de_ix (DE.du (de_var 1)) (DN.du dn_int)))
    dss_nil)))))
/-! ### need_reading -/
def d_need_reading : SD :=
    (S.seq (S.ite (T.not (T.val (E.app φ_is_lot (A.cons (E.ix (E.app φ_need_bundle (A.cons (E.var 0) A.nil)) (E.cst (.int 0))) (A.cons (E.var 1) A.nil)))))
    (S.seq S.bad
    S.nil)
    S.nil)
    S.nil)
def φ_need_reading : List D → M D := fnD 2 d_need_reading
theorem sc_need_reading : FnScope ["bundle", "lot"] ["bundle", "lot"] (defScope (top 19)) := ⟨rfl, rfl, rfl, by decide +kernel, rfl, by decide +kernel, by decide +kernel⟩
theorem fc_need_reading {P : Program} {w : World} {K : PySem.W.Frag} {mg : Str → Option Value} {base : Heap} (F : Fnc1 K mg "need_reading" (top 19)) (F_is_lot : Fc P w K mg base "is_lot" 2 3 φ_is_lot) (F_need_bundle : Fc P w K mg base "need_bundle" 1 4 φ_need_bundle) : Fc P w K mg base "need_reading" 2 5 φ_need_reading := by
  refine Fnc1.fc F sc_need_reading (O := []) (by decide) (k := 4) (fun cdv A outer s H E Z hcdv hr tk => ?_) (fun _ _ _ _ _ _ us hl => match us, hl with | [_, _], _ => rfl)
  have nd := sc_need_reading.nd
  exact (dss_cons (ds_if (dt_not (dt_val (de_app (Fc.dn F_is_lot) (hr.mono (by decide)) rfl (da_cons (de_ix (DE.du (de_app (Fc.dn F_need_bundle) (hr.mono (by decide)) rfl (da_cons (de_var 0) da_nil) (alen_cons alen_nil))) (DN.du dn_int)) (da_cons (de_var 1) da_nil)) (alen_cons (alen_cons alen_nil)))))
    (dss_cons ds_bad
    dss_nil)
    dss_nil)
    dss_nil)
/-! ### read_by -/
def d_read_by : SD :=
    (S.seq (S.expr (E.app φ_need_reading (A.cons (E.var 0) (A.cons (E.var 1) A.nil))))
    (S.seq (S.set 2 (E.comp (I.seq (E.ix (E.var 0) (E.cst (.int 1)))) [3] (Gt.name 3) T.yes (E.blt tupleD (A.cons (E.comp (I.seq (E.var 3)) [4] (Gt.name 4) T.yes (E.ifx (T.val (E.op2 inD (E.blt absD (A.cons (E.var 4) A.nil)) (E.var 1))) (E.op2 subD (E.cst (.int 0)) (E.var 4)) (E.var 4))) A.nil))))
    (S.seq (S.ret (E.tup (A.cons (E.ix (E.var 0) (E.cst (.int 0))) (A.cons (E.blt tupleD (A.cons (E.blt sortedD3 (A.cons (E.var 2) A.nil)) A.nil)) A.nil))))
    S.nil)))
def φ_read_by : List D → M D := fnD 5 d_read_by
theorem sc_read_by : FnScope ["bundle", "lot", "clauses", "clause", "one"] ["bundle", "lot"] (defScope (top 21)) := ⟨rfl, rfl, rfl, by decide +kernel, rfl, by decide +kernel, by decide +kernel⟩
theorem fc_read_by {P : Program} {w : World} {K : PySem.W.Frag} {mg : Str → Option Value} {base : Heap} (F : Fnc1 K mg "read_by" (top 21)) (m_abs : mg "abs" = none) (m_sorted : mg "sorted" = none) (m_tuple : mg "tuple" = none) (F_need_reading : Fc P w K mg base "need_reading" 2 5 φ_need_reading) : Fc P w K mg base "read_by" 2 6 φ_read_by := by
  refine Fnc1.fc F sc_read_by (O := []) (by decide) (k := 5) (fun cdv A outer s H E Z hcdv hr tk => ?_) (fun _ _ _ _ _ _ us hl => match us, hl with | [_, _], _ => rfl)
  have nd := sc_read_by.nd
  exact (dss_cons (ds_expr (DE.du (de_app (Fc.dn F_need_reading) (hr.mono (by decide)) rfl (da_cons (de_var 0) (da_cons (de_var 1) da_nil)) (alen_cons (alen_cons alen_nil)))))
    (dss_cons (ds_setComp (own := [("clause", 3)]) 2 (by decide) rfl nd rfl rfl (sw_true rfl rfl rfl (by rfl)) (DI.c (di_seq (de_ix (DE.du (de_var 0)) (DN.du dn_int)))) (blkOk_by (by rfl)) (by decide) (fun _ _ _ _ _ => (dg_name 3 (by decide) (by decide) nd rfl (by first | exact Or.inl rfl | exact Or.inr rfl))) (fun _ _ _ _ _ => dts_nil) (fun _ _ _ _ _ => (de_bltT b_tuple rfl m_tuple (by rfl) (dau_cons (DN.du (dn_comp (own := [("one", 4)]) rfl nd (DI.c (di_seq (de_var 3))) (blkOk_by (by rfl)) (by decide) (fun _ _ _ _ _ => (dg_name 4 (by decide) (by decide) nd rfl (by first | exact Or.inl rfl | exact Or.inr rfl))) (fun _ _ _ _ _ => dts_nil) (fun _ _ _ _ _ => (de_ifx (dt_cmp (o_in (r65 hr)) (DE.du (de_bltB b_abs rfl m_abs (by rfl) (dau_cons (DE.du (de_var 4)) dau_nil))) (DE.du (de_var 1)) rfl) (de_bin o_sub (DN.du dn_int) (DE.du (de_var 4))) (de_var 4))))) dau_nil))))
    (dss_cons (ds_ret (de_tup (da_cons (de_ix (DE.du (de_var 0)) (DN.du dn_int)) (da_cons (de_bltT b_tuple rfl m_tuple (by rfl) (dau_cons (DN.du (dn_bltB (b_sorted3 rfl (r65 hr)) rfl m_sorted (by rfl) (dau_cons (DE.du (de_var 2)) dau_nil))) dau_nil)) da_nil)) (Len.ok (len_cons (len_cons len_nil)))))
    dss_nil)))
/-! ### all_plain -/
def d_all_plain : SD :=
    (S.seq (S.ret (E.blt tupleD (A.cons (E.app φ_plain_in (A.cons (E.app φ_need_bundle (A.cons (E.var 0) A.nil)) A.nil)) A.nil)))
    S.nil)
def φ_all_plain : List D → M D := fnD 1 d_all_plain
theorem sc_all_plain : FnScope ["bundle"] ["bundle"] (defScope (top 27)) := ⟨rfl, rfl, rfl, by decide +kernel, rfl, by decide +kernel, by decide +kernel⟩
theorem fc_all_plain {P : Program} {w : World} {K : PySem.W.Frag} {mg : Str → Option Value} {base : Heap} (F : Fnc1 K mg "all_plain" (top 27)) (m_tuple : mg "tuple" = none) (F_plain_in : Fc P w K mg base "plain_in" 1 3 φ_plain_in) (F_need_bundle : Fc P w K mg base "need_bundle" 1 4 φ_need_bundle) : Fc P w K mg base "all_plain" 1 5 φ_all_plain := by
  refine Fnc1.fc F sc_all_plain (O := []) (by decide) (k := 4) (fun cdv A outer s H E Z hcdv hr tk => ?_) (fun _ _ _ _ _ _ us hl => match us, hl with | [_], _ => rfl)
  have nd := sc_all_plain.nd
  exact (dss_cons (ds_ret (de_bltT b_tuple rfl m_tuple (by rfl) (dau_cons (DE.du (de_app (Fc.dn F_plain_in) (hr.mono (by decide)) rfl (da_cons (de_app (Fc.dn F_need_bundle) (hr.mono (by decide)) rfl (da_cons (de_var 0) da_nil) (alen_cons alen_nil)) da_nil) (alen_cons alen_nil))) dau_nil)))
    dss_nil)
/-! ### plain_reading -/
def d_plain_reading : SD :=
    (S.seq (S.set 1 (E.app φ_plain_in (A.cons (E.app φ_need_bundle (A.cons (E.var 0) A.nil)) A.nil)))
    (S.seq (S.ret (E.ifx (T.val (E.op2 neD (E.var 1) (E.lst A.nil))) (E.ix (E.var 1) (E.cst (.int 0))) (E.cst .non)))
    S.nil))
def φ_plain_reading : List D → M D := fnD 2 d_plain_reading
theorem sc_plain_reading : FnScope ["bundle", "found"] ["bundle"] (defScope (top 26)) := ⟨rfl, rfl, rfl, by decide +kernel, rfl, by decide +kernel, by decide +kernel⟩
theorem fc_plain_reading {P : Program} {w : World} {K : PySem.W.Frag} {mg : Str → Option Value} {base : Heap} (F : Fnc1 K mg "plain_reading" (top 26)) (F_plain_in : Fc P w K mg base "plain_in" 1 3 φ_plain_in) (F_need_bundle : Fc P w K mg base "need_bundle" 1 4 φ_need_bundle) : Fc P w K mg base "plain_reading" 1 5 φ_plain_reading := by
  refine Fnc1.fc F sc_plain_reading (O := []) (by decide) (k := 4) (fun cdv A outer s H E Z hcdv hr tk => ?_) (fun _ _ _ _ _ _ us hl => match us, hl with | [_], _ => rfl)
  have nd := sc_plain_reading.nd
  exact (dss_cons (ds_set 1 (by decide) nd rfl (Or.inl rfl) (de_app (Fc.dn F_plain_in) (hr.mono (by decide)) rfl (da_cons (de_app (Fc.dn F_need_bundle) (hr.mono (by decide)) rfl (da_cons (de_var 0) da_nil) (alen_cons alen_nil)) da_nil) (alen_cons alen_nil)))
    (dss_cons (ds_ret (de_ifx (dt_cmp (o_ne (r65 hr)) (DE.du (de_var 1)) (DN.du (dn_lst da_nil (Len.ok len_nil))) rfl) (de_ix (DE.du (de_var 1)) (DN.du dn_int)) (DN.de dn_non)))
    dss_nil))
/-! ### nearest_reading -/
def d_nearest_reading : SD :=
    (S.seq (S.expr (E.app φ_need_bundle (A.cons (E.var 0) A.nil)))
    (S.seq (S.ret (E.ix (E.blt minD2 (A.cons (E.comp (I.seq (E.app φ_lots_of (A.cons (E.ix (E.var 0) (E.cst (.int 0))) A.nil))) [1] (Gt.name 1) T.yes (E.tup (A.cons (E.app φ_crowded_in (A.cons (E.var 0) (A.cons (E.var 1) A.nil))) (A.cons (E.var 1) A.nil)))) A.nil)) (E.cst (.int 1))))
    S.nil))
def φ_nearest_reading : List D → M D := fnD 2 d_nearest_reading
theorem sc_nearest_reading : FnScope ["bundle", "lot"] ["bundle"] (defScope (top 28)) := ⟨rfl, rfl, rfl, by decide +kernel, rfl, by decide +kernel, by decide +kernel⟩
theorem fc_nearest_reading {P : Program} {w : World} {K : PySem.W.Frag} {mg : Str → Option Value} {base : Heap} (F : Fnc1 K mg "nearest_reading" (top 28)) (m_min : mg "min" = none) (F_lots_of : Fc P w K mg base "lots_of" 1 1 φ_lots_of) (F_crowded_in : Fc P w K mg base "crowded_in" 2 2 φ_crowded_in) (F_need_bundle : Fc P w K mg base "need_bundle" 1 4 φ_need_bundle) : Fc P w K mg base "nearest_reading" 1 5 φ_nearest_reading := by
  refine Fnc1.fc F sc_nearest_reading (O := []) (by decide) (k := 4) (fun cdv A outer s H E Z hcdv hr tk => ?_) (fun _ _ _ _ _ _ us hl => match us, hl with | [_], _ => rfl)
  have nd := sc_nearest_reading.nd
  exact (dss_cons (ds_expr (DE.du (de_app (Fc.dn F_need_bundle) (hr.mono (by decide)) rfl (da_cons (de_var 0) da_nil) (alen_cons alen_nil))))
    (dss_cons (ds_ret (de_ix (DE.du (de_bltB (b_minD rfl (r65 hr)) rfl m_min (by rfl) (dau_cons (DN.du (dn_comp (own := [("lot", 1)]) rfl nd (DI.c (di_seq (de_app (Fc.dn F_lots_of) (hr.mono (by decide)) rfl (da_cons (de_ix (DE.du (de_var 0)) (DN.du dn_int)) da_nil) (alen_cons alen_nil)))) (blkOk_by (by rfl)) (by decide) (fun _ _ _ _ _ => (dg_name 1 (by decide) (by decide) nd rfl (by first | exact Or.inl rfl | exact Or.inr rfl))) (fun _ _ _ _ _ => dts_nil) (fun _ _ _ _ _ => (de_tup (da_cons (de_app (Fc.dn F_crowded_in) (hr.mono (by decide)) rfl (da_cons (de_var 0) (da_cons (de_var 1) da_nil)) (alen_cons (alen_cons alen_nil))) (da_cons (de_var 1) da_nil)) (Len.ok (len_cons (len_cons len_nil))))))) dau_nil))) (DN.du dn_int)))
    dss_nil))
/-! ### is_plain -/
def d_is_plain : SD :=
    (S.seq (S.expr (E.app φ_need_reading (A.cons (E.var 0) (A.cons (E.var 1) A.nil))))
    (S.seq (S.ret (E.op2 eqD (E.app φ_crowded_in (A.cons (E.var 0) (A.cons (E.var 1) A.nil))) (E.cst (.int 0))))
    S.nil))
def φ_is_plain : List D → M D := fnD 2 d_is_plain
theorem sc_is_plain : FnScope ["bundle", "lot"] ["bundle", "lot"] (defScope (top 23)) := ⟨rfl, rfl, rfl, by decide +kernel, rfl, by decide +kernel, by decide +kernel⟩
theorem fc_is_plain {P : Program} {w : World} {K : PySem.W.Frag} {mg : Str → Option Value} {base : Heap} (F : Fnc1 K mg "is_plain" (top 23)) (F_crowded_in : Fc P w K mg base "crowded_in" 2 2 φ_crowded_in) (F_need_reading : Fc P w K mg base "need_reading" 2 5 φ_need_reading) : Fc P w K mg base "is_plain" 2 6 φ_is_plain := by
  refine Fnc1.fc F sc_is_plain (O := []) (by decide) (k := 5) (fun cdv A outer s H E Z hcdv hr tk => ?_) (fun _ _ _ _ _ _ us hl => match us, hl with | [_, _], _ => rfl)
  have nd := sc_is_plain.nd
  exact (dss_cons (ds_expr (DE.du (de_app (Fc.dn F_need_reading) (hr.mono (by decide)) rfl (da_cons (de_var 0) (da_cons (de_var 1) da_nil)) (alen_cons (alen_cons alen_nil)))))
    (dss_cons (ds_ret (de_cmp (o_eq (r65 hr)) (DE.du (de_app (Fc.dn F_crowded_in) (hr.mono (by decide)) rfl (da_cons (de_var 0) (da_cons (de_var 1) da_nil)) (alen_cons (alen_cons alen_nil)))) (DN.du dn_int) rfl))
    dss_nil))
/-! ### law_bundle_right -/
def d_law_bundle_right : SD :=
    (S.seq (S.par 1 2 (E.app φ_law_lots (A.cons (E.ix (E.var 0) (E.cst (.int 0))) A.nil)) (E.blt reprD (A.cons (E.var 0) A.nil)))
    (S.seq (S.set 3 (E.blt tupleD (A.cons (E.comp (I.seq (E.var 1)) [7] (Gt.name 7) (T.val (E.op2 eqD (E.app φ_law_crowded (A.cons (E.var 0) (A.cons (E.var 7) A.nil))) (E.cst (.int 0)))) (E.var 7)) A.nil)))
    (S.seq (S.set 4 (E.ifx (T.val (E.op2 neD (E.var 3) (E.tup A.nil))) (E.ix (E.var 3) (E.cst (.int 0))) (E.cst .non)))
    (S.seq (S.set 5 (E.ix (E.blt minD2 (A.cons (E.comp (I.seq (E.var 1)) [7] (Gt.name 7) T.yes (E.tup (A.cons (E.app φ_law_crowded (A.cons (E.var 0) (A.cons (E.var 7) A.nil))) (A.cons (E.var 7) A.nil)))) A.nil)) (E.cst (.int 1))))
    (S.seq (S.for_ (I.range rng1 (A.cons (E.cst (.int 2)) A.nil)) (Gt.name 6)
    (S.seq (S.ite (T.val (E.op2 neS (E.blt reprD (A.cons (E.lst (A.cons (E.app φ_all_plain (A.cons (E.var 0) A.nil)) (A.cons (E.app φ_plain_reading (A.cons (E.var 0) A.nil)) (A.cons (E.app φ_nearest_reading (A.cons (E.var 0) A.nil)) A.nil)))) A.nil)) (E.blt reprD (A.cons (E.lst (A.cons (E.var 3) (A.cons (E.var 4) (A.cons (E.var 5) A.nil)))) A.nil))))
    (S.seq (S.ret (E.cst (.bl false)))
    S.nil)
    S.nil)
    S.nil))
    (S.seq (S.for_ (I.seq (E.var 1)) (Gt.name 7)
    (S.seq (S.set 8 (E.lst (A.cons (E.app φ_law_read (A.cons (E.var 0) (A.cons (E.var 7) A.nil))) (A.cons (E.op2 inD (E.var 7) (E.var 3)) A.nil))))
    (S.seq (S.ite (T.or (T.val (E.op2 neS (E.blt reprD (A.cons (E.lst (A.cons (E.app φ_read_by (A.cons (E.var 0) (A.cons (E.var 7) A.nil))) (A.cons (E.app φ_is_plain (A.cons (E.var 0) (A.cons (E.var 7) A.nil))) A.nil))) A.nil)) (E.blt reprD (A.cons (E.var 8) A.nil)))) (T.val (E.op2 neD (E.app φ_read_by (A.cons (E.ix (E.var 8) (E.cst (.int 0))) (A.cons (E.var 7) A.nil))) (E.var 0))))
    (S.seq (S.ret (E.cst (.bl false)))
    S.nil)
    S.nil)
    S.nil)))
    (S.seq (S.set 9 (E.app φ_reading_paper (A.cons (E.var 0) A.nil)))
    (S.seq (S.set 10 (E.ifx (T.val (E.op2 neD (E.var 3) (E.tup A.nil))) (E.cst (.str "plain")) (E.cst (.str "ring"))))
    (S.seq (S.ite (T.or (T.val (E.op2 neD (E.app φ_law_due (A.cons (E.var 0) (A.cons (E.var 9) A.nil))) (E.lst (A.cons (E.var 10) A.nil)))) (T.or (T.val (E.op2 neD (E.app φ_check_reading (A.cons (E.var 0) (A.cons (E.var 9) A.nil))) (E.var 10))) (T.val (E.op2 neD (E.app φ_reading_paper (A.cons (E.var 0) A.nil)) (E.var 9)))))
    (S.seq (S.ret (E.cst (.bl false)))
    S.nil)
    S.nil)
    (S.seq (S.ret (E.op2 eqS (E.blt reprD (A.cons (E.var 0) A.nil)) (E.var 2)))
    S.nil))))))))))
def φ_law_bundle_right : List D → M D := fnD 11 d_law_bundle_right
theorem sc_law_bundle_right : FnScope ["bundle", "lots", "kept", "plain", "first", "least", "twice", "lot", "due", "sheet", "word"] ["bundle"] (defScope (top 52)) := ⟨rfl, rfl, rfl, by decide +kernel, rfl, by decide +kernel, by decide +kernel⟩
theorem fc_law_bundle_right {P : Program} {w : World} {K : PySem.W.Frag} {mg : Str → Option Value} {base : Heap} (F : Fnc1 K mg "_law_bundle_right" (top 52)) (m_min : mg "min" = none) (m_range : mg "range" = none) (m_repr : mg "repr" = none) (m_tuple : mg "tuple" = none) (F_reading_paper : Fc P w K mg base "reading_paper" 1 5 φ_reading_paper) (F_check_reading : Fc P w K mg base "check_reading" 2 5 φ_check_reading) (F_law_due : Fc P w K mg base "_law_due" 2 3 φ_law_due) (F_read_by : Fc P w K mg base "read_by" 2 6 φ_read_by) (F_is_plain : Fc P w K mg base "is_plain" 2 6 φ_is_plain) (F_law_read : Fc P w K mg base "_law_read" 2 1 φ_law_read) (F_nearest_reading : Fc P w K mg base "nearest_reading" 1 5 φ_nearest_reading) (F_plain_reading : Fc P w K mg base "plain_reading" 1 5 φ_plain_reading) (F_all_plain : Fc P w K mg base "all_plain" 1 5 φ_all_plain) (F_law_crowded : Fc P w K mg base "_law_crowded" 2 2 φ_law_crowded) (F_law_lots : Fc P w K mg base "_law_lots" 1 1 φ_law_lots) : Fc P w K mg base "_law_bundle_right" 1 7 φ_law_bundle_right := by
  refine Fnc1.fc F sc_law_bundle_right (O := []) (by decide) (k := 6) (fun cdv A outer s H E Z hcdv hr tk => ?_) (fun _ _ _ _ _ _ us hl => match us, hl with | [_], _ => rfl)
  have nd := sc_law_bundle_right.nd
  exact (dss_cons (ds_parEE 1 2 (by decide) (by decide) rfl nd rfl rfl (by decide) rfl rfl (de_app (Fc.dn F_law_lots) (hr.mono (by decide)) rfl (da_cons (de_ix (DE.du (de_var 0)) (DN.du dn_int)) da_nil) (alen_cons alen_nil)) (de_bltB (b_repr (r65 hr) (rg hr)) rfl m_repr (by rfl) (dau_cons (DE.du (de_var 0)) dau_nil)) (by rfl))
    (dss_cons (ds_set 3 (by decide) nd rfl (Or.inl rfl) (de_bltT b_tuple rfl m_tuple (by rfl) (dau_cons (DN.du (dn_comp (own := [("lot", 7)]) rfl nd (DI.c (di_seq (de_var 1))) (blkOk_by (by rfl)) (by decide) (fun _ _ _ _ _ => (dg_name 7 (by decide) (by decide) nd rfl (by first | exact Or.inl rfl | exact Or.inr rfl))) (fun _ _ _ _ _ => (dts_one (dt_cmp (o_eq (r65 hr)) (DE.du (de_app (Fc.dn F_law_crowded) (hr.mono (by decide)) rfl (da_cons (de_var 0) (da_cons (de_var 7) da_nil)) (alen_cons (alen_cons alen_nil)))) (DN.du dn_int) rfl))) (fun _ _ _ _ _ => (de_var 7)))) dau_nil)))
    (dss_cons (ds_set 4 (by decide) nd rfl (Or.inl rfl) (de_ifx (dt_cmp (o_ne (r65 hr)) (DE.du (de_var 3)) (DE.du (de_tup da_nil (Len.ok len_nil))) rfl) (de_ix (DE.du (de_var 3)) (DN.du dn_int)) (DN.de dn_non)))
    (dss_cons (ds_set 5 (by decide) nd rfl (Or.inl rfl) (de_ix (DE.du (de_bltB (b_minD rfl (r65 hr)) rfl m_min (by rfl) (dau_cons (DN.du (dn_comp (own := [("lot", 7)]) rfl nd (DI.c (di_seq (de_var 1))) (blkOk_by (by rfl)) (by decide) (fun _ _ _ _ _ => (dg_name 7 (by decide) (by decide) nd rfl (by first | exact Or.inl rfl | exact Or.inr rfl))) (fun _ _ _ _ _ => dts_nil) (fun _ _ _ _ _ => (de_tup (da_cons (de_app (Fc.dn F_law_crowded) (hr.mono (by decide)) rfl (da_cons (de_var 0) (da_cons (de_var 7) da_nil)) (alen_cons (alen_cons alen_nil))) (da_cons (de_var 7) da_nil)) (Len.ok (len_cons (len_cons len_nil))))))) dau_nil))) (DN.du dn_int)))
    (dss_cons (ds_for (vs := [6]) (passes_of rfl) rfl (di_range1 rfl m_range (dau_cons (DN.du dn_int) dau_nil)) (dg_name 6 (by decide) (by decide) nd rfl (by first | exact Or.inl rfl | exact Or.inr rfl))
    (dss_cons (ds_if (dt_cmp o_neS (DE.du (de_bltB (b_repr (r65 hr) (rg hr)) rfl m_repr (by rfl) (dau_cons (DN.du (dn_lst (da_cons (de_app (Fc.dn F_all_plain) (hr.mono (by decide)) rfl (da_cons (de_var 0) da_nil) (alen_cons alen_nil)) (da_cons (de_app (Fc.dn F_plain_reading) (hr.mono (by decide)) rfl (da_cons (de_var 0) da_nil) (alen_cons alen_nil)) (da_cons (de_app (Fc.dn F_nearest_reading) (hr.mono (by decide)) rfl (da_cons (de_var 0) da_nil) (alen_cons alen_nil)) da_nil))) (Len.ok (len_cons (len_cons (len_cons len_nil)))))) dau_nil))) (DE.du (de_bltB (b_repr (r65 hr) (rg hr)) rfl m_repr (by rfl) (dau_cons (DN.du (dn_lst (da_cons (de_var 3) (da_cons (de_var 4) (da_cons (de_var 5) da_nil))) (Len.ok (len_cons (len_cons (len_cons len_nil)))))) dau_nil))) rfl)
    (dss_cons (ds_ret (DN.de dn_bl))
    dss_nil)
    dss_nil)
    dss_nil))
    (dss_cons (ds_for (vs := [7]) (passes_of rfl) rfl (di_seq (de_var 1)) (dg_name 7 (by decide) (by decide) nd rfl (by first | exact Or.inl rfl | exact Or.inr rfl))
    (dss_cons (ds_set 8 (by decide) nd rfl (Or.inl rfl) (DN.de (dn_lst (da_cons (de_app (Fc.dn F_law_read) (hr.mono (by decide)) rfl (da_cons (de_var 0) (da_cons (de_var 7) da_nil)) (alen_cons (alen_cons alen_nil))) (da_cons (de_cmp (o_in (r65 hr)) (DE.du (de_var 7)) (DE.du (de_var 3)) rfl) da_nil)) (Len.ok (len_cons (len_cons len_nil))))))
    (dss_cons (ds_if (dt_w (dw_or (dt_cmp o_neS (DE.du (de_bltB (b_repr (r65 hr) (rg hr)) rfl m_repr (by rfl) (dau_cons (DN.du (dn_lst (da_cons (de_app (Fc.dn F_read_by) (hr.mono (by decide)) rfl (da_cons (de_var 0) (da_cons (de_var 7) da_nil)) (alen_cons (alen_cons alen_nil))) (da_cons (de_app (Fc.dn F_is_plain) (hr.mono (by decide)) rfl (da_cons (de_var 0) (da_cons (de_var 7) da_nil)) (alen_cons (alen_cons alen_nil))) da_nil)) (Len.ok (len_cons (len_cons len_nil))))) dau_nil))) (DE.du (de_bltB (b_repr (r65 hr) (rg hr)) rfl m_repr (by rfl) (dau_cons (DE.du (de_var 8)) dau_nil))) rfl) (dw_or1 (dt_cmp (o_ne (r65 hr)) (DE.du (de_app (Fc.dn F_read_by) (hr.mono (by decide)) rfl (da_cons (de_ix (DE.du (de_var 8)) (DN.du dn_int)) (da_cons (de_var 7) da_nil)) (alen_cons (alen_cons alen_nil)))) (DE.du (de_var 0)) rfl))))
    (dss_cons (ds_ret (DN.de dn_bl))
    dss_nil)
    dss_nil)
    dss_nil)))
    (dss_cons (ds_set 9 (by decide) nd rfl (Or.inl rfl) (de_app (Fc.dn F_reading_paper) (hr.mono (by decide)) rfl (da_cons (de_var 0) da_nil) (alen_cons alen_nil)))
    (dss_cons (ds_set 10 (by decide) nd rfl (Or.inl rfl) (DN.de (dn_ifx (dt_cmp (o_ne (r65 hr)) (DE.du (de_var 3)) (DE.du (de_tup da_nil (Len.ok len_nil))) rfl) dn_str dn_str)))
    (dss_cons (ds_if (dt_w (dw_or (dt_cmp (o_ne (r65 hr)) (DE.du (de_app (Fc.dn F_law_due) (hr.mono (by decide)) rfl (da_cons (de_var 0) (da_cons (de_var 9) da_nil)) (alen_cons (alen_cons alen_nil)))) (DN.du (dn_lst (da_cons (de_var 10) da_nil) (Len.ok (len_cons len_nil)))) rfl) (dw_or (dt_cmp (o_ne (r65 hr)) (DE.du (de_app (Fc.dn F_check_reading) (hr.mono (by decide)) rfl (da_cons (de_var 0) (da_cons (de_var 9) da_nil)) (alen_cons (alen_cons alen_nil)))) (DE.du (de_var 10)) rfl) (dw_or1 (dt_cmp (o_ne (r65 hr)) (DE.du (de_app (Fc.dn F_reading_paper) (hr.mono (by decide)) rfl (da_cons (de_var 0) da_nil) (alen_cons alen_nil))) (DE.du (de_var 9)) rfl)))))
    (dss_cons (ds_ret (DN.de dn_bl))
    dss_nil)
    dss_nil)
    (dss_cons (ds_ret (de_cmp o_eqS (DE.du (de_bltB (b_repr (r65 hr) (rg hr)) rfl m_repr (by rfl) (dau_cons (DE.du (de_var 0)) dau_nil))) (DE.du (de_var 2)) rfl))
    dss_nil))))))))))
/-! ### law_mixed -/
def d_law_mixed : SD :=
    (S.seq (S.set 0 (E.op2 modD (E.blt intD (A.cons (E.var 0) A.nil)) (E.cst (.int 2147483647))))
    (S.seq (S.ret (E.op2 modD (E.op2 mulD (E.op2 modD (E.op2 addD (E.op2 addD (E.op2 mulD (E.var 0) (E.op2 addD (E.cst (.int 48271)) (E.op2 mulD (E.op2 mulD (E.cst (.int 2)) (E.var 1)) (E.var 1)))) (E.op2 mulD (E.cst (.int 69621)) (E.var 1))) (E.cst (.int 11))) (E.cst (.int 2147483647))) (E.cst (.int 69621))) (E.cst (.int 2147483629))))
    S.nil))
def φ_law_mixed : List D → M D := fnD 2 d_law_mixed
theorem sc_law_mixed : FnScope ["cell", "k"] ["cell", "k"] (defScope (top 38)) := ⟨rfl, rfl, rfl, by decide +kernel, rfl, by decide +kernel, by decide +kernel⟩
theorem fc_law_mixed {P : Program} {w : World} {K : PySem.W.Frag} {mg : Str → Option Value} {base : Heap} (F : Fnc1 K mg "_law_mixed" (top 38)) (m_int : mg "int" = none) : Fc P w K mg base "_law_mixed" 2 1 φ_law_mixed := by
  refine Fnc1.fc F sc_law_mixed (O := []) (by decide) (k := 0) (fun cdv A outer s H E Z hcdv hr tk => ?_) (fun _ _ _ _ _ _ us hl => match us, hl with | [_, _], _ => rfl)
  have nd := sc_law_mixed.nd
  exact (dss_cons (ds_set 0 (by decide) nd rfl (Or.inl rfl) (de_bin o_mod (DE.du (de_bltT b_int rfl m_int (by rfl) (dau_cons (DE.du (de_var 0)) dau_nil))) (DN.du dn_int)))
    (dss_cons (ds_ret (de_bin o_mod (DE.du (de_bin o_mul (DE.du (de_bin o_mod (DE.du (de_bin o_add (DE.du (de_bin o_add (DE.du (de_bin o_mul (DE.du (de_var 0)) (DE.du (de_bin o_add (DN.du dn_int) (DE.du (de_bin o_mul (DE.du (de_bin o_mul (DN.du dn_int) (DE.du (de_var 1)))) (DE.du (de_var 1)))))))) (DE.du (de_bin o_mul (DN.du dn_int) (DE.du (de_var 1)))))) (DN.du dn_int))) (DN.du dn_int))) (DN.du dn_int))) (DN.du dn_int)))
    dss_nil))
/-! ### law_draw -/
def d_law_draw : SD :=
    (S.seq (S.set 2 (E.sget (E.var 0) (E.cst (.str "at"))))
    (S.seq (S.sputD (E.var 0) (E.cst (.str "at")) (E.op2 addD (E.var 2) (E.cst (.int 1))))
    (S.seq (S.set 3 (E.op2 modD (E.blt intD (A.cons (E.var 2) A.nil)) (E.slen (E.sget (E.var 0) (E.cst (.str "cells"))))))
    (S.seq (S.set 4 (E.six (E.sget (E.var 0) (E.cst (.str "lefts"))) (E.var 3)))
    (S.seq (S.ite (T.val (E.op2 gtD (E.var 4) (E.cst (.int 0))))
    (S.seq (S.sputL (E.sget (E.var 0) (E.cst (.str "lefts"))) (E.var 3) (E.op2 fdivD (E.var 4) (E.var 1)))
    (S.seq (S.ret (E.op2 modD (E.blt intD (A.cons (E.var 4) A.nil)) (E.var 1)))
    S.nil))
    S.nil)
    (S.seq (S.set 5 (E.app φ_law_mixed (A.cons (E.app φ_law_mixed (A.cons (E.six (E.sget (E.var 0) (E.cst (.str "cells"))) (E.var 3)) (A.cons (E.var 2) A.nil))) (A.cons (E.op2 addD (E.cst (.int 40)) (E.var 2)) A.nil))))
    (S.seq (S.ret (E.op2 modD (E.op2 fdivD (E.blt intD (A.cons (E.op2 addD (E.op2 mulD (E.var 5) (E.cst (.int 2147483647))) (E.app φ_law_mixed (A.cons (E.var 5) (A.cons (E.op2 addD (E.cst (.int 7)) (E.var 2)) A.nil)))) A.nil)) (E.cst (.int 64))) (E.var 1)))
    S.nil)))))))
def φ_law_draw : List D → M D := fnD 6 d_law_draw
theorem sc_law_draw : FnScope ["state", "many", "at", "place", "left", "number"] ["state", "many"] (defScope (top 40)) := ⟨rfl, rfl, rfl, by decide +kernel, rfl, by decide +kernel, by decide +kernel⟩
theorem fc_law_draw {P : Program} {w : World} {K : PySem.W.Frag} {mg : Str → Option Value} {base : Heap} (F : Fnc1 K mg "_law_draw" (top 40)) (m_int : mg "int" = none) (m_len : mg "len" = none) (F_law_mixed : Fc P w K mg base "_law_mixed" 2 1 φ_law_mixed) : Fc P w K mg base "_law_draw" 2 2 φ_law_draw := by
  refine Fnc1.fc F sc_law_draw (O := []) (by decide) (k := 1) (fun cdv A outer s H E Z hcdv hr tk => ?_) (fun _ _ _ _ _ _ us hl => match us, hl with | [_, _], _ => rfl)
  have nd := sc_law_draw.nd
  exact (dss_cons (ds_set 2 (by decide) nd rfl (Or.inl rfl) (de_sget (r1 hr) (DE.du (de_var 0)) (DN.du dn_str)))
    (dss_cons (ds_sputD (r1 hr) (DE.du (de_var 0)) (DN.du dn_str) (de_bin o_add (DE.du (de_var 2)) (DN.du dn_int)))
    (dss_cons (ds_set 3 (by decide) nd rfl (Or.inl rfl) (de_bin o_mod (DE.du (de_bltT b_int rfl m_int (by rfl) (dau_cons (DE.du (de_var 2)) dau_nil))) (DE.du (de_slen rfl m_len (DE.du (de_sget (r1 hr) (DE.du (de_var 0)) (DN.du dn_str)))))))
    (dss_cons (ds_set 4 (by decide) nd rfl (Or.inl rfl) (de_six (DE.du (de_sget (r1 hr) (DE.du (de_var 0)) (DN.du dn_str))) (DE.du (de_var 3))))
    (dss_cons (ds_if (dt_cmp o_gt (DE.du (de_var 4)) (DN.du dn_int) rfl)
    (dss_cons (ds_sputL (DE.du (de_sget (r1 hr) (DE.du (de_var 0)) (DN.du dn_str))) (DE.du (de_var 3)) (de_bin o_fdiv (DE.du (de_var 4)) (DE.du (de_var 1))))
    (dss_cons (ds_ret (de_bin o_mod (DE.du (de_bltT b_int rfl m_int (by rfl) (dau_cons (DE.du (de_var 4)) dau_nil))) (DE.du (de_var 1))))
    dss_nil))
    dss_nil)
    (dss_cons (ds_set 5 (by decide) nd rfl (Or.inl rfl) (de_app (Fc.dn F_law_mixed) (hr.mono (by decide)) rfl (da_cons (de_app (Fc.dn F_law_mixed) (hr.mono (by decide)) rfl (da_cons (de_six (DE.du (de_sget (r1 hr) (DE.du (de_var 0)) (DN.du dn_str))) (DE.du (de_var 3))) (da_cons (de_var 2) da_nil)) (alen_cons (alen_cons alen_nil))) (da_cons (de_bin o_add (DN.du dn_int) (DE.du (de_var 2))) da_nil)) (alen_cons (alen_cons alen_nil))))
    (dss_cons (ds_ret (de_bin o_mod (DE.du (de_bin o_fdiv (DE.du (de_bltT b_int rfl m_int (by rfl) (dau_cons (DE.du (de_bin o_add (DE.du (de_bin o_mul (DE.du (de_var 5)) (DN.du dn_int))) (DE.du (de_app (Fc.dn F_law_mixed) (hr.mono (by decide)) rfl (da_cons (de_var 5) (da_cons (de_bin o_add (DN.du dn_int) (DE.du (de_var 2))) da_nil)) (alen_cons (alen_cons alen_nil)))))) dau_nil))) (DN.du dn_int))) (DE.du (de_var 1))))
    dss_nil)))))))
/-! ### law_clause -/
def d_law_clause : SD :=
    (S.seq (S.par 2 3 (E.blt rgL2 (A.cons (E.cst (.int 1)) (A.cons (E.op2 addD (E.var 1) (E.cst (.int 1))) A.nil))) (E.lst A.nil))
    (S.seq (S.for_ (I.range rng1 (A.cons (E.op2 addD (E.cst (.int 1)) (E.app φ_law_draw (A.cons (E.var 0) (A.cons (E.blt minD (A.cons (E.cst (.int 4)) (A.cons (E.var 1) A.nil))) A.nil)))) A.nil)) (Gt.name 4)
    (S.seq (S.popAtG 2 (E.app φ_law_draw (A.cons (E.var 0) (A.cons (E.blt lenD (A.cons (E.var 2) A.nil)) A.nil))) (Gt.name 5))
    (S.seq (S.append 3 (E.tup (A.cons (E.var 5) (A.cons (E.op2 mulD (E.var 5) (E.ix (E.lst (A.cons (E.cst (.int 1)) (A.cons (E.op1 negD (E.cst (.int 1))) A.nil))) (E.app φ_law_draw (A.cons (E.var 0) (A.cons (E.cst (.int 2)) A.nil))))) A.nil))))
    S.nil)))
    (S.seq (S.ret (E.blt tupleD (A.cons (E.comp (I.seq (E.blt sortedD3 (A.cons (E.var 3) A.nil))) [6] (Gt.name 6) T.yes (E.ix (E.var 6) (E.cst (.int 1)))) A.nil)))
    S.nil)))
def φ_law_clause : List D → M D := fnD 7 d_law_clause
theorem sc_law_clause : FnScope ["state", "names", "left", "got", "k", "name", "pair"] ["state", "names"] (defScope (top 41)) := ⟨rfl, rfl, rfl, by decide +kernel, rfl, by decide +kernel, by decide +kernel⟩
theorem fc_law_clause {P : Program} {w : World} {K : PySem.W.Frag} {mg : Str → Option Value} {base : Heap} (F : Fnc1 K mg "_law_clause" (top 41)) (m_len : mg "len" = none) (m_list : mg "list" = none) (m_min : mg "min" = none) (m_range : mg "range" = none) (m_sorted : mg "sorted" = none) (m_tuple : mg "tuple" = none) (F_law_draw : Fc P w K mg base "_law_draw" 2 2 φ_law_draw) : Fc P w K mg base "_law_clause" 2 3 φ_law_clause := by
  refine Fnc1.fc F sc_law_clause (O := [2, 3]) (by decide) (k := 2) (fun cdv A outer s H E Z hcdv hr tk => ?_) (fun _ _ _ _ _ _ us hl => match us, hl with | [_, _], _ => rfl)
  have nd := sc_law_clause.nd
  exact (dss_cons (ds_parNN 2 3 (by decide) (by decide) rfl nd rfl rfl (by decide) rfl rfl (dn_listRange2 rfl rfl m_list rfl m_range (DN.du dn_int) (DE.du (de_bin o_add (DE.du (de_var 1)) (DN.du dn_int)))) (dn_lst da_nil (Len.ok len_nil)) (by rfl))
    (dss_cons (ds_for (vs := [4]) (passes_of rfl) rfl (di_range1 rfl m_range (dau_cons (DE.du (de_bin o_add (DN.du dn_int) (DE.du (de_app (Fc.dn F_law_draw) (hr.mono (by decide)) rfl (da_cons (de_var 0) (da_cons (de_bltB (b_min rfl) rfl m_min (by rfl) (dau_cons (DN.du dn_int) (dau_cons (DE.du (de_var 1)) dau_nil))) da_nil)) (alen_cons (alen_cons alen_nil)))))) dau_nil)) (dg_name 4 (by decide) (by decide) nd rfl (by first | exact Or.inl rfl | exact Or.inr rfl))
    (dss_cons (ds_popAt 2 5 (by decide) (by decide) nd rfl (by first | exact Or.inl rfl | exact Or.inr (Or.inl rfl) | exact Or.inr (Or.inr rfl)) rfl (by first | exact Or.inl rfl | exact Or.inr rfl) (de_app (Fc.dn F_law_draw) (hr.mono (by decide)) rfl (da_cons (de_var 0) (da_cons (de_bltB b_len rfl m_len (by rfl) (dau_cons (du_var 2) dau_nil)) da_nil)) (alen_cons (alen_cons alen_nil))))
    (dss_cons (ds_append 3 (by decide) rfl (by first | exact Or.inl rfl | exact Or.inr (Or.inl rfl) | exact Or.inr (Or.inr rfl)) (de_tup (da_cons (de_var 5) (da_cons (de_bin o_mul (DE.du (de_var 5)) (DE.du (de_ix (DN.du (dn_lst (da_cons (DN.de dn_int) (da_cons (DN.de (dn_neg (DN.du dn_int))) da_nil)) (Len.ok (len_cons (len_cons len_nil))))) (DE.du (de_app (Fc.dn F_law_draw) (hr.mono (by decide)) rfl (da_cons (de_var 0) (da_cons (DN.de dn_int) da_nil)) (alen_cons (alen_cons alen_nil))))))) da_nil)) (Len.ok (len_cons (len_cons len_nil)))))
    dss_nil)))
    (dss_cons (ds_ret (de_bltT b_tuple rfl m_tuple (by rfl) (dau_cons (DN.du (dn_comp (own := [("pair", 6)]) rfl nd (DI.c (di_seq (DN.de (dn_bltB (b_sorted3 rfl (r65 hr)) rfl m_sorted (by rfl) (dau_cons (du_var 3) dau_nil))))) (blkOk_by (by rfl)) (by decide) (fun _ _ _ _ _ => (dg_name 6 (by decide) (by decide) nd rfl (by first | exact Or.inl rfl | exact Or.inr rfl))) (fun _ _ _ _ _ => dts_nil) (fun _ _ _ _ _ => (de_ix (DE.du (de_var 6)) (DN.du dn_int))))) dau_nil)))
    dss_nil)))
/-! ### law_bundle -/
def d_law_bundle : SD :=
    (S.seq (S.par 3 4 (E.op2 addD (E.cst (.int 1)) (E.app φ_law_draw (A.cons (E.var 0) (A.cons (E.var 1) A.nil)))) (E.cst (.dct true [] [])))
    (S.seq (S.for_ (I.range rng1 (A.cons (E.app φ_law_draw (A.cons (E.var 0) (A.cons (E.op2 addD (E.var 2) (E.cst (.int 1))) A.nil))) A.nil)) (Gt.name 5)
    (S.seq (S.dput 4 (E.app φ_law_clause (A.cons (E.var 0) (A.cons (E.var 3) A.nil))) (E.cst (.bl true)))
    S.nil))
    (S.seq (S.ite (T.val (E.op2 eqD (E.app φ_law_draw (A.cons (E.var 0) (A.cons (E.cst (.int 12)) A.nil))) (E.cst (.int 0))))
    (S.seq (S.dput 4 (E.tup A.nil) (E.cst (.bl true)))
    S.nil)
    S.nil)
    (S.seq (S.for_ (I.range rng1 (A.cons (E.app φ_law_draw (A.cons (E.var 0) (A.cons (E.cst (.int 3)) A.nil))) A.nil)) (Gt.name 5)
    (S.seq (S.par 6 7 (E.op2 addD (E.cst (.int 1)) (E.app φ_law_draw (A.cons (E.var 0) (A.cons (E.var 3) A.nil)))) (E.op2 addD (E.cst (.int 1)) (E.app φ_law_draw (A.cons (E.var 0) (A.cons (E.var 3) A.nil)))))
    (S.seq (S.ite (T.val (E.op2 eqD (E.var 6) (E.var 7)))
    (S.seq (S.dput 4 (E.tup (A.cons (E.var 6) A.nil)) (E.cst (.bl true)))
    (S.seq (S.dput 4 (E.tup (A.cons (E.op2 subD (E.cst (.int 0)) (E.var 6)) A.nil)) (E.cst (.bl true)))
    S.nil))
    (S.seq (S.par 8 9 (E.blt minD (A.cons (E.var 6) (A.cons (E.var 7) A.nil))) (E.blt maxD (A.cons (E.var 6) (A.cons (E.var 7) A.nil))))
    (S.seq (S.for_ (I.seq (E.tup (A.cons (E.tup (A.cons (E.var 8) (A.cons (E.var 9) A.nil))) (A.cons (E.tup (A.cons (E.var 8) (A.cons (E.op2 subD (E.cst (.int 0)) (E.var 9)) A.nil))) (A.cons (E.tup (A.cons (E.op2 subD (E.cst (.int 0)) (E.var 8)) (A.cons (E.var 9) A.nil))) (A.cons (E.tup (A.cons (E.op2 subD (E.cst (.int 0)) (E.var 8)) (A.cons (E.op2 subD (E.cst (.int 0)) (E.var 9)) A.nil))) A.nil)))))) (Gt.name 10)
    (S.seq (S.dput 4 (E.var 10) (E.cst (.bl true)))
    S.nil))
    S.nil)))
    S.nil)))
    (S.seq (S.ret (E.tup (A.cons (E.var 3) (A.cons (E.blt tupleD (A.cons (E.slice (E.blt sortedD3 (A.cons (E.var 4) A.nil)) E.oNone (E.oSome (E.cst (.int 16)))) A.nil)) A.nil))))
    S.nil)))))
def φ_law_bundle : List D → M D := fnD 11 d_law_bundle
theorem sc_law_bundle : FnScope ["state", "most", "many", "names", "known", "k", "one", "other", "low", "high", "row"] ["state", "most", "many"] (defScope (top 42)) := ⟨rfl, rfl, rfl, by decide +kernel, rfl, by decide +kernel, by decide +kernel⟩
theorem fc_law_bundle {P : Program} {w : World} {K : PySem.W.Frag} {mg : Str → Option Value} {base : Heap} (F : Fnc1 K mg "_law_bundle" (top 42)) (m_max : mg "max" = none) (m_min : mg "min" = none) (m_range : mg "range" = none) (m_sorted : mg "sorted" = none) (m_tuple : mg "tuple" = none) (F_law_draw : Fc P w K mg base "_law_draw" 2 2 φ_law_draw) (F_law_clause : Fc P w K mg base "_law_clause" 2 3 φ_law_clause) : Fc P w K mg base "_law_bundle" 3 4 φ_law_bundle := by
  refine Fnc1.fc F sc_law_bundle (O := [4]) (by decide) (k := 3) (fun cdv A outer s H E Z hcdv hr tk => ?_) (fun _ _ _ _ _ _ us hl => match us, hl with | [_, _, _], _ => rfl)
  have nd := sc_law_bundle.nd
  exact (dss_cons (ds_parEN 3 4 (by decide) (by decide) rfl nd rfl rfl (by decide) rfl rfl (de_bin o_add (DN.du dn_int) (DE.du (de_app (Fc.dn F_law_draw) (hr.mono (by decide)) rfl (da_cons (de_var 0) (da_cons (de_var 1) da_nil)) (alen_cons (alen_cons alen_nil))))) dn_dictT (by rfl))
    (dss_cons (ds_for (vs := [5]) (passes_of rfl) rfl (di_range1 rfl m_range (dau_cons (DE.du (de_app (Fc.dn F_law_draw) (hr.mono (by decide)) rfl (da_cons (de_var 0) (da_cons (de_bin o_add (DE.du (de_var 2)) (DN.du dn_int)) da_nil)) (alen_cons (alen_cons alen_nil)))) dau_nil)) (dg_name 5 (by decide) (by decide) nd rfl (by first | exact Or.inl rfl | exact Or.inr rfl))
    (dss_cons (ds_dput 4 (r1 hr) (by decide) rfl (by first | exact Or.inl rfl | exact Or.inr (Or.inl rfl) | exact Or.inr (Or.inr rfl)) (de_app (Fc.dn F_law_clause) (hr.mono (by decide)) rfl (da_cons (de_var 0) (da_cons (de_var 3) da_nil)) (alen_cons (alen_cons alen_nil))) (DN.de dn_bl))
    dss_nil))
    (dss_cons (ds_if (dt_cmp (o_eq (r65 hr)) (DE.du (de_app (Fc.dn F_law_draw) (hr.mono (by decide)) rfl (da_cons (de_var 0) (da_cons (DN.de dn_int) da_nil)) (alen_cons (alen_cons alen_nil)))) (DN.du dn_int) rfl)
    (dss_cons (ds_dput 4 (r1 hr) (by decide) rfl (by first | exact Or.inl rfl | exact Or.inr (Or.inl rfl) | exact Or.inr (Or.inr rfl)) (de_tup da_nil (Len.ok len_nil)) (DN.de dn_bl))
    dss_nil)
    dss_nil)
    (dss_cons (ds_for (vs := [5]) (passes_of rfl) rfl (di_range1 rfl m_range (dau_cons (DE.du (de_app (Fc.dn F_law_draw) (hr.mono (by decide)) rfl (da_cons (de_var 0) (da_cons (DN.de dn_int) da_nil)) (alen_cons (alen_cons alen_nil)))) dau_nil)) (dg_name 5 (by decide) (by decide) nd rfl (by first | exact Or.inl rfl | exact Or.inr rfl))
    (dss_cons (ds_parEE 6 7 (by decide) (by decide) rfl nd rfl rfl (by decide) rfl rfl (de_bin o_add (DN.du dn_int) (DE.du (de_app (Fc.dn F_law_draw) (hr.mono (by decide)) rfl (da_cons (de_var 0) (da_cons (de_var 3) da_nil)) (alen_cons (alen_cons alen_nil))))) (de_bin o_add (DN.du dn_int) (DE.du (de_app (Fc.dn F_law_draw) (hr.mono (by decide)) rfl (da_cons (de_var 0) (da_cons (de_var 3) da_nil)) (alen_cons (alen_cons alen_nil))))) (by rfl))
    (dss_cons (ds_if (dt_cmp (o_eq (r65 hr)) (DE.du (de_var 6)) (DE.du (de_var 7)) rfl)
    (dss_cons (ds_dput 4 (r1 hr) (by decide) rfl (by first | exact Or.inl rfl | exact Or.inr (Or.inl rfl) | exact Or.inr (Or.inr rfl)) (de_tup (da_cons (de_var 6) da_nil) (Len.ok (len_cons len_nil))) (DN.de dn_bl))
    (dss_cons (ds_dput 4 (r1 hr) (by decide) rfl (by first | exact Or.inl rfl | exact Or.inr (Or.inl rfl) | exact Or.inr (Or.inr rfl)) (de_tup (da_cons (de_bin o_sub (DN.du dn_int) (DE.du (de_var 6))) da_nil) (Len.ok (len_cons len_nil))) (DN.de dn_bl))
    dss_nil))
    (dss_cons (ds_parEE 8 9 (by decide) (by decide) rfl nd rfl rfl (by decide) rfl rfl (de_bltB (b_min rfl) rfl m_min (by rfl) (dau_cons (DE.du (de_var 6)) (dau_cons (DE.du (de_var 7)) dau_nil))) (de_bltB (b_max rfl) rfl m_max (by rfl) (dau_cons (DE.du (de_var 6)) (dau_cons (DE.du (de_var 7)) dau_nil))) (by rfl))
    (dss_cons (ds_for (vs := [10]) (passes_of rfl) rfl (di_seq (de_tup (da_cons (de_tup (da_cons (de_var 8) (da_cons (de_var 9) da_nil)) (Len.ok (len_cons (len_cons len_nil)))) (da_cons (de_tup (da_cons (de_var 8) (da_cons (de_bin o_sub (DN.du dn_int) (DE.du (de_var 9))) da_nil)) (Len.ok (len_cons (len_cons len_nil)))) (da_cons (de_tup (da_cons (de_bin o_sub (DN.du dn_int) (DE.du (de_var 8))) (da_cons (de_var 9) da_nil)) (Len.ok (len_cons (len_cons len_nil)))) (da_cons (de_tup (da_cons (de_bin o_sub (DN.du dn_int) (DE.du (de_var 8))) (da_cons (de_bin o_sub (DN.du dn_int) (DE.du (de_var 9))) da_nil)) (Len.ok (len_cons (len_cons len_nil)))) da_nil)))) (Len.ok (len_cons (len_cons (len_cons (len_cons len_nil))))))) (dg_name 10 (by decide) (by decide) nd rfl (by first | exact Or.inl rfl | exact Or.inr rfl))
    (dss_cons (ds_dput 4 (r1 hr) (by decide) rfl (by first | exact Or.inl rfl | exact Or.inr (Or.inl rfl) | exact Or.inr (Or.inr rfl)) (de_var 10) (DN.de dn_bl))
    dss_nil))
    dss_nil)))
    dss_nil)))
    (dss_cons (ds_ret (de_tup (da_cons (de_var 3) (da_cons (de_bltT b_tuple rfl m_tuple (by rfl) (dau_cons (DE.du (de_slice (DN.du (dn_bltB (b_sorted3 rfl (r65 hr)) rfl m_sorted (by rfl) (dau_cons (du_var 4) dau_nil))) do_none (do_some (DN.du dn_int)))) dau_nil)) da_nil)) (Len.ok (len_cons (len_cons len_nil)))))
    dss_nil)))))
/-! ### law -/
def d_law : SD :=
    (S.seq (S.set 1 (E.app φ_law_begin (A.cons (E.var 0) A.nil)))
    (S.seq (S.for_ (I.range rng1 (A.cons (E.op2 addD (E.cst (.int 6)) (E.blt minD (A.cons (E.blt lenD (A.cons (E.var 0) A.nil)) (A.cons (E.cst (.int 9)) A.nil)))) A.nil)) (Gt.name 2)
    (S.seq (S.ite (T.not (T.val (E.app φ_law_bundle_right (A.cons (E.app φ_law_bundle (A.cons (E.var 1) (A.cons (E.cst (.int 5)) (A.cons (E.cst (.int 7)) A.nil)))) A.nil))))
    (S.seq (S.ret (E.cst (.bl false)))
    S.nil)
    S.nil)
    S.nil))
    (S.seq (S.set 3 (E.lst (A.cons (E.tup (A.cons (E.cst (.int 2)) (A.cons (E.tup (A.cons (E.tup (A.cons (E.op1 negD (E.cst (.int 2))) A.nil)) (A.cons (E.tup (A.cons (E.op1 negD (E.cst (.int 1))) (A.cons (E.op1 negD (E.cst (.int 2))) A.nil))) (A.cons (E.tup (A.cons (E.op1 negD (E.cst (.int 1))) (A.cons (E.cst (.int 2)) A.nil))) (A.cons (E.tup (A.cons (E.cst (.int 1)) (A.cons (E.op1 negD (E.cst (.int 2))) A.nil))) (A.cons (E.tup (A.cons (E.cst (.int 1)) (A.cons (E.cst (.int 2)) A.nil))) A.nil)))))) A.nil))) (A.cons (E.tup (A.cons (E.cst (.int 3)) (A.cons (E.tup (A.cons (E.tup (A.cons (E.cst (.int 1)) (A.cons (E.cst (.int 2)) (A.cons (E.cst (.int 3)) A.nil)))) A.nil)) A.nil))) (A.cons (E.tup (A.cons (E.cst (.int 2)) (A.cons (E.tup A.nil) A.nil))) (A.cons (E.tup (A.cons (E.cst (.int 1)) (A.cons (E.tup (A.cons (E.tup A.nil) A.nil)) A.nil))) A.nil))))))
    (S.seq (S.set 4 (E.op2 addD (E.comp (I.seq (E.var 3)) [6] (Gt.name 6) T.yes (E.app φ_plain_reading (A.cons (E.var 6) A.nil))) (E.lst (A.cons (E.app φ_nearest_reading (A.cons (E.ix (E.var 3) (E.cst (.int 0))) A.nil)) (A.cons (E.app φ_all_plain (A.cons (E.ix (E.var 3) (E.cst (.int 3))) A.nil)) A.nil)))))
    (S.seq (S.ite (T.or (T.val (E.op2 neD (E.var 4) (E.lst (A.cons (E.cst .non) (A.cons (E.tup (A.cons (E.cst (.int 1)) (A.cons (E.cst (.int 2)) A.nil))) (A.cons (E.tup A.nil) (A.cons (E.tup A.nil) (A.cons (E.tup A.nil) (A.cons (E.tup (A.cons (E.tup A.nil) (A.cons (E.tup (A.cons (E.cst (.int 1)) A.nil)) A.nil))) A.nil))))))))) (T.not (T.val (E.app φ_law_bundle_right (A.cons (E.ix (E.var 3) (E.cst (.int 0))) A.nil)))))
    (S.seq (S.ret (E.cst (.bl false)))
    S.nil)
    S.nil)
    (S.seq (S.set 5 (E.tup (A.cons (E.cst (.int 7)) (A.cons (E.tup (A.cons (E.tup (A.cons (E.cst (.int 1)) (A.cons (E.cst (.int 2)) (A.cons (E.cst (.int 3)) (A.cons (E.cst (.int 4)) (A.cons (E.cst (.int 5)) (A.cons (E.cst (.int 6)) (A.cons (E.cst (.int 7)) A.nil)))))))) A.nil)) A.nil))))
    (S.seq (S.ret (E.and (E.op2 eqD (E.blt lenD (A.cons (E.app φ_all_plain (A.cons (E.var 5) A.nil)) A.nil)) (E.cst (.int 8))) (E.and (E.op2 eqD (E.app φ_plain_reading (A.cons (E.var 5) A.nil)) (E.tup (A.cons (E.cst (.int 1)) (A.cons (E.cst (.int 2)) (A.cons (E.cst (.int 3)) (A.cons (E.cst (.int 4)) (A.cons (E.cst (.int 5)) (A.cons (E.cst (.int 6)) A.nil)))))))) (E.app φ_law_bundle_right (A.cons (E.var 5) A.nil)))))
    S.nil)))))))
def φ_law : List D → M D := fnD 7 d_law
theorem sc_law : FnScope ["script", "state", "turn", "some", "told", "wide", "bundle"] ["script"] (defScope (top 53)) := ⟨rfl, rfl, rfl, by decide +kernel, rfl, by decide +kernel, by decide +kernel⟩
theorem ok_law {P : Program} {w : World} {K : PySem.W.Frag} {mg : Str → Option Value} {base : Heap} {f : Addr} {fd : FuncData} (F : FunD K "law" "law" (defArgs (top 53)) (defBody (top 53)) (defScope (top 53)) [] [] f fd) (m_len : mg "len" = none) (m_min : mg "min" = none) (m_range : mg "range" = none) (F_law_bundle_right : Fc P w K mg base "_law_bundle_right" 1 7 φ_law_bundle_right) (F_plain_reading : Fc P w K mg base "plain_reading" 1 5 φ_plain_reading) (F_all_plain : Fc P w K mg base "all_plain" 1 5 φ_all_plain) (F_nearest_reading : Fc P w K mg base "nearest_reading" 1 5 φ_nearest_reading) (F_law_bundle : Fc P w K mg base "_law_bundle" 3 4 φ_law_bundle) (F_law_begin : Fc P w K mg base "_law_begin" 1 1 φ_law_begin) : FnG P w K mg base 8 f fd ["script"] (spD K 1 φ_law) := by
  refine G.fn_ok F sc_law (O := []) (by decide) (k := 7) (fun cdv A outer s H E Z hcdv hr tk => ?_)
  have nd := sc_law.nd
  exact (dss_cons (ds_set 1 (by decide) nd rfl (Or.inl rfl) (de_app (Fc.dn F_law_begin) (hr.mono (by decide)) rfl (da_cons (de_var 0) da_nil) (alen_cons alen_nil)))
    (dss_cons (ds_for (vs := [2]) (passes_of rfl) rfl (di_range1 rfl m_range (dau_cons (DE.du (de_bin o_add (DN.du dn_int) (DE.du (de_bltB (b_min rfl) rfl m_min (by rfl) (dau_cons (DE.du (de_bltB b_len rfl m_len (by rfl) (dau_cons (DE.du (de_var 0)) dau_nil))) (dau_cons (DN.du dn_int) dau_nil)))))) dau_nil)) (dg_name 2 (by decide) (by decide) nd rfl (by first | exact Or.inl rfl | exact Or.inr rfl))
    (dss_cons (ds_if (dt_not (dt_val (de_app (Fc.dn F_law_bundle_right) (hr.mono (by decide)) rfl (da_cons (de_app (Fc.dn F_law_bundle) (hr.mono (by decide)) rfl (da_cons (de_var 1) (da_cons (DN.de dn_int) (da_cons (DN.de dn_int) da_nil))) (alen_cons (alen_cons (alen_cons alen_nil)))) da_nil) (alen_cons alen_nil))))
    (dss_cons (ds_ret (DN.de dn_bl))
    dss_nil)
    dss_nil)
    dss_nil))
    (dss_cons (ds_set 3 (by decide) nd rfl (Or.inl rfl) (DN.de (dn_lst (da_cons (de_tup (da_cons (DN.de dn_int) (da_cons (de_tup (da_cons (de_tup (da_cons (DN.de (dn_neg (DN.du dn_int))) da_nil) (Len.ok (len_cons len_nil))) (da_cons (de_tup (da_cons (DN.de (dn_neg (DN.du dn_int))) (da_cons (DN.de (dn_neg (DN.du dn_int))) da_nil)) (Len.ok (len_cons (len_cons len_nil)))) (da_cons (de_tup (da_cons (DN.de (dn_neg (DN.du dn_int))) (da_cons (DN.de dn_int) da_nil)) (Len.ok (len_cons (len_cons len_nil)))) (da_cons (de_tup (da_cons (DN.de dn_int) (da_cons (DN.de (dn_neg (DN.du dn_int))) da_nil)) (Len.ok (len_cons (len_cons len_nil)))) (da_cons (de_tup (da_cons (DN.de dn_int) (da_cons (DN.de dn_int) da_nil)) (Len.ok (len_cons (len_cons len_nil)))) da_nil))))) (Len.ok (len_cons (len_cons (len_cons (len_cons (len_cons len_nil))))))) da_nil)) (Len.ok (len_cons (len_cons len_nil)))) (da_cons (de_tup (da_cons (DN.de dn_int) (da_cons (de_tup (da_cons (de_tup (da_cons (DN.de dn_int) (da_cons (DN.de dn_int) (da_cons (DN.de dn_int) da_nil))) (Len.ok (len_cons (len_cons (len_cons len_nil))))) da_nil) (Len.ok (len_cons len_nil))) da_nil)) (Len.ok (len_cons (len_cons len_nil)))) (da_cons (de_tup (da_cons (DN.de dn_int) (da_cons (de_tup da_nil (Len.ok len_nil)) da_nil)) (Len.ok (len_cons (len_cons len_nil)))) (da_cons (de_tup (da_cons (DN.de dn_int) (da_cons (de_tup (da_cons (de_tup da_nil (Len.ok len_nil)) da_nil) (Len.ok (len_cons len_nil))) da_nil)) (Len.ok (len_cons (len_cons len_nil)))) da_nil)))) (Len.ok (len_cons (len_cons (len_cons (len_cons len_nil))))))))
    (dss_cons (ds_set 4 (by decide) nd rfl (Or.inl rfl) (de_bin o_add (DN.du (dn_comp (own := [("bundle", 6)]) rfl nd (DI.c (di_seq (de_var 3))) (blkOk_by (by rfl)) (by decide) (fun _ _ _ _ _ => (dg_name 6 (by decide) (by decide) nd rfl (by first | exact Or.inl rfl | exact Or.inr rfl))) (fun _ _ _ _ _ => dts_nil) (fun _ _ _ _ _ => (de_app (Fc.dn F_plain_reading) (hr.mono (by decide)) rfl (da_cons (de_var 6) da_nil) (alen_cons alen_nil))))) (DN.du (dn_lst (da_cons (de_app (Fc.dn F_nearest_reading) (hr.mono (by decide)) rfl (da_cons (de_ix (DE.du (de_var 3)) (DN.du dn_int)) da_nil) (alen_cons alen_nil)) (da_cons (de_app (Fc.dn F_all_plain) (hr.mono (by decide)) rfl (da_cons (de_ix (DE.du (de_var 3)) (DN.du dn_int)) da_nil) (alen_cons alen_nil)) da_nil)) (Len.ok (len_cons (len_cons len_nil)))))))
    (dss_cons (ds_if (dt_w (dw_or (dt_cmp (o_ne (r65 hr)) (DE.du (de_var 4)) (DN.du (dn_lst (da_cons (DN.de dn_non) (da_cons (de_tup (da_cons (DN.de dn_int) (da_cons (DN.de dn_int) da_nil)) (Len.ok (len_cons (len_cons len_nil)))) (da_cons (de_tup da_nil (Len.ok len_nil)) (da_cons (de_tup da_nil (Len.ok len_nil)) (da_cons (de_tup da_nil (Len.ok len_nil)) (da_cons (de_tup (da_cons (de_tup da_nil (Len.ok len_nil)) (da_cons (de_tup (da_cons (DN.de dn_int) da_nil) (Len.ok (len_cons len_nil))) da_nil)) (Len.ok (len_cons (len_cons len_nil)))) da_nil)))))) (Len.ok (len_cons (len_cons (len_cons (len_cons (len_cons (len_cons len_nil))))))))) rfl) (dw_or1 (dt_not (dt_val (de_app (Fc.dn F_law_bundle_right) (hr.mono (by decide)) rfl (da_cons (de_ix (DE.du (de_var 3)) (DN.du dn_int)) da_nil) (alen_cons alen_nil)))))))
    (dss_cons (ds_ret (DN.de dn_bl))
    dss_nil)
    dss_nil)
    (dss_cons (ds_set 5 (by decide) nd rfl (Or.inl rfl) (de_tup (da_cons (DN.de dn_int) (da_cons (de_tup (da_cons (de_tup (da_cons (DN.de dn_int) (da_cons (DN.de dn_int) (da_cons (DN.de dn_int) (da_cons (DN.de dn_int) (da_cons (DN.de dn_int) (da_cons (DN.de dn_int) (da_cons (DN.de dn_int) da_nil))))))) (Len.ok (len_cons (len_cons (len_cons (len_cons (len_cons (len_cons (len_cons len_nil))))))))) da_nil) (Len.ok (len_cons len_nil))) da_nil)) (Len.ok (len_cons (len_cons len_nil)))))
    (dss_cons (ds_ret (de_and (de_cmp (o_eq (r65 hr)) (DE.du (de_bltB b_len rfl m_len (by rfl) (dau_cons (DE.du (de_app (Fc.dn F_all_plain) (hr.mono (by decide)) rfl (da_cons (de_var 5) da_nil) (alen_cons alen_nil))) dau_nil))) (DN.du dn_int) rfl) (de_and (de_cmp (o_eq (r65 hr)) (DE.du (de_app (Fc.dn F_plain_reading) (hr.mono (by decide)) rfl (da_cons (de_var 5) da_nil) (alen_cons alen_nil))) (DE.du (de_tup (da_cons (DN.de dn_int) (da_cons (DN.de dn_int) (da_cons (DN.de dn_int) (da_cons (DN.de dn_int) (da_cons (DN.de dn_int) (da_cons (DN.de dn_int) da_nil)))))) (Len.ok (len_cons (len_cons (len_cons (len_cons (len_cons (len_cons len_nil))))))))) rfl) (de_one (de_app (Fc.dn F_law_bundle_right) (hr.mono (by decide)) rfl (da_cons (de_var 5) da_nil) (alen_cons alen_nil))))))
    dss_nil)))))))
end K09
end G
end L2
end W_k09_
section V1_
set_option Elab.async false
set_option linter.all false
set_option maxRecDepth 100000
set_option maxHeartbeats 2000000
namespace L2
namespace G
namespace K09
open PySem PySem.Spec PyProof.Rows
theorem is_integer_int (i : Int) : φ_is_integer [.int i] = ret (.bl true) := rfl
def nameOf (i : Int) : Int := if i < 0 then -i else i
theorem is_literal_int (n i : Int) : φ_is_literal [.int n, .int i] = ret (.bl (decide (1 ≤ nameOf i) && decide (nameOf i ≤ n))) := by
  unfold φ_is_literal d_is_literal
  rw [fnD_eq]
  have ha : absD [.int i] = some (.int (nameOf i)) := rfl
  simp [is_integer_int, ha, leD, ordI]
  by_cases h : 1 ≤ nameOf i <;> simp [h]
theorem is_between_int (i a b : Int) : φ_is_between [.int i, .int a, .int b] = ret (.bl (decide (a ≤ i) && decide (i ≤ b))) := by
  unfold φ_is_between d_is_between
  rw [fnD_eq]
  simp [is_integer_int, leD, ordI]
  by_cases h : a ≤ i <;> simp [h]
def meets (s c : List Int) : Bool := c.any fun x => decide (x ∈ s)
def touches (s c : List Int) : Bool := c.any fun x => decide (x ∈ s) || decide (-x ∈ s)
theorem ne_nil_iff {α : Type} (p : α → Bool) (l : List α) : (!decide ((l.filter p).map (fun _ => (1 : Int)) = [])) = l.any p := by
  induction l with
  | nil => simp
  | cons x l ih =>
    cases h : p x <;> simp [h]
    simpa using ih
/-! rising -/
def rising (l : List Int) : Bool := (l.zip l.tail).all fun p => decide (p.1 < p.2)
theorem are_rising_li (l : List Int) : φ_are_rising [li l] = ret (.bl (rising l)) := by
  unfold φ_are_rising d_are_rising
  rw [fnD_eq]
  have hs : sliceD (li l) (some 1) none = some (li l.tail) := by
    simp only [sliceD, cutD, HT.sIx]
    cases l with
    | nil => rfl
    | cons x l => simp [List.take_of_length_le]
  simp [hs, zp]
  rw [← List.map_tail, zipD_map]
  rw [compL_all (fun p : Int × Int => D.tup [.int p.1, .int p.2]) (fun p => [some (li l), some (.int p.1), some (.int p.2)]) (fun p => .bl (decide (p.1 < p.2))) _ (by intro x hx; simp [ltD, ordI])]
  simp [allD, bools_map (fun p : Int × Int => decide (p.1 < p.2)), rising, Function.comp_def]

def litOk (n x : Int) : Bool := decide (1 ≤ nameOf x) && decide (nameOf x ≤ n)
def isCl (n : Int) (c : List Int) : Bool := c.all (litOk n) && rising (c.map nameOf)
theorem is_clause_cl (n : Int) (c : List Int) : φ_is_clause [.int n, cl c] = ret (.bl (isCl n c)) := by
  unfold φ_is_clause d_is_clause
  rw [fnD_eq]
  have ha : ∀ i : Int, absD [.int i] = some (.int (nameOf i)) := fun _ => rfl
  have c1 := compL_all (ρ := [some (.int n), some (cl c), none]) (t := Gt.name 2) (e := E.app φ_is_literal (A.cons (E.var 0) (A.cons (E.var 2) A.nil))) D.int (fun x => [some (.int n), some (cl c), some (.int x)]) (fun x => .bl (litOk n x)) c (by intro x hx; simp [is_literal_int, litOk])
  have c2 := compL_all (ρ := [some (.int n), some (cl c), none]) (t := Gt.name 2) (e := E.blt absD (A.cons (E.var 2) A.nil)) D.int (fun x => [some (.int n), some (cl c), some (.int x)]) (fun x => .int (nameOf x)) c (by intro x hx; simp [ha])
  have b1 : allD [.lst (c.map fun x => .bl (litOk n x))] = some (.bl (c.all (litOk n))) := by simp [allD, bools_map (litOk n)]
  have e : (c.map fun x => D.int (nameOf x)) = (c.map nameOf).map .int := by simp
  have r := are_rising_li (c.map nameOf)
  simp only [li, ← e] at r
  by_cases h : c.all (litOk n) = true
  · rw [h] at b1
    simp [isTup, seqD, c1, b1, c2, r, isCl, h]
  · have h := Bool.eq_false_iff.mpr h
    rw [h] at b1
    simp [isTup, seqD, c1, b1, isCl, h]
def asc (cs : List (List Int)) : Prop := ∀ (i : Nat) (a b : List Int), cs[i]? = some a → cs[i + 1]? = some b → lexGe a b = false
structure BOk (n : Int) (cs : List (List Int)) : Prop where
  lo : 1 ≤ n
  hi : n ≤ 7
  len : cs.length ≤ 16
  cl : ∀ c ∈ cs, isCl n c = true
  asc : asc cs
theorem mem_zipIdx' {α : Type} {l : List α} {x : α} {i k : Nat} (h : (x, i) ∈ l.zipIdx k) : k ≤ i ∧ l[i - k]? = some x := by
  rw [List.mem_zipIdx_iff_le_and_getElem?_sub] at h
  exact h
theorem ints_map : ∀ l : List Int, intsD (l.map .int) = some l
  | [] => rfl
  | x :: l => by simp [intsD, ints_map l]
theorem ix_tup {α : Type} (f : α → D) {l : List α} {j : Nat} {x : α} (h : l[j]? = some x) : ixD' (.tup (l.map f)) (.int j) = some (f x) := by
  obtain ⟨hj, e⟩ := List.getElem?_eq_some_iff.mp h
  show atI (l.map f) j = _
  unfold atI ixN
  rw [if_pos (by omega), if_pos (by rw [List.length_map]; omega)]
  simp [h]
theorem need_bundle_ok {n : Int} {cs : List (List Int)} (h : BOk n cs) : φ_need_bundle [bu n cs] = ret (bu n cs) := by
  unfold φ_need_bundle d_need_bundle
  rw [fnD_eq]
  have hb := is_between_int n 1 7
  have l16 : ¬ ((16 : Int) < (cs.length : Int)) := by have := h.len; omega
  have hne : neD (D.int 2) (D.int 2) = some (.bl false) := by simp [neD]
  simp [isTup, lenD, hne, hb, h.lo, h.hi, gtD, ordI, l16, enm, seqD]
  have e0 := enumD_map cl cs 0
  have e0 : enumD 0 (cs.map cl) = (cs.zipIdx 0).map fun p => .tup [.int p.2, cl p.1] := e0
  simp only [cl] at e0
  rw [e0]
  rw [forL_pure (fun d ρ => match d with | .tup [a, b] => [some (bu n cs), some (.int n), some (.tup (cs.map cl)), some a, some b] | _ => ρ) _ _ (fun ρ => ∃ a b, ρ = [some (bu n cs), some (.int n), some (.tup (cs.map cl)), a, b]) ⟨none, none, rfl⟩]
  · rw [bnd_ret]
    have fin : ∀ (l : List D) (ρ : Env), (∃ a b, ρ = [some (bu n cs), some (.int n), some (.tup (cs.map cl)), a, b]) → ∃ a b, l.foldl (fun ρ d => match d with | .tup [a, b] => [some (bu n cs), some (.int n), some (.tup (cs.map cl)), some a, some b] | _ => ρ) ρ = [some (bu n cs), some (.int n), some (.tup (cs.map cl)), a, b] := by
      intro l
      induction l with
      | nil => intro ρ h; exact h
      | cons d l ih =>
        intro ρ h
        rw [List.foldl_cons]
        apply ih
        split
        · exact ⟨_, _, rfl⟩
        · exact h
    obtain ⟨a, b, e⟩ := fin _ _ ⟨none, none, rfl⟩
    simp only [cl, bu] at e
    simp only [bu, cl] at e ⊢
    rw [e]
    simp
  · intro d hd ρ ⟨a, b, hρ⟩
    obtain ⟨⟨c, i⟩, hp, rfl⟩ := List.mem_map.mp hd
    obtain ⟨_, hi⟩ := mem_zipIdx' hp
    rw [Nat.sub_zero] at hi
    refine ⟨⟨_, _, rfl⟩, [some (bu n cs), some (.int n), some (.tup (cs.map cl)), some (.int i), some (cl c)], by subst hρ; simp, ?_⟩
    have hc := is_clause_cl n c
    have hcl := h.cl c (List.mem_of_getElem? hi)
    simp [hc, hcl, ordI]
    cases i with
    | zero => simp
    | succ j =>
      have hp : ∃ a, cs[j]? = some a := ⟨cs[j]'(by have := (List.getElem?_eq_some_iff.mp hi).1; omega), List.getElem?_eq_getElem _⟩
      obtain ⟨p, hp⟩ := hp
      have := h.asc j p c hp hi
      have hx : ixD' (.tup (cs.map cl)) (.int j) = some (cl p) := ix_tup cl hp
      have hge : geD2 (cl p) (cl c) = some (.bl false) := by simp [geD2, ints_map, this]
      simp only [cl] at hx hge
      simp [subD, hx, hge]
end K09
end G
end L2
end V1_
section V2_
set_option Elab.async false
set_option linter.all false
set_option maxRecDepth 100000
set_option maxHeartbeats 2000000
namespace L2
namespace G
namespace K09
open PySem PySem.Spec PyProof.Rows
def nums (p : List Int → Bool) (cs : List (List Int)) : List Int := ((cs.zipIdx).filter fun q => p q.1).map fun q => (q.2 : Int)
theorem bu1 (n : Int) (cs : List (List Int)) : ixD' (bu n cs) (.int 1) = some (.tup (cs.map cl)) := rfl
theorem bu0 (n : Int) (cs : List (List Int)) : ixD' (bu n cs) (.int 0) = some (.int n) := rfl
theorem enm_cls (cs : List (List Int)) : enm [.tup (cs.map cl)] = some ((cs.zipIdx).map fun p => .tup [.int p.2, cl p.1]) := by
  have e0 := enumD_map cl cs 0
  simp only [enm, seqD, Option.map_some]
  exact congrArg some e0
theorem meets_touches {s c : List Int} (h : meets s c = true) : touches s c = true := by
  unfold meets at h
  obtain ⟨x, hx, e⟩ := List.any_eq_true.mp h
  exact List.any_eq_true.mpr ⟨x, hx, by simp at e; simp [e]⟩
theorem tidy_iff (s : List Int) (cs : List (List Int)) : decide (nums (touches s) cs = nums (meets s) cs) = decide ((cs.filter fun c => touches s c && !meets s c).map (fun _ => (1 : Int)) = []) := by
  by_cases h : ∃ c ∈ cs, touches s c = true ∧ meets s c = false
  · obtain ⟨c, hc, h1, h2⟩ := h
    have r : decide ((cs.filter fun c => touches s c && !meets s c).map (fun _ => (1 : Int)) = []) = false := by
      simp only [decide_eq_false_iff_not, List.map_eq_nil_iff, List.filter_eq_nil_iff]
      intro z
      have := z c hc
      simp [h1, h2] at this
    rw [r]
    simp only [decide_eq_false_iff_not]
    intro z
    obtain ⟨i, hi, e⟩ := List.getElem_of_mem hc
    have m1 : (i : Int) ∈ nums (touches s) cs := by
      unfold nums
      refine List.mem_map.mpr ⟨(c, i), List.mem_filter.mpr ⟨?_, h1⟩, rfl⟩
      rw [List.mem_zipIdx_iff_getElem?, List.getElem?_eq_getElem hi, e]
    rw [z] at m1
    unfold nums at m1
    obtain ⟨⟨c', i'⟩, hq, e2⟩ := List.mem_map.mp m1
    obtain ⟨q1, q2⟩ := List.mem_filter.mp hq
    rw [List.mem_zipIdx_iff_getElem?] at q1
    have : i' = i := by have e3 : (i' : Int) = i := e2; omega
    subst this
    rw [List.getElem?_eq_getElem hi, e] at q1
    cases q1
    simp [h2] at q2
  · have all : ∀ c ∈ cs, touches s c = meets s c := fun c hc => by
      cases h1 : touches s c with
      | true =>
        cases h2 : meets s c with
        | true => rfl
        | false => exact absurd ⟨c, hc, h1, h2⟩ h
      | false =>
        cases h2 : meets s c with
        | true => rw [meets_touches h2] at h1; cases h1
        | false => rfl
    have l : nums (touches s) cs = nums (meets s) cs := by
      unfold nums
      congr 1
      apply List.filter_congr
      intro p hp
      obtain ⟨_, hp⟩ := mem_zipIdx' (x := p.1) (i := p.2) hp
      exact all p.1 (List.mem_of_getElem? hp)
    have r : (cs.filter fun c => touches s c && !meets s c) = [] := by
      rw [List.filter_eq_nil_iff]
      intro c hc
      rw [all c hc]
      cases meets s c <;> simp
    simp [l, r]
theorem eq_ones {α : Type} (l : List α) : eqD (.lst (l.map fun _ => .int 1)) (.lst []) = some (.bl (decide (l.map (fun _ => (1 : Int)) = []))) := by
  have e : (l.map fun _ => D.int 1) = (l.map fun _ => (1 : Int)).map .int := by simp
  rw [e]
  show (if D.okd 60 (li _) && D.okd 60 (li []) then some (D.bl (D.eq (li _) (li []))) else none) = _
  rw [eq_li, okd_li, okd_li]; rfl
theorem ne_ones {α : Type} (l : List α) : neD (.lst (l.map fun _ => .int 1)) (.lst []) = some (.bl (!decide (l.map (fun _ => (1 : Int)) = []))) := by
  have e : (l.map fun _ => D.int 1) = (l.map fun _ => (1 : Int)).map .int := by simp
  rw [e]
  show (if D.okd 60 (li _) && D.okd 60 (li []) then some (D.bl (!D.eq (li _) (li []))) else none) = _
  rw [eq_li, okd_li, okd_li]; rfl
/-! ### the search -/
def opens (tr c : List Int) : List Int := c.filter fun x => !decide (-x ∈ tr)
/-- the first of the shortest -/
def shortest : List (List Int) → Option (List Int)
  | [] => none
  | c :: cs => (match shortest cs with
    | none => some c
    | some d => if d.length < c.length then some d else some c)
def firstSome {α β : Type} (f : α → Option β) : List α → Option β
  | [] => none
  | x :: xs => (match f x with
    | some y => some y
    | none => firstSome f xs)
def search : Nat → List (List Int) → List Int → Option (List Int)
  | 0, _, _ => none
  | k + 1, cs, tr => match (cs.filter fun c => !meets tr c) with
    | [] => some tr
    | c :: left => match shortest ((c :: left).map (opens tr)) with
      | none => none
      | some f => firstSome (fun x => search k (c :: left) (tr ++ [x])) f
def optD : Option (List Int) → D
  | none => .non
  | some l => li l
theorem minK_short : ∀ cs : List (List Int), (minK (cs.map fun c => (c.length : Int)) (cs.map li)).map (·.2) = (shortest cs).map li ∧ ∀ p, minK (cs.map fun c => (c.length : Int)) (cs.map li) = some p → ∃ d, shortest cs = some d ∧ p = ((d.length : Int), li d)
  | [] => ⟨rfl, fun p h => by cases h⟩
  | c :: cs => by
    obtain ⟨h1, h2⟩ := minK_short cs
    simp only [List.map_cons, minK, shortest]
    cases m : minK (cs.map fun c => (c.length : Int)) (cs.map li) with
    | none =>
      rw [m] at h1
      cases q : shortest cs with
      | none => exact ⟨rfl, fun p h => by cases h; exact ⟨c, rfl, rfl⟩⟩
      | some d => rw [q] at h1; cases h1
    | some p =>
      obtain ⟨d, hd, rfl⟩ := h2 p m
      rw [hd]
      dsimp only
      by_cases l : d.length < c.length
      · have l' : (d.length : Int) < (c.length : Int) := by omega
        rw [if_pos l, if_pos l']
        exact ⟨rfl, fun p h => by cases h; exact ⟨d, rfl, rfl⟩⟩
      · have l' : ¬ (d.length : Int) < (c.length : Int) := by omega
        rw [if_neg l, if_neg l']
        exact ⟨rfl, fun p h => by cases h; exact ⟨c, rfl, rfl⟩⟩
theorem firstSome_map {α β γ : Type} (f : α → Option β) (g : β → γ) : ∀ l : List α, firstSome (fun x => (f x).map g) l = (firstSome f l).map g
  | [] => rfl
  | x :: l => by
    simp only [firstSome]
    cases f x with
    | none => exact firstSome_map f g l
    | some y => rfl
/-- a walk that may end with an answer -/
theorem forL_find {α : Type} {t : D → Env → Option Env} {b : SD} (f : α → D) (ans : α → Option D) (Inv : Env → Prop) (st : Store) : ∀ (l : List α) (ρ : Env), Inv ρ → (∀ x ∈ l, ∀ ρ, Inv ρ → ∃ ρ1 ρ2, t (f x) ρ = some ρ1 ∧ (match ans x with
      | none => run (b ρ1) st = .ok (.next, ρ2) st ∧ Inv ρ2
      | some d => run (b ρ1) st = .ok (.ret d, ρ2) st)) →
    ∃ ρ', (match firstSome ans l with
      | none => run (forL t b (l.map f) ρ) st = .ok (.next, ρ') st ∧ Inv ρ'
      | some d => run (forL t b (l.map f) ρ) st = .ok (.ret d, ρ') st)
  | [], ρ, h, _ => ⟨ρ, rfl, h⟩
  | x :: l, ρ, h, hs => by
    obtain ⟨ρ1, ρ2, h1, h2⟩ := hs x (.head _) ρ h
    simp only [List.map_cons, firstSome]
    unfold forL
    rw [h1, lift_some, bnd_ret]
    cases a : ans x with
    | none =>
      rw [a] at h2
      obtain ⟨h2, h3⟩ := h2
      have := forL_find f ans Inv st l ρ2 h3 fun x hx => hs x (.tail _ hx)
      rw [run_bnd h2]
      exact this
    | some d =>
      rw [a] at h2
      exact ⟨ρ2, by rw [run_bnd h2]; rfl⟩
def room (n : Int) (tr : List Int) : Nat := ((List.range n.toNat).filter fun i : Nat => !decide (((i : Int) + 1) ∈ tr.map nameOf)).length
theorem filter_lt {α : Type} (p q : α → Bool) (l : List α) (h : ∀ x, p x = true → q x = true) {y : α} (hy : y ∈ l) (h1 : q y = true) (h2 : p y = false) : (l.filter p).length < (l.filter q).length := by
  induction l with
  | nil => cases hy
  | cons a l ih =>
    have le : ∀ m : List α, (m.filter p).length ≤ (m.filter q).length := fun m => by
      induction m with
      | nil => exact Nat.le_refl _
      | cons b m ih =>
        simp only [List.filter_cons]
        cases e : p b with
        | true => simp [h b e]; exact ih
        | false => cases q b <;> simp <;> omega
    simp only [List.filter_cons]
    rcases List.mem_cons.mp hy with rfl | hy
    · simp [h1, h2]
      have := le l
      omega
    · have := ih hy
      cases e : p a with
      | true => simp [h a e]; exact this
      | false => cases q a <;> simp <;> omega
theorem room_lt {n : Int} {tr : List Int} {x : Int} (hx : litOk n x = true) (h1 : x ∉ tr) (h2 : -x ∉ tr) : room n (tr ++ [x]) < room n tr := by
  unfold litOk at hx
  simp only [Bool.and_eq_true, decide_eq_true_eq] at hx
  have hn : nameOf x ∉ tr.map nameOf := fun z => by
    obtain ⟨y, hy, e⟩ := List.mem_map.mp z
    unfold nameOf at e
    split at e <;> split at e
    · exact h1 (by have : y = x := by omega
                   rw [← this]; exact hy)
    · exact h2 (by have : y = -x := by omega
                   rw [← this]; exact hy)
    · exact h2 (by have : y = -x := by omega
                   rw [← this]; exact hy)
    · exact h1 (by rw [← e]; exact hy)
  refine filter_lt _ _ _ (fun i h => ?_) (y := (nameOf x - 1).toNat) ?_ ?_ ?_
  · simp only [List.map_append, List.mem_append, Bool.not_eq_true', decide_eq_false_iff_not, not_or] at h ⊢
    exact h.1
  · rw [List.mem_range]; omega
  · have e : (((nameOf x - 1).toNat : Nat) : Int) + 1 = nameOf x := by omega
    rw [e]; simpa using hn
  · have e : (((nameOf x - 1).toNat : Nat) : Int) + 1 = nameOf x := by omega
    rw [e]; simp
theorem shortest_mem : ∀ {cs : List (List Int)} {f : List Int}, shortest cs = some f → f ∈ cs
  | c :: cs, f, h => by
    unfold shortest at h
    cases q : shortest cs with
    | none => rw [q] at h; cases h; exact .head _
    | some d =>
      rw [q] at h
      dsimp only at h
      split at h
      · cases h; exact .tail _ (shortest_mem q)
      · cases h; exact .head _
theorem shortest_some : ∀ {cs : List (List Int)}, cs ≠ [] → ∃ f, shortest cs = some f
  | [], h => absurd rfl h
  | c :: cs, _ => by
    unfold shortest
    cases shortest cs with
    | none => exact ⟨c, rfl⟩
    | some d => dsimp only; split <;> exact ⟨_, rfl⟩
/-- what an open literal of a clause that is not met is -/
theorem open_new {tr c : List Int} {x : Int} (hm : meets tr c = false) (hx : x ∈ opens tr c) : x ∈ c ∧ x ∉ tr ∧ -x ∉ tr := by
  unfold opens at hx
  obtain ⟨h1, h2⟩ := List.mem_filter.mp hx
  refine ⟨h1, fun z => ?_, by simpa using h2⟩
  have : meets tr c = true := List.any_eq_true.mpr ⟨x, h1, by simpa using z⟩
  rw [hm] at this; cases this
theorem step_new {n : Int} {cs : List (List Int)} {tr f : List Int} {x : Int} (hcl : ∀ c ∈ cs, isCl n c = true) (hs : shortest ((cs.filter fun c => !meets tr c).map (opens tr)) = some f) (hx : x ∈ f) : litOk n x = true ∧ x ∉ tr ∧ -x ∉ tr := by
  obtain ⟨c, hc, rfl⟩ := List.mem_map.mp (shortest_mem hs)
  obtain ⟨h1, h2⟩ := List.mem_filter.mp hc
  obtain ⟨a, b, d⟩ := open_new (by simpa using h2) hx
  have := hcl c h1
  unfold isCl at this
  simp only [Bool.and_eq_true] at this
  exact ⟨List.all_eq_true.mp this.1 x a, b, d⟩
def csD (q : Bool) (cs : List (List Int)) : D := if q = true then .tup (cs.map cl) else .lst (cs.map cl)
theorem seqD_cs (q : Bool) (cs : List (List Int)) : seqD (csD q cs) = some (cs.map cl) := by cases q <;> rfl
theorem eqvAll_lcls : ∀ a b : List (List Int), PyData.eqvAll (D.pys (a.map cl)) (D.pys (b.map cl)) = decide (a = b) := eqvAll_cls
theorem eqD_lcls (a b : List (List Int)) : eqD (.lst (a.map cl)) (.lst (b.map cl)) = some (.bl (decide (a = b))) := by
  have h : ∀ a : List (List Int), D.okd 60 (.lst (a.map cl)) = true := fun a => by simp [D.okd, okds_cls]
  unfold eqD
  rw [h, h]
  unfold D.eq
  simp only [D.py, PyData.eqv, eqvAll_cls]
  rfl
/-! ### what the search finds -/
def litT (v : Int → Bool) (x : Int) : Bool := if 0 < x then v x else !v (-x)
theorem litT_neg (v : Int → Bool) {x : Int} (h : x ≠ 0) : litT v (-x) = !litT v x := by
  unfold litT
  by_cases p : 0 < x
  · rw [if_pos p, if_neg (by omega)]; simp
  · rw [if_neg p, if_pos (by omega)]; simp
def meetsV (v : Int → Bool) (c : List Int) : Bool := c.any (litT v)
theorem lit_ne {n x : Int} (h : litOk n x = true) : x ≠ 0 := fun z => by
  subst z
  simp [litOk, nameOf] at h
theorem isCl_lit {n : Int} {c : List Int} (h : isCl n c = true) : ∀ x ∈ c, litOk n x = true := by
  unfold isCl at h
  simp only [Bool.and_eq_true] at h
  exact List.all_eq_true.mp h.1
/-- what is a row of literals of unlike names -/
structure Row (n : Int) (r : List Int) : Prop where
  ok : ∀ x ∈ r, litOk n x = true
  nd : (r.map nameOf).Nodup
theorem name_eq {x y : Int} (h : nameOf x = nameOf y) : x = y ∨ x = -y := by
  unfold nameOf at h
  split at h <;> split at h <;> omega
theorem Row.snoc {n : Int} {r : List Int} {x : Int} (h : Row n r) (hx : litOk n x = true) (h1 : x ∉ r) (h2 : -x ∉ r) : Row n (r ++ [x]) := by
  refine ⟨fun y hy => ?_, ?_⟩
  · rcases List.mem_append.mp hy with hy | hy
    · exact h.ok y hy
    · rw [List.mem_singleton.mp hy]; exact hx
  · rw [List.map_append, List.nodup_append]
    refine ⟨h.nd, by simp, fun a ha b hb e => ?_⟩
    obtain ⟨y, hy, rfl⟩ := List.mem_map.mp ha
    simp at hb
    subst hb
    rcases name_eq e with z | z
    · exact h1 (by rw [← z]; exact hy)
    · exact h2 (by rw [← z]; exact hy)
/-! ### by names -/
def pairN (x : Int) : List Int := [nameOf x, x]
def sortP (r : List Int) : List (List Int) := (r.map pairN).mergeSort leI
def sortN (r : List Int) : List Int := (sortP r).map fun p => p.getD 1 0
theorem sortP_mem {r : List Int} {p : List Int} (h : p ∈ sortP r) : ∃ x ∈ r, p = pairN x := by
  have := (List.mergeSort_perm (r.map pairN) leI).mem_iff.mp h
  obtain ⟨x, hx, e⟩ := List.mem_map.mp this
  exact ⟨x, hx, e.symm⟩
theorem sortN_perm (r : List Int) : (sortN r).Perm r := by
  have h := (List.mergeSort_perm (r.map pairN) leI).map fun p : List Int => p.getD 1 0
  have e : (r.map pairN).map (fun p : List Int => p.getD 1 0) = r := by
    rw [List.map_map]
    conv => rhs; rw [← List.map_id r]
    apply List.map_congr_left
    intro x _; rfl
  rw [e] at h
  exact h
theorem sortN_names {n : Int} {r : List Int} (h : Row n r) : ((sortN r).map nameOf).Pairwise (· < ·) := by
  have nd : (r.map pairN).Nodup := by
    have := h.nd
    rw [List.nodup_iff_pairwise_ne, List.pairwise_map] at *
    exact this.imp fun {a b} q z => q (by injection z)
  have := sorted_strict nd
  unfold sortN
  rw [List.pairwise_map, List.pairwise_map]
  have nd2 : (sortP r).Pairwise fun a b => a.getD 0 0 ≠ b.getD 0 0 := by
    have p := List.mergeSort_perm (r.map pairN) leI
    have q : (r.map pairN).Pairwise fun a b => a.getD 0 0 ≠ b.getD 0 0 := by
      rw [List.pairwise_map]
      have := h.nd
      rw [List.nodup_iff_pairwise_ne, List.pairwise_map] at this
      exact this.imp fun {a b} q => q
    exact (p.pairwise_iff fun {a b} z => z.symm).mpr q
  refine (this.and nd2).imp_of_mem fun {a b} ha hb q => ?_
  obtain ⟨x, _, rfl⟩ := sortP_mem ha
  obtain ⟨y, _, rfl⟩ := sortP_mem hb
  obtain ⟨q1, q2⟩ := q
  have q2 : nameOf x ≠ nameOf y := q2
  show nameOf x < nameOf y
  simp only [pairN, ltI, Bool.or_eq_true, Bool.and_eq_true, decide_eq_true_eq, Bool.not_eq_true', decide_eq_false_iff_not] at q1
  rcases q1 with q1 | ⟨q1, _⟩
  · exact q1
  · omega
/-! ### all names -/
def upto (n : Int) : List Int := (List.range n.toNat).map fun k : Nat => (k : Int) + 1
theorem mem_upto {n x : Int} : x ∈ upto n ↔ 1 ≤ x ∧ x ≤ n := by
  unfold upto
  simp only [List.mem_map, List.mem_range]
  constructor
  · rintro ⟨k, hk, rfl⟩; omega
  · rintro ⟨h1, h2⟩; exact ⟨(x - 1).toNat, by omega, by omega⟩
theorem upto_sorted (n : Int) : (upto n).Pairwise (· < ·) := by
  unfold upto
  rw [List.pairwise_map]
  exact (List.pairwise_lt_range (n := n.toNat)).imp fun {a b} h => by omega
theorem rangeD_upto (n : Int) : rangeD 1 (n + 1) = (upto n).map .int := by
  unfold rangeD upto
  rw [List.map_map]
  have : (n + 1 - 1).toNat = n.toNat := by congr 1; omega
  rw [this]
  apply List.map_congr_left
  intro k _
  show D.int (1 + (k : Int)) = D.int ((k : Int) + 1)
  congr 1; omega
def restN (n : Int) (r : List Int) : List Int := (upto n).filter fun x => !decide (x ∈ r) && !decide (-x ∈ r)
theorem whole_row {n : Int} {r : List Int} (h : Row n r) : Row n (r ++ restN n r) := by
  have nOf : ∀ x ∈ upto n, nameOf x = x := fun x hx => by
    have := mem_upto.mp hx
    unfold nameOf
    rw [if_neg (by omega)]
  refine ⟨fun x hx => ?_, ?_⟩
  · rcases List.mem_append.mp hx with hx | hx
    · exact h.ok x hx
    · have hu := (List.mem_filter.mp hx).1
      have := mem_upto.mp hu
      simp [litOk, nOf x hu, this.1, this.2]
  · rw [List.map_append, List.nodup_append]
    refine ⟨h.nd, ?_, fun a ha b hb e => ?_⟩
    · have : ((restN n r).map nameOf) = restN n r := by
        conv => rhs; rw [← List.map_id (restN n r)]
        apply List.map_congr_left
        intro x hx
        exact nOf x (List.mem_filter.mp hx).1
      rw [this]
      exact ((upto_sorted n).imp fun {a b} h => (by omega : a ≠ b)).filter _
    · obtain ⟨x, hx, rfl⟩ := List.mem_map.mp ha
      obtain ⟨y, hy, rfl⟩ := List.mem_map.mp hb
      obtain ⟨hy1, hy2⟩ := List.mem_filter.mp hy
      simp only [Bool.and_eq_true, Bool.not_eq_true', decide_eq_false_iff_not] at hy2
      rcases name_eq e with z | z
      · exact hy2.1 (by rw [← z]; exact hx)
      · exact hy2.2 (by rw [← z]; exact hx)
theorem whole_names {n : Int} {r : List Int} (h : Row n r) : (sortN (r ++ restN n r)).map nameOf = upto n := by
  have hw := whole_row h
  have s1 := sortN_names hw
  have s2 := upto_sorted n
  have p : ((sortN (r ++ restN n r)).map nameOf).Perm (upto n) := by
    have p1 := (sortN_perm (r ++ restN n r)).map nameOf
    refine p1.trans ?_
    rw [List.perm_ext_iff_of_nodup hw.nd ((upto_sorted n).imp fun {a b} h => by omega)]
    intro a
    rw [mem_upto]
    constructor
    · intro ha
      obtain ⟨x, hx, rfl⟩ := List.mem_map.mp ha
      have := hw.ok x hx
      simpa [litOk] using this
    · intro ⟨h1, h2⟩
      by_cases m : a ∈ r.map nameOf
      · rw [List.map_append]; exact List.mem_append_left _ m
      · have nOf : nameOf a = a := by unfold nameOf; rw [if_neg (by omega)]
        have nOf' : nameOf (-a) = a := by unfold nameOf; rw [if_pos (by omega)]; omega
        rw [List.map_append]
        refine List.mem_append_right _ (List.mem_map.mpr ⟨a, List.mem_filter.mpr ⟨mem_upto.mpr ⟨h1, h2⟩, ?_⟩, nOf⟩)
        simp only [Bool.and_eq_true, Bool.not_eq_true', decide_eq_false_iff_not]
        exact ⟨fun z => m (List.mem_map.mpr ⟨a, z, nOf⟩), fun z => m (List.mem_map.mpr ⟨-a, z, nOf'⟩)⟩
  exact p.eq_of_pairwise (fun a b _ _ h1 h2 => by omega) s1 s2

theorem row_len {n : Int} {r : List Int} (h : Row n r) : r.length ≤ n.toNat := by
  have e := congrArg List.length (whole_names h)
  rw [List.length_map, (sortN_perm _).length_eq, List.length_append] at e
  have lu : (upto n).length = n.toNat := by simp [upto]
  omega
theorem rng2_upto {n : Int} (h1 : 1 ≤ n) (h2 : n ≤ 7) : rng2 [.int 1, .int (n + 1)] = some ((upto n).map .int) := by
  show (if -1000000 ≤ (1 : Int) ∧ (1 : Int) ≤ 1000000 ∧ -1000000 ≤ n + 1 ∧ n + 1 ≤ 1000000 then some (rangeD 1 (n + 1)) else none) = _
  rw [if_pos (by omega), rangeD_upto]
/-! ### the law's own settings -/
end K09
end G
end L2
end V2_
section V3_
set_option Elab.async false
set_option linter.all false
set_option maxRecDepth 100000
set_option maxHeartbeats 2000000
namespace L2
namespace G
namespace K09
open PySem PySem.Spec PyProof.Rows
/-! ### draws -/
def mixed (c k : Int) : Int := (c % 2147483647 * (48271 + 2 * k * k) + 69621 * k + 11) % 2147483647 * 69621 % 2147483629
theorem p64 : (2 : Int) ^ 64 = 18446744073709551616 := by decide
theorem mul_ok {i j : Int} (h : (-18446744073709551616 < i ∧ i < 18446744073709551616) ∨ (-18446744073709551616 < j ∧ j < 18446744073709551616)) : mulD (.int i) (.int j) = some (.int (i * j)) := if_pos (by rw [p64]; exact h)
theorem mod_ok {i j : Int} (h : 0 < j) : modD (.int i) (.int j) = some (.int (i % j)) := if_pos h
theorem add_ok (i j : Int) : addD (.int i) (.int j) = some (.int (i + j)) := rfl
theorem int_ok (i : Int) : intD [.int i] = some (.int i) := rfl
theorem fdiv_ok {i j : Int} (h : 0 < j ∧ j < 1073741824) : fdivD (.int i) (.int j) = some (.int (i / j)) := if_pos h
theorem law_mixed_ok (c k : Int) (h : -4611686018427387904 < k ∧ k < 4611686018427387904) : φ_law_mixed [.int c, .int k] = ret (.int (mixed c k)) := by
  unfold φ_law_mixed d_law_mixed
  rw [fnD_eq]
  have m1 : modD (.int c) (.int 2147483647) = some (.int (c % 2147483647)) := mod_ok (by decide)
  have m2 : mulD (.int 2) (.int k) = some (.int (2 * k)) := mul_ok (.inl (by omega))
  have m3 : mulD (.int (2 * k)) (.int k) = some (.int (2 * k * k)) := mul_ok (.inr (by omega))
  have m4 : mulD (.int (c % 2147483647)) (.int (48271 + 2 * k * k)) = some (.int (c % 2147483647 * (48271 + 2 * k * k))) := mul_ok (.inl (by omega))
  have m5 : mulD (.int 69621) (.int k) = some (.int (69621 * k)) := mul_ok (.inl (by omega))
  have m6 : ∀ z : Int, modD (.int z) (.int 2147483647) = some (.int (z % 2147483647)) := fun z => mod_ok (by decide)
  have m7 : ∀ z : Int, mulD (.int (z % 2147483647)) (.int 69621) = some (.int (z % 2147483647 * 69621)) := fun z => mul_ok (.inr (by omega))
  have m8 : ∀ z : Int, modD (.int z) (.int 2147483629) = some (.int (z % 2147483629)) := fun z => mod_ok (by decide)
  simp [int_ok, m1, m2, m3, m4, m5, m6, m7, m8, add_ok, mixed]
def sto (lefts cells : List Int) (n : Nat) : Store := [.lst (lefts.map .int), .lst (cells.map .int), .dct false [kCells, kLefts, kAt, kRoom] [.ref 1, .ref 0, .int n, .int 0]]
def St (n : Nat) (st : Store) : Prop := ∃ lefts cells : List Int, cells ≠ [] ∧ lefts.length = cells.length ∧ st = sto lefts cells n
theorem g_at (l c : List Int) (n : Nat) (ρ : Env) : run (E.sget (E.var 0) (E.cst (.str "at")) (some (.ref 2) :: ρ)) (sto l c n) = .ok (.int n) (sto l c n) := rfl
theorem g_cells (l c : List Int) (n : Nat) (ρ : Env) : run (E.sget (E.var 0) (E.cst (.str "cells")) (some (.ref 2) :: ρ)) (sto l c n) = .ok (.ref 1) (sto l c n) := rfl
theorem g_lefts (l c : List Int) (n : Nat) (ρ : Env) : run (E.sget (E.var 0) (E.cst (.str "lefts")) (some (.ref 2) :: ρ)) (sto l c n) = .ok (.ref 0) (sto l c n) := rfl
theorem p_at (l c : List Int) (n : Nat) (f : SD) (ρ : Env) (e : Env → M D) (he : e (some (.ref 2) :: ρ) = ret (.int ((n : Int) + 1))) : run (S.sputD (E.var 0) (E.cst (.str "at")) e (some (.ref 2) :: ρ)) (sto l c n) = .ok (.next, some (.ref 2) :: ρ) (sto l c (n + 1)) := by
  unfold S.sputD run
  rw [he]
  rfl
theorem run_bnd' {α β : Type} {m : M α} {k : α → M β} {st : Store} : run (bnd m k) st = match run m st with
  | .ok a s' => run (k a) s'
  | .exc x s' => .exc x s'
  | .bad => .bad := rfl
theorem l_cells (l c : List Int) (n : Nat) (ρ : Env) : run (E.slen (E.sget (E.var 0) (E.cst (.str "cells"))) (some (.ref 2) :: ρ)) (sto l c n) = .ok (.int c.length) (sto l c n) := by
  show Res.ok (D.int ((c.map D.int).length : Nat)) _ = _
  rw [List.length_map]
theorem x_lefts {l c : List Int} {n j : Nat} {ρ : Env} {e : Env → M D} {x : Int} (he : e (some (.ref 2) :: ρ) = ret (.int j)) (hx : l[j]? = some x) : run (E.six (E.sget (E.var 0) (E.cst (.str "lefts"))) e (some (.ref 2) :: ρ)) (sto l c n) = .ok (.int x) (sto l c n) := by
  unfold E.six
  rw [run_bnd (g_lefts l c n ρ), he]
  show lift (ixD (.lst (l.map .int)) (.int j)) _ = _
  have : ixD (.lst (l.map .int)) (.int j) = some (.int x) := ix_tup D.int hx
  rw [this]; rfl
theorem x_cells {l c : List Int} {n j : Nat} {ρ : Env} {e : Env → M D} {x : Int} (he : e (some (.ref 2) :: ρ) = ret (.int j)) (hx : c[j]? = some x) : run (E.six (E.sget (E.var 0) (E.cst (.str "cells"))) e (some (.ref 2) :: ρ)) (sto l c n) = .ok (.int x) (sto l c n) := by
  unfold E.six
  rw [run_bnd (g_cells l c n ρ), he]
  show lift (ixD (.lst (c.map .int)) (.int j)) _ = _
  have : ixD (.lst (c.map .int)) (.int j) = some (.int x) := ix_tup D.int hx
  rw [this]; rfl
theorem p_lefts {l c : List Int} {n j : Nat} {ρ : Env} {e f : Env → M D} {x : Int} (he : e (some (.ref 2) :: ρ) = ret (.int j)) (hf : f (some (.ref 2) :: ρ) = ret (.int x)) (hj : j < l.length) :
    run (S.sputL (E.sget (E.var 0) (E.cst (.str "lefts"))) e f (some (.ref 2) :: ρ)) (sto l c n) = .ok (.next, some (.ref 2) :: ρ) (sto (l.set j x) c n) := by
  unfold S.sputL
  rw [hf, bnd_ret, run_bnd (g_lefts l c n ρ), he]
  have hix : ixN (l.map D.int).length (j : Int) = some j := by
    unfold ixN
    rw [if_pos (by omega), if_pos (by rw [List.length_map]; omega)]
    simp
  show (match ixN (l.map D.int).length (j : Int) with
    | some j => if (D.int x).imm = true then Res.ok (Fl.next, some (D.ref 2) :: ρ) ((sto l c n).set 0 (.lst ((l.map D.int).set j (.int x)))) else .bad
    | none => .bad) = _
  rw [hix]
  dsimp only
  rw [if_pos (by rfl : (D.int x).imm = true)]
  simp [sto, List.map_set]
theorem law_draw_ok {n : Nat} {st : Store} {many : Int} (h : St n st) (hn : n < 1099511627776) (h1 : 0 < many) (h2 : many < 1073741824) : ∃ r st', run (φ_law_draw [.ref 2, .int many]) st = .ok (.int r) st' ∧ St (n + 1) st' ∧ 0 ≤ r ∧ r < many := by
  obtain ⟨l, c, hc, hl, rfl⟩ := h
  have lc : 0 < c.length := List.length_pos_iff.mpr hc
  obtain ⟨j, jl, ej⟩ : ∃ j : Nat, j < c.length ∧ modD (.int n) (.int c.length) = some (.int (j : Int)) := ⟨n % c.length, Nat.mod_lt _ lc, by rw [mod_ok (by omega)]; congr 2⟩
  obtain ⟨x, hx⟩ : ∃ x, l[j]? = some x := ⟨l[j]'(by omega), List.getElem?_eq_getElem _⟩
  obtain ⟨y, hy⟩ : ∃ y, c[j]? = some y := ⟨c[j], List.getElem?_eq_getElem jl⟩
  unfold φ_law_draw d_law_draw
  rw [fnD_eq]
  have env0 : (List.map some [D.ref 2, D.int many] ++ List.replicate (6 - [D.ref 2, D.int many].length) none) = [some (.ref 2), some (.int many), none, none, none, none] := rfl
  rw [env0]
  rw [fn_step (set_run (g_at l c n [some (.int many), none, none, none, none]))]
  simp only [List.set_cons_succ, List.set_cons_zero]
  rw [fn_step (p_at l c n S.nil [some (.int many), some (.int n), none, none, none] (E.op2 addD (E.var 2) (E.cst (.int 1))) rfl)]
  rw [fn_step (set_run (op2_run (blt1_run (var_run rfl) (int_ok _)) (l_cells l c (n + 1) [some (.int many), some (.int n), none, none, none]) ej))]
  simp only [List.set_cons_succ, List.set_cons_zero]
  rw [fn_step (set_run (x_lefts (l := l) (c := c) (n := n + 1) (j := j) (ρ := [some (.int many), some (.int n), some (.int j), none, none]) (e := E.var 3) rfl hx))]
  simp only [List.set_cons_succ, List.set_cons_zero]
  by_cases hp : 0 < x
  · have q1 : fdivD (.int x) (.int many) = some (.int (x / many)) := fdiv_ok ⟨h1, h2⟩
    have q2 : modD (.int x) (.int many) = some (.int (x % many)) := mod_ok h1
    have g1 : gtD (.int x) (.int 0) = some (.bl true) := by simp [gtD, ordI, hp]
    have e5 := p_lefts (l := l) (c := c) (n := n + 1) (j := j) (ρ := [some (.int many), some (.int n), some (.int j), some (.int x), none]) (e := E.var 3) (f := E.op2 fdivD (E.var 4) (E.var 1)) (x := x / many) rfl (by simp [q1]) (by omega)
    refine ⟨x % many, sto (l.set j (x / many)) c (n + 1), ?_, ⟨_, c, hc, by rw [List.length_set]; exact hl, rfl⟩, Int.emod_nonneg _ (by omega), Int.emod_lt_of_pos _ h1⟩
    refine fn_ret (ρ' := [some (.ref 2), some (.int many), some (.int n), some (.int j), some (.int x), none]) ?_
    refine (ite_run (val_run (op2_run (var_run rfl) cst_run g1))).trans ?_
    rw [if_pos rfl]
    refine (seq_step e5).trans ?_
    exact seq_ret (ret_run (op2_run (blt1_run (var_run rfl) (int_ok _)) (var_run rfl) q2))
  · have g1 : gtD (.int x) (.int 0) = some (.bl false) := by simp [gtD, ordI, hp]
    have e6 := x_cells (l := l) (c := c) (n := n + 1) (j := j) (ρ := [some (.int many), some (.int n), some (.int j), some (.int x), none]) (e := E.var 3) rfl hy
    have q1 := law_mixed_ok y n (by omega)
    have q2 := law_mixed_ok (mixed y n) (40 + n) (by omega)
    have q3 := law_mixed_ok (mixed (mixed y n) (40 + n)) (7 + n) (by omega)
    have q4 : ∀ z : Int, mulD (.int z) (.int 2147483647) = some (.int (z * 2147483647)) := fun z => mul_ok (.inr (by omega))
    have q5 : ∀ z : Int, fdivD (.int z) (.int 64) = some (.int (z / 64)) := fun z => fdiv_ok (by omega)
    have q6 : ∀ z : Int, modD (.int z) (.int many) = some (.int (z % many)) := fun z => mod_ok h1
    refine ⟨(mixed (mixed y n) (40 + n) * 2147483647 + mixed (mixed (mixed y n) (40 + n)) (7 + n)) / 64 % many, sto l c (n + 1), ?_, ⟨l, c, hc, hl, rfl⟩, Int.emod_nonneg _ (by omega), Int.emod_lt_of_pos _ h1⟩
    rw [fn_step (show run (S.ite _ _ _ _) _ = .ok (.next, [some (.ref 2), some (.int many), some (.int n), some (.int j), some (.int x), none]) _ from (ite_run (val_run (op2_run (var_run rfl) cst_run g1))).trans rfl)]
    rw [fn_step (set_run (app2_run (app2_run e6 (var_run rfl) (by rw [q1]; rfl)) (op2_run cst_run (var_run rfl) (add_ok _ _)) (by rw [q2]; rfl)))]
    simp only [List.set_cons_succ, List.set_cons_zero]
    refine fn_ret (ret_run (op2_run (op2_run (blt1_run (op2_run (op2_run (var_run rfl) cst_run (q4 _)) (app2_run (var_run rfl) (op2_run cst_run (var_run rfl) (add_ok _ _)) (by rw [q3]; rfl)) (add_ok _ _)) (int_ok _)) cst_run (q5 _)) (var_run rfl) (q6 _)))

def BIG : Nat := 1000000000000
/-- with at most c draws -/
def Dr {α : Type} (c : Nat) (m : M α) (P : α → Prop) : Prop := ∀ n st, St n st → n + c < BIG → ∃ a st' n', run m st = .ok a st' ∧ St n' st' ∧ n' ≤ n + c ∧ P a
theorem draw_dr {many : Int} (h1 : 0 < many) (h2 : many < 1073741824) : Dr 1 (φ_law_draw [.ref 2, .int many]) fun d => ∃ r : Int, d = .int r ∧ 0 ≤ r ∧ r < many := fun n st hs hn => by
  unfold BIG at hn
  obtain ⟨r, st', h, hs', g1, g2⟩ := law_draw_ok hs (by omega) h1 h2
  exact ⟨_, st', n + 1, h, hs', Nat.le_refl _, r, rfl, g1, g2⟩
theorem rising_of : ∀ l : List Int, l.Pairwise (· < ·) → rising l = true
  | [], _ => rfl
  | [x], _ => rfl
  | x :: y :: l, h => by
    have ih := rising_of (y :: l) h.tail
    have hxy : x < y := (List.pairwise_cons.mp h).1 y (.head _)
    unfold rising at ih ⊢
    simp only [List.tail_cons, List.zip_cons_cons, List.all_cons, Bool.and_eq_true, decide_eq_true_eq] at ih ⊢
    exact ⟨hxy, ih⟩
theorem isCl_sortN {n : Int} {r : List Int} (h : Row n r) : isCl n (sortN r) = true := by
  unfold isCl
  rw [rising_of _ (sortN_names h), Bool.and_true, List.all_eq_true]
  exact fun x hx => h.ok x ((sortN_perm r).mem_iff.mp hx)
theorem sign_ok {r : Int} (h0 : 0 ≤ r) (h1 : r < 2) : ∃ s : Int, (s = 1 ∨ s = -1) ∧ ixD' (.lst [.int 1, .int (-1)]) (.int r) = some (.int s) := by
  have : r = 0 ∨ r = 1 := by omega
  rcases this with rfl | rfl
  · exact ⟨1, .inl rfl, rfl⟩
  · exact ⟨-1, .inr rfl, rfl⟩
theorem nameOf_sign {x s : Int} (hx : 1 ≤ x) (hs : s = 1 ∨ s = -1) : nameOf (x * s) = x := by
  unfold nameOf
  rcases hs with rfl | rfl
  · rw [if_neg (by omega)]; omega
  · rw [if_pos (by omega)]; omega
theorem signlist_run {ρ : Env} {st : Store} : run (E.lst (A.cons (E.cst (.int 1)) (A.cons (E.op1 negD (E.cst (.int 1))) A.nil)) ρ) st = .ok (.lst [.int 1, .int (-1)]) st := rfl
theorem ix_run {a b : Env → M D} {ρ : Env} {st st' st1 : Store} {x y d : D} (ha : run (a ρ) st = .ok x st') (hb : run (b ρ) st' = .ok y st1) (hg : ixD' x y = some d) : run (E.ix a b ρ) st = .ok d st1 := op2_run ha hb hg
theorem erase_map {α β : Type} (f : α → β) : ∀ (l : List α) (j : Nat), (l.map f).eraseIdx j = (l.eraseIdx j).map f
  | [], _ => by simp
  | x :: l, 0 => by simp
  | x :: l, j + 1 => by simp [erase_map f l j]
theorem nameOf_neg (x : Int) : nameOf (-x) = nameOf x := by unfold nameOf; split <;> split <;> omega
/-! ### a clause -/
structure CInv (N : Int) (L G : List Int) : Prop where
  row : Row N G
  nd : L.Nodup
  rng : ∀ x ∈ L, 1 ≤ x ∧ x ≤ N
  dis : ∀ x ∈ L, x ∉ G.map nameOf
def cBody : SD := S.seq (S.popAtG 2 (E.app φ_law_draw (A.cons (E.var 0) (A.cons (E.blt lenD (A.cons (E.var 2) A.nil)) A.nil))) (Gt.name 5)) (S.seq (S.append 3 (E.tup (A.cons (E.var 5) (A.cons (E.op2 mulD (E.var 5) (E.ix (E.lst (A.cons (E.cst (.int 1)) (A.cons (E.op1 negD (E.cst (.int 1))) A.nil))) (E.app φ_law_draw (A.cons (E.var 0) (A.cons (E.cst (.int 2)) A.nil))))) A.nil)))) S.nil)
def got (G : List Int) : D := .lst ((G.map pairN).map cl)
def cEnv (N : Int) (L G : List Int) (k x p : Option D) : Env := [some (.ref 2), some (.int N), some (li L), some (got G), k, x, p]
theorem cStep {N : Int} (hN : N ≤ 7) {L G : List Int} (h : CInv N L G) (hL : L ≠ []) (hG : G.length ≤ 10) (k x p : Option D) (n : Nat) (st : Store) (hs : St n st) (hn : n + 2 < BIG) :
    ∃ L' G' x' st' n', run (cBody (cEnv N L G k x p)) st = .ok (.next, cEnv N L' G' k x' p) st' ∧ CInv N L' G' ∧ L'.length + 1 = L.length ∧ G'.length = G.length + 1 ∧ St n' st' ∧ n' ≤ n + 2 := by
  have hl : 0 < L.length := List.length_pos_iff.mpr hL
  have hl7 : (L.length : Int) ≤ 7 := by
    have hr : Row N L := ⟨fun x hx => by
      have := h.rng x hx
      have e : nameOf x = x := by unfold nameOf; rw [if_neg (by omega)]
      simp [litOk, e, this.1, this.2], by
      have e : L.map nameOf = L := by
        conv => rhs; rw [← List.map_id L]
        apply List.map_congr_left
        intro x hx
        have := h.rng x hx
        show nameOf x = x
        unfold nameOf; rw [if_neg (by omega)]
      rw [e]; exact h.nd⟩
    have := row_len hr
    omega
  have lenr : run (E.blt lenD (A.cons (E.var 2) A.nil) (cEnv N L G k x p)) st = .ok (.int L.length) st := blt1_run (var_run rfl) (by show some (D.int ((L.map D.int).length : Nat)) = _; rw [List.length_map])
  obtain ⟨d1, st1, n1, r1, s1, l1, r, rfl, g0, g1⟩ := draw_dr (many := (L.length : Int)) (by omega) (by omega) n st hs (by omega)
  have dr1 : run (E.app φ_law_draw (A.cons (E.var 0) (A.cons (E.blt lenD (A.cons (E.var 2) A.nil)) A.nil)) (cEnv N L G k x p)) st = .ok (.int r) st1 := app2_run (var_run rfl) lenr r1
  obtain ⟨j, rfl⟩ : ∃ j : Nat, r = j := ⟨r.toNat, by omega⟩
  have hj : j < L.length := by omega
  have hy := List.getElem?_eq_getElem hj
  generalize hyy : L[j] = y at hy
  have hmem : y ∈ L := List.mem_of_getElem? hy
  have pop : run (S.popAtG 2 (E.app φ_law_draw (A.cons (E.var 0) (A.cons (E.blt lenD (A.cons (E.var 2) A.nil)) A.nil))) (Gt.name 5) (cEnv N L G k x p)) st = .ok (.next, cEnv N (L.eraseIdx j) G k (some (.int y)) p) st1 := by
    have z : S.popAtG 2 (E.app φ_law_draw (A.cons (E.var 0) (A.cons (E.blt lenD (A.cons (E.var 2) A.nil)) A.nil))) (Gt.name 5) (cEnv N L G k x p) = bnd (E.app φ_law_draw (A.cons (E.var 0) (A.cons (E.blt lenD (A.cons (E.var 2) A.nil)) A.nil)) (cEnv N L G k x p)) _ := rfl
    rw [z, run_bnd dr1]
    have e1 : (L.map D.int)[((j : Int)).toNat]? = some (.int y) := by simp [hy]
    have e2 : (L.map D.int).eraseIdx ((j : Int)).toNat = (L.eraseIdx j).map D.int := by rw [Int.toNat_natCast, erase_map]
    show run (if 0 ≤ (j : Int) ∧ (j : Int) < 1000000 then (match (L.map D.int)[((j : Int)).toNat]? with
      | some d => bnd (lift (Gt.name 5 d (List.set (cEnv N L G k x p) 2 (some (.lst ((L.map D.int).eraseIdx ((j : Int)).toNat)))))) fun ρ' => ret (Fl.next, ρ')
      | none => bad) else bad) st1 = _
    rw [if_pos (by omega), e1, e2]
    rfl
  obtain ⟨d2, st2, n2, r2, s2, l2, q, rfl, q0, q1⟩ := draw_dr (many := 2) (by omega) (by omega) n1 st1 s1 (by omega)
  obtain ⟨sg, hsg, hix⟩ := sign_ok q0 q1
  have hyr := h.rng y hmem
  have hnm := nameOf_sign hyr.1 hsg
  have mul : mulD (.int y) (.int sg) = some (.int (y * sg)) := mul_ok (.inr (by rcases hsg with rfl | rfl <;> omega))
  have val : run (E.tup (A.cons (E.var 5) (A.cons (E.op2 mulD (E.var 5) (E.ix (E.lst (A.cons (E.cst (.int 1)) (A.cons (E.op1 negD (E.cst (.int 1))) A.nil))) (E.app φ_law_draw (A.cons (E.var 0) (A.cons (E.cst (.int 2)) A.nil))))) A.nil)) (cEnv N (L.eraseIdx j) G k (some (.int y)) p)) st1 = .ok (cl (pairN (y * sg))) st2 := by
    have m1 : run (E.op2 mulD (E.var 5) (E.ix (E.lst (A.cons (E.cst (.int 1)) (A.cons (E.op1 negD (E.cst (.int 1))) A.nil))) (E.app φ_law_draw (A.cons (E.var 0) (A.cons (E.cst (.int 2)) A.nil)))) (cEnv N (L.eraseIdx j) G k (some (.int y)) p)) st1 = .ok (.int (y * sg)) st2 :=
      op2_run (var_run rfl) (ix_run signlist_run (app2_run (var_run rfl) cst_run r2) hix) mul
    have z : E.tup (A.cons (E.var 5) (A.cons (E.op2 mulD (E.var 5) (E.ix (E.lst (A.cons (E.cst (.int 1)) (A.cons (E.op1 negD (E.cst (.int 1))) A.nil))) (E.app φ_law_draw (A.cons (E.var 0) (A.cons (E.cst (.int 2)) A.nil))))) A.nil)) (cEnv N (L.eraseIdx j) G k (some (.int y)) p)
      = bnd (E.op2 mulD (E.var 5) (E.ix (E.lst (A.cons (E.cst (.int 1)) (A.cons (E.op1 negD (E.cst (.int 1))) A.nil))) (E.app φ_law_draw (A.cons (E.var 0) (A.cons (E.cst (.int 2)) A.nil)))) (cEnv N (L.eraseIdx j) G k (some (.int y)) p)) fun v => ret (.tup [.int y, v]) := by
      rw [u_tup, u_cons]
      have v5 : E.var 5 (cEnv N (L.eraseIdx j) G k (some (.int y)) p) = ret (.int y) := rfl
      rw [v5, bnd_ret, u_cons]
      simp only [bnd_bnd, u_nil, bnd_ret]
    rw [z, run_bnd m1]
    show Res.ok (D.tup [.int y, .int (y * sg)]) st2 = .ok (D.tup [.int (nameOf (y * sg)), .int (y * sg)]) st2
    rw [hnm]
  have app : run (S.append 3 (E.tup (A.cons (E.var 5) (A.cons (E.op2 mulD (E.var 5) (E.ix (E.lst (A.cons (E.cst (.int 1)) (A.cons (E.op1 negD (E.cst (.int 1))) A.nil))) (E.app φ_law_draw (A.cons (E.var 0) (A.cons (E.cst (.int 2)) A.nil))))) A.nil))) (cEnv N (L.eraseIdx j) G k (some (.int y)) p)) st1 = .ok (.next, cEnv N (L.eraseIdx j) (G ++ [y * sg]) k (some (.int y)) p) st2 := by
    have z : S.append 3 (E.tup (A.cons (E.var 5) (A.cons (E.op2 mulD (E.var 5) (E.ix (E.lst (A.cons (E.cst (.int 1)) (A.cons (E.op1 negD (E.cst (.int 1))) A.nil))) (E.app φ_law_draw (A.cons (E.var 0) (A.cons (E.cst (.int 2)) A.nil))))) A.nil))) (cEnv N (L.eraseIdx j) G k (some (.int y)) p) = bnd (E.tup (A.cons (E.var 5) (A.cons (E.op2 mulD (E.var 5) (E.ix (E.lst (A.cons (E.cst (.int 1)) (A.cons (E.op1 negD (E.cst (.int 1))) A.nil))) (E.app φ_law_draw (A.cons (E.var 0) (A.cons (E.cst (.int 2)) A.nil))))) A.nil)) (cEnv N (L.eraseIdx j) G k (some (.int y)) p)) _ := rfl
    rw [z, run_bnd val]
    show run (if ((G.map pairN).map cl).length < LIM then ret (Fl.next, List.set (cEnv N (L.eraseIdx j) G k (some (.int y)) p) 3 (some (.lst ((G.map pairN).map cl ++ [cl (pairN (y * sg))])))) else bad) st2 = _
    rw [if_pos (by simp only [List.length_map]; unfold LIM; omega)]
    have e : (G.map pairN).map cl ++ [cl (pairN (y * sg))] = ((G ++ [y * sg]).map pairN).map cl := by simp
    rw [e]
    rfl
  refine ⟨L.eraseIdx j, G ++ [y * sg], some (.int y), st2, n2, ?_, ⟨?_, ?_, ?_, ?_⟩, ?_, by simp, s2, by omega⟩
  · unfold cBody
    refine (seq_step pop).trans ((seq_step app).trans rfl)
  · have h1 := h.dis y hmem
    refine h.row.snoc ?_ (fun z => h1 (List.mem_map.mpr ⟨_, z, hnm⟩)) fun z => h1 (List.mem_map.mpr ⟨_, z, ?_⟩)
    · simp [litOk, hnm, hyr.1, hyr.2]
    · rw [nameOf_neg, hnm]
  · exact h.nd.sublist (List.eraseIdx_sublist _ _)
  · exact fun z hz => h.rng z ((List.eraseIdx_sublist _ _).subset hz)
  · intro z hz
    have hzL := (List.eraseIdx_sublist _ _).subset hz
    rw [List.map_append, List.mem_append]
    rintro (q | q)
    · exact h.dis z hzL q
    · have e : z = y := by simpa [hnm] using q
      subst e
      have := List.getElem?_eq_some_iff.mp hy
      exact absurd hz (by
        rw [List.mem_eraseIdx_iff_getElem?]
        rintro ⟨i, hi, e⟩
        have hi' := List.getElem?_eq_some_iff.mp e
        obtain ⟨a1, b1⟩ := this
        obtain ⟨a2, b2⟩ := hi'
        exact hi ((List.getElem_inj h.nd).mp (b2.trans b1.symm)))
  · rw [List.length_eraseIdx_of_lt hj]; omega

theorem for_step {t : D → Env → Option Env} {b : SD} {d : D} {r : List D} {ρ ρ1 ρ2 : Env} {st st' : Store} (h1 : t d ρ = some ρ1) (h2 : run (b ρ1) st = .ok (.next, ρ2) st') : run (forL t b (d :: r) ρ) st = run (forL t b r ρ2) st' := by
  have z : forL t b (d :: r) ρ = bnd (lift (t d ρ)) _ := rfl
  rw [z, h1, lift_some, bnd_ret, run_bnd h2]
theorem cLoop {N : Int} (hN : N ≤ 7) : ∀ (ds : List D) (L G : List Int) (k x p : Option D) (n : Nat) (st : Store), CInv N L G → ds.length ≤ L.length → G.length + ds.length ≤ 10 → St n st → n + 2 * ds.length < BIG →
    ∃ L' G' k' x' st' n', run (forL (Gt.name 4) cBody ds (cEnv N L G k x p)) st = .ok (.next, cEnv N L' G' k' x' p) st' ∧ CInv N L' G' ∧ St n' st' ∧ n' ≤ n + 2 * ds.length
  | [], L, G, k, x, p, n, st, h, _, _, hs, _ => ⟨L, G, k, x, st, n, rfl, h, hs, by omega⟩
  | d :: ds, L, G, k, x, p, n, st, h, hl, hg, hs, hn => by
    simp only [List.length_cons] at hl hg hn
    obtain ⟨L1, G1, x1, st1, n1, r1, i1, l1, g1, s1, b1⟩ := cStep hN h (List.length_pos_iff.mp (by omega)) (by omega) (some d) x p n st hs (by omega)
    obtain ⟨L2, G2, k2, x2, st2, n2, r2, i2, s2, b2⟩ := cLoop hN ds L1 G1 (some d) x1 p n1 st1 i1 (by omega) (by omega) s1 (by omega)
    refine ⟨L2, G2, k2, x2, st2, n2, ?_, i2, s2, by simp only [List.length_cons]; omega⟩
    exact (for_step rfl r1).trans r2
theorem rng1_ok {m : Int} (h0 : 0 ≤ m) (h1 : m ≤ 1000) : ∃ ds, rng1 [.int m] = some ds ∧ ds.length = m.toNat := by
  refine ⟨rangeD 0 m, ?_, ?_⟩
  · show (if -1000000 ≤ m ∧ m ≤ 1000000 then some (rangeD 0 m) else none) = _
    rw [if_pos (by omega)]
  · unfold rangeD; simp
theorem pairs_sorted (G : List Int) (ρ : Env) (hρ : ∀ p : List Int, E.var 6 (List.set (List.set ρ 6 none) 6 (some (cl p))) = ret (cl p)) (h3 : E.var 3 ρ = ret (got G)) :
    E.blt tupleD (A.cons (E.comp (I.seq (E.blt sortedD3 (A.cons (E.var 3) A.nil))) [6] (Gt.name 6) T.yes (E.ix (E.var 6) (E.cst (.int 1)))) A.nil) ρ = ret (cl (sortN G)) := by
  have s1 := sortL_cls (G.map pairN)
  have s2 : sortedD3 [got G] = some (.lst ((sortP G).map cl)) := by
    show (sortL ((G.map pairN).map cl)).map D.lst = _
    rw [s1]; rfl
  have c2 := compL_all (ρ := List.set ρ 6 none) (t := Gt.name 6) (e := E.ix (E.var 6) (E.cst (.int 1))) cl (fun p => List.set (List.set ρ 6 none) 6 (some (cl p))) (fun p => .int (p.getD 1 0)) (sortP G) (by
    intro p hp
    have hv := hρ p
    obtain ⟨x, _, rfl⟩ := sortP_mem hp
    have hx : ixD' (cl (pairN x)) (.int 1) = some (.int x) := rfl
    refine ⟨rfl, ?_⟩
    rw [u_ix, hv, bnd_ret, u_cst, bnd_ret, hx]
    rfl)
  have e2 : ((sortP G).map fun p => D.int (p.getD 1 0)) = (sortN G).map .int := by simp [sortN, Function.comp_def]
  rw [e2] at c2
  rw [u_blt, u_cons, u_comp, u_iseq, u_blt, u_cons, h3]
  simp only [bnd_ret, u_nil, s2, lift_some, seqD_lst, u_wipe0, u_wipeS, c2]
  rfl
theorem law_clause_dr {N : Int} (h1 : 1 ≤ N) (h7 : N ≤ 7) : Dr 9 (φ_law_clause [.ref 2, .int N]) fun d => ∃ c, d = cl c ∧ isCl N c = true := fun n st hs hn => by
  have rg : rgL2 [.int 1, .int (N + 1)] = some (li (upto N)) := by
    show (if -1000000 ≤ (1 : Int) ∧ (1 : Int) ≤ 1000000 ∧ -1000000 ≤ N + 1 ∧ N + 1 ≤ 1000000 then some (D.lst (rangeD 1 (N + 1))) else none) = _
    rw [if_pos (by omega), rangeD_upto]
  obtain ⟨m, hm, hmin, hm4⟩ : ∃ m : Int, minD [.int 4, .int N] = some (.int m) ∧ (0 < m ∧ m ≤ N) ∧ m ≤ 4 := by
    refine ⟨if N < 4 then N else 4, rfl, ?_, ?_⟩ <;> split <;> omega
  obtain ⟨d1, st1, n1, r1, s1, b1, r, rfl, q0, q1⟩ := draw_dr (many := m) hmin.1 (by omega) n st hs (by omega)
  obtain ⟨ds, hds, hlen⟩ := rng1_ok (m := 1 + r) (by omega) (by omega)
  have lu : (upto N).length = N.toNat := by simp [upto]
  have i0 : CInv N (upto N) [] := ⟨⟨fun x hx => (by cases hx), (by simp)⟩, (upto_sorted N).imp fun {a b} h => by omega, fun x hx => mem_upto.mp hx, fun x _ => by simp⟩
  obtain ⟨L2, G2, k2, x2, st2, n2, r2, i2, s2, b2⟩ := cLoop h7 ds (upto N) [] none none none n1 st1 i0 (by omega) (by simp; omega) s1 (by omega)
  refine ⟨cl (sortN G2), st2, n2, ?_, s2, by omega, _, rfl, isCl_sortN i2.row⟩
  unfold φ_law_clause d_law_clause
  rw [fnD_eq]
  have env0 : (List.map some [D.ref 2, D.int N] ++ List.replicate (7 - [D.ref 2, D.int N].length) none) = [some (.ref 2), some (.int N), none, none, none, none, none] := rfl
  rw [env0]
  have p1 : S.par 2 3 (E.blt rgL2 (A.cons (E.cst (.int 1)) (A.cons (E.op2 addD (E.var 1) (E.cst (.int 1))) A.nil))) (E.lst A.nil) [some (.ref 2), some (.int N), none, none, none, none, none] = ret (.next, cEnv N (upto N) [] none none none) := by
    simp [add_ok, rg]
    rfl
  rw [fn_step (st' := st) (ρ' := cEnv N (upto N) [] none none none) (by rw [p1]; rfl)]
  have it : run (I.range rng1 (A.cons (E.op2 addD (E.cst (.int 1)) (E.app φ_law_draw (A.cons (E.var 0) (A.cons (E.blt minD (A.cons (E.cst (.int 4)) (A.cons (E.var 1) A.nil))) A.nil)))) A.nil) (cEnv N (upto N) [] none none none)) st = .ok ds st1 := by
    have a1 : run (E.op2 addD (E.cst (.int 1)) (E.app φ_law_draw (A.cons (E.var 0) (A.cons (E.blt minD (A.cons (E.cst (.int 4)) (A.cons (E.var 1) A.nil))) A.nil))) (cEnv N (upto N) [] none none none)) st = .ok (.int (1 + r)) st1 := by
      refine op2_run cst_run (app2_run (var_run rfl) (pure_run (d := .int m) ?_) r1) (add_ok _ _)
      have v1 : E.var 1 (cEnv N (upto N) [] none none none) = ret (.int N) := rfl
      simp [v1, hm]
    have z : I.range rng1 (A.cons (E.op2 addD (E.cst (.int 1)) (E.app φ_law_draw (A.cons (E.var 0) (A.cons (E.blt minD (A.cons (E.cst (.int 4)) (A.cons (E.var 1) A.nil))) A.nil)))) A.nil) (cEnv N (upto N) [] none none none) = bnd (bnd (E.op2 addD (E.cst (.int 1)) (E.app φ_law_draw (A.cons (E.var 0) (A.cons (E.blt minD (A.cons (E.cst (.int 4)) (A.cons (E.var 1) A.nil))) A.nil))) (cEnv N (upto N) [] none none none)) _) _ := rfl
    rw [z, bnd_bnd, run_bnd a1]
    simp [hds]
  have fr : run (S.for_ (I.range rng1 (A.cons (E.op2 addD (E.cst (.int 1)) (E.app φ_law_draw (A.cons (E.var 0) (A.cons (E.blt minD (A.cons (E.cst (.int 4)) (A.cons (E.var 1) A.nil))) A.nil)))) A.nil)) (Gt.name 4) cBody (cEnv N (upto N) [] none none none)) st = .ok (.next, cEnv N L2 G2 k2 x2 none) st2 := by
    rw [u_sfor, run_bnd it]
    exact r2
  refine (fn_step fr).trans ?_
  have ps := pairs_sorted G2 (cEnv N L2 G2 k2 x2 none) (fun p => rfl) rfl
  exact fn_ret (ret_run (pure_run ps))
/-! ### a setting -/
def sC : Env → M Bool := T.val (E.op2 eqD (E.app φ_law_draw (A.cons (E.var 0) (A.cons (E.cst (.int 2)) A.nil))) (E.cst (.int 0)))
def sE : Env → M D := E.op2 mulD (E.var 2) (E.ix (E.lst (A.cons (E.cst (.int 1)) (A.cons (E.op1 negD (E.cst (.int 1))) A.nil))) (E.app φ_law_draw (A.cons (E.var 0) (A.cons (E.cst (.int 2)) A.nil))))
theorem sLoop (N : D) : ∀ (l : List Int) (n : Nat) (st : Store), (∀ x ∈ l, 1 ≤ x) → St n st → n + 2 * l.length < BIG →
    ∃ (s : List Int) (st' : Store) (n' : Nat), run (compL [some (.ref 2), some N, none] (Gt.name 2) sC sE (l.map .int)) st = .ok (s.map D.int) st' ∧ (s.map nameOf).Sublist l ∧ St n' st' ∧ n' ≤ n + 2 * l.length
  | [], n, st, _, hs, _ => ⟨[], st, n, rfl, .slnil, hs, by omega⟩
  | x :: l, n, st, hx, hs, hn => by
    simp only [List.length_cons] at hn
    obtain ⟨d1, st1, n1, r1, s1, b1, r, rfl, q0, q1⟩ := draw_dr (many := 2) (by omega) (by omega) n st hs (by omega)
    have e1 : eqD (.int r) (.int 0) = some (.bl (decide (r = 0))) := by simp [eqD]
    have c1 : run (sC [some (.ref 2), some N, some (.int x)]) st = .ok (decide (r = 0)) st1 := val_run (op2_run (app2_run (var_run rfl) cst_run r1) cst_run e1)
    have z : compL [some (.ref 2), some N, none] (Gt.name 2) sC sE ((x :: l).map .int) = bnd (lift (Gt.name 2 (.int x) [some (.ref 2), some N, none])) fun ρ1 => bnd (sC ρ1) fun k => if k = true then bnd (sE ρ1) fun y => bnd (compL [some (.ref 2), some N, none] (Gt.name 2) sC sE (l.map .int)) fun ys => ret (y :: ys) else compL [some (.ref 2), some N, none] (Gt.name 2) sC sE (l.map .int) := rfl
    have g : lift (Gt.name 2 (.int x) [some (.ref 2), some N, none]) = ret [some (.ref 2), some N, some (.int x)] := rfl
    rw [z, g, bnd_ret]
    by_cases h : r = 0
    · obtain ⟨d2, st2, n2, r2, s2, b2, q, rfl, p0, p1⟩ := draw_dr (many := 2) (by omega) (by omega) n1 st1 s1 (by omega)
      obtain ⟨sg, hsg, hix⟩ := sign_ok p0 p1
      have mul : mulD (.int x) (.int sg) = some (.int (x * sg)) := mul_ok (.inr (by rcases hsg with rfl | rfl <;> omega))
      have v1 : run (sE [some (.ref 2), some N, some (.int x)]) st1 = .ok (.int (x * sg)) st2 := op2_run (var_run rfl) (ix_run signlist_run (app2_run (var_run rfl) cst_run r2) hix) mul
      obtain ⟨s, st3, n3, r3, sub, s3, b3⟩ := sLoop N l n2 st2 (fun y hy => hx y (.tail _ hy)) s2 (by omega)
      refine ⟨(x * sg) :: s, st3, n3, ?_, ?_, s3, by simp only [List.length_cons]; omega⟩
      · rw [run_bnd c1, decide_eq_true h, if_pos rfl, run_bnd v1, run_bnd r3]
        rfl
      · rw [List.map_cons, nameOf_sign (hx x (.head _)) hsg]
        exact sub.cons_cons x
    · obtain ⟨s, st3, n3, r3, sub, s3, b3⟩ := sLoop N l n1 st1 (fun y hy => hx y (.tail _ hy)) s1 (by omega)
      refine ⟨s, st3, n3, ?_, sub.cons x, s3, by simp only [List.length_cons]; omega⟩
      rw [run_bnd c1, decide_eq_false h, if_neg Bool.false_ne_true]
      exact r3
/-! ### a bundle -/
theorem toKeys_ints : ∀ c : List Int, toKeys (c.map .int) = some (c.map Sum.inl)
  | [] => rfl
  | x :: c => by simp [toKeys, toKey, toKeys_ints c]
theorem keyEq_cl (a c : List Int) : keyEq true (cl a) (cl c) = decide (a = c) := by
  unfold keyEq
  rw [if_pos rfl]
  show decide (toKeys (a.map .int) = toKeys (c.map .int)) = _
  rw [toKeys_ints, toKeys_ints]
  by_cases h : a = c
  · subst h; simp
  · rw [decide_eq_false h, decide_eq_false]
    intro z
    have z := Option.some.inj z
    exact h (by
      have := congrArg (List.map (fun k : Int ⊕ Str => match k with | .inl i => i | .inr _ => 0)) z
      simpa [List.map_map, Function.comp_def] using this)
theorem okKey_cl (c : List Int) : okKey true (cl c) = true := by
  unfold okKey
  rw [if_pos rfl]
  show (toKeys (c.map .int)).isSome = true
  rw [toKeys_ints]; rfl
def addK (K : List (List Int)) (c : List Int) : List (List Int) := if c ∈ K then K else K ++ [c]
theorem putL_cl (K : List (List Int)) (c : List Int) (v : D) (vs : List D) : (putL true (cl c) v (K.map cl) vs).1 = (addK K c).map cl := by
  have h : ((K.map cl).any fun a => keyEq true a (cl c)) = decide (c ∈ K) := by
    rw [List.any_map]
    induction K with
    | nil => rfl
    | cons a K ih =>
      rw [List.any_cons, ih]
      show (keyEq true (cl a) (cl c) || _) = _
      rw [keyEq_cl]
      by_cases e : a = c
      · simp [e]
      · have e' : ¬ c = a := fun z => e z.symm
        simp [e, e']
  unfold putL addK
  rw [h]
  by_cases e : c ∈ K
  · rw [decide_eq_true e, if_pos rfl, if_pos e]
  · rw [decide_eq_false e, if_neg Bool.false_ne_true, if_neg e]; simp
structure KInv (N : Int) (K : List (List Int)) : Prop where
  nd : K.Nodup
  cl : ∀ c ∈ K, isCl N c = true
theorem KInv.add {N : Int} {K : List (List Int)} {c : List Int} (h : KInv N K) (hc : isCl N c = true) : KInv N (addK K c) ∧ (addK K c).length ≤ K.length + 1 := by
  unfold addK
  split
  · exact ⟨h, by omega⟩
  · rename_i n
    refine ⟨⟨?_, fun x hx => ?_⟩, by simp⟩
    · rw [List.nodup_append]
      exact ⟨h.nd, by simp, fun a ha b hb e => by simp at hb; subst hb; exact n (by rw [← e]; exact ha)⟩
    · rcases List.mem_append.mp hx with hx | hx
      · exact h.cl x hx
      · rw [List.mem_singleton.mp hx]; exact hc
/-- the slots of _law_bundle: state most many names known k one other low high row -/
def bEnv (most many N : Int) (K : List (List Int)) (vs : List D) (k a b l h r : Option D) : Env := [some (.ref 2), some (.int most), some (.int many), some (.int N), some (.dct true (K.map cl) vs), k, a, b, l, h, r]
theorem dput_run {most many N : Int} {K : List (List Int)} {vs : List D} {k a b l h r : Option D} {c : List Int} {fk : Env → M D} {st st' : Store} (hk : run (fk (bEnv most many N K vs k a b l h r)) st = .ok (cl c) st') (hl : K.length < 1000) :
    ∃ vs', run (S.dput 4 fk (E.cst (.bl true)) (bEnv most many N K vs k a b l h r)) st = .ok (.next, bEnv most many N (addK K c) vs' k a b l h r) st' := by
  refine ⟨(putL true (cl c) (.bl true) (K.map cl) vs).2, ?_⟩
  have z : S.dput 4 fk (E.cst (.bl true)) (bEnv most many N K vs k a b l h r) = bnd (fk (bEnv most many N K vs k a b l h r)) fun kk => if okKey true kk = true ∧ (K.map cl).length < LIM then ret (Fl.next, List.set (bEnv most many N K vs k a b l h r) 4 (some (.dct true (putL true kk (.bl true) (K.map cl) vs).1 (putL true kk (.bl true) (K.map cl) vs).2))) else bad := rfl
  rw [z, run_bnd hk, if_pos ⟨okKey_cl c, by rw [List.length_map]; unfold LIM; omega⟩, putL_cl]
  rfl
/-- the first walk -/
theorem loop1 {most many N : Int} (h1 : 1 ≤ N) (h7 : N ≤ 7) : ∀ (ds : List D) (K : List (List Int)) (vs : List D) (k a b l h r : Option D) (n : Nat) (st : Store), KInv N K → K.length + ds.length < 500 → St n st → n + 9 * ds.length < BIG →
    ∃ (K' : List (List Int)) (vs' : List D) (k' : Option D) (st' : Store) (n' : Nat), run (forL (Gt.name 5) (S.seq (S.dput 4 (E.app φ_law_clause (A.cons (E.var 0) (A.cons (E.var 3) A.nil))) (E.cst (.bl true))) S.nil) ds (bEnv most many N K vs k a b l h r)) st = .ok (.next, bEnv most many N K' vs' k' a b l h r) st' ∧ KInv N K' ∧ K'.length ≤ K.length + ds.length ∧ St n' st' ∧ n' ≤ n + 9 * ds.length
  | [], K, vs, k, a, b, l, h, r, n, st, hi, _, hs, _ => ⟨K, vs, k, st, n, rfl, hi, by simp, hs, by omega⟩
  | d :: ds, K, vs, k, a, b, l, h, r, n, st, hi, hl, hs, hn => by
    simp only [List.length_cons] at hl hn
    obtain ⟨d1, st1, n1, r1, s1, b1, c, rfl, hc⟩ := law_clause_dr h1 h7 n st hs (by omega)
    obtain ⟨vs1, p1⟩ := dput_run (most := most) (many := many) (N := N) (K := K) (vs := vs) (k := some d) (a := a) (b := b) (l := l) (h := h) (r := r) (c := c) (fk := E.app φ_law_clause (A.cons (E.var 0) (A.cons (E.var 3) A.nil))) (app2_run (var_run rfl) (var_run rfl) r1) (by omega)
    obtain ⟨i1, l1⟩ := hi.add hc
    obtain ⟨K2, vs2, k2, st2, n2, r2, i2, l2, s2, b2⟩ := loop1 h1 h7 ds (addK K c) vs1 (some d) a b l h r n1 st1 i1 (by omega) s1 (by omega)
    refine ⟨K2, vs2, k2, st2, n2, ?_, i2, by simp only [List.length_cons]; omega, s2, by simp only [List.length_cons]; omega⟩
    exact (for_step rfl ((seq_step p1).trans rfl)).trans r2
theorem isCl_one {N x : Int} (h : litOk N x = true) : isCl N [x] = true := by simp [isCl, h, rising]
theorem isCl_two {N x y : Int} (h1 : litOk N x = true) (h2 : litOk N y = true) (h : nameOf x < nameOf y) : isCl N [x, y] = true := by simp [isCl, h1, h2, rising, h]
theorem litOk_pos {N x : Int} (h1 : 1 ≤ x) (h2 : x ≤ N) : litOk N x = true ∧ litOk N (0 - x) = true ∧ nameOf x = x ∧ nameOf (0 - x) = x := by
  have e1 : nameOf x = x := by unfold nameOf; rw [if_neg (by omega)]
  have e2 : nameOf (0 - x) = x := by unfold nameOf; rw [if_pos (by omega)]; omega
  refine ⟨?_, ?_, e1, e2⟩ <;> simp only [litOk, e1, e2, Bool.and_eq_true, decide_eq_true_eq] <;> omega
/-- the rows of two names -/
theorem loop3 {most many N : Int} : ∀ (cs : List (List Int)) (K : List (List Int)) (vs : List D) (k a b l h r : Option D) (st : Store), KInv N K → (∀ c ∈ cs, isCl N c = true) → K.length + cs.length < 500 →
    ∃ (K' : List (List Int)) (vs' : List D) (r' : Option D), run (forL (Gt.name 10) (S.seq (S.dput 4 (E.var 10) (E.cst (.bl true))) S.nil) (cs.map cl) (bEnv most many N K vs k a b l h r)) st = .ok (.next, bEnv most many N K' vs' k a b l h r') st ∧ KInv N K' ∧ K'.length ≤ K.length + cs.length
  | [], K, vs, k, a, b, l, h, r, st, hi, _, _ => ⟨K, vs, r, rfl, hi, by simp⟩
  | c :: cs, K, vs, k, a, b, l, h, r, st, hi, hc, hl => by
    simp only [List.length_cons] at hl
    obtain ⟨vs1, p1⟩ := dput_run (most := most) (many := many) (N := N) (K := K) (vs := vs) (k := k) (a := a) (b := b) (l := l) (h := h) (r := some (cl c)) (c := c) (fk := E.var 10) (st := st) (st' := st) (var_run rfl) (by omega)
    obtain ⟨i1, l1⟩ := hi.add (hc c (.head _))
    obtain ⟨K2, vs2, r2, q2, i2, l2⟩ := loop3 cs (addK K c) vs1 k a b l h (some (cl c)) st i1 (fun c hh => hc c (.tail _ hh)) (by omega)
    refine ⟨K2, vs2, r2, ?_, i2, by simp only [List.length_cons]; omega⟩
    exact (for_step rfl ((seq_step p1).trans rfl)).trans q2

theorem par_run {i j : Nat} {a b : Env → M D} {ρ : Env} {st st1 st2 : Store} {x y : D} (ha : run (a ρ) st = .ok x st1) (hb : run (b ρ) st1 = .ok y st2) : run (S.par i j a b ρ) st = .ok (.next, List.set (List.set ρ i (some x)) j (some y)) st2 := by
  have z : S.par i j a b ρ = bnd (a ρ) _ := rfl
  rw [z, run_bnd ha, run_bnd hb]
  rfl
theorem tup_run {r : Env → M (List D)} {ρ : Env} {st st1 : Store} {xs : List D} (h : run (r ρ) st = .ok xs st1) : run (E.tup r ρ) st = .ok (.tup xs) st1 := by
  have z : E.tup r ρ = bnd (r ρ) _ := rfl
  rw [z, run_bnd h]
  rfl
def bBody : SD := (S.seq (S.par 6 7 (E.op2 addD (E.cst (.int 1)) (E.app φ_law_draw (A.cons (E.var 0) (A.cons (E.var 3) A.nil)))) (E.op2 addD (E.cst (.int 1)) (E.app φ_law_draw (A.cons (E.var 0) (A.cons (E.var 3) A.nil))))) (S.seq (S.ite (T.val (E.op2 eqD (E.var 6) (E.var 7))) (S.seq (S.dput 4 (E.tup (A.cons (E.var 6) A.nil)) (E.cst (.bl true))) (S.seq (S.dput 4 (E.tup (A.cons (E.op2 subD (E.cst (.int 0)) (E.var 6)) A.nil)) (E.cst (.bl true))) S.nil)) (S.seq (S.par 8 9 (E.blt minD (A.cons (E.var 6) (A.cons (E.var 7) A.nil))) (E.blt maxD (A.cons (E.var 6) (A.cons (E.var 7) A.nil)))) (S.seq (S.for_ (I.seq (E.tup (A.cons (E.tup (A.cons (E.var 8) (A.cons (E.var 9) A.nil))) (A.cons (E.tup (A.cons (E.var 8) (A.cons (E.op2 subD (E.cst (.int 0)) (E.var 9)) A.nil))) (A.cons (E.tup (A.cons (E.op2 subD (E.cst (.int 0)) (E.var 8)) (A.cons (E.var 9) A.nil))) (A.cons (E.tup (A.cons (E.op2 subD (E.cst (.int 0)) (E.var 8)) (A.cons (E.op2 subD (E.cst (.int 0)) (E.var 9)) A.nil))) A.nil)))))) (Gt.name 10) (S.seq (S.dput 4 (E.var 10) (E.cst (.bl true))) S.nil)) S.nil))) S.nil))
theorem bStep {most many N : Int} (h1 : 1 ≤ N) (h7 : N ≤ 7) {K : List (List Int)} {vs : List D} {k a b l h r : Option D} {n : Nat} {st : Store} (hi : KInv N K) (hl : K.length < 400) (hs : St n st) (hn : n + 2 < BIG) :
    ∃ (K' : List (List Int)) (vs' : List D) (a' b' l' h' r' : Option D) (st' : Store) (n' : Nat), run (bBody (bEnv most many N K vs k a b l h r)) st = .ok (.next, bEnv most many N K' vs' k a' b' l' h' r') st' ∧ KInv N K' ∧ K'.length ≤ K.length + 4 ∧ St n' st' ∧ n' ≤ n + 2 := by
  obtain ⟨d1, st1, n1, r1, s1, b1, p, rfl, p0, p1⟩ := draw_dr (many := N) (by omega) (by omega) n st hs (by omega)
  obtain ⟨d2, st2, n2, r2, s2, b2, q, rfl, q0, q1⟩ := draw_dr (many := N) (by omega) (by omega) n1 st1 s1 (by omega)
  have par : run (S.par 6 7 (E.op2 addD (E.cst (.int 1)) (E.app φ_law_draw (A.cons (E.var 0) (A.cons (E.var 3) A.nil)))) (E.op2 addD (E.cst (.int 1)) (E.app φ_law_draw (A.cons (E.var 0) (A.cons (E.var 3) A.nil)))) (bEnv most many N K vs k a b l h r)) st = .ok (.next, bEnv most many N K vs k (some (.int (1 + p))) (some (.int (1 + q))) l h r) st2 :=
    par_run (op2_run cst_run (app2_run (var_run rfl) (var_run rfl) r1) (add_ok _ _)) (op2_run cst_run (app2_run (var_run rfl) (var_run rfl) r2) (add_ok _ _))
  have e1 : eqD (.int (1 + p)) (.int (1 + q)) = some (.bl (decide (1 + p = 1 + q))) := by simp [eqD]
  have t1 : run (T.val (E.op2 eqD (E.var 6) (E.var 7)) (bEnv most many N K vs k (some (.int (1 + p))) (some (.int (1 + q))) l h r)) st2 = .ok (decide (1 + p = 1 + q)) st2 := val_run (op2_run (var_run rfl) (var_run rfl) e1)
  obtain ⟨lp1, lp2, np1, np2⟩ := litOk_pos (N := N) (x := 1 + p) (by omega) (by omega)
  obtain ⟨lq1, lq2, nq1, nq2⟩ := litOk_pos (N := N) (x := 1 + q) (by omega) (by omega)
  by_cases e : 1 + p = 1 + q
  · obtain ⟨vs1, u1⟩ := dput_run (most := most) (many := many) (N := N) (K := K) (vs := vs) (k := k) (a := some (.int (1 + p))) (b := some (.int (1 + q))) (l := l) (h := h) (r := r) (c := [1 + p]) (fk := E.tup (A.cons (E.var 6) A.nil)) (st := st2) (st' := st2) rfl (by omega)
    obtain ⟨i1, l1⟩ := hi.add (isCl_one lp1)
    obtain ⟨vs2, u2⟩ := dput_run (most := most) (many := many) (N := N) (K := addK K [1 + p]) (vs := vs1) (k := k) (a := some (.int (1 + p))) (b := some (.int (1 + q))) (l := l) (h := h) (r := r) (c := [0 - (1 + p)]) (fk := E.tup (A.cons (E.op2 subD (E.cst (.int 0)) (E.var 6)) A.nil)) (st := st2) (st' := st2) rfl (by omega)
    obtain ⟨i2, l2⟩ := i1.add (isCl_one lp2)
    refine ⟨_, vs2, some (.int (1 + p)), some (.int (1 + q)), l, h, r, st2, n2, ?_, i2, by omega, s2, by omega⟩
    refine (seq_step par).trans ?_
    refine (seq_step (ρ' := bEnv most many N (addK (addK K [1 + p]) [0 - (1 + p)]) vs2 k (some (.int (1 + p))) (some (.int (1 + q))) l h r) (st' := st2) ?_).trans rfl
    refine (ite_run t1).trans ?_
    rw [decide_eq_true e, if_pos rfl]
    exact (seq_step u1).trans ((seq_step u2).trans rfl)
  · obtain ⟨lo, hi', mn, mx, hlo, hhi, hlh⟩ : ∃ lo hi' : Int, minD [.int (1 + p), .int (1 + q)] = some (.int lo) ∧ maxD [.int (1 + p), .int (1 + q)] = some (.int hi') ∧ 1 ≤ lo ∧ hi' ≤ N ∧ lo < hi' := by
      refine ⟨if 1 + q < 1 + p then 1 + q else 1 + p, if 1 + q > 1 + p then 1 + q else 1 + p, rfl, rfl, ?_, ?_, ?_⟩ <;> (repeat' split) <;> omega
    obtain ⟨a1, a2, a3, a4⟩ := litOk_pos (N := N) (x := lo) (by omega) (by omega)
    obtain ⟨c1, c2, c3, c4⟩ := litOk_pos (N := N) (x := hi') (by omega) (by omega)
    have par2 : run (S.par 8 9 (E.blt minD (A.cons (E.var 6) (A.cons (E.var 7) A.nil))) (E.blt maxD (A.cons (E.var 6) (A.cons (E.var 7) A.nil))) (bEnv most many N K vs k (some (.int (1 + p))) (some (.int (1 + q))) l h r)) st2 = .ok (.next, bEnv most many N K vs k (some (.int (1 + p))) (some (.int (1 + q))) (some (.int lo)) (some (.int hi')) r) st2 := by
      refine par_run (x := .int lo) (y := .int hi') (pure_run ?_) (pure_run ?_)
      · show bnd _ _ = _
        have v6 : E.var 6 (bEnv most many N K vs k (some (.int (1 + p))) (some (.int (1 + q))) l h r) = ret (.int (1 + p)) := rfl
        have v7 : E.var 7 (bEnv most many N K vs k (some (.int (1 + p))) (some (.int (1 + q))) l h r) = ret (.int (1 + q)) := rfl
        rw [u_cons, v6, bnd_ret, u_cons, v7, bnd_ret, u_nil, bnd_ret, bnd_ret, bnd_ret, mn]
        rfl
      · show bnd _ _ = _
        have v6 : E.var 6 (bEnv most many N K vs k (some (.int (1 + p))) (some (.int (1 + q))) l h r) = ret (.int (1 + p)) := rfl
        have v7 : E.var 7 (bEnv most many N K vs k (some (.int (1 + p))) (some (.int (1 + q))) l h r) = ret (.int (1 + q)) := rfl
        rw [u_cons, v6, bnd_ret, u_cons, v7, bnd_ret, u_nil, bnd_ret, bnd_ret, bnd_ret, mx]
        rfl
    obtain ⟨K2, vs2, r2', q2, i2, l2⟩ := loop3 (most := most) (many := many) (N := N) [[lo, hi'], [lo, 0 - hi'], [0 - lo, hi'], [0 - lo, 0 - hi']] K vs k (some (.int (1 + p))) (some (.int (1 + q))) (some (.int lo)) (some (.int hi')) r st2 hi (by
      intro c hc
      simp only [List.mem_cons, List.mem_nil_iff, or_false] at hc
      rcases hc with rfl | rfl | rfl | rfl
      · exact isCl_two a1 c1 (by rw [a3, c3]; exact hlh)
      · exact isCl_two a1 c2 (by rw [a3, c4]; exact hlh)
      · exact isCl_two a2 c1 (by rw [a4, c3]; exact hlh)
      · exact isCl_two a2 c2 (by rw [a4, c4]; exact hlh)) (by simp; omega)
    refine ⟨K2, vs2, some (.int (1 + p)), some (.int (1 + q)), some (.int lo), some (.int hi'), r2', st2, n2, ?_, i2, by simpa using l2, s2, by omega⟩
    refine (seq_step par).trans ?_
    refine (seq_step (ρ' := bEnv most many N K2 vs2 k (some (.int (1 + p))) (some (.int (1 + q))) (some (.int lo)) (some (.int hi')) r2') (st' := st2) ?_).trans rfl
    refine (ite_run t1).trans ?_
    rw [decide_eq_false e, if_neg Bool.false_ne_true]
    refine (seq_step par2).trans ?_
    refine (seq_step (ρ' := bEnv most many N K2 vs2 k (some (.int (1 + p))) (some (.int (1 + q))) (some (.int lo)) (some (.int hi')) r2') (st' := st2) ?_).trans rfl
    rw [u_sfor]
    exact (run_bnd (show run _ st2 = .ok (([[lo, hi'], [lo, 0 - hi'], [0 - lo, hi'], [0 - lo, 0 - hi']] : List (List Int)).map cl) st2 from rfl)).trans q2
theorem loop2 {most many N : Int} (h1 : 1 ≤ N) (h7 : N ≤ 7) : ∀ (ds : List D) (K : List (List Int)) (vs : List D) (k a b l h r : Option D) (n : Nat) (st : Store), KInv N K → K.length + 4 * ds.length < 400 → St n st → n + 2 * ds.length < BIG →
    ∃ (K' : List (List Int)) (vs' : List D) (k' a' b' l' h' r' : Option D) (st' : Store) (n' : Nat), run (forL (Gt.name 5) bBody ds (bEnv most many N K vs k a b l h r)) st = .ok (.next, bEnv most many N K' vs' k' a' b' l' h' r') st' ∧ KInv N K' ∧ K'.length ≤ K.length + 4 * ds.length ∧ St n' st' ∧ n' ≤ n + 2 * ds.length
  | [], K, vs, k, a, b, l, h, r, n, st, hi, _, hs, _ => ⟨K, vs, k, a, b, l, h, r, st, n, rfl, hi, by simp, hs, by omega⟩
  | d :: ds, K, vs, k, a, b, l, h, r, n, st, hi, hl, hs, hn => by
    simp only [List.length_cons] at hl hn
    obtain ⟨K1, vs1, a1, b1, l1, h1', r1, st1, n1, q1, i1, m1, s1, c1⟩ := bStep (most := most) (many := many) h1 h7 (K := K) (vs := vs) (k := some d) (a := a) (b := b) (l := l) (h := h) (r := r) hi (by omega) hs (by omega)
    obtain ⟨K2, vs2, k2, a2, b2, l2, h2, r2, st2, n2, q2, i2, m2, s2, c2⟩ := loop2 h1 h7 ds K1 vs1 (some d) a1 b1 l1 h1' r1 n1 st1 i1 (by omega) s1 (by omega)
    refine ⟨K2, vs2, k2, a2, b2, l2, h2, r2, st2, n2, ?_, i2, by simp only [List.length_cons]; omega, s2, by simp only [List.length_cons]; omega⟩
    exact (for_step rfl q1).trans q2
theorem range_run {e : Env → M D} {ρ : Env} {st st1 : Store} {m : Int} {ds : List D} (h : run (e ρ) st = .ok (.int m) st1) (hd : rng1 [.int m] = some ds) : run (I.range rng1 (A.cons e A.nil) ρ) st = .ok ds st1 := by
  have z : I.range rng1 (A.cons e A.nil) ρ = bnd (bnd (e ρ) _) _ := rfl
  rw [z, bnd_bnd, run_bnd h]
  simp [hd]
theorem for_run {i : Env → M (List D)} {t : D → Env → Option Env} {b : SD} {ρ ρ' : Env} {st st1 st2 : Store} {ds : List D} {f : Fl} (h : run (i ρ) st = .ok ds st1) (hf : run (forL t b ds ρ) st1 = .ok (f, ρ') st2) : run (S.for_ i t b ρ) st = .ok (f, ρ') st2 := by
  rw [u_sfor, run_bnd h]; exact hf
theorem law_bundle_dr {most many : Int} (hm1 : 1 ≤ most) (hm7 : most ≤ 7) (hy0 : 0 ≤ many) (hy1 : many ≤ 12) : Dr 200 (φ_law_bundle [.ref 2, .int most, .int many]) fun d => ∃ N cs, d = bu N cs ∧ BOk N cs := fun n st hs hn => by
  obtain ⟨d1, st1, n1, r1, s1, b1, p, rfl, p0, p1⟩ := draw_dr (many := most) (by omega) (by omega) n st hs (by omega)
  have hN1 : 1 ≤ 1 + p := by omega
  have hN7 : 1 + p ≤ 7 := by omega
  obtain ⟨d2, st2, n2, r2, s2, b2, q, rfl, q0, q1⟩ := draw_dr (many := many + 1) (by omega) (by omega) n1 st1 s1 (by omega)
  obtain ⟨ds1, hd1, ld1⟩ := rng1_ok (m := q) (by omega) (by omega)
  obtain ⟨K1, vs1, k1, st3, n3, r3, i3, l3, s3, b3⟩ := loop1 (most := most) (many := many) hN1 hN7 ds1 [] [] none none none none none none n2 st2 ⟨by simp, fun c hc => (by cases hc)⟩ (by simp; omega) s2 (by omega)
  obtain ⟨d4, st4, n4, r4, s4, b4, u, rfl, u0, u1⟩ := draw_dr (many := 12) (by omega) (by omega) n3 st3 s3 (by omega)
  have e4 : eqD (.int u) (.int 0) = some (.bl (decide (u = 0))) := by simp [eqD]
  obtain ⟨K2, vs2, r5, i5, l5⟩ : ∃ (K2 : List (List Int)) (vs2 : List D), run (S.ite (T.val (E.op2 eqD (E.app φ_law_draw (A.cons (E.var 0) (A.cons (E.cst (.int 12)) A.nil))) (E.cst (.int 0)))) (S.seq (S.dput 4 (E.tup A.nil) (E.cst (.bl true))) S.nil) S.nil (bEnv most many (1 + p) K1 vs1 k1 none none none none none)) st3 = .ok (.next, bEnv most many (1 + p) K2 vs2 k1 none none none none none) st4 ∧ KInv (1 + p) K2 ∧ K2.length ≤ K1.length + 1 := by
    have t4 : run (T.val (E.op2 eqD (E.app φ_law_draw (A.cons (E.var 0) (A.cons (E.cst (.int 12)) A.nil))) (E.cst (.int 0))) (bEnv most many (1 + p) K1 vs1 k1 none none none none none)) st3 = .ok (decide (u = 0)) st4 := val_run (op2_run (app2_run (var_run rfl) cst_run r4) cst_run e4)
    by_cases e : u = 0
    · obtain ⟨vs2, p2⟩ := dput_run (most := most) (many := many) (N := 1 + p) (K := K1) (vs := vs1) (k := k1) (a := none) (b := none) (l := none) (h := none) (r := none) (c := []) (fk := E.tup A.nil) (st := st4) (st' := st4) rfl (by simp at l3; omega)
      obtain ⟨i5, l5⟩ := i3.add (c := []) (by rfl)
      refine ⟨_, vs2, ?_, i5, l5⟩
      refine (ite_run t4).trans ?_
      rw [decide_eq_true e, if_pos rfl]
      exact (seq_step p2).trans rfl
    · refine ⟨K1, vs1, ?_, i3, by omega⟩
      refine (ite_run t4).trans ?_
      rw [decide_eq_false e, if_neg Bool.false_ne_true]
      rfl
  obtain ⟨d6, st6, n6, r6, s6, b6, v, rfl, v0, v1⟩ := draw_dr (many := 3) (by omega) (by omega) n4 st4 s4 (by omega)
  obtain ⟨ds2, hd2, ld2⟩ := rng1_ok (m := v) (by omega) (by omega)
  obtain ⟨K3, vs3, k3, a3, b3', c3, e3, f3, st7, n7, r7, i7, l7, s7, b7⟩ := loop2 (most := most) (many := many) hN1 hN7 ds2 K2 vs2 k1 none none none none none n6 st6 i5 (by simp at l3; omega) s6 (by omega)
  refine ⟨bu (1 + p) ((K3.mergeSort leI).take 16), st7, n7, ?_, s7, by omega, _, _, rfl, ⟨hN1, hN7, ?_, ?_, ?_⟩⟩
  · unfold φ_law_bundle d_law_bundle
    rw [fnD_eq]
    have env0 : (List.map some [D.ref 2, D.int most, D.int many] ++ List.replicate (11 - [D.ref 2, D.int most, D.int many].length) none) = [some (.ref 2), some (.int most), some (.int many), none, none, none, none, none, none, none, none] := rfl
    rw [env0]
    refine (fn_step (ρ' := bEnv most many (1 + p) [] [] none none none none none none) (st' := st1) (par_run (op2_run cst_run (app2_run (var_run rfl) (var_run rfl) r1) (add_ok _ _)) cst_run)).trans ?_
    refine (fn_step (for_run (range_run (app2_run (var_run rfl) (op2_run (var_run rfl) cst_run (add_ok _ _)) r2) hd1) r3)).trans ?_
    refine (fn_step r5).trans ?_
    refine (fn_step (for_run (range_run (app2_run (var_run rfl) cst_run r6) hd2) r7)).trans ?_
    refine fn_ret (ret_run (pure_run ?_))
    have v3 : E.var 3 (bEnv most many (1 + p) K3 vs3 k3 a3 b3' c3 e3 f3) = ret (.int (1 + p)) := rfl
    have v4 : E.var 4 (bEnv most many (1 + p) K3 vs3 k3 a3 b3' c3 e3 f3) = ret (.dct true (K3.map cl) vs3) := rfl
    have so : sortedD3 [.dct true (K3.map cl) vs3] = some (.lst ((K3.mergeSort leI).map cl)) := by
      show (sortL (K3.map cl)).map D.lst = _
      rw [sortL_cls]; rfl
    have sl : sliceD (.lst ((K3.mergeSort leI).map cl)) none (some 16) = some (.lst (((K3.mergeSort leI).take 16).map cl)) := by
      show some (D.lst ((((K3.mergeSort leI).map cl).drop 0).take (HT.sIx ((K3.mergeSort leI).map cl).length _ (some ((16 : Nat) : Int)) - 0))) = _
      rw [HT.sIx_nat, List.drop_zero, List.map_take, Nat.sub_zero]
      congr 2
      by_cases q : 16 ≤ ((K3.mergeSort leI).map cl).length
      · rw [Nat.min_eq_left q]
      · rw [Nat.min_eq_right (by omega), List.take_length, List.take_of_length_le (by omega)]
    simp only [u_tup, u_cons, u_blt, u_slice, u_oNone, u_oSome, u_cst, u_nil, v3, v4, bnd_ret, bnd_bnd, so, sl, lift_some, tupleD]
  · simp only [List.length_take]; omega
  · intro c hc
    exact i7.cl c ((List.mergeSort_perm K3 leI).mem_iff.mp (List.mem_of_mem_take hc))
  · intro i a b ha hb
    rw [lexGe_eq]
    have pw := sorted_strict i7.nd
    have ha' : (K3.mergeSort leI)[i]? = some a := by rw [List.getElem?_take] at ha; split at ha <;> first | exact ha | cases ha
    have hb' : (K3.mergeSort leI)[i + 1]? = some b := by rw [List.getElem?_take] at hb; split at hb <;> first | exact hb | cases hb
    obtain ⟨x1, y1⟩ := List.getElem?_eq_some_iff.mp ha'
    obtain ⟨x2, y2⟩ := List.getElem?_eq_some_iff.mp hb'
    have := List.pairwise_iff_getElem.mp pw i (i + 1) x1 x2 (by omega)
    rw [y1, y2] at this
    rw [this]; rfl
end K09
end G
end L2
end V3_
section V4_
set_option Elab.async false
set_option linter.all false
set_option maxRecDepth 100000
set_option maxHeartbeats 2000000
namespace L2
namespace G
namespace K09
open PySem PySem.Spec PyProof.Rows
theorem pow_ok : powD (.int 10) (.int 18) = some (.int 1000000000000000000) := by
  show (if (0 : Int) ≤ 18 ∧ (18 : Int) ≤ 1000000 ∧ (10 : Int).natAbs < 2 ^ 64 then some (D.int (10 ^ (18 : Int).toNat)) else none) = _
  rw [if_pos (by decide)]
  congr 2
theorem imms_ints : ∀ l : List Int, D.imms (l.map .int) = true
  | [] => rfl
  | x :: l => by simp [D.imms, D.imm, imms_ints l]
def lefts (l : List Int) : List Int := l.map fun c => if 1000000000000000000 ≤ c then c else 0
def cellsOf (ns : List Int) : List Int := if ns = [] then [0] else ns
theorem law_begin_ok (ns : List Int) : run (φ_law_begin [li ns]) [] = .ok (.ref 2) (sto (lefts (cellsOf ns)) (cellsOf ns) 0) := by
  have f1 : E.ifx (T.val (E.op2 neD (E.var 0) (E.lst A.nil))) (E.blt listD (A.cons (E.var 0) A.nil)) (E.lst (A.cons (E.cst (.int 0)) A.nil)) [some (li ns), none, none] = ret (li (cellsOf ns)) := by
    have e : neD (li ns) (.lst []) = some (.bl (!decide (ns = []))) := by
      show (if D.okd 60 (li ns) && D.okd 60 (li []) then some (D.bl (!D.eq (li ns) (li []))) else none) = _
      rw [okd_li, okd_li, eq_li]; rfl
    have hl : listD [li ns] = some (li ns) := rfl
    by_cases h : ns = []
    · subst h
      have e' : neD (li []) (.lst []) = some (.bl false) := e
      simp only [u_ifx, u_val, u_op2, u_var0, u_lst, u_nil, bnd_ret, bnd_bnd, e', lift_some]
      rfl
    · simp [e, h, cellsOf, hl]
  have c1 := compL_all (ρ := [some (li ns), some (li (cellsOf ns)), none]) (t := Gt.name 2) (e := E.ifx (T.val (E.op2 geD2 (E.var 2) (E.op2 powD (E.cst (.int 10)) (E.cst (.int 18))))) (E.var 2) (E.cst (.int 0))) D.int (fun x => [some (li ns), some (li (cellsOf ns)), some (.int x)]) (fun x => .int (if 1000000000000000000 ≤ x then x else 0)) (cellsOf ns) (by
    intro x hx
    have g : geD2 (.int x) (.int 1000000000000000000) = some (.bl (decide ((1000000000000000000 : Int) ≤ x))) := rfl
    by_cases h : (1000000000000000000 : Int) ≤ x <;> simp [pow_ok, g, h])
  have e1 : ((cellsOf ns).map fun x => D.int (if 1000000000000000000 ≤ x then x else 0)) = (lefts (cellsOf ns)).map .int := by simp [lefts]
  rw [e1] at c1
  have f2 : ∀ st, run (E.alloc (E.comp (I.own 1) [2] (Gt.name 2) T.yes (E.ifx (T.val (E.op2 geD2 (E.var 2) (E.op2 powD (E.cst (.int 10)) (E.cst (.int 18))))) (E.var 2) (E.cst (.int 0)))) [some (li ns), some (li (cellsOf ns)), none]) st = .ok (.ref st.length) (st ++ [.lst ((lefts (cellsOf ns)).map .int)]) := fun st => by
    have ho : I.own 1 [some (li ns), some (li (cellsOf ns)), none] = ret ((cellsOf ns).map .int) := rfl
    have z : E.comp (I.own 1) [2] (Gt.name 2) T.yes (E.ifx (T.val (E.op2 geD2 (E.var 2) (E.op2 powD (E.cst (.int 10)) (E.cst (.int 18))))) (E.var 2) (E.cst (.int 0))) [some (li ns), some (li (cellsOf ns)), none] = ret (.lst ((lefts (cellsOf ns)).map .int)) := by
      rw [u_comp, ho, bnd_ret]
      simp only [u_wipeS, u_wipe0, List.set_cons_succ, List.set_cons_zero, c1, bnd_ret]
    have z2 : E.alloc (E.comp (I.own 1) [2] (Gt.name 2) T.yes (E.ifx (T.val (E.op2 geD2 (E.var 2) (E.op2 powD (E.cst (.int 10)) (E.cst (.int 18))))) (E.var 2) (E.cst (.int 0)))) [some (li ns), some (li (cellsOf ns)), none] = bnd (E.comp (I.own 1) [2] (Gt.name 2) T.yes (E.ifx (T.val (E.op2 geD2 (E.var 2) (E.op2 powD (E.cst (.int 10)) (E.cst (.int 18))))) (E.var 2) (E.cst (.int 0))) [some (li ns), some (li (cellsOf ns)), none]) _ := rfl
    rw [z2, z]
    show (if D.imms ((lefts (cellsOf ns)).map .int) = true then Res.ok (D.ref st.length) (st ++ [Cell.lst ((lefts (cellsOf ns)).map .int)]) else .bad) = _
    rw [if_pos (imms_ints _)]
  unfold φ_law_begin d_law_begin
  rw [fnD_eq]
  have env0 : (List.map some [li ns] ++ List.replicate (3 - [li ns].length) none) = [some (li ns), none, none] := rfl
  rw [env0]
  have f2' := f2 []
  unfold run fnM S.begin
  rw [f1]
  show (match (if 1 < 3 ∧ D.imms ((cellsOf ns).map .int) = true then bnd (E.alloc _ [some (li ns), some (li (cellsOf ns)), none]) (fun d2 st => if d2.imm = true then Res.ok (Fl.ret (D.ref (st.length + 1)), [some (li ns), none, none]) (st ++ [Cell.lst ((cellsOf ns).map .int)] ++ [Cell.dct false [kCells, kLefts, kAt, kRoom] [D.ref st.length, d2, .int 0, .int 0]]) else .bad) else bad : M (Fl × Env)) [] with
    | .ok q s' => (match q.1 with
      | .ret d => Res.ok d s'
      | .next => .ok .non s'
      | _ => .bad)
    | .exc x s' => .exc x s'
    | .bad => .bad) = _
  rw [if_pos ⟨by decide, imms_ints _⟩]
  unfold run at f2'
  unfold bnd
  rw [f2']
  rfl
end K09
end G
end L2
end V4_
section V5_
set_option Elab.async false
set_option linter.all false
set_option maxRecDepth 100000
set_option maxHeartbeats 2000000
namespace L2
namespace G
namespace K09
open PySem PySem.Spec PyProof.Rows
/-- a clause without the literals of some names -/
def xC (lot c : List Int) : List Int := c.filter fun x => !decide (nameOf x ∈ lot)
theorem abs_ok (i : Int) : absD [.int i] = some (.int (nameOf i)) := rfl
theorem are_rising_cl (l : List Int) : φ_are_rising [cl l] = ret (.bl (rising l)) := by
  unfold φ_are_rising d_are_rising
  rw [fnD_eq]
  have hs : sliceD (cl l) (some 1) none = some (cl l.tail) := by
    simp only [sliceD, cutD, HT.sIx]
    cases l with
    | nil => rfl
    | cons x l => simp [List.take_of_length_le]
  simp [hs, zp]
  rw [← List.map_tail, zipD_map]
  rw [compL_all (fun p : Int × Int => D.tup [.int p.1, .int p.2]) (fun p => [some (cl l), some (.int p.1), some (.int p.2)]) (fun p => .bl (decide (p.1 < p.2))) _ (by intro x hx; simp [ltD, ordI])]
  simp [allD, bools_map (fun p : Int × Int => decide (p.1 < p.2)), rising, Function.comp_def]
def lotOk (n : Int) (l : List Int) : Bool := (l.all fun x => decide (1 ≤ x) && decide (x ≤ n)) && rising l
theorem is_lot_ok (n : Int) (l : List Int) : φ_is_lot [.int n, cl l] = ret (.bl (lotOk n l)) := by
  unfold φ_is_lot d_is_lot
  rw [fnD_eq]
  have c1 := compL_all (ρ := [some (.int n), some (cl l), none]) (t := Gt.name 2) (e := E.app φ_is_between (A.cons (E.var 2) (A.cons (E.cst (.int 1)) (A.cons (E.var 0) A.nil)))) D.int (fun x => [some (.int n), some (cl l), some (.int x)]) (fun x => .bl (decide (1 ≤ x) && decide (x ≤ n))) l
    (by intro x hx; simp [is_between_int])
  have b1 : allD [.lst (l.map fun x => .bl (decide (1 ≤ x) && decide (x ≤ n)))] = some (.bl (l.all fun x => decide (1 ≤ x) && decide (x ≤ n))) := by simp [allD, bools_map (fun x : Int => decide (1 ≤ x) && decide (x ≤ n))]
  have r := are_rising_cl l
  by_cases h : (l.all fun x => decide (1 ≤ x) && decide (x ≤ n)) = true
  · rw [h] at b1
    simp [isTup, c1, b1, r, lotOk, h]
  · have h' : (l.all fun x => decide (1 ≤ x) && decide (x ≤ n)) = false := by simpa using h
    rw [h'] at b1
    simp only [lotOk, h']
    simp [isTup, c1, b1]

abbrev Asc (l : List (List Int)) : Prop := l.Pairwise fun a b => ltI a b = true
theorem asc_ext : ∀ {a b : List (List Int)}, Asc a → Asc b → (∀ x, x ∈ a ↔ x ∈ b) → a = b
  | [], [], _, _, _ => rfl
  | [], y :: b, _, _, h => absurd ((h y).mpr (.head _)) (by simp)
  | x :: a, [], _, _, h => absurd ((h x).mp (.head _)) (by simp)
  | x :: a, y :: b, ha, hb, h => by
    unfold Asc at ha hb
    rw [List.pairwise_cons] at ha hb
    have e : x = y := by
      rcases List.mem_cons.mp ((h x).mp (.head _)) with e | e
      · exact e
      · rcases List.mem_cons.mp ((h y).mpr (.head _)) with e' | e'
        · exact e'.symm
        · have h1 := hb.1 x e
          have h2 := ha.1 y e'
          rw [ltI_asymm h1] at h2; cases h2
    subst e
    have nx : x ∉ a := fun m => by have := ha.1 x m; rw [ltI_irrefl] at this; cases this
    have ny : x ∉ b := fun m => by have := hb.1 x m; rw [ltI_irrefl] at this; cases this
    rw [asc_ext ha.2 hb.2 fun z => ?_]
    constructor
    · intro m
      rcases List.mem_cons.mp ((h z).mp (.tail _ m)) with e | e
      · subst e; exact absurd m nx
      · exact e
    · intro m
      rcases List.mem_cons.mp ((h z).mpr (.tail _ m)) with e | e
      · subst e; exact absurd m ny
      · exact e
theorem addK_mem {K : List (List Int)} {c x : List Int} : x ∈ addK K c ↔ x ∈ K ∨ x = c := by
  unfold addK
  split
  · rename_i h
    constructor
    · exact .inl
    · rintro (h' | rfl)
      · exact h'
      · exact h
  · simp
theorem addK_nodup {K : List (List Int)} {c : List Int} (h : K.Nodup) : (addK K c).Nodup := by
  unfold addK
  split
  · exact h
  · rename_i hn
    rw [List.nodup_append]
    exact ⟨h, by simp, fun a ha b hb e => by simp at hb; subst hb; subst e; exact hn ha⟩
theorem xC_xC (a b c : List Int) : xC b (xC a c) = c.filter fun x => !decide (nameOf x ∈ a) && !decide (nameOf x ∈ b) := by
  unfold xC
  rw [List.filter_filter]
  congr 1
  funext x
  rw [Bool.and_comm]
theorem xC_both {a b u : List Int} (h : ∀ x, x ∈ u ↔ x ∈ a ∨ x ∈ b) (c : List Int) : xC b (xC a c) = xC u c := by
  rw [xC_xC]
  unfold xC
  congr 1
  funext x
  have := h (nameOf x)
  by_cases h1 : nameOf x ∈ a <;> by_cases h2 : nameOf x ∈ b <;> simp [h1, h2, this]
theorem xC_nil (a : List Int) : xC a [] = [] := rfl
theorem rising_pw : ∀ {l : List Int}, rising l = true → l.Pairwise (· < ·)
  | [], _ => .nil
  | [x], _ => by simp
  | x :: y :: l, h => by
    have h' : (decide (x < y) && rising (y :: l)) = true := h
    rw [Bool.and_eq_true, decide_eq_true_eq] at h'
    have p := rising_pw h'.2
    rw [List.pairwise_cons]
    refine ⟨fun z hz => ?_, p⟩
    rcases List.mem_cons.mp hz with rfl | hz
    · exact h'.1
    · have := (List.pairwise_cons.mp p).1 z hz
      omega
theorem isCl_xC {n : Int} {c lot : List Int} (h : isCl n c = true) : isCl n (xC lot c) = true := by
  unfold isCl at h ⊢
  rw [Bool.and_eq_true] at h ⊢
  refine ⟨?_, rising_of _ ?_⟩
  · rw [List.all_eq_true] at h ⊢
    exact fun x hx => h.1 x (List.mem_filter.mp hx).1
  · have p := rising_pw h.2
    rw [List.pairwise_map] at p ⊢
    exact p.filter _

theorem asc_of {cs : List (List Int)} (h : Asc cs) : asc cs := fun i a b ha hb => by
  obtain ⟨h1, e1⟩ := List.getElem?_eq_some_iff.mp ha
  obtain ⟨h2, e2⟩ := List.getElem?_eq_some_iff.mp hb
  have := List.pairwise_iff_getElem.mp h i (i + 1) h1 h2 (by omega)
  rw [e1, e2] at this
  rw [lexGe_eq, this]; rfl
theorem pw_of : ∀ {cs : List (List Int)}, asc cs → Asc cs
  | [], _ => .nil
  | [x], _ => by simp [Asc]
  | x :: y :: l, h => by
    have p : Asc (y :: l) := pw_of fun i a b ha hb => h (i + 1) a b (by simpa using ha) (by simpa using hb)
    have h0 : ltI x y = true := by
      have := h 0 x y rfl rfl
      rw [lexGe_eq] at this
      simpa using this
    unfold Asc at p ⊢
    rw [List.pairwise_cons]
    refine ⟨fun z hz => ?_, p⟩
    rcases List.mem_cons.mp hz with rfl | hz
    · exact h0
    · exact ltI_trans _ _ _ h0 ((List.pairwise_cons.mp p).1 z hz)
theorem BOk.pw {n : Int} {cs : List (List Int)} (h : BOk n cs) : Asc cs := pw_of h.asc
theorem asc_nodup {cs : List (List Int)} (h : Asc cs) : cs.Nodup := h.imp fun {a b} l e => by subst e; rw [ltI_irrefl] at l; cases l
theorem put_asc {cs : List (List Int)} {c : List Int} (h : Asc cs) (hc : c ∉ cs) : Asc ((cs ++ [c]).mergeSort leI) :=
  sorted_strict (List.nodup_append.mpr ⟨asc_nodup h, by simp, fun a ha b hb e => by simp at hb; subst hb; subst e; exact hc ha⟩)
theorem put_mem {cs : List (List Int)} {c x : List Int} : x ∈ (cs ++ [c]).mergeSort leI ↔ x ∈ cs ∨ x = c := by
  rw [List.mem_mergeSort, List.mem_append, List.mem_singleton]
theorem BOk.put {n : Int} {cs : List (List Int)} {c : List Int} (h : BOk n cs) (hc : isCl n c = true) (nc : c ∉ cs) (hl : cs.length < 16) : BOk n ((cs ++ [c]).mergeSort leI) :=
  ⟨h.lo, h.hi, by rw [List.length_mergeSort]; simp; omega, fun x hx => by
    rcases put_mem.mp hx with hx | rfl
    · exact h.cl x hx
    · exact hc, asc_of (put_asc h.pw nc)⟩
/-- without the place j -/
theorem drop_mem {cs : List (List Int)} {j : Nat} {c x : List Int} (h : Asc cs) (hj : cs[j]? = some c) : x ∈ cs.take j ++ cs.drop (j + 1) ↔ x ∈ cs ∧ x ≠ c := by
  obtain ⟨hl, e⟩ := List.getElem?_eq_some_iff.mp hj
  have split : cs = cs.take j ++ c :: cs.drop (j + 1) := by
    rw [← e, List.getElem_cons_drop, List.take_append_drop]
  have nd := asc_nodup h
  rw [split, List.nodup_append, List.nodup_cons] at nd
  obtain ⟨_, ⟨n1, _⟩, n2⟩ := nd
  constructor
  · intro hx
    rcases List.mem_append.mp hx with hx | hx
    · exact ⟨List.mem_of_mem_take hx, fun z => n2 x hx c (.head _) z⟩
    · exact ⟨List.mem_of_mem_drop hx, fun z => n1 (z ▸ hx)⟩
  · rintro ⟨hx, ne⟩
    rw [split] at hx
    rcases List.mem_append.mp hx with hx | hx
    · exact List.mem_append.mpr (.inl hx)
    · rcases List.mem_cons.mp hx with hx | hx
      · exact absurd hx ne
      · exact List.mem_append.mpr (.inr hx)
theorem drop_asc {cs : List (List Int)} {j : Nat} (h : Asc cs) : Asc (cs.take j ++ cs.drop (j + 1)) := by
  have : (cs.take j ++ cs.drop (j + 1)).Sublist cs := by
    have h1 : (cs.take j ++ cs.drop (j + 1)).Sublist (cs.take j ++ cs.drop j) := List.Sublist.append (List.Sublist.refl _) (by
      rw [← List.drop_drop]
      exact List.drop_sublist _ _)
    rwa [List.take_append_drop] at h1
  exact h.sublist this
end K09
end G
end L2
end V5_
section V6_
set_option Elab.async false
set_option linter.all false
set_option maxRecDepth 100000
set_option maxHeartbeats 2000000
namespace L2
namespace G
namespace K09
open PySem PySem.Spec PyProof.Rows
/-! ### lots -/
def lotsU : Nat → List (List Int)
  | 0 => [[]]
  | k + 1 => lotsU k ++ (lotsU k).map fun l => l ++ [(k : Int) + 1]
/-- all lots of k, .., k + m - 1, ascending -/
def sub : Nat → Int → List (List Int)
  | 0, _ => [[]]
  | m + 1, k => [] :: ((sub m (k + 1)).map (k :: ·) ++ (sub m (k + 1)).tail)
theorem sub_head : ∀ (m : Nat) (k : Int), ∃ t, sub m k = [] :: t
  | 0, _ => ⟨[], rfl⟩
  | _ + 1, _ => ⟨_, rfl⟩
theorem sub_mem : ∀ (m : Nat) (k : Int) (l : List Int), l ∈ sub m k ↔ l.Pairwise (· < ·) ∧ ∀ x ∈ l, k ≤ x ∧ x < k + m
  | 0, k, l => by
    constructor
    · intro h
      simp only [sub, List.mem_singleton] at h
      subst h
      exact ⟨.nil, fun x hx => by cases hx⟩
    · rintro ⟨_, h⟩
      cases l with
      | nil => simp [sub]
      | cons x l => have := h x (.head _); omega
  | m + 1, k, l => by
    have ih := sub_mem m (k + 1)
    obtain ⟨t, ht⟩ := sub_head m (k + 1)
    cases l with
    | nil => simp [sub]
    | cons x l =>
      have e : x :: l ∈ sub (m + 1) k ↔ (x = k ∧ l ∈ sub m (k + 1)) ∨ x :: l ∈ sub m (k + 1) := by
        simp only [sub, List.mem_cons, List.mem_append, List.mem_map]
        constructor
        · rintro (h | ⟨a, ha, h⟩ | h)
          · cases h
          · cases h; exact .inl ⟨rfl, ha⟩
          · exact .inr (List.mem_of_mem_tail h)
        · rintro (⟨rfl, h⟩ | h)
          · exact .inr (.inl ⟨l, h, rfl⟩)
          · refine .inr (.inr ?_)
            rw [ht] at h ⊢
            rcases List.mem_cons.mp h with h | h
            · cases h
            · exact h
      rw [e, ih, ih]
      constructor
      · rintro (⟨rfl, h1, h2⟩ | ⟨h1, h2⟩)
        · refine ⟨List.pairwise_cons.mpr ⟨fun y hy => by have := h2 y hy; omega, h1⟩, fun y hy => ?_⟩
          rcases List.mem_cons.mp hy with rfl | hy
          · omega
          · have := h2 y hy; omega
        · exact ⟨h1, fun y hy => by have := h2 y hy; omega⟩
      · rintro ⟨h1, h2⟩
        have hx := h2 x (.head _)
        rw [List.pairwise_cons] at h1
        by_cases z : x = k
        · subst z
          exact .inl ⟨rfl, h1.2, fun y hy => by have := h1.1 y hy; have := h2 y (.tail _ hy); omega⟩
        · refine .inr ⟨List.pairwise_cons.mpr h1, fun y hy => ?_⟩
          rcases List.mem_cons.mp hy with rfl | hy
          · omega
          · have := h1.1 y hy; have := h2 y (.tail _ hy); omega
theorem lt_cons {x : Int} {a b : List Int} (h : ltI a b = true) : ltI (x :: a) (x :: b) = true := by simp [ltI, h]
theorem sub_asc : ∀ (m : Nat) (k : Int), Asc (sub m k)
  | 0, _ => List.pairwise_singleton _ _
  | m + 1, k => by
    have ih := sub_asc m (k + 1)
    have mem := sub_mem m (k + 1)
    obtain ⟨t, ht⟩ := sub_head m (k + 1)
    have nt : ∀ b ∈ t, ∃ y r, b = y :: r ∧ k + 1 ≤ y := fun b hb => by
      have hb' : b ∈ sub m (k + 1) := by rw [ht]; exact .tail _ hb
      cases b with
      | nil =>
        rw [ht] at ih
        have := (List.pairwise_cons.mp ih).1 _ hb
        cases this
      | cons y r => exact ⟨y, r, rfl, ((mem _).mp hb').2 y (.head _) |>.1⟩
    show Asc ([] :: ((sub m (k + 1)).map (k :: ·) ++ (sub m (k + 1)).tail))
    refine List.pairwise_cons.mpr ⟨fun b hb => ?_, List.pairwise_append.mpr ⟨?_, ?_, ?_⟩⟩
    · rcases List.mem_append.mp hb with h | h
      · obtain ⟨a, _, rfl⟩ := List.mem_map.mp h; rfl
      · rw [ht] at h
        obtain ⟨y, r, rfl, _⟩ := nt b h; rfl
    · exact List.pairwise_map.mpr (ih.imp lt_cons)
    · exact ih.tail
    · intro a ha b hb
      obtain ⟨a', _, rfl⟩ := List.mem_map.mp ha
      rw [ht] at hb
      obtain ⟨y, r, rfl, hy⟩ := nt b hb
      have : k < y := by omega
      simp [ltI, this]
theorem lotsU_mem : ∀ (m : Nat) (l : List Int), l ∈ lotsU m ↔ l.Pairwise (· < ·) ∧ ∀ x ∈ l, 1 ≤ x ∧ x < 1 + m
  | 0, l => by
    constructor
    · intro h
      simp only [lotsU, List.mem_singleton] at h
      subst h
      exact ⟨.nil, fun x hx => by cases hx⟩
    · rintro ⟨_, h⟩
      cases l with
      | nil => simp [lotsU]
      | cons x l => have := h x (.head _); omega
  | m + 1, l => by
    have ih := lotsU_mem m
    simp only [lotsU, List.mem_append, List.mem_map, ih]
    constructor
    · rintro (⟨h1, h2⟩ | ⟨a, ⟨h1, h2⟩, rfl⟩)
      · exact ⟨h1, fun x hx => by have := h2 x hx; omega⟩
      · refine ⟨List.pairwise_append.mpr ⟨h1, List.pairwise_singleton _ _, fun x hx y hy => ?_⟩, fun x hx => ?_⟩
        · simp at hy; subst hy; have := h2 x hx; omega
        · rcases List.mem_append.mp hx with hx | hx
          · have := h2 x hx; omega
          · simp at hx; subst hx; omega
    · rintro ⟨h1, h2⟩
      by_cases z : ((m : Int) + 1) ∈ l
      · right
        obtain ⟨a, b, rfl⟩ := List.append_of_mem z
        have hb : b = [] := by
          cases b with
          | nil => rfl
          | cons y b =>
            have q := (List.pairwise_append.mp h1).2.1
            have := (List.pairwise_cons.mp q).1 y (.head _)
            have := h2 y (by simp)
            omega
        subst hb
        have q := List.pairwise_append.mp h1
        refine ⟨a, ⟨q.1, fun x hx => ?_⟩, rfl⟩
        have := q.2.2 x hx ((m : Int) + 1) (by simp)
        have := h2 x (by simp [hx])
        omega
      · left
        refine ⟨h1, fun x hx => ?_⟩
        have := h2 x hx
        have : x ≠ (m : Int) + 1 := fun e => z (e ▸ hx)
        omega
theorem lotsU_nodup : ∀ m : Nat, (lotsU m).Nodup
  | 0 => List.pairwise_singleton _ _
  | m + 1 => by
    have ih := lotsU_nodup m
    refine List.pairwise_append.mpr ⟨ih, List.pairwise_map.mpr (ih.imp fun h e => h (List.append_cancel_right e)), fun a ha b hb e => ?_⟩
    obtain ⟨b', _, rfl⟩ := List.mem_map.mp hb
    subst e
    have := ((lotsU_mem m _).mp ha).2 ((m : Int) + 1) (by simp)
    omega
def lots (n : Int) : List (List Int) := sub n.toNat 1
theorem lots_eq (m : Nat) : (lotsU m).mergeSort leI = sub m 1 := asc_ext (sorted_strict (lotsU_nodup m)) (sub_asc m 1) fun x => by
  rw [List.mem_mergeSort, lotsU_mem, sub_mem]
theorem lotsU_len : ∀ m : Nat, (lotsU m).length = 2 ^ m
  | 0 => rfl
  | m + 1 => by simp only [lotsU, List.length_append, List.length_map, lotsU_len m]; omega
theorem lots_len {n : Int} (h1 : 1 ≤ n) (h7 : n ≤ 7) : (lots n).length ≤ 128 := by
  unfold lots
  rw [← lots_eq, List.length_mergeSort, lotsU_len]
  have : n.toNat ≤ 7 := by omega
  exact Nat.pow_le_pow_right (by decide) this
theorem lots_ok {n : Int} (h1 : 1 ≤ n) {l : List Int} (h : l ∈ lots n) : lotOk n l = true := by
  obtain ⟨q1, q2⟩ := (sub_mem _ _ _).mp h
  unfold lotOk
  rw [rising_of _ q1, Bool.and_true, List.all_eq_true]
  intro x hx
  have := q2 x hx
  simp; omega
theorem lots_of_filter {n : Int} (h1 : 1 ≤ n) (p : Int → Bool) : (upto n).filter p ∈ lots n := by
  refine (sub_mem _ _ _).mpr ⟨(upto_sorted n).filter _, fun x hx => ?_⟩
  have := mem_upto.mp ((List.mem_filter.mp hx).1)
  omega
theorem lots_ne {n : Int} : lots n ≠ [] := by
  obtain ⟨t, ht⟩ := sub_head n.toNat 1
  unfold lots; rw [ht]; simp
/-! ### up, crowded, read -/
def up (lot : List Int) (x : Int) : Bool := decide (0 < x) != decide (nameOf x ∈ lot)
def crowd (lot c : List Int) : Bool := decide (1 < (c.filter (up lot)).length)
def crowded (cs : List (List Int)) (lot : List Int) : Nat := (cs.filter (crowd lot)).length
def plain (n : Int) (cs : List (List Int)) : List (List Int) := (lots n).filter fun l => decide (crowded cs l = 0)
def rd (lot c : List Int) : List Int := c.map fun x => if nameOf x ∈ lot then -x else x
def readB (lot : List Int) (cs : List (List Int)) : List (List Int) := (cs.map (rd lot)).mergeSort leI
theorem name_neg (x : Int) : nameOf (-x) = nameOf x := by unfold nameOf; split <;> split <;> omega
theorem rd_rd (lot c : List Int) : rd lot (rd lot c) = c := by
  unfold rd
  rw [List.map_map]
  conv => rhs; rw [← List.map_id c]
  refine List.map_congr_left fun x _ => ?_
  show (if nameOf (if nameOf x ∈ lot then -x else x) ∈ lot then -(if nameOf x ∈ lot then -x else x) else (if nameOf x ∈ lot then -x else x)) = x
  by_cases h : nameOf x ∈ lot
  · rw [if_pos h, name_neg, if_pos h]; omega
  · rw [if_neg h, if_neg h]
theorem rd_names (lot c : List Int) : (rd lot c).map nameOf = c.map nameOf := by
  unfold rd
  rw [List.map_map]
  refine List.map_congr_left fun x _ => ?_
  show nameOf (if nameOf x ∈ lot then -x else x) = nameOf x
  split
  · exact name_neg x
  · rfl
theorem isCl_rd {n : Int} {c lot : List Int} (h : isCl n c = true) : isCl n (rd lot c) = true := by
  unfold isCl at h ⊢
  rw [rd_names]
  rw [Bool.and_eq_true] at h ⊢
  refine ⟨?_, h.2⟩
  rw [List.all_eq_true] at *
  intro x hx
  obtain ⟨y, hy, rfl⟩ := List.mem_map.mp hx
  have := h.1 y hy
  unfold litOk at *
  show (decide (1 ≤ nameOf (if nameOf y ∈ lot then -y else y)) && decide (nameOf (if nameOf y ∈ lot then -y else y) ≤ n)) = true
  split
  · rw [name_neg]; exact this
  · exact this
theorem rd_inj {lot a b : List Int} (h : rd lot a = rd lot b) : a = b := by rw [← rd_rd lot a, h, rd_rd]
theorem read_nodup {lot : List Int} {cs : List (List Int)} (h : cs.Nodup) : (cs.map (rd lot)).Nodup := List.pairwise_map.mpr (h.imp fun q e => q (rd_inj e))
theorem BOk.read {n : Int} {cs : List (List Int)} (h : BOk n cs) (lot : List Int) : BOk n (readB lot cs) where
  lo := h.lo
  hi := h.hi
  len := by unfold readB; rw [List.length_mergeSort, List.length_map]; exact h.len
  cl := fun c hc => by
    unfold readB at hc
    rw [List.mem_mergeSort] at hc
    obtain ⟨d, hd, rfl⟩ := List.mem_map.mp hc
    exact isCl_rd (h.cl d hd)
  asc := asc_of (sorted_strict (read_nodup (asc_nodup h.pw)))
theorem read_read {n : Int} {cs : List (List Int)} (h : BOk n cs) (lot : List Int) : readB lot (readB lot cs) = cs := by
  refine asc_ext (sorted_strict (read_nodup (asc_nodup (h.read lot).pw))) h.pw fun x => ?_
  unfold readB
  rw [List.mem_mergeSort, List.mem_map]
  constructor
  · rintro ⟨a, ha, rfl⟩
    rw [List.mem_mergeSort] at ha
    obtain ⟨b, hb, rfl⟩ := List.mem_map.mp ha
    rw [rd_rd]; exact hb
  · intro hx
    exact ⟨rd lot x, by rw [List.mem_mergeSort]; exact List.mem_map.mpr ⟨x, hx, rfl⟩, rd_rd lot x⟩
end K09
end G
end L2
end V6_
section V7_
set_option Elab.async false
set_option linter.all false
set_option maxRecDepth 100000
set_option maxHeartbeats 2000000
namespace L2
namespace G
namespace K09
open PySem PySem.Spec PyProof.Rows
/-! ### the defs -/
theorem fn1 (N : Nat) (b : SD) (a : D) : fnD (N + 1) b [a] = fnM (b (some a :: List.replicate N none)) := rfl
theorem fn2 (N : Nat) (b : SD) (a c : D) : fnD (N + 2) b [a, c] = fnM (b (some a :: some c :: List.replicate N none)) := rfl
theorem fn3 (N : Nat) (b : SD) (a c d : D) : fnD (N + 3) b [a, c, d] = fnM (b (some a :: some c :: some d :: List.replicate N none)) := rfl
theorem gt_ok (i j : Int) : gtD (.int i) (.int j) = some (.bl (decide (j < i))) := rfl
theorem ne_bl (a b : Bool) : neD (.bl a) (.bl b) = some (.bl (a != b)) := by cases a <;> cases b <;> rfl
theorem eq_int' (a b : Int) : eqD (.int a) (.int b) = some (.bl (decide (a = b))) := by simp [eqD]
theorem is_up_ok (lot : List Int) (x : Int) : φ_is_up [cl lot, .int x] = ret (.bl (up lot x)) := by
  unfold φ_is_up d_is_up
  rw [fn2]
  simp only [u_seq, u_sret, u_op2, u_var0, u_varS, u_cst, bnd_ret, lift_some, u_blt, u_cons, u_nil, abs_ok, inD_cl, gt_ok, ne_bl, fnM_ret]
  rfl
theorem law_is_up_ok (lot : List Int) {x : Int} (h : x ≠ 0) : φ_law_is_up [cl lot, .int x] = ret (.bl (up lot x)) := by
  unfold φ_law_is_up d_law_is_up
  rw [fn2]
  have l0 : ltD (.int x) (.int 0) = some (.bl (decide (x < 0))) := rfl
  have s0 : subD (.int 0) (.int x) = some (.int (0 - x)) := rfl
  simp only [u_seq, u_sret, u_or, u_and, u_op2, u_var0, u_varS, u_cst, bnd_ret, lift_some, notInD_cl, inD_cl, gt_ok, l0, s0]
  unfold up
  by_cases p : 0 < x
  · have e : nameOf x = x := by unfold nameOf; rw [if_neg (by omega)]
    have q : ¬ x < 0 := by omega
    rw [e]
    by_cases m : x ∈ lot <;> simp [p, q, m]
  · have q : x < 0 := by omega
    have e : nameOf x = 0 - x := by unfold nameOf; rw [if_pos q]; omega
    rw [e]
    by_cases m : 0 - x ∈ lot <;> simp [p, q, m]
theorem crowd_int (lot c : List Int) : decide ((1 : Int) < ((c.filter (up lot)).length : Int)) = crowd lot c := by
  unfold crowd
  rw [decide_eq_decide]
  omega
theorem len_lst (l : List D) : lenD [.lst l] = some (.int l.length) := rfl
theorem len_tup (l : List D) : lenD [.tup l] = some (.int l.length) := rfl
theorem crowded_in_ok (n : Int) (cs : List (List Int)) (lot : List Int) : φ_crowded_in [bu n cs, cl lot] = ret (.int (crowded cs lot)) := by
  unfold φ_crowded_in d_crowded_in
  rw [fn2]
  have inner : ∀ c : List Int, E.comp (I.seq (E.var 2)) [3] (Gt.name 3) (T.val (E.app φ_is_up (A.cons (E.var 1) (A.cons (E.var 3) A.nil)))) (E.var 3) [some (bu n cs), some (cl lot), some (cl c), none] = ret (.lst ((c.filter (up lot)).map .int)) := fun c => by
    have c1 := compL_map (ρ := [some (bu n cs), some (cl lot), some (cl c), none]) (t := Gt.name 3) (c := T.val (E.app φ_is_up (A.cons (E.var 1) (A.cons (E.var 3) A.nil)))) (e := E.var 3) D.int (fun x => [some (bu n cs), some (cl lot), some (cl c), some (.int x)]) (up lot) D.int c (by
      intro x hx
      refine ⟨rfl, ?_, fun _ => rfl⟩
      simp only [u_val, u_app, u_cons, u_nil, u_var0, u_varS, bnd_ret, is_up_ok, noexc_ret])
    rw [u_comp, u_iseq]
    simp only [u_var0, u_varS, bnd_ret, seqD_tup, lift_some]
    rw [show wipeD [some (bu n cs), some (cl lot), some (cl c), none] [3] = [some (bu n cs), some (cl lot), some (cl c), none] from rfl, c1, bnd_ret]
  have c2 := compL_map (ρ := [some (bu n cs), some (cl lot), none, none]) (t := Gt.name 2) (c := T.val (E.op2 gtD (E.blt lenD (A.cons (E.comp (I.seq (E.var 2)) [3] (Gt.name 3) (T.val (E.app φ_is_up (A.cons (E.var 1) (A.cons (E.var 3) A.nil)))) (E.var 3)) A.nil)) (E.cst (.int 1)))) (e := E.var 2) cl (fun c => [some (bu n cs), some (cl lot), some (cl c), none]) (crowd lot) cl cs (by
    intro c hc
    refine ⟨rfl, ?_, fun _ => rfl⟩
    rw [u_val, u_op2, u_blt, u_cons, inner c]
    simp only [bnd_ret, u_nil, len_lst, lift_some, u_cst, gt_ok, List.length_map]
    unfold crowd
    congr 1
    rw [decide_eq_decide]
    omega)
  simp only [u_seq, u_sret, u_blt, u_cons, u_comp, u_iseq, u_ix, u_var0, u_varS, u_cst, bnd_ret, bu1, lift_some, seqD_tup, u_wipeS, u_wipe0]
  rw [show (List.set (some (bu n cs) :: some (cl lot) :: List.replicate 2 none) 2 none : Env) = [some (bu n cs), some (cl lot), none, none] from rfl, c2]
  simp only [bnd_ret, u_nil, len_lst, lift_some, List.length_map, fnM_ret]
  rfl
theorem sum_ind {α : Type} (p : α → Bool) : ∀ l : List α, (l.map fun x => if p x then (1 : Int) else 0).sum = ((l.filter p).length : Int)
  | [] => rfl
  | x :: l => by
    rw [List.map_cons, List.sum_cons, sum_ind p l, List.filter_cons]
    cases p x <;> simp <;> omega
theorem law_crowded_ok {n : Int} {cs : List (List Int)} (h : BOk n cs) (lot : List Int) : φ_law_crowded [bu n cs, cl lot] = ret (.int (crowded cs lot)) := by
  unfold φ_law_crowded d_law_crowded
  rw [fn2]
  have inner : ∀ c ∈ cs, E.comp (I.seq (E.var 2)) [3] (Gt.name 3) (T.val (E.app φ_law_is_up (A.cons (E.var 1) (A.cons (E.var 3) A.nil)))) (E.var 3) [some (bu n cs), some (cl lot), some (cl c), none] = ret (.lst ((c.filter (up lot)).map .int)) := fun c hc => by
    have c1 := compL_map (ρ := [some (bu n cs), some (cl lot), some (cl c), none]) (t := Gt.name 3) (c := T.val (E.app φ_law_is_up (A.cons (E.var 1) (A.cons (E.var 3) A.nil)))) (e := E.var 3) D.int (fun x => [some (bu n cs), some (cl lot), some (cl c), some (.int x)]) (up lot) D.int c (by
      intro x hx
      refine ⟨rfl, ?_, fun _ => rfl⟩
      have x0 := lit_ne (isCl_lit (h.cl c hc) x hx)
      simp only [u_val, u_app, u_cons, u_nil, u_var0, u_varS, bnd_ret, law_is_up_ok lot x0, noexc_ret])
    rw [u_comp, u_iseq]
    simp only [u_var0, u_varS, bnd_ret, seqD_tup, lift_some]
    rw [show wipeD [some (bu n cs), some (cl lot), some (cl c), none] [3] = [some (bu n cs), some (cl lot), some (cl c), none] from rfl, c1, bnd_ret]
  have c2 := compL_all (ρ := [some (bu n cs), some (cl lot), none, none]) (t := Gt.name 2) (e := E.blt intD (A.cons (E.op2 gtD (E.blt lenD (A.cons (E.comp (I.seq (E.var 2)) [3] (Gt.name 3) (T.val (E.app φ_law_is_up (A.cons (E.var 1) (A.cons (E.var 3) A.nil)))) (E.var 3)) A.nil)) (E.cst (.int 1))) A.nil)) cl (fun c => [some (bu n cs), some (cl lot), some (cl c), none]) (fun c => .int (if crowd lot c then 1 else 0)) cs (by
    intro c hc
    refine ⟨rfl, ?_⟩
    rw [u_blt, u_cons, u_op2, u_blt, u_cons, inner c hc]
    simp only [bnd_ret, u_nil, len_lst, lift_some, u_cst, gt_ok, List.length_map, intD]
    rw [crowd_int])
  have e2 : (cs.map fun c => D.int (if crowd lot c then 1 else 0)) = (cs.map fun c => if crowd lot c then (1 : Int) else 0).map .int := by rw [List.map_map]; rfl
  rw [e2] at c2
  have sm : sumD [.lst ((cs.map fun c => if crowd lot c then (1 : Int) else 0).map .int)] = some (.int (crowded cs lot)) := by
    show (intsD _).map _ = _
    rw [ints_map, Option.map_some, sum_ind]
    rfl
  simp only [u_seq, u_sret, u_blt, u_cons, u_comp, u_iseq, u_ix, u_var0, u_varS, u_cst, bnd_ret, bu1, lift_some, seqD_tup, u_wipeS, u_wipe0]
  rw [show (List.set (some (bu n cs) :: some (cl lot) :: List.replicate 2 none) 2 none : Env) = [some (bu n cs), some (cl lot), none, none] from rfl]
  rw [c2]
  simp only [bnd_ret, u_nil, sm, lift_some, fnM_ret]
end K09
end G
end L2
end V7_
section V8_
set_option Elab.async false
set_option linter.all false
set_option maxRecDepth 100000
set_option maxHeartbeats 2000000
namespace L2
namespace G
namespace K09
open PySem PySem.Spec PyProof.Rows
/-! ### lots, told by both -/
def growL (rows : List (List Int)) (x : Int) : List (List Int) := rows ++ rows.map fun l => l ++ [x]
theorem fold_lots : ∀ m : Nat, ((List.range m).map fun k : Nat => (k : Int) + 1).foldl growL [[]] = lotsU m
  | 0 => rfl
  | m + 1 => by
    rw [List.range_succ, List.map_append, List.foldl_append, fold_lots m]
    rfl
theorem add_lst {a b : List D} (h : a.length + b.length < 900000) : addD (.lst a) (.lst b) = some (.lst (a ++ b)) := by
  show (if _ then _ else _) = _
  rw [if_pos]
  unfold LIM
  omega
theorem lotsLoop {N : D} {ex : Env → M D} (hex : ∀ (R : D) (row : List Int) (x : Int), row.length < 1000 → ex [some N, some R, some (.int x), some (cl row)] = ret (cl (row ++ [x]))) : ∀ (l : List Int) (rows : List (List Int)) (a : Option D), rows.length * 2 ^ l.length ≤ 100000 → (∀ r ∈ rows, r.length + l.length < 1000) →
    ∃ a', forL (Gt.name 2) (S.seq (S.set 1 (E.op2 addD (E.var 1) (E.comp (I.seq (E.var 1)) [3] (Gt.name 3) T.yes ex))) S.nil) (l.map .int) [some N, some (.lst (rows.map cl)), a, none] = ret (.next, [some N, some (.lst ((l.foldl growL rows).map cl)), a', none])
  | [], rows, a, _, _ => ⟨a, rfl⟩
  | x :: l, rows, a, h1, h2 => by
    have p1 : 1 ≤ 2 ^ l.length := Nat.one_le_two_pow
    have h1' : (growL rows x).length * 2 ^ l.length ≤ 100000 := by
      unfold growL
      rw [List.length_append, List.length_map]
      rw [List.length_cons, Nat.pow_succ] at h1
      have : (rows.length + rows.length) * 2 ^ l.length = rows.length * (2 ^ l.length * 2) := by rw [← Nat.two_mul, Nat.mul_comm 2, Nat.mul_assoc, Nat.mul_comm 2]
      omega
    have hl : rows.length + rows.length ≤ 100000 := by
      have e : (growL rows x).length = rows.length + rows.length := by unfold growL; rw [List.length_append, List.length_map]
      have : (growL rows x).length * 1 ≤ (growL rows x).length * 2 ^ l.length := Nat.mul_le_mul_left _ p1
      omega
    obtain ⟨a', ih⟩ := lotsLoop hex l (growL rows x) (some (.int x)) h1' (by
      intro r hr
      unfold growL at hr
      rcases List.mem_append.mp hr with hr | hr
      · have := h2 r hr; rw [List.length_cons] at this; omega
      · obtain ⟨r', hr', rfl⟩ := List.mem_map.mp hr
        have := h2 r' hr'
        rw [List.length_cons] at this
        rw [List.length_append, List.length_singleton]; omega)
    refine ⟨a', ?_⟩
    have c1 := compL_all (ρ := [some N, some (.lst (rows.map cl)), some (.int x), none]) (t := Gt.name 3) (e := ex) cl (fun r => [some N, some (.lst (rows.map cl)), some (.int x), some (cl r)]) (fun r => cl (r ++ [x])) rows (fun r hr => ⟨rfl, hex _ r x (by have := h2 r hr; omega)⟩)
    have st : (S.seq (S.set 1 (E.op2 addD (E.var 1) (E.comp (I.seq (E.var 1)) [3] (Gt.name 3) T.yes ex))) S.nil) [some N, some (.lst (rows.map cl)), some (.int x), none] = ret (.next, [some N, some (.lst ((growL rows x).map cl)), some (.int x), none]) := by
      have e : rows.map cl ++ rows.map (fun r => cl (r ++ [x])) = (growL rows x).map cl := by unfold growL; rw [List.map_append, List.map_map]; rfl
      simp only [u_seq, u_sset, u_op2, u_comp, u_iseq, u_var0, u_varS, bnd_ret, seqD_lst, lift_some, u_wipeS, u_wipe0]
      rw [show (List.set [some N, some (.lst (rows.map cl)), some (.int x), none] 3 none : Env) = [some N, some (.lst (rows.map cl)), some (.int x), none] from rfl, c1]
      simp only [bnd_ret]
      rw [add_lst (by simp only [List.length_map]; omega), e]
      rfl
    rw [List.map_cons]
    unfold forL
    rw [show Gt.name 2 (.int x) [some N, some (.lst (rows.map cl)), a, none] = some [some N, some (.lst (rows.map cl)), some (.int x), none] from rfl, lift_some, bnd_ret, st, bnd_ret]
    exact ih
theorem star_one {ρ : Env} {row : List Int} {x : Int} (h3 : E.var 3 ρ = ret (cl row)) (h2 : E.var 2 ρ = ret (.int x)) (h : row.length < 1000) : E.tup (A.star (E.var 3) (A.cons (E.var 2) A.nil)) ρ = ret (cl (row ++ [x])) := by
  have q : (row.map D.int).length + [D.int x].length < LIM := by unfold LIM; simp; omega
  simp only [u_tup, u_star, u_cons, u_nil, h3, h2, bnd_ret, seqD_tup, lift_some]
  rw [if_pos q]
  show _ = ret (D.tup ((row ++ [x]).map D.int))
  rw [List.map_append]
  rfl
theorem ix_lst {α : Type} (f : α → D) {l : List α} {j : Nat} {x : α} (h : l[j]? = some x) : ixD' (.lst (l.map f)) (.int j) = some (f x) := ix_tup f h
theorem fold_upto (n : Int) : (upto n).foldl growL [[]] = lotsU n.toNat := fold_lots n.toNat
theorem sorted_lots {n : Int} : sortedD3 [.lst ((lotsU n.toNat).map cl)] = some (.lst ((lots n).map cl)) := by
  show (sortL _).map D.lst = _
  rw [sortL_cls, lots_eq]; rfl
theorem upto_len (n : Int) : (upto n).length = n.toNat := by simp [upto]
theorem lotsB {n : Int} (h7 : n ≤ 7) : ([[]] : List (List Int)).length * 2 ^ (upto n).length ≤ 100000 := by
  rw [upto_len]
  have : 2 ^ n.toNat ≤ 2 ^ 7 := Nat.pow_le_pow_right (by decide) (by omega)
  simp only [List.length_singleton, Nat.one_mul]
  omega
theorem lots_of_ok {n : Int} (h1 : 1 ≤ n) (h7 : n ≤ 7) : φ_lots_of [.int n] = ret (.lst ((lots n).map cl)) := by
  unfold φ_lots_of d_lots_of
  rw [fn1]
  obtain ⟨a', lp⟩ := lotsLoop (N := .int n) (ex := E.tup (A.star (E.var 3) (A.cons (E.var 2) A.nil))) (fun R row x h => star_one rfl rfl h) (upto n) [[]] none (lotsB h7) (by intro r hr; simp at hr; subst hr; rw [upto_len]; simp; omega)
  rw [fold_upto] at lp
  have rg := rng2_upto h1 h7
  rw [u_seq, u_sset, u_lst, u_cons, u_tup]
  simp only [u_nil, bnd_ret]
  rw [show (List.set (some (.int n) :: List.replicate 3 none) 1 (some (.lst [.tup []])) : Env) = [some (.int n), some (.lst (([[]] : List (List Int)).map cl)), none, none] from rfl]
  rw [u_seq, u_sfor, u_irange]
  simp only [u_cons, u_cst, u_op2, u_var0, bnd_ret, add_ok, lift_some, u_nil, rg]
  rw [lp]
  simp only [bnd_ret, u_seq, u_sret, u_blt, u_cons, u_varS, u_var0, u_nil, sorted_lots, lift_some, fnM_ret]
theorem add_one {row : List Int} {x : Int} (h : row.length < 1000) : addD (cl row) (.tup [.int x]) = some (cl (row ++ [x])) := by
  show (if _ then _ else _) = _
  rw [if_pos]
  · simp
  · unfold LIM; simp; omega
theorem law_lots_ok {n : Int} (h1 : 1 ≤ n) (h7 : n ≤ 7) : φ_law_lots [.int n] = ret (.lst ((lots n).map cl)) := by
  unfold φ_law_lots d_law_lots
  rw [fn1]
  obtain ⟨a', lp⟩ := lotsLoop (N := .int n) (ex := E.op2 addD (E.var 3) (E.tup (A.cons (E.var 2) A.nil))) (fun R row x h => by simp only [u_op2, u_tup, u_cons, u_nil, u_var0, u_varS, bnd_ret, add_one h, lift_some]) (upto n) [[]] none (lotsB h7) (by intro r hr; simp at hr; subst hr; rw [upto_len]; simp; omega)
  rw [fold_upto] at lp
  have rg := rng2_upto h1 h7
  rw [u_seq, u_sset, u_lst, u_cons, u_tup]
  simp only [u_nil, bnd_ret]
  rw [show (List.set (some (.int n) :: List.replicate 3 none) 1 (some (.lst [.tup []])) : Env) = [some (.int n), some (.lst (([[]] : List (List Int)).map cl)), none, none] from rfl]
  rw [u_seq, u_sfor, u_irange]
  simp only [u_cons, u_cst, u_op2, u_var0, bnd_ret, add_ok, lift_some, u_nil, rg]
  rw [lp]
  simp only [bnd_ret, u_seq, u_sret, u_blt, u_cons, u_varS, u_var0, u_nil, sorted_lots, lift_some, fnM_ret]
/-! ### plain readings -/
theorem zero_int (k : Nat) : decide ((k : Int) = 0) = decide (k = 0) := by rw [decide_eq_decide]; omega
theorem plain_in_ok {n : Int} {cs : List (List Int)} (h1 : 1 ≤ n) (h7 : n ≤ 7) : φ_plain_in [bu n cs] = ret (.lst ((plain n cs).map cl)) := by
  unfold φ_plain_in d_plain_in
  rw [fn1]
  have c1 := compL_map (ρ := [some (bu n cs), none]) (t := Gt.name 1) (c := T.val (E.op2 eqD (E.app φ_crowded_in (A.cons (E.var 0) (A.cons (E.var 1) A.nil))) (E.cst (.int 0)))) (e := E.var 1) cl (fun l => [some (bu n cs), some (cl l)]) (fun l => decide (crowded cs l = 0)) cl (lots n) (by
    intro l hl
    refine ⟨rfl, ?_, fun _ => rfl⟩
    simp only [u_val, u_op2, u_app, u_cons, u_nil, u_var0, u_varS, u_cst, bnd_ret, crowded_in_ok, noexc_ret, eq_int', lift_some, zero_int])
  simp only [u_seq, u_sret, u_comp, u_iseq, u_app, u_cons, u_ix, u_var0, u_cst, u_nil, bnd_ret, bu0, lift_some, lots_of_ok h1 h7, noexc_ret, seqD_lst, u_wipeS, u_wipe0]
  rw [show (List.set (some (bu n cs) :: List.replicate 1 none) 1 none : Env) = [some (bu n cs), none] from rfl, c1]
  simp only [bnd_ret, fnM_ret]
  rfl
theorem all_plain_ok {n : Int} {cs : List (List Int)} (h : BOk n cs) : φ_all_plain [bu n cs] = ret (.tup ((plain n cs).map cl)) := by
  unfold φ_all_plain d_all_plain
  rw [fn1]
  simp only [u_seq, u_sret, u_blt, u_app, u_cons, u_var0, u_nil, bnd_ret, need_bundle_ok h, noexc_ret, plain_in_ok h.lo h.hi, tupleD, lift_some, fnM_ret]
def firstD (l : List (List Int)) : D := match l with
  | [] => .non
  | x :: _ => cl x
theorem ne_lst_nil (l : List (List Int)) : neD (.lst (l.map cl)) (.lst []) = some (.bl (!l.isEmpty)) := by
  have := eqD_lcls l []
  rw [List.map_nil] at this
  unfold eqD at this
  unfold neD
  split at this
  · rename_i h
    rw [if_pos h]
    simp only [Option.some.injEq, D.bl.injEq] at this
    rw [this]
    cases l <;> rfl
  · cases this
theorem plain_reading_ok {n : Int} {cs : List (List Int)} (h : BOk n cs) : φ_plain_reading [bu n cs] = ret (firstD (plain n cs)) := by
  unfold φ_plain_reading d_plain_reading
  rw [fn1]
  rw [u_seq, u_sset]
  simp only [u_app, u_cons, u_var0, u_nil, bnd_ret, need_bundle_ok h, noexc_ret, plain_in_ok h.lo h.hi]
  rw [show (List.set (some (bu n cs) :: List.replicate 1 none) 1 (some (.lst ((plain n cs).map cl))) : Env) = [some (bu n cs), some (.lst ((plain n cs).map cl))] from rfl]
  simp only [u_seq, u_sret, u_ifx, u_val, u_op2, u_lst, u_nil, u_varS, u_var0, bnd_ret, ne_lst_nil, lift_some]
  cases plain n cs with
  | nil => rfl
  | cons x l =>
    have e := ix_lst cl (l := x :: l) (j := 0) (x := x) rfl
    show fnM (bnd (bnd (E.ix (E.var 1) (E.cst (.int ((0 : Nat) : Int))) [some (bu n cs), some (.lst ((x :: l).map cl))]) _) _) = _
    simp only [u_ix, u_varS, u_var0, u_cst, bnd_ret, e, lift_some, fnM_ret]
    rfl
/-! ### the nearest -/
theorem bestD_mem {lt : D → D → Bool} : ∀ {l : List D}, l ≠ [] → ∃ d ∈ l, bestD lt l = some d
  | [], h => absurd rfl h
  | d :: l, _ => by
    have : ∀ (l : List D) (d : D), l.foldl (fun a y => if lt y a then y else a) d = d ∨ l.foldl (fun a y => if lt y a then y else a) d ∈ l := by
      intro l
      induction l with
      | nil => intro d; exact .inl rfl
      | cons y l ih =>
        intro d
        rw [List.foldl_cons]
        rcases ih (if lt y d then y else d) with h | h
        · rw [h]
          by_cases q : lt y d
          · rw [if_pos q]; exact .inr (.head _)
          · rw [if_neg q]; exact .inl rfl
        · exact .inr (.tail _ h)
    rcases this l d with h | h
    · exact ⟨d, .head _, by show some (l.foldl _ d) = some d; rw [h]⟩
    · exact ⟨_, .tail _ h, rfl⟩
def pairL (cs : List (List Int)) (l : List Int) : D := .tup [.int (crowded cs l), cl l]
theorem okds_pairs (cs : List (List Int)) : ∀ ls : List (List Int), D.okds 59 (ls.map (pairL cs)) = true
  | [] => rfl
  | l :: ls => by
    have : D.okd 59 (pairL cs l) = true := by unfold pairL; simp [D.okd, D.okds, okds_ints]
    rw [List.map_cons, D.okds, this, okds_pairs cs ls]; rfl
theorem min_pairs (cs : List (List Int)) {ls : List (List Int)} (h : ls ≠ []) : ∃ l ∈ ls, minD2 [.lst (ls.map (pairL cs))] = some (pairL cs l) := by
  have g : ((shapes.any fun sh => (ls.map (pairL cs)).all (D.is sh)) && D.okds 59 (ls.map (pairL cs))) = true := by
    rw [okds_pairs, Bool.and_true, List.any_eq_true]
    refine ⟨.p .i (.t .i), by simp [shapes], ?_⟩
    rw [List.all_map, List.all_eq_true]
    intro l _
    show (D.is .i (.int (crowded cs l)) && D.is (.t .i) (cl l)) = true
    simp only [D.is, Bool.true_and]
    rw [List.all_map, List.all_eq_true]
    intro x _; rfl
  obtain ⟨d, hd, e⟩ := bestD_mem (lt := ltPy) (l := ls.map (pairL cs)) (by simpa using h)
  obtain ⟨l, hl, rfl⟩ := List.mem_map.mp hd
  exact ⟨l, hl, by show (if _ then _ else _) = _; rw [if_pos g]; exact e⟩
def nearL (n : Int) (cs : List (List Int)) : D := match minD2 [.lst ((lots n).map (pairL cs))] with
  | some (.tup [_, l]) => l
  | _ => .non
theorem near_ok (n : Int) (cs : List (List Int)) : ∃ l ∈ lots n, minD2 [.lst ((lots n).map (pairL cs))] = some (pairL cs l) ∧ nearL n cs = cl l := by
  obtain ⟨l, hl, e⟩ := min_pairs cs (ls := lots n) lots_ne
  refine ⟨l, hl, e, ?_⟩
  unfold nearL; rw [e]; rfl
theorem nearest_ok {n : Int} {cs : List (List Int)} (h : BOk n cs) : φ_nearest_reading [bu n cs] = ret (nearL n cs) := by
  unfold φ_nearest_reading d_nearest_reading
  rw [fn1]
  obtain ⟨l, hl, e, en⟩ := near_ok n cs
  have c1 := compL_all (ρ := [some (bu n cs), none]) (t := Gt.name 1) (e := E.tup (A.cons (E.app φ_crowded_in (A.cons (E.var 0) (A.cons (E.var 1) A.nil))) (A.cons (E.var 1) A.nil))) cl (fun l => [some (bu n cs), some (cl l)]) (pairL cs) (lots n) (by
    intro l hl
    refine ⟨rfl, ?_⟩
    simp only [u_tup, u_cons, u_app, u_nil, u_var0, u_varS, bnd_ret, crowded_in_ok, noexc_ret]
    rfl)
  have ix1 : ixD' (pairL cs l) (.int 1) = some (cl l) := rfl
  simp only [u_seq, u_sexpr, u_sret, u_ix, u_blt, u_comp, u_iseq, u_app, u_cons, u_var0, u_cst, u_nil, bnd_ret, need_bundle_ok h, bu0, lift_some, lots_of_ok h.lo h.hi, noexc_ret, seqD_lst, u_wipeS, u_wipe0]
  rw [show (List.set (some (bu n cs) :: List.replicate 1 none) 1 none : Env) = [some (bu n cs), none] from rfl]
  rw [c1]
  simp only [bnd_ret, e, lift_some, ix1, fnM_ret, en]
end K09
end G
end L2
end V8_
section V9_
set_option Elab.async false
set_option linter.all false
set_option maxRecDepth 100000
set_option maxHeartbeats 2000000
namespace L2
namespace G
namespace K09
open PySem PySem.Spec PyProof.Rows
/-! ### bundles read -/
def rdE : Env → M D := E.blt tupleD (A.cons (E.comp (I.seq (E.var 3)) [4] (Gt.name 4) T.yes (E.ifx (T.val (E.op2 inD (E.blt absD (A.cons (E.var 4) A.nil)) (E.var 1))) (E.op2 subD (E.cst (.int 0)) (E.var 4)) (E.var 4))) A.nil)
theorem rdE_ok {b : D} (lot c : List Int) {z : Option D} : rdE [some b, some (cl lot), z, some (cl c), none] = ret (cl (rd lot c)) := by
  have c1 := compL_all (ρ := [some b, some (cl lot), z, some (cl c), none]) (t := Gt.name 4) (e := E.ifx (T.val (E.op2 inD (E.blt absD (A.cons (E.var 4) A.nil)) (E.var 1))) (E.op2 subD (E.cst (.int 0)) (E.var 4)) (E.var 4)) D.int (fun x => [some b, some (cl lot), z, some (cl c), some (.int x)]) (fun x => .int (if nameOf x ∈ lot then -x else x)) c (by
    intro x hx
    refine ⟨rfl, ?_⟩
    have s0 : subD (.int 0) (.int x) = some (.int (0 - x)) := rfl
    simp only [u_ifx, u_val, u_op2, u_blt, u_cons, u_nil, u_var0, u_varS, u_cst, bnd_ret, abs_ok, lift_some, inD_cl, s0]
    by_cases m : nameOf x ∈ lot
    · simp [m]
    · simp [m])
  unfold rdE
  rw [u_blt, u_cons, u_comp, u_iseq]
  simp only [u_var0, u_varS, bnd_ret, seqD_tup, lift_some]
  rw [show wipeD [some b, some (cl lot), z, some (cl c), none] [4] = [some b, some (cl lot), z, some (cl c), none] from rfl, c1]
  simp only [bnd_ret, u_nil, tupleD, lift_some]
  show ret (D.tup _) = ret (D.tup ((rd lot c).map D.int))
  unfold rd
  rw [List.map_map]
  rfl
def rowsE : Env → M D := E.comp (I.seq (E.ix (E.var 0) (E.cst (.int 1)))) [3] (Gt.name 3) T.yes rdE
theorem rowsE_ok (n : Int) (cs : List (List Int)) (lot : List Int) {z : Option D} : rowsE [some (bu n cs), some (cl lot), z, none, none] = ret (.lst ((cs.map (rd lot)).map cl)) := by
  have c1 := compL_all (ρ := [some (bu n cs), some (cl lot), z, none, none]) (t := Gt.name 3) (e := rdE) cl (fun c => [some (bu n cs), some (cl lot), z, some (cl c), none]) (fun c => cl (rd lot c)) cs (fun c _ => ⟨rfl, rdE_ok lot c⟩)
  unfold rowsE
  rw [u_comp, u_iseq, u_ix]
  simp only [u_var0, u_varS, u_cst, bnd_ret, bu1, seqD_tup, lift_some]
  rw [show wipeD [some (bu n cs), some (cl lot), z, none, none] [3] = [some (bu n cs), some (cl lot), z, none, none] from rfl, c1]
  simp only [bnd_ret]
  rw [List.map_map]
  rfl
theorem sorted_read (lot : List Int) (cs : List (List Int)) : sortedD3 [.lst ((cs.map (rd lot)).map cl)] = some (.lst ((readB lot cs).map cl)) := by
  show (sortL _).map D.lst = _
  rw [sortL_cls]; rfl
theorem law_read_ok (n : Int) (cs : List (List Int)) (lot : List Int) : φ_law_read [bu n cs, cl lot] = ret (bu n (readB lot cs)) := by
  unfold φ_law_read d_law_read
  rw [fn2]
  have e := rowsE_ok n cs lot (z := none)
  show fnM (bnd (bnd (rowsE [some (bu n cs), some (cl lot), none, none, none]) _) _) = _
  rw [e]
  simp only [bnd_ret, u_seq, u_sret, u_tup, u_cons, u_blt, u_nil, u_ix, u_cst]
  rw [show (List.set (some (bu n cs) :: some (cl lot) :: List.replicate 3 none) 2 (some (.lst ((cs.map (rd lot)).map cl))) : Env) = [some (bu n cs), some (cl lot), some (.lst ((cs.map (rd lot)).map cl)), none, none] from rfl]
  simp only [u_var0, u_varS, bnd_ret, bu0, lift_some, sorted_read, tupleD, fnM_ret]
theorem need_reading_ok {n : Int} {cs : List (List Int)} {lot : List Int} (h : BOk n cs) (hl : lotOk n lot = true) : φ_need_reading [bu n cs, cl lot] = ret .non := by
  unfold φ_need_reading d_need_reading
  rw [fn2]
  simp only [u_seq, u_site, u_tnot, u_val, u_app, u_cons, u_nil, u_ix, u_var0, u_varS, u_cst, bnd_ret, need_bundle_ok h, noexc_ret, bu0, lift_some, is_lot_ok, hl, Bool.not_true]
  rfl
theorem read_by_ok {n : Int} {cs : List (List Int)} {lot : List Int} (h : BOk n cs) (hl : lotOk n lot = true) : φ_read_by [bu n cs, cl lot] = ret (bu n (readB lot cs)) := by
  unfold φ_read_by d_read_by
  rw [fn2]
  have e := rowsE_ok n cs lot (z := none)
  rw [u_seq, u_sexpr]
  simp only [u_app, u_cons, u_nil, u_var0, u_varS, bnd_ret, need_reading_ok h hl, noexc_ret]
  show fnM (bnd (bnd (rowsE [some (bu n cs), some (cl lot), none, none, none]) _) _) = _
  rw [e]
  simp only [bnd_ret, u_seq, u_sret, u_tup, u_cons, u_blt, u_nil, u_ix, u_cst]
  rw [show (List.set (some (bu n cs) :: some (cl lot) :: List.replicate 3 none) 2 (some (.lst ((cs.map (rd lot)).map cl))) : Env) = [some (bu n cs), some (cl lot), some (.lst ((cs.map (rd lot)).map cl)), none, none] from rfl]
  simp only [u_var0, u_varS, bnd_ret, bu0, lift_some, sorted_read, tupleD, fnM_ret]
theorem is_plain_ok {n : Int} {cs : List (List Int)} {lot : List Int} (h : BOk n cs) (hl : lotOk n lot = true) : φ_is_plain [bu n cs, cl lot] = ret (.bl (decide (crowded cs lot = 0))) := by
  unfold φ_is_plain d_is_plain
  rw [fn2]
  simp only [u_seq, u_sexpr, u_sret, u_op2, u_app, u_cons, u_nil, u_var0, u_varS, u_cst, bnd_ret, need_reading_ok h hl, noexc_ret, crowded_in_ok, eq_int', lift_some, zero_int, fnM_ret]
/-! ### the law's look at lots -/
theorem law_is_int_ok (i a b : Int) : φ_law_is_int [.int i, .int a, .int b] = ret (.bl (decide (a ≤ i) && decide (i ≤ b))) := by
  unfold φ_law_is_int d_law_is_int
  rw [fn3]
  have l1 : leD (.int a) (.int i) = some (.bl (decide (a ≤ i))) := rfl
  have l2 : leD (.int i) (.int b) = some (.bl (decide (i ≤ b))) := rfl
  simp only [u_seq, u_sret, u_and, u_op1, u_not, u_chain, u_var0, u_varS, bnd_ret, isInt, isBool, lift_some, Bool.not_false, l1]
  by_cases h : a ≤ i
  · simp only [decide_eq_true h, l2, lift_some, Bool.true_and, bnd_ret, fnM_ret]
  · simp only [decide_eq_false h, Bool.false_and, bnd_ret, fnM_ret]
theorem law_rising_ok {l : List Int} (h : l.Pairwise (· < ·)) (hl : l.length < 1000) : φ_law_are_rising [cl l] = ret (.bl true) := by
  unfold φ_law_are_rising d_law_are_rising
  rw [fn1]
  have rg : rng2 [.int 1, .int l.length] = some ((List.range (l.length - 1)).map fun k : Nat => D.int (1 + (k : Nat))) := by
    show (if -1000000 ≤ (1 : Int) ∧ (1 : Int) ≤ 1000000 ∧ -1000000 ≤ (l.length : Int) ∧ (l.length : Int) ≤ 1000000 then some (rangeD 1 l.length) else none) = _
    rw [if_pos (by omega)]
    unfold rangeD
    rw [show ((l.length : Int) - 1).toNat = l.length - 1 by omega]
  have c1 := compL_map (ρ := [some (cl l), none]) (t := Gt.name 1) (c := T.val (E.op2 geD2 (E.ix (E.var 0) (E.op2 subD (E.var 1) (E.cst (.int 1)))) (E.ix (E.var 0) (E.var 1)))) (e := E.cst (.int 1)) (fun k : Nat => D.int (1 + (k : Nat))) (fun k => [some (cl l), some (D.int (1 + (k : Nat)))]) (fun _ => false) (fun _ => .int 1) (List.range (l.length - 1)) (by
    intro k hk
    rw [List.mem_range] at hk
    refine ⟨rfl, ?_, fun z => by cases z⟩
    have s0 : subD (.int (1 + (k : Nat))) (.int 1) = some (.int (k : Nat)) := by show some (D.int (1 + (k : Int) - 1)) = _; rw [show (1 + (k : Int) - 1) = k by omega]
    have k1 : k < l.length := by omega
    have k2 : k + 1 < l.length := by omega
    have i1 : ixD' (cl l) (.int (k : Nat)) = some (.int l[k]) := ix_tup D.int (List.getElem?_eq_getElem k1)
    have i2 : ixD' (cl l) (.int (1 + (k : Nat))) = some (.int l[k + 1]) := by
      have := ix_tup D.int (List.getElem?_eq_getElem k2)
      rw [show ((k + 1 : Nat) : Int) = 1 + (k : Int) by omega] at this
      exact this
    have lt := List.pairwise_iff_getElem.mp h k (k + 1) k1 k2 (by omega)
    have ge : geD2 (.int l[k]) (.int l[k + 1]) = some (.bl false) := by
      show some (D.bl (decide (l[k + 1] ≤ l[k]))) = _
      rw [decide_eq_false (by omega)]
    simp only [u_val, u_op2, u_ix, u_var0, u_varS, u_cst, bnd_ret, s0, lift_some, i1, i2, ge])
  have f : (List.range (l.length - 1)).filter (fun _ => false) = [] := List.filter_eq_nil_iff.mpr fun _ _ => by simp
  rw [f] at c1
  simp only [u_seq, u_sret, u_op2, u_comp, u_irange, u_cons, u_cst, u_blt, u_nil, u_var0, bnd_ret, len_tup, List.length_map, lift_some, rg, u_wipeS, u_wipe0]
  rw [show (List.set (some (cl l) :: List.replicate 1 none) 1 none : Env) = [some (cl l), none] from rfl, c1]
  rfl
theorem law_is_lot_ok {n : Int} {l : List Int} (h : lotOk n l = true) (hl : l.length < 1000) : φ_law_is_lot [.int n, cl l] = ret (.bl true) := by
  unfold φ_law_is_lot d_law_is_lot
  rw [fn2]
  unfold lotOk at h
  rw [Bool.and_eq_true, List.all_eq_true] at h
  have c1 := compL_map (ρ := [some (.int n), some (cl l), none]) (t := Gt.name 2) (c := T.not (T.val (E.app φ_law_is_int (A.cons (E.var 2) (A.cons (E.cst (.int 1)) (A.cons (E.var 0) A.nil)))))) (e := E.cst (.int 1)) D.int (fun x => [some (.int n), some (cl l), some (.int x)]) (fun _ => false) (fun _ => .int 1) l (by
    intro x hx
    refine ⟨rfl, ?_, fun z => by cases z⟩
    have := h.1 x hx
    simp only [u_tnot, u_val, u_app, u_cons, u_nil, u_var0, u_varS, u_cst, bnd_ret, law_is_int_ok, noexc_ret, this, Bool.not_true])
  have f : l.filter (fun _ => false) = [] := List.filter_eq_nil_iff.mpr fun _ _ => by simp
  rw [f] at c1
  have n0 : neD (.lst []) (.lst []) = some (.bl false) := rfl
  have t0 : isTup (cl l) = some (.bl true) := rfl
  simp only [u_seq, u_site, u_tor, u_tnot, u_val, u_op1, u_op2, u_comp, u_iseq, u_var0, u_varS, bnd_ret, t0, lift_some, Bool.not_true, Bool.false_eq_true, if_false, seqD_tup, u_wipeS, u_wipe0]
  rw [show (List.set (some (.int n) :: some (cl l) :: List.replicate 1 none) 2 none : Env) = [some (.int n), some (cl l), none] from rfl, c1]
  simp only [bnd_ret, List.map_nil, u_lst, u_nil, n0, lift_some, Bool.false_eq_true, if_false, u_snil, u_sret, u_app, u_cons, u_var0, u_varS, law_rising_ok (rising_pw h.2) hl, noexc_ret, fnM_ret]
end K09
end G
end L2
end V9_
section V10_
set_option Elab.async false
set_option linter.all false
set_option maxRecDepth 100000
set_option maxHeartbeats 2000000
namespace L2
namespace G
namespace K09
open PySem PySem.Spec PyProof.Rows
/-! ### ways -/
/-- by a clause from a literal to the contrary of another one -/
def Stp (cs : List (List Int)) (l : Int) (i : Nat) (m : Int) : Prop := ∃ c, cs[i]? = some c ∧ l ∈ c ∧ -m ∈ c ∧ -m ≠ l
inductive Way (cs : List (List Int)) (b : Int) : List (Int × Nat) → Int → Prop
  | nil : Way cs b [] b
  | snoc {p : List (Int × Nat)} {l m : Int} {i : Nat} : Way cs b p l → Stp cs l i m → Way cs b (p ++ [(l, i)]) m
def Rch (cs : List (List Int)) (a b : Int) : Prop := ∃ p, Way cs a p b
theorem Rch.refl {cs : List (List Int)} (a : Int) : Rch cs a a := ⟨[], .nil⟩
theorem Rch.step {cs : List (List Int)} {a l m : Int} {i : Nat} (h : Rch cs a l) (s : Stp cs l i m) : Rch cs a m := let ⟨p, q⟩ := h; ⟨_, q.snoc s⟩
theorem Rch.trans {cs : List (List Int)} {a b c : Int} (h : Rch cs a b) (k : Rch cs b c) : Rch cs a c := by
  obtain ⟨p, k⟩ := k
  induction k with
  | nil => exact h
  | snoc _ s ih => exact ih.step s
theorem Stp.back {cs : List (List Int)} {l m : Int} {i : Nat} (s : Stp cs l i m) : Stp cs (-m) i (-l) := by
  obtain ⟨c, h1, h2, h3, h4⟩ := s
  exact ⟨c, h1, h3, by rw [Int.neg_neg]; exact h2, by rw [Int.neg_neg]; exact fun e => h4 e.symm⟩
theorem Rch.back {cs : List (List Int)} {a b : Int} (h : Rch cs a b) : Rch cs (-b) (-a) := by
  obtain ⟨p, h⟩ := h
  induction h with
  | nil => exact .refl _
  | snoc _ s ih => exact ((Rch.refl _).step s.back).trans ih
/-- literals chosen name by name -/
theorem choose (cs : List (List Int)) : ∀ xs : List Int, (∀ x ∈ xs, ¬ (Rch cs x (-x) ∧ Rch cs (-x) x)) →
    ∃ S : Int → Prop, (∀ a b, S a → Rch cs a b → S b) ∧ (∀ a, S a → ¬ S (-a)) ∧ ∀ x ∈ xs, S x ∨ S (-x)
  | [], _ => ⟨fun _ => False, fun _ _ h _ => h, fun _ h => h.elim, fun _ h => by cases h⟩
  | x :: xs, h => by
    obtain ⟨S, s1, s2, s3⟩ := choose cs xs fun y hy => h y (.tail _ hy)
    by_cases q : S x ∨ S (-x)
    · exact ⟨S, s1, s2, fun y hy => by
        rcases List.mem_cons.mp hy with rfl | hy
        · exact q
        · exact s3 y hy⟩
    · obtain ⟨l, hl, nl, ql, ql'⟩ : ∃ l, (l = x ∨ l = -x) ∧ ¬ Rch cs l (-l) ∧ ¬ S l ∧ ¬ S (-l) := by
        by_cases r : Rch cs x (-x)
        · refine ⟨-x, .inr rfl, fun z => h x (.head _) ⟨r, by rw [Int.neg_neg] at z; exact z⟩, fun z => q (.inr z), fun z => q (.inl (by rw [Int.neg_neg] at z; exact z))⟩
        · exact ⟨x, .inl rfl, r, fun z => q (.inl z), fun z => q (.inr z)⟩
      refine ⟨fun m => S m ∨ Rch cs l m, fun a b ha r => ?_, fun a ha hb => ?_, fun y hy => ?_⟩
      · rcases ha with ha | ha
        · exact .inl (s1 a b ha r)
        · exact .inr (ha.trans r)
      · have cross : ∀ m, Rch cs l m → S (-m) → False := fun m r z => ql' (s1 _ _ z r.back)
        rcases ha with ha | ha <;> rcases hb with hb | hb
        · exact s2 a ha hb
        · exact cross (-a) hb (by rw [Int.neg_neg]; exact ha)
        · exact cross a ha hb
        · have := hb.back
          rw [Int.neg_neg] at this
          exact nl (ha.trans this)
      · rcases List.mem_cons.mp hy with rfl | hy
        · rcases hl with rfl | rfl
          · exact .inl (.inr (.refl _))
          · exact .inr (.inr (.refl _))
        · exact (s3 y hy).imp .inl .inl
theorem short_of_alike {α : Type} : ∀ {l : List α}, l.Nodup → (∀ a ∈ l, ∀ b ∈ l, a = b) → l.length ≤ 1
  | [], _, _ => by simp
  | [_], _, _ => by simp
  | a :: b :: l, nd, h => by
    have := h a (by simp) b (by simp)
    subst this
    exact absurd rfl ((List.pairwise_cons.mp nd).1 a (.head _))
theorem cl_nodup {n : Int} {c : List Int} (h : isCl n c = true) : c.Nodup := by
  unfold isCl at h
  rw [Bool.and_eq_true] at h
  have pw := rising_pw h.2
  rw [List.pairwise_map] at pw
  exact pw.imp fun {a b} q e => by subst e; omega
open Classical in
theorem has_plain {n : Int} {cs : List (List Int)} (h : BOk n cs) (k : ∀ x, 1 ≤ x → x ≤ n → ¬ (Rch cs x (-x) ∧ Rch cs (-x) x)) : plain n cs ≠ [] := by
  obtain ⟨S, s1, s2, s3⟩ := choose cs (upto n) fun x hx => let ⟨a, b⟩ := mem_upto.mp hx; k x a b
  have tot : ∀ x, litOk n x = true → (S (-x) ↔ ¬ S x) := fun x hx => by
    refine ⟨fun a b => s2 x b a, fun z => ?_⟩
    unfold litOk at hx
    rw [Bool.and_eq_true, decide_eq_true_eq, decide_eq_true_eq] at hx
    by_cases p : x < 0
    · have e : nameOf x = -x := by unfold nameOf; rw [if_pos p]
      rw [e] at hx
      rcases s3 (-x) (mem_upto.mpr hx) with q | q
      · exact q
      · rw [Int.neg_neg] at q; exact absurd q z
    · have e : nameOf x = x := by unfold nameOf; rw [if_neg p]
      rw [e] at hx
      rcases s3 x (mem_upto.mpr hx) with q | q
      · exact absurd q z
      · exact q
  let lot := (upto n).filter fun x => decide (S (-x))
  have upS : ∀ x, litOk n x = true → (up lot x = true ↔ S x) := fun x hx => by
    have x0 := lit_ne hx
    have hx' := hx
    unfold litOk at hx'
    rw [Bool.and_eq_true, decide_eq_true_eq, decide_eq_true_eq] at hx'
    have ml : nameOf x ∈ lot ↔ S (-nameOf x) := by
      show nameOf x ∈ (upto n).filter _ ↔ _
      rw [List.mem_filter, mem_upto, decide_eq_true_eq]
      exact ⟨fun q => q.2, fun q => ⟨hx', q⟩⟩
    unfold up
    by_cases p : x < 0
    · have e : nameOf x = -x := by unfold nameOf; rw [if_pos p]
      rw [e, Int.neg_neg] at ml
      rw [e, decide_eq_false (show ¬ 0 < x by omega)]
      by_cases q : S x
      · rw [decide_eq_true (ml.mpr q)]; simp [q]
      · rw [decide_eq_false (fun z => q (ml.mp z))]; simp [q]
    · have e : nameOf x = x := by unfold nameOf; rw [if_neg p]
      rw [e] at ml
      rw [e, decide_eq_true (show 0 < x by omega)]
      have t := tot x hx
      by_cases q : S x
      · rw [decide_eq_false (fun z => (t.mp (ml.mp z)) q)]; simp [q]
      · rw [decide_eq_true (ml.mpr (t.mpr q))]; simp [q]
  have mem : lot ∈ plain n cs := by
    refine List.mem_filter.mpr ⟨lots_of_filter h.lo _, ?_⟩
    rw [decide_eq_true_eq]
    unfold crowded
    rw [List.length_eq_zero_iff, List.filter_eq_nil_iff]
    intro c hc z
    have clc := h.cl c hc
    obtain ⟨i, hi, ei⟩ := List.getElem_of_mem hc
    unfold crowd at z
    rw [decide_eq_true_eq] at z
    have : (c.filter (up lot)).length ≤ 1 := by
      refine short_of_alike ((cl_nodup clc).filter _) fun a ha b hb => ?_
      obtain ⟨ha, ua⟩ := List.mem_filter.mp ha
      obtain ⟨hb, ub⟩ := List.mem_filter.mp hb
      have la := isCl_lit clc a ha
      have lb := isCl_lit clc b hb
      have sa := (upS a la).mp ua
      have sb := (upS b lb).mp ub
      by_cases e : a = b
      · exact e
      · have st : Stp cs a i (-b) := ⟨c, by rw [List.getElem?_eq_getElem hi, ei], ha, by rw [Int.neg_neg]; exact hb, by rw [Int.neg_neg]; exact fun z => e z.symm⟩
        exact absurd (s1 _ _ sa ((Rch.refl _).step st)) (s2 b sb)
    omega
  intro z
  rw [z] at mem
  cases mem
end K09
end G
end L2
end V10_
section V11_
set_option Elab.async false
set_option linter.all false
set_option maxRecDepth 100000
set_option maxHeartbeats 2000000
namespace L2
namespace G
namespace K09
open PySem PySem.Spec PyProof.Rows
/-! ### steps -/
theorem len_le_of_subset {α : Type} [DecidableEq α] : ∀ {l l' : List α}, l.Nodup → (∀ x ∈ l, x ∈ l') → l.length ≤ l'.length
  | [], _, _, _ => by simp
  | x :: l, l', nd, h => by
    have hx := h x (.head _)
    rw [List.nodup_cons] at nd
    have := len_le_of_subset (l := l) (l' := l'.erase x) nd.2 fun y hy => (List.mem_erase_of_ne (fun e : y = x => nd.1 (by rw [← e]; exact hy))).mpr (h y (.tail _ hy))
    rw [List.length_erase_of_mem hx] at this
    have : 0 < l'.length := List.length_pos_of_mem hx
    rw [List.length_cons]; omega
theorem cl_len {n : Int} {c : List Int} (h7 : n ≤ 7) (h : isCl n c = true) : c.length ≤ 7 := by
  have r : ∀ x ∈ c, litOk n x = true := isCl_lit h
  unfold isCl at h
  rw [Bool.and_eq_true] at h
  have pw := rising_pw h.2
  have nd : (c.map nameOf).Nodup := pw.imp fun q e => by subst e; omega
  have := len_le_of_subset (l' := [1, 2, 3, 4, 5, 6, 7]) nd (by
    intro x hx
    obtain ⟨y, hy, rfl⟩ := List.mem_map.mp hx
    have := r y hy
    unfold litOk at this
    rw [Bool.and_eq_true, decide_eq_true_eq, decide_eq_true_eq] at this
    have : nameOf y = 1 ∨ nameOf y = 2 ∨ nameOf y = 3 ∨ nameOf y = 4 ∨ nameOf y = 5 ∨ nameOf y = 6 ∨ nameOf y = 7 := by omega
    simp only [List.mem_cons, List.not_mem_nil, or_false]
    exact this)
  rw [List.length_map] at this
  exact this
abbrev pD (p : Nat × Int) : D := .tup [.int p.1, .int p.2]
def stp (l : Int) (q : List Int × Nat) : List (Nat × Int) := if l ∈ q.1 then (q.1.filter fun o => !decide (o = l)).map fun o => (q.2, 0 - o) else []
def steps (cs : List (List Int)) (l : Int) : List (Nat × Int) := cs.zipIdx.flatMap (stp l)
theorem steps_mem {cs : List (List Int)} {l m : Int} {i : Nat} : (i, m) ∈ steps cs l ↔ Stp cs l i m := by
  unfold steps
  rw [List.mem_flatMap]
  constructor
  · rintro ⟨⟨c, j⟩, h1, h2⟩
    have h1 := mem_zipIdx' h1
    unfold stp at h2
    split at h2
    · rename_i hl
      obtain ⟨o, ho, e⟩ := List.mem_map.mp h2
      cases e
      obtain ⟨ho, no⟩ := List.mem_filter.mp ho
      simp at no
      refine ⟨c, by simpa using h1.2, hl, by rw [show -(0 - o) = o by omega]; exact ho, by rw [show -(0 - o) = o by omega]; exact no⟩
    · cases h2
  · rintro ⟨c, h1, h2, h3, h4⟩
    refine ⟨(c, i), ?_, ?_⟩
    · rw [List.mem_zipIdx_iff_getElem?]; exact h1
    · unfold stp
      rw [if_pos h2]
      exact List.mem_map.mpr ⟨-m, List.mem_filter.mpr ⟨h3, by simpa using h4⟩, by rw [show 0 - -m = m by omega]⟩
def stEnv (b : D) (l : Int) (acc : List (Nat × Int)) (x y : Option D) : Env := [some b, some (.int l), some (.lst (acc.map pD)), x, y, none]
def stBody : SD := S.seq (S.ite (T.val (E.op2 inD (E.var 1) (E.var 4))) (S.seq (S.extend 2 (E.comp (I.seq (E.var 4)) [5] (Gt.name 5) (T.val (E.op2 neD (E.var 5) (E.var 1))) (E.tup (A.cons (E.var 3) (A.cons (E.op2 subD (E.cst (.int 0)) (E.var 5)) A.nil))))) S.nil) S.nil) S.nil
theorem ne_int (a b : Int) : neD (.int a) (.int b) = some (.bl (!decide (a = b))) := by simp [neD]
theorem stStep {b : D} {l : Int} {acc : List (Nat × Int)} (q : List Int × Nat) (h : acc.length + q.1.length < 1000) : stBody (stEnv b l acc (some (.int q.2)) (some (cl q.1))) = ret (.next, stEnv b l (acc ++ stp l q) (some (.int q.2)) (some (cl q.1))) := by
  have t1 : T.val (E.op2 inD (E.var 1) (E.var 4)) (stEnv b l acc (some (.int q.2)) (some (cl q.1))) = ret (decide (l ∈ q.1)) := by
    simp only [stEnv, u_val, u_op2, u_var0, u_varS, bnd_ret, inD_cl, lift_some]
  unfold stBody
  rw [u_seq, u_site, t1, bnd_ret]
  by_cases m : l ∈ q.1
  · rw [decide_eq_true m, if_pos rfl]
    have c1 := compL_map (ρ := stEnv b l acc (some (.int q.2)) (some (cl q.1))) (t := Gt.name 5) (c := T.val (E.op2 neD (E.var 5) (E.var 1))) (e := E.tup (A.cons (E.var 3) (A.cons (E.op2 subD (E.cst (.int 0)) (E.var 5)) A.nil))) D.int (fun x => [some b, some (.int l), some (.lst (acc.map pD)), some (.int q.2), some (cl q.1), some (.int x)]) (fun o => !decide (o = l)) (fun o => pD (q.2, 0 - o)) q.1 (by
      intro x hx
      have s0 : subD (.int 0) (.int x) = some (.int (0 - x)) := rfl
      refine ⟨rfl, ?_, fun _ => ?_⟩
      · simp only [u_val, u_op2, u_var0, u_varS, bnd_ret, ne_int, lift_some]
      · simp only [u_tup, u_cons, u_nil, u_op2, u_cst, u_var0, u_varS, bnd_ret, s0, lift_some])
    have e2 : ((q.1.filter fun o => !decide (o = l)).map fun o => pD (q.2, 0 - o)) = (stp l q).map pD := by unfold stp; rw [if_pos m, List.map_map]; rfl
    rw [e2] at c1
    have cm : E.comp (I.seq (E.var 4)) [5] (Gt.name 5) (T.val (E.op2 neD (E.var 5) (E.var 1))) (E.tup (A.cons (E.var 3) (A.cons (E.op2 subD (E.cst (.int 0)) (E.var 5)) A.nil))) (stEnv b l acc (some (.int q.2)) (some (cl q.1))) = ret (.lst ((stp l q).map pD)) := by
      rw [u_comp, u_iseq, show E.var 4 (stEnv b l acc (some (.int q.2)) (some (cl q.1))) = ret (cl q.1) from rfl, bnd_ret, seqD_tup, lift_some, bnd_ret]
      rw [show wipeD (stEnv b l acc (some (.int q.2)) (some (cl q.1))) [5] = stEnv b l acc (some (.int q.2)) (some (cl q.1)) from rfl, c1, bnd_ret]
    have sl : (stp l q).length ≤ q.1.length := by
      unfold stp; rw [if_pos m, List.length_map]; exact List.length_filter_le _ _
    have ex : S.extend 2 (E.comp (I.seq (E.var 4)) [5] (Gt.name 5) (T.val (E.op2 neD (E.var 5) (E.var 1))) (E.tup (A.cons (E.var 3) (A.cons (E.op2 subD (E.cst (.int 0)) (E.var 5)) A.nil)))) (stEnv b l acc (some (.int q.2)) (some (cl q.1))) = ret (.next, stEnv b l (acc ++ stp l q) (some (.int q.2)) (some (cl q.1))) := by
      show bnd (E.comp _ _ _ _ _ _) _ = _
      rw [cm, bnd_ret]
      show (if _ then _ else _) = _
      rw [if_pos (by unfold LIM; simp only [List.length_map]; omega), ← List.map_append]
      rfl
    rw [u_seq, ex]
    rfl
  · rw [decide_eq_false m, if_neg Bool.false_ne_true]
    have : stp l q = [] := by unfold stp; rw [if_neg m]
    rw [this, List.append_nil]
    rfl
theorem stLoop {b : D} {l : Int} : ∀ (L : List (List Int × Nat)) (acc : List (Nat × Int)) (x y : Option D), acc.length + 7 * L.length < 1000 → (∀ q ∈ L, q.1.length ≤ 7) →
    ∃ x' y', forL (Gt.tup 2 (Gt.cons (Gt.name 3) (Gt.cons (Gt.name 4) Gt.nil))) stBody (L.map fun p => .tup [.int p.2, cl p.1]) (stEnv b l acc x y) = ret (.next, stEnv b l (acc ++ L.flatMap (stp l)) x' y')
  | [], acc, x, y, _, _ => ⟨x, y, by simp [forL]⟩
  | q :: L, acc, x, y, h, hq => by
    rw [List.length_cons] at h
    have h7 := hq q (.head _)
    have sl : (stp l q).length ≤ q.1.length := by
      unfold stp; split
      · rw [List.length_map]; exact List.length_filter_le _ _
      · simp
    obtain ⟨x', y', ih⟩ := stLoop (b := b) (l := l) L (acc ++ stp l q) (some (.int q.2)) (some (cl q.1)) (by rw [List.length_append]; omega) fun z hz => hq z (.tail _ hz)
    refine ⟨x', y', ?_⟩
    rw [List.map_cons]
    unfold forL
    rw [show Gt.tup 2 (Gt.cons (Gt.name 3) (Gt.cons (Gt.name 4) Gt.nil)) (.tup [.int q.2, cl q.1]) (stEnv b l acc x y) = some (stEnv b l acc (some (.int q.2)) (some (cl q.1))) from rfl, lift_some, bnd_ret, stStep q (by omega), bnd_ret, List.flatMap_cons, ← List.append_assoc]
    exact ih
theorem steps_from_ok {n : Int} {cs : List (List Int)} (h : BOk n cs) (l : Int) : φ_steps_from [bu n cs, .int l] = ret (.lst ((steps cs l).map pD)) := by
  unfold φ_steps_from d_steps_from
  rw [fn2]
  have hl := h.len
  obtain ⟨x', y', lp⟩ := stLoop (b := bu n cs) (l := l) cs.zipIdx [] none none (by rw [List.length_zipIdx]; simp; omega) (by
    rintro ⟨c, i⟩ hq
    have := mem_zipIdx' hq
    exact cl_len h.hi (h.cl c (List.mem_of_getElem? this.2)))
  rw [List.nil_append] at lp
  rw [u_seq, u_sset, u_lst]
  simp only [u_nil, bnd_ret]
  rw [u_seq, u_sfor, u_ion, u_cons, u_ix]
  rw [show (List.set (some (bu n cs) :: some (.int l) :: List.replicate 4 none) 2 (some (.lst [])) : Env) = stEnv (bu n cs) l [] none none from rfl]
  rw [show E.var 0 (stEnv (bu n cs) l [] none none) = ret (bu n cs) from rfl]
  simp only [u_cst, bnd_ret, bu1, lift_some, u_nil, enm_cls]
  show fnM (bnd (forL _ stBody _ _) _) = _
  rw [lp]
  rfl
end K09
end G
end L2
end V11_
section V12_
set_option Elab.async false
set_option linter.all false
set_option maxRecDepth 100000
set_option maxHeartbeats 2000000
namespace L2
namespace G
namespace K09
open PySem PySem.Spec PyProof.Rows
/-! ### way_to -/
abbrev KN := List (Int × List (Int × Nat))
abbrev qD (q : Int × Nat) : D := .tup [.int q.1, .int q.2]
abbrev pathD (p : List (Int × Nat)) : D := .lst (p.map qD)
def keys (K : KN) : List Int := K.map (·.1)
def look : KN → Int → Option (List (Int × Nat))
  | [], _ => none
  | q :: K, m => if q.1 = m then some q.2 else look K m
abbrev knD (K : KN) : D := .dct false (K.map fun q => .int q.1) (K.map fun q => pathD q.2)
theorem kEq (a b : Int) : keyEq false (.int a) (.int b) = decide (a = b) := by
  have := keyEq_k (a := Sum.inl a) (b := Sum.inl b)
  show keyEq false (kD (.inl a)) (kD (.inl b)) = _
  rw [this, decide_eq_decide]
  exact ⟨fun e => by cases e; rfl, fun e => by rw [e]⟩
theorem getL_kn : ∀ (K : KN) (m : Int), getL false (.int m) (K.map fun q => D.int q.1) (K.map fun q => pathD q.2) = (look K m).map pathD
  | [], m => rfl
  | q :: K, m => by
    have ih := getL_kn K m
    simp only [List.map_cons, getL, kEq, look]
    by_cases h : q.1 = m
    · rw [if_pos (decide_eq_true h), if_pos h]; rfl
    · rw [if_neg (by simpa using h), if_neg h, ih]
theorem look_some : ∀ {K : KN} {m : Int}, (look K m).isSome = decide (m ∈ keys K)
  | [], m => rfl
  | q :: K, m => by
    unfold look keys
    by_cases h : q.1 = m
    · rw [if_pos h]; simp [h]
    · rw [if_neg h, look_some (K := K)]
      have : ¬ m = q.1 := fun e => h e.symm
      rw [decide_eq_decide]
      simp only [keys, List.map_cons, List.mem_cons, this, false_or]
theorem look_mem : ∀ {K : KN} {m : Int} {p : List (Int × Nat)}, look K m = some p → (m, p) ∈ K
  | [], m, p, h => by cases h
  | q :: K, m, p, h => by
    unfold look at h
    split at h
    · rename_i e; cases h; subst e; exact .head _
    · exact .tail _ (look_mem h)
theorem look_app {K : KN} {m : Int} {p : List (Int × Nat)} (E : KN) (h : look K m = some p) : look (K ++ E) m = some p := by
  induction K with
  | nil => cases h
  | cons q K ih =>
    rw [List.cons_append]
    unfold look at h ⊢
    split
    · rename_i e; rw [if_pos e] at h; exact h
    · rename_i e; rw [if_neg e] at h; exact ih h
theorem dget_kn (K : KN) (m : Int) : dgetD (knD K) (.int m) = some ((look K m).map pathD) := by
  show (if okKey false (D.int m) = true then some (getL false (D.int m) (K.map fun q => D.int q.1) (K.map fun q => pathD q.2)) else none) = _
  rw [if_pos (show okKey false (D.int m) = true from rfl), getL_kn]
theorem notIn_kn (K : KN) (m : Int) : dnotInD (.int m) (knD K) = some (.bl (!decide (m ∈ keys K))) := by
  unfold dnotInD
  rw [dget_kn, Option.map_some, Option.isSome_map, look_some]
structure WInv (n : Int) (cs : List (List Int)) (b : Int) (K : KN) : Prop where
  way : ∀ k p, (k, p) ∈ K → Way cs b p k
  lit : ∀ k ∈ keys K, litOk n k = true
  nd : (keys K).Nodup
  beg : b ∈ keys K
  len : ∀ k p, (k, p) ∈ K → p.length < K.length
theorem WInv.size {n : Int} {cs : List (List Int)} {b : Int} {K : KN} (h : WInv n cs b K) (h7 : n ≤ 7) : K.length ≤ 14 := by
  have := len_le_of_subset (l' := [1, 2, 3, 4, 5, 6, 7, -1, -2, -3, -4, -5, -6, -7]) h.nd (by
    intro x hx
    have := h.lit x hx
    unfold litOk nameOf at this
    rw [Bool.and_eq_true, decide_eq_true_eq, decide_eq_true_eq] at this
    simp only [List.mem_cons, List.not_mem_nil, or_false]
    split at this <;> omega)
  rw [keys, List.length_map] at this
  exact this
theorem WInv.add {n : Int} {cs : List (List Int)} {b l m : Int} {K : KN} {p : List (Int × Nat)} {i : Nat} (h : WInv n cs b K) (hl : look K l = some p) (hm : m ∉ keys K) (s : Stp cs l i m) (lm : litOk n m = true) : WInv n cs b (K ++ [(m, p ++ [(l, i)])]) where
  way := fun k q hk => by
    rcases List.mem_append.mp hk with hk | hk
    · exact h.way k q hk
    · simp at hk
      obtain ⟨rfl, rfl⟩ := hk
      exact (h.way l p (look_mem hl)).snoc s
  lit := fun k hk => by
    rw [keys, List.map_append] at hk
    rcases List.mem_append.mp hk with hk | hk
    · exact h.lit k hk
    · simp at hk; subst hk; exact lm
  nd := by
    rw [keys, List.map_append]
    refine List.nodup_append.mpr ⟨h.nd, by simp, fun a ha c hc e => ?_⟩
    simp at hc; subst hc; subst e; exact hm ha
  beg := by rw [keys, List.map_append]; exact List.mem_append_left _ h.beg
  len := fun k q hk => by
    rw [List.length_append, List.length_singleton]
    rcases List.mem_append.mp hk with hk | hk
    · have := h.len k q hk; omega
    · simp at hk
      obtain ⟨rfl, rfl⟩ := hk
      have := h.len l p (look_mem hl)
      rw [List.length_append, List.length_singleton]; omega
def wEnv (bd : D) (b e : Int) (K : KN) (layer later : List Int) (x y z : Option D) : Env := [some bd, some (.int b), some (.int e), some (knD K), some (li layer), some (li later), x, y, z]
def iBody : SD := S.seq (S.ite (T.val (E.op2 dnotInD (E.var 8) (E.var 3))) (S.seq (S.dput 3 (E.var 8) (E.lst (A.star (E.dix (E.var 3) (E.var 6)) (A.cons (E.tup (A.cons (E.var 6) (A.cons (E.var 7) A.nil))) A.nil)))) (S.seq (S.append 5 (E.var 8)) S.nil)) S.nil) S.nil
theorem iStep {n : Int} {cs : List (List Int)} {bd : D} {b e l : Int} {K : KN} {layer later : List Int} {p : List (Int × Nat)} {i : Nat} {m : Int} (h7 : n ≤ 7) (h : WInv n cs b K) (hl : look K l = some p) (s : Stp cs l i m) (lm : litOk n m = true) (hla : later.length ≤ K.length) :
    ∃ X : KN, iBody (wEnv bd b e K layer later (some (.int l)) (some (.int i)) (some (.int m))) = ret (.next, wEnv bd b e (K ++ X) layer (later ++ keys X) (some (.int l)) (some (.int i)) (some (.int m))) ∧ WInv n cs b (K ++ X) ∧ m ∈ keys (K ++ X) := by
  have hs := h.size h7
  have t1 : T.val (E.op2 dnotInD (E.var 8) (E.var 3)) (wEnv bd b e K layer later (some (.int l)) (some (.int i)) (some (.int m))) = ret (!decide (m ∈ keys K)) := by
    simp only [wEnv, u_val, u_op2, u_var0, u_varS, bnd_ret, notIn_kn, lift_some]
  unfold iBody
  rw [u_seq, u_site, t1, bnd_ret]
  by_cases hm : m ∈ keys K
  · rw [decide_eq_true hm, Bool.not_true, if_neg Bool.false_ne_true]
    refine ⟨[], ?_, by rw [List.append_nil]; exact h, by rw [List.append_nil]; exact hm⟩
    rw [List.append_nil]
    show _ = ret (Fl.next, wEnv bd b e K layer (later ++ []) _ _ _)
    rw [List.append_nil]
    rfl
  · rw [decide_eq_false hm, Bool.not_false, if_pos rfl]
    refine ⟨[(m, p ++ [(l, i)])], ?_, h.add hl hm s lm, by simp [keys]⟩
    have pl := h.len l p (look_mem hl)
    have dx : E.dix (E.var 3) (E.var 6) (wEnv bd b e K layer later (some (.int l)) (some (.int i)) (some (.int m))) = ret (pathD p) := by
      unfold E.dix
      rw [u_op2, show E.var 3 (wEnv bd b e K layer later (some (.int l)) (some (.int i)) (some (.int m))) = ret (knD K) from rfl, bnd_ret, show E.var 6 (wEnv bd b e K layer later (some (.int l)) (some (.int i)) (some (.int m))) = ret (.int l) from rfl, bnd_ret]
      unfold dixD
      rw [dget_kn, hl]
      rfl
    have vl : E.lst (A.star (E.dix (E.var 3) (E.var 6)) (A.cons (E.tup (A.cons (E.var 6) (A.cons (E.var 7) A.nil))) A.nil)) (wEnv bd b e K layer later (some (.int l)) (some (.int i)) (some (.int m))) = ret (pathD (p ++ [(l, i)])) := by
      rw [u_lst, u_star, dx]
      have tp : E.tup (A.cons (E.var 6) (A.cons (E.var 7) A.nil)) (wEnv bd b e K layer later (some (.int l)) (some (.int i)) (some (.int m))) = ret (qD (l, i)) := rfl
      simp only [bnd_ret, seqD_lst, lift_some, u_cons, u_nil]
      rw [tp]
      simp only [bnd_ret]
      rw [if_pos (by unfold LIM; simp; omega)]
      show ret (D.lst (p.map qD ++ [qD (l, i)])) = ret (D.lst ((p ++ [(l, i)]).map qD))
      rw [List.map_append]
      rfl
    have pt : putL false (.int m) (pathD (p ++ [(l, i)])) (K.map fun q => .int q.1) (K.map fun q => pathD q.2) = ((K ++ [(m, p ++ [(l, i)])]).map (fun q => D.int q.1), (K ++ [(m, p ++ [(l, i)])]).map fun q => pathD q.2) := by
      unfold putL
      rw [if_neg, List.map_append, List.map_append]
      · rfl
      · rw [Bool.not_eq_true, List.any_map, List.any_eq_false]
        intro q hq z
        simp only [Function.comp, kEq, decide_eq_true_eq] at z
        exact hm (by rw [← z]; exact List.mem_map.mpr ⟨q, hq, rfl⟩)
    have dp : S.dput 3 (E.var 8) (E.lst (A.star (E.dix (E.var 3) (E.var 6)) (A.cons (E.tup (A.cons (E.var 6) (A.cons (E.var 7) A.nil))) A.nil))) (wEnv bd b e K layer later (some (.int l)) (some (.int i)) (some (.int m))) = ret (.next, wEnv bd b e (K ++ [(m, p ++ [(l, i)])]) layer later (some (.int l)) (some (.int i)) (some (.int m))) := by
      unfold S.dput
      rw [vl, bnd_ret]
      show bnd (E.var 8 (wEnv bd b e K layer later (some (.int l)) (some (.int i)) (some (.int m)))) _ = _
      rw [show E.var 8 (wEnv bd b e K layer later (some (.int l)) (some (.int i)) (some (.int m))) = ret (.int m) from rfl, bnd_ret]
      rw [if_pos ⟨rfl, by unfold LIM; simp; omega⟩, pt]
      rfl
    have ap : S.append 5 (E.var 8) (wEnv bd b e (K ++ [(m, p ++ [(l, i)])]) layer later (some (.int l)) (some (.int i)) (some (.int m))) = ret (.next, wEnv bd b e (K ++ [(m, p ++ [(l, i)])]) layer (later ++ [m]) (some (.int l)) (some (.int i)) (some (.int m))) := by
      unfold S.append
      rw [show (wEnv bd b e (K ++ [(m, p ++ [(l, i)])]) layer later (some (.int l)) (some (.int i)) (some (.int m)))[5]? = some (some (.lst (later.map .int))) from rfl]
      dsimp only
      rw [show E.var 8 (wEnv bd b e (K ++ [(m, p ++ [(l, i)])]) layer later (some (.int l)) (some (.int i)) (some (.int m))) = ret (.int m) from rfl, bnd_ret]
      rw [if_pos (by unfold LIM; simp; omega)]
      show ret (Fl.next, List.set (wEnv bd b e (K ++ [(m, p ++ [(l, i)])]) layer later (some (.int l)) (some (.int i)) (some (.int m))) 5 (some (.lst (later.map .int ++ [.int m])))) = _
      rw [show later.map D.int ++ [.int m] = (later ++ [m]).map .int by rw [List.map_append]; rfl]
      rfl
    rw [u_seq, dp, bnd_ret]
    dsimp only
    rw [u_seq, ap, bnd_ret]
    rfl
theorem keys_app (K X : KN) : keys (K ++ X) = keys K ++ keys X := List.map_append
theorem iLoop {n : Int} {cs : List (List Int)} {bd : D} {b e l : Int} {layer : List Int} {p : List (Int × Nat)} (h7 : n ≤ 7) : ∀ (its : List (Nat × Int)) (K : KN) (later : List Int) (y z : Option D), WInv n cs b K → look K l = some p → (∀ i m, (i, m) ∈ its → Stp cs l i m ∧ litOk n m = true) → later.length ≤ K.length →
    ∃ (X : KN) (y' z' : Option D), forL (Gt.tup 2 (Gt.cons (Gt.name 7) (Gt.cons (Gt.name 8) Gt.nil))) iBody (its.map pD) (wEnv bd b e K layer later (some (.int l)) y z) = ret (.next, wEnv bd b e (K ++ X) layer (later ++ keys X) (some (.int l)) y' z') ∧ WInv n cs b (K ++ X) ∧ ∀ i m, (i, m) ∈ its → m ∈ keys (K ++ X)
  | [], K, later, y, z, h, _, _, _ => ⟨[], y, z, by simp [forL, keys], by rw [List.append_nil]; exact h, fun i m q => by cases q⟩
  | (i, m) :: its, K, later, y, z, h, hl, hs, hla => by
    obtain ⟨s, lm⟩ := hs i m (.head _)
    obtain ⟨X1, e1, i1, m1⟩ := iStep (bd := bd) (e := e) (layer := layer) h7 h hl s lm hla
    obtain ⟨X2, y', z', e2, i2, m2⟩ := iLoop (bd := bd) (e := e) (layer := layer) h7 its (K ++ X1) (later ++ keys X1) (some (.int i)) (some (.int m)) i1 (look_app X1 hl) (fun i m q => hs i m (.tail _ q)) (by rw [List.length_append, List.length_append, keys, List.length_map]; omega)
    refine ⟨X1 ++ X2, y', z', ?_, by rw [← List.append_assoc]; exact i2, fun i' m' q => ?_⟩
    · rw [List.map_cons]
      unfold forL
      rw [show Gt.tup 2 (Gt.cons (Gt.name 7) (Gt.cons (Gt.name 8) Gt.nil)) (pD (i, m)) (wEnv bd b e K layer later (some (.int l)) y z) = some (wEnv bd b e K layer later (some (.int l)) (some (.int i)) (some (.int m))) from rfl, lift_some, bnd_ret, e1, bnd_ret]
      rw [← List.append_assoc, keys_app, ← List.append_assoc]
      exact e2
    · rw [← List.append_assoc]
      rcases List.mem_cons.mp q with q | q
      · cases q
        rw [keys_app]; exact List.mem_append_left _ m1
      · exact m2 i' m' q
def mBody : SD := S.seq (S.for_ (I.seq (E.app φ_steps_from (A.cons (E.var 0) (A.cons (E.var 6) A.nil)))) (Gt.tup 2 (Gt.cons (Gt.name 7) (Gt.cons (Gt.name 8) Gt.nil))) iBody) S.nil
theorem step_lit {n : Int} {cs : List (List Int)} (h : BOk n cs) {l m : Int} {i : Nat} (s : Stp cs l i m) : litOk n m = true := by
  obtain ⟨c, h1, _, h3, _⟩ := s
  have := isCl_lit (h.cl c (List.mem_of_getElem? h1)) (-m) h3
  unfold litOk at *
  rw [name_neg] at this
  exact this
theorem mLoop {n : Int} {cs : List (List Int)} {b e : Int} {layer : List Int} (hb : BOk n cs) : ∀ (ls : List Int) (K : KN) (later : List Int) (x y z : Option D), WInv n cs b K → (∀ l ∈ ls, l ∈ keys K) → later.length ≤ K.length →
    ∃ (X : KN) (x' y' z' : Option D), forL (Gt.name 6) mBody (ls.map .int) (wEnv (bu n cs) b e K layer later x y z) = ret (.next, wEnv (bu n cs) b e (K ++ X) layer (later ++ keys X) x' y' z') ∧ WInv n cs b (K ++ X) ∧ ∀ l ∈ ls, ∀ i m, Stp cs l i m → m ∈ keys (K ++ X)
  | [], K, later, x, y, z, h, _, _ => ⟨[], x, y, z, by simp [forL, keys], by rw [List.append_nil]; exact h, fun l q => by cases q⟩
  | l :: ls, K, later, x, y, z, h, hl, hla => by
    have hk := hl l (.head _)
    obtain ⟨p, hp⟩ : ∃ p, look K l = some p := Option.isSome_iff_exists.mp (by rw [look_some, decide_eq_true hk])
    obtain ⟨X1, y1, z1, e1, i1, m1⟩ := iLoop (bd := bu n cs) (e := e) (layer := layer) hb.hi (steps cs l) K later y z h hp (fun i m q => ⟨steps_mem.mp q, step_lit hb (steps_mem.mp q)⟩) hla
    obtain ⟨X2, x', y', z', e2, i2, m2⟩ := mLoop (e := e) (layer := layer) hb ls (K ++ X1) (later ++ keys X1) (some (.int l)) y1 z1 i1 (fun q hq => by rw [keys_app]; exact List.mem_append_left _ (hl q (.tail _ hq))) (by rw [List.length_append, List.length_append, keys, List.length_map]; omega)
    refine ⟨X1 ++ X2, x', y', z', ?_, by rw [← List.append_assoc]; exact i2, fun l' q i m s => ?_⟩
    · have st : mBody (wEnv (bu n cs) b e K layer later (some (.int l)) y z) = ret (.next, wEnv (bu n cs) b e (K ++ X1) layer (later ++ keys X1) (some (.int l)) y1 z1) := by
        unfold mBody
        have v0 : E.var 0 (wEnv (bu n cs) b e K layer later (some (.int l)) y z) = ret (bu n cs) := rfl
        have v6 : E.var 6 (wEnv (bu n cs) b e K layer later (some (.int l)) y z) = ret (.int l) := rfl
        rw [u_seq, u_sfor, u_iseq, u_app, u_cons, u_cons, v0, v6]
        simp only [bnd_ret, u_nil, steps_from_ok hb, noexc_ret, seqD_lst, lift_some]
        rw [e1]
        rfl
      rw [List.map_cons]
      unfold forL
      rw [show Gt.name 6 (.int l) (wEnv (bu n cs) b e K layer later x y z) = some (wEnv (bu n cs) b e K layer later (some (.int l)) y z) from rfl, lift_some, bnd_ret, st, bnd_ret]
      rw [← List.append_assoc, keys_app, ← List.append_assoc]
      exact e2
    · rw [← List.append_assoc]
      rcases List.mem_cons.mp q with q | q
      · subst q
        rw [keys_app]; exact List.mem_append_left _ (m1 i m (steps_mem.mpr s))
      · exact m2 l' q i m s
end K09
end G
end L2
end V12_
section V13_
set_option Elab.async false
set_option linter.all false
set_option maxRecDepth 100000
set_option maxHeartbeats 2000000
namespace L2
namespace G
namespace K09
open PySem PySem.Spec PyProof.Rows
def wEnv0 (bd : D) (b e : Int) (K : KN) (layer : List Int) (la x y z : Option D) : Env := [some bd, some (.int b), some (.int e), some (knD K), some (li layer), la, x, y, z]
def wTest : Env → M Bool := T.val (E.op2 neD (E.var 4) (E.lst A.nil))
def wBody : SD := S.seq (S.set 5 (E.lst A.nil)) (S.seq (S.for_ (I.seq (E.var 4)) (Gt.name 6) mBody) (S.seq (S.set 4 (E.blt listD (A.cons (E.var 5) A.nil))) S.nil))
theorem wTest_ok {bd : D} {b e : Int} {K : KN} {layer : List Int} {la x y z : Option D} : wTest (wEnv0 bd b e K layer la x y z) = ret (!decide (layer = [])) := by
  have : neD (li layer) (.lst []) = some (.bl (!decide (layer = []))) := by
    have : D.eq (li layer) (D.lst []) = decide (layer = []) := eq_li layer []
    have o1 : D.okd 60 (li layer) = true := okd_li 59 layer
    have o2 : D.okd 60 (D.lst []) = true := rfl
    unfold neD
    rw [o1, o2, this]
    rfl
  unfold wTest wEnv0
  simp only [u_val, u_op2, u_lst, u_nil, u_var0, u_varS, bnd_ret, this, lift_some]
theorem wLoop {n : Int} {cs : List (List Int)} {b e : Int} (hb : BOk n cs) : ∀ (fuel : Nat) (K : KN) (layer : List Int) (la x y z : Option D), WInv n cs b K → (∀ l ∈ layer, l ∈ keys K) → (∀ k ∈ keys K, k ∉ layer → ∀ i m, Stp cs k i m → m ∈ keys K) → (layer ≠ [] → 16 ≤ fuel + K.length) → 1 ≤ fuel →
    ∃ (K' : KN) (la' x' y' z' : Option D), whileN wTest wBody fuel (wEnv0 (bu n cs) b e K layer la x y z) = ret (.next, wEnv0 (bu n cs) b e K' [] la' x' y' z') ∧ WInv n cs b K' ∧ ∀ k ∈ keys K', ∀ i m, Stp cs k i m → m ∈ keys K'
  | 0, _, _, _, _, _, _, _, _, _, _, h1 => by omega
  | f + 1, K, layer, la, x, y, z, h, hl, hc, hf, _ => by
    unfold whileN
    rw [wTest_ok, bnd_ret]
    by_cases e0 : layer = []
    · subst e0
      refine ⟨K, la, x, y, z, ?_, h, fun k hk => hc k hk (by simp)⟩
      rw [decide_eq_true rfl]
      rfl
    · rw [decide_eq_false e0, Bool.not_false, if_pos rfl]
      have hs := h.size hb.hi
      have hf := hf e0
      obtain ⟨X, x1, y1, z1, e1, i1, m1⟩ := mLoop (e := e) (layer := layer) hb layer K [] x y z h hl (by simp)
      rw [List.nil_append] at e1
      have st : wBody (wEnv0 (bu n cs) b e K layer la x y z) = ret (.next, wEnv0 (bu n cs) b e (K ++ X) (keys X) (some (li (keys X))) x1 y1 z1) := by
        unfold wBody
        rw [u_seq, u_sset, u_lst, u_nil, bnd_ret, bnd_ret, bnd_ret]
        dsimp only
        rw [show (List.set (wEnv0 (bu n cs) b e K layer la x y z) 5 (some (.lst [])) : Env) = wEnv (bu n cs) b e K layer [] x y z from rfl]
        rw [u_seq, u_sfor, u_iseq, show E.var 4 (wEnv (bu n cs) b e K layer [] x y z) = ret (li layer) from rfl, bnd_ret, seqD_lst, lift_some, bnd_ret, e1, bnd_ret]
        rfl
      rw [st, bnd_ret]
      dsimp only
      have s2 := i1.size hb.hi
      rw [List.length_append] at s2
      obtain ⟨K', la', x', y', z', e2, i2, c2⟩ := wLoop (e := e) hb f (K ++ X) (keys X) (some (li (keys X))) x1 y1 z1 i1 (fun l hl => by rw [keys_app]; exact List.mem_append_right _ hl) (fun k hk nk i m s => by
          rw [keys_app] at hk
          rcases List.mem_append.mp hk with hk | hk
          · by_cases q : k ∈ layer
            · exact m1 k q i m s
            · rw [keys_app]; exact List.mem_append_left _ (hc k hk q i m s)
          · exact absurd hk nk) (fun ne => by
          rw [List.length_append]
          have : 0 < X.length := by
            cases X with
            | nil => exact absurd rfl ne
            | cons _ _ => simp
          omega) (by omega)
      exact ⟨K', la', x', y', z', e2, i2, c2⟩
def optP : Option (List (Int × Nat)) → D
  | none => .non
  | some p => pathD p
theorem way_to_ok {n : Int} {cs : List (List Int)} (hb : BOk n cs) {b : Int} (lb : litOk n b = true) (e : Int) :
    ∃ o, φ_way_to [bu n cs, .int b, .int e] = ret (optP o) ∧ (∀ p, o = some p → Way cs b p e ∧ p.length < 14) ∧ (o = none → ¬ Rch cs b e) := by
  have i0 : WInv n cs b [(b, [])] := ⟨fun k p h => by simp at h; obtain ⟨rfl, rfl⟩ := h; exact .nil, fun k h => by simp [keys] at h; subst h; exact lb, by simp [keys], by simp [keys], fun k p h => by simp at h; obtain ⟨rfl, rfl⟩ := h; simp⟩
  obtain ⟨K, la, x, y, z, e1, i1, c1⟩ := wLoop (e := e) hb 40 [(b, [])] [b] none none none none i0 (fun l hl => by simpa [keys] using hl) (fun k hk nk => absurd (by simpa [keys] using hk) nk) (fun _ => by omega) (by omega)
  refine ⟨look K e, ?_, fun p hp => ?_, fun hn r => ?_⟩
  · unfold φ_way_to d_way_to
    rw [fn3]
    have p1 : E.disp1 (E.var 1) (E.lst A.nil) (some (bu n cs) :: some (.int b) :: some (.int e) :: List.replicate 6 none) = ret (knD [(b, [])]) := rfl
    have p2 : E.lst (A.cons (E.var 1) A.nil) (some (bu n cs) :: some (.int b) :: some (.int e) :: List.replicate 6 none) = ret (li [b]) := rfl
    rw [u_seq, u_spar, p1, bnd_ret, p2, bnd_ret, bnd_ret]
    dsimp only
    rw [show (List.set (List.set (some (bu n cs) :: some (.int b) :: some (.int e) :: List.replicate 6 none) 3 (some (knD [(b, [])]))) 4 (some (li [b])) : Env) = wEnv0 (bu n cs) b e [(b, [])] [b] none none none none from rfl]
    rw [u_seq]
    show fnM (bnd (whileN wTest wBody 40 _) _) = _
    rw [e1, bnd_ret]
    dsimp only
    have dg : E.dget1 (E.var 3) (E.var 2) (wEnv0 (bu n cs) b e K [] la x y z) = ret (optP (look K e)) := by
      unfold E.dget1
      rw [show E.var 3 (wEnv0 (bu n cs) b e K [] la x y z) = ret (knD K) from rfl, bnd_ret, show E.var 2 (wEnv0 (bu n cs) b e K [] la x y z) = ret (.int e) from rfl, bnd_ret]
      rw [if_pos (show isDctB (knD K) = true from rfl)]
      unfold getD1
      rw [dget_kn]
      cases look K e <;> rfl
    rw [u_seq, u_sret, dg]
    rfl
  · have hm := look_mem hp
    have := i1.len _ _ hm
    have := i1.size hb.hi
    exact ⟨i1.way _ _ hm, by omega⟩
  · have : e ∈ keys K := by
      have : ∀ p m, Way cs b p m → m ∈ keys K := by
        intro p m w
        induction w with
        | nil => exact i1.beg
        | snoc _ s ih => exact c1 _ ih _ _ s
      obtain ⟨p, w⟩ := r
      exact this p e w
    have q := look_some (K := K) (m := e)
    rw [hn, decide_eq_true this] at q
    cases q
end K09
end G
end L2
end V13_
section V14_
set_option Elab.async false
set_option linter.all false
set_option maxRecDepth 100000
set_option maxHeartbeats 2000000
namespace L2
namespace G
namespace K09
open PySem PySem.Spec PyProof.Rows
/-! ### rings -/
def Ch (cs : List (List Int)) (e : Int) : List (Int × Nat) → Prop
  | [] => True
  | [q] => Stp cs q.1 q.2 e
  | q :: q' :: r => Stp cs q.1 q.2 q'.1 ∧ Ch cs e (q' :: r)
theorem Ch.app {cs : List (List Int)} {e : Int} {q : Int × Nat} {r : List (Int × Nat)} : ∀ {p : List (Int × Nat)}, Ch cs q.1 p → Ch cs e (q :: r) → Ch cs e (p ++ q :: r)
  | [], _, k => k
  | [_], h, k => ⟨h, k⟩
  | _ :: _ :: p, h, k => ⟨h.1, Ch.app (p := _ :: p) h.2 k⟩
theorem Way.ch {cs : List (List Int)} {b e : Int} {p : List (Int × Nat)} (w : Way cs b p e) : Ch cs e p := by
  induction w with
  | nil => trivial
  | snoc _ s ih => exact Ch.app (q := (_, _)) ih s
theorem Way.hd {cs : List (List Int)} {b e : Int} {p : List (Int × Nat)} (w : Way cs b p e) : (p = [] ∧ b = e) ∨ ∃ i r, p = (b, i) :: r := by
  induction w with
  | nil => exact .inl ⟨rfl, rfl⟩
  | snoc _ _ ih =>
    rcases ih with ⟨rfl, rfl⟩ | ⟨i, r, rfl⟩
    · exact .inr ⟨_, [], rfl⟩
    · exact .inr ⟨i, _, rfl⟩
theorem Ch.zip {cs : List (List Int)} {e : Int} {k : Nat} : ∀ {q : Int × Nat} {r : List (Int × Nat)}, Ch cs e (q :: r) → ∀ pr ∈ (q :: r).zip (r ++ [(e, k)]), Stp cs pr.1.1 pr.1.2 pr.2.1
  | q, [], h, pr, hp => by simp at hp; subst hp; exact h
  | q, q' :: r, h, pr, hp => by
    rw [List.cons_append, List.zip_cons_cons] at hp
    rcases List.mem_cons.mp hp with rfl | hp
    · exact h.1
    · exact Ch.zip h.2 pr hp
/-- a ring: the first step, the others -/
structure RingOk (n : Int) (cs : List (List Int)) (q : Int × Nat) (r : List (Int × Nat)) : Prop where
  ch : Ch cs q.1 (q :: r)
  con : ∃ i, (-q.1, i) ∈ q :: r
  len : (q :: r).length ≤ 28
  two : 2 ≤ (q :: r).length
theorem ring_of {n : Int} {cs : List (List Int)} {x : Int} (h1 : 1 ≤ x) {p1 p2 : List (Int × Nat)} (w1 : Way cs x p1 (-x)) (w2 : Way cs (-x) p2 x) (l1 : p1.length < 14) (l2 : p2.length < 14) : ∃ q r, p1 ++ p2 = q :: r ∧ RingOk n cs q r := by
  rcases w1.hd with ⟨_, e⟩ | ⟨i, r1, e1⟩
  · omega
  rcases w2.hd with ⟨_, e⟩ | ⟨j, r2, e2⟩
  · omega
  have c1 := w1.ch
  have c2 := w2.ch
  subst e1 e2
  refine ⟨(x, i), r1 ++ (-x, j) :: r2, rfl, ⟨Ch.app (q := (-x, j)) (p := (x, i) :: r1) c1 c2, ⟨j, by simp⟩, ?_, ?_⟩⟩
  · simp only [List.length_cons, List.length_append] at *; omega
  · simp only [List.length_cons, List.length_append]; omega
theorem RingOk.stp {n : Int} {cs : List (List Int)} {q : Int × Nat} {r : List (Int × Nat)} (h : RingOk n cs q r) : ∀ pr ∈ (q :: r).zip (r ++ [q]), Stp cs pr.1.1 pr.1.2 pr.2.1 := fun pr hp => Ch.zip (k := q.2) h.ch pr hp
theorem RingOk.at {n : Int} {cs : List (List Int)} {q : Int × Nat} {r : List (Int × Nat)} (h : RingOk n cs q r) {a : Int × Nat} (ha : a ∈ q :: r) : ∃ m, Stp cs a.1 a.2 m := by
  obtain ⟨j, hj, e⟩ := List.getElem_of_mem ha
  have hz : j < ((q :: r).zip (r ++ [q])).length := by rw [List.length_zip]; simp at *; omega
  have := h.stp _ (List.getElem_mem hz)
  rw [List.getElem_zip] at this
  dsimp only at this
  rw [e] at this
  exact ⟨_, this⟩
/-! ### ring_in -/
theorem optP_is (o : Option (List (Int × Nat))) : isNotD2 (optP o) .non = some (.bl o.isSome) := by cases o <;> rfl
def rnEnv (bd : D) (x a b : Option D) : Env := [some bd, x, a, b]
def rnBody : SD := S.seq (S.par 2 3 (E.app φ_way_to (A.cons (E.var 0) (A.cons (E.var 1) (A.cons (E.op2 subD (E.cst (.int 0)) (E.var 1)) A.nil)))) (E.app φ_way_to (A.cons (E.var 0) (A.cons (E.op2 subD (E.cst (.int 0)) (E.var 1)) (A.cons (E.var 1) A.nil)))))
    (S.seq (S.ite (T.and (T.val (E.op2 isNotD2 (E.var 2) (E.cst .non))) (T.val (E.op2 isNotD2 (E.var 3) (E.cst .non))))
    (S.seq (S.ret (E.blt tupleD (A.cons (E.op2 addD (E.var 2) (E.var 3)) A.nil)))
    S.nil)
    S.nil)
    S.nil)
theorem rnLoop {n : Int} {cs : List (List Int)} (hb : BOk n cs) : ∀ (ls : List Int) (x a b : Option D), (∀ l ∈ ls, 1 ≤ l ∧ l ≤ n) →
    (∃ q r ρ, forL (Gt.name 1) rnBody (ls.map .int) (rnEnv (bu n cs) x a b) = ret (.ret (.tup ((q :: r).map qD)), ρ) ∧ RingOk n cs q r) ∨
    ((∃ x' a' b', forL (Gt.name 1) rnBody (ls.map .int) (rnEnv (bu n cs) x a b) = ret (.next, rnEnv (bu n cs) x' a' b')) ∧ ∀ l ∈ ls, ¬ (Rch cs l (-l) ∧ Rch cs (-l) l))
  | [], x, a, b, _ => .inr ⟨⟨x, a, b, rfl⟩, fun l h => by cases h⟩
  | l :: ls, x, a, b, h => by
    obtain ⟨h1, h2⟩ := h l (.head _)
    have ll : litOk n l = true := by unfold litOk nameOf; rw [if_neg (by omega)]; simp; omega
    have ln : litOk n (0 - l) = true := by unfold litOk nameOf; rw [if_pos (by omega)]; simp; omega
    obtain ⟨o1, e1, p1, n1⟩ := way_to_ok hb ll (0 - l)
    obtain ⟨o2, e2, p2, n2⟩ := way_to_ok hb ln l
    have s0 : subD (.int 0) (.int l) = some (.int (0 - l)) := rfl
    rw [List.map_cons]
    unfold forL
    rw [show Gt.name 1 (.int l) (rnEnv (bu n cs) x a b) = some (rnEnv (bu n cs) (some (.int l)) a b) from rfl, lift_some, bnd_ret]
    have pr : S.par 2 3 (E.app φ_way_to (A.cons (E.var 0) (A.cons (E.var 1) (A.cons (E.op2 subD (E.cst (.int 0)) (E.var 1)) A.nil)))) (E.app φ_way_to (A.cons (E.var 0) (A.cons (E.op2 subD (E.cst (.int 0)) (E.var 1)) (A.cons (E.var 1) A.nil)))) (rnEnv (bu n cs) (some (.int l)) a b) = ret (.next, rnEnv (bu n cs) (some (.int l)) (some (optP o1)) (some (optP o2))) := by
      have v0 : E.var 0 (rnEnv (bu n cs) (some (.int l)) a b) = ret (bu n cs) := rfl
      have v1 : E.var 1 (rnEnv (bu n cs) (some (.int l)) a b) = ret (.int l) := rfl
      simp only [u_spar, u_app, u_cons, u_nil, u_op2, u_cst, v0, v1, bnd_ret, s0, lift_some, e1, e2, noexc_ret]
      rfl
    have tt : T.and (T.val (E.op2 isNotD2 (E.var 2) (E.cst .non))) (T.val (E.op2 isNotD2 (E.var 3) (E.cst .non))) (rnEnv (bu n cs) (some (.int l)) (some (optP o1)) (some (optP o2))) = ret (o1.isSome && o2.isSome) := by
      have v2 : E.var 2 (rnEnv (bu n cs) (some (.int l)) (some (optP o1)) (some (optP o2))) = ret (optP o1) := rfl
      have v3 : E.var 3 (rnEnv (bu n cs) (some (.int l)) (some (optP o1)) (some (optP o2))) = ret (optP o2) := rfl
      simp only [u_tand, u_val, u_op2, u_cst, v2, v3, bnd_ret, optP_is, lift_some]
      cases o1.isSome <;> simp
    by_cases hq : (o1.isSome && o2.isSome) = true
    · left
      rw [Bool.and_eq_true] at hq
      obtain ⟨q1, hq1⟩ := Option.isSome_iff_exists.mp hq.1
      obtain ⟨q2, hq2⟩ := Option.isSome_iff_exists.mp hq.2
      subst hq1 hq2
      obtain ⟨w1, l1⟩ := p1 q1 rfl
      obtain ⟨w2, l2⟩ := p2 q2 rfl
      rw [Int.zero_sub] at w1 w2
      obtain ⟨q, r, eq, ok⟩ := ring_of (n := n) h1 w1 w2 l1 l2
      refine ⟨q, r, rnEnv (bu n cs) (some (.int l)) (some (pathD q1)) (some (pathD q2)), ?_, ok⟩
      unfold rnBody
      rw [u_seq, pr, bnd_ret]
      dsimp only
      rw [u_seq, u_site, tt, bnd_ret]
      have ad : addD (pathD q1) (pathD q2) = some (pathD (q1 ++ q2)) := by
        rw [add_lst (by simp only [List.length_map]; omega), ← List.map_append]
      rw [if_pos (show ((some q1).isSome && (some q2).isSome) = true from rfl), u_seq, u_sret, u_blt, u_cons, u_op2]
      rw [show E.var 2 (rnEnv (bu n cs) (some (.int l)) (some (optP (some q1))) (some (optP (some q2)))) = ret (pathD q1) from rfl, show E.var 3 (rnEnv (bu n cs) (some (.int l)) (some (optP (some q1))) (some (optP (some q2)))) = ret (pathD q2) from rfl]
      simp only [bnd_ret, ad, lift_some, u_nil, tupleD, eq]
      rfl
    · have hn : ¬ (Rch cs l (-l) ∧ Rch cs (-l) l) := fun z => by
        rw [Int.zero_sub] at n1 n2
        cases o1 with
        | none => exact n1 rfl z.1
        | some q1 =>
          cases o2 with
          | none => exact n2 rfl z.2
          | some q2 => exact hq rfl
      have st : rnBody (rnEnv (bu n cs) (some (.int l)) a b) = ret (.next, rnEnv (bu n cs) (some (.int l)) (some (optP o1)) (some (optP o2))) := by
        unfold rnBody
        rw [u_seq, pr, bnd_ret]
        dsimp only
        rw [u_seq, u_site, tt, bnd_ret, if_neg hq]
        rfl
      rw [st, bnd_ret]
      rcases rnLoop hb ls (some (.int l)) (some (optP o1)) (some (optP o2)) fun y hy => h y (.tail _ hy) with ⟨q, r, ρ, e, ok⟩ | ⟨⟨x', a', b', e⟩, k⟩
      · exact .inl ⟨q, r, ρ, e, ok⟩
      · refine .inr ⟨⟨x', a', b', e⟩, fun y hy => ?_⟩
        rcases List.mem_cons.mp hy with rfl | hy
        · exact hn
        · exact k y hy
theorem ring_in_ok {n : Int} {cs : List (List Int)} (hb : BOk n cs) (hp : plain n cs = []) : ∃ q r, φ_ring_in [bu n cs] = ret (.tup ((q :: r).map qD)) ∧ RingOk n cs q r := by
  have rg := rng2_upto hb.lo hb.hi
  unfold φ_ring_in d_ring_in
  rw [fn1, u_seq, u_sfor, u_irange]
  simp only [u_cons, u_cst, u_op2, u_ix, u_var0, bnd_ret, bu0, add_ok, lift_some, u_nil, rg]
  rcases rnLoop hb (upto n) none none none (fun l hl => mem_upto.mp hl) with ⟨q, r, ρ, e, ok⟩ | ⟨_, k⟩
  · refine ⟨q, r, ?_, ok⟩
    show fnM (bnd (forL _ rnBody _ (rnEnv (bu n cs) none none none)) _) = _
    rw [e]
    rfl
  · exact absurd hp (has_plain hb fun x h1 h2 => k x (mem_upto.mpr ⟨h1, h2⟩))
end K09
end G
end L2
end V14_
section V15_
set_option Elab.async false
set_option linter.all false
set_option maxRecDepth 100000
set_option maxHeartbeats 2000000
namespace L2
namespace G
namespace K09
open PySem PySem.Spec PyProof.Rows
/-! ### rings, looked at -/
theorem forL_inv {t : D → Env → Option Env} {b : SD} (Inv : Env → Prop) : ∀ (ds : List D) (ρ : Env), Inv ρ → (∀ d ∈ ds, ∀ ρ, Inv ρ → ∃ ρ1 ρ2, t d ρ = some ρ1 ∧ b ρ1 = ret (.next, ρ2) ∧ Inv ρ2) → ∃ ρ', forL t b ds ρ = ret (.next, ρ') ∧ Inv ρ'
  | [], ρ, h, _ => ⟨ρ, rfl, h⟩
  | d :: ds, ρ, h, k => by
    obtain ⟨ρ1, ρ2, e1, e2, h2⟩ := k d (.head _) ρ h
    obtain ⟨ρ', e3, h3⟩ := forL_inv Inv ds ρ2 h2 fun x hx => k x (.tail _ hx)
    refine ⟨ρ', ?_, h3⟩
    unfold forL
    rw [e1, lift_some, bnd_ret, e2, bnd_ret]
    exact e3
theorem sub0 (x : Int) : subD (.int 0) (.int x) = some (.int (0 - x)) := rfl
theorem ixq0 (q : Int × Nat) : ixD' (qD q) (.int 0) = some (.int q.1) := rfl
theorem ixq1 (q : Int × Nat) : ixD' (qD q) (.int 1) = some (.int q.2) := rfl
theorem stp_lit {n : Int} {cs : List (List Int)} (hb : BOk n cs) {l m : Int} {i : Nat} (s : Stp cs l i m) : litOk n l = true ∧ i < cs.length ∧ ∃ c, cs[i]? = some c ∧ l ∈ c ∧ -m ∈ c ∧ -m ≠ l := by
  obtain ⟨c, h1, h2, h3, h4⟩ := s
  obtain ⟨hi, _⟩ := List.getElem?_eq_some_iff.mp h1
  exact ⟨isCl_lit (hb.cl c (List.mem_of_getElem? h1)) l h2, hi, c, h1, h2, h3, h4⟩
theorem ix_cs {n : Int} {cs : List (List Int)} {i : Nat} {c : List Int} (h : cs[i]? = some c) : ixD' (.tup (cs.map cl)) (.int (i : Nat)) = some (cl c) := ix_tup cl h
theorem is_step_ok {n : Int} {cs : List (List Int)} (hb : BOk n cs) {q : Int × Nat} {m : Int} (s : Stp cs q.1 q.2 m) : φ_is_step [bu n cs, qD q] = ret (.bl true) := by
  obtain ⟨ll, hi, c, h1, h2, _⟩ := stp_lit hb s
  unfold φ_is_step d_is_step
  rw [fn2]
  have t0 : isTup (qD q) = some (.bl true) := rfl
  have l2 : lenD [qD q] = some (.int 2) := rfl
  have n2 : neD (.int 2) (.int 2) = some (.bl false) := rfl
  unfold litOk at ll
  have lc : lenD [.tup (cs.map cl)] = some (.int cs.length) := by simp [lenD]
  have sb : subD (.int cs.length) (.int 1) = some (.int (cs.length - 1)) := rfl
  have b1 : (decide ((0 : Int) ≤ (q.2 : Int)) && decide ((q.2 : Int) ≤ (cs.length : Int) - 1)) = true := by simp; omega
  simp only [u_seq, u_site, u_tor, u_tnot, u_val, u_op1, u_op2, u_blt, u_cons, u_nil, u_app, u_ix, u_cst, u_var0, u_varS, bnd_ret, t0, l2, n2, lift_some, Bool.not_true, Bool.false_eq_true, if_false, bu0, bu1, ixq0, ixq1, is_literal_int, ll, noexc_ret, u_snil, u_sret, u_and, lc, sb, is_between_int, b1, ix_cs (n := n) h1, inD_cl, decide_eq_true h2, fnM_ret]
def rD (r : List (Int × Nat)) : D := .tup (r.map qD)
theorem bools_true {α : Type} (l : List α) : bools (l.map fun _ => D.bl true) = some (l.map fun _ => true) := bools_map (fun _ => true) l
theorem all_true {α : Type} (l : List α) : allD [.lst (l.map fun _ => D.bl true)] = some (.bl true) := by
  show (bools _).map _ = _
  rw [bools_true, Option.map_some]
  congr 2
  rw [List.all_map, List.all_eq_true]
  intro x _; rfl
theorem zip_qD (a b : List (Int × Nat)) : zp [rD a, rD b] = some ((a.zip b).map fun p => .tup [qD p.1, qD p.2]) := by
  show some (zipD (a.map qD) (b.map qD)) = _
  rw [zipD_map]
theorem slice_1 (q : Int × Nat) (r : List (Int × Nat)) : sliceD (rD (q :: r)) (some 1) none = some (rD r) := by
  show some (D.tup (cutD ((q :: r).map qD) (some ((1 : Nat) : Int)) none)) = _
  unfold cutD
  rw [HT.sIx_nat]
  have e : HT.sIx ((q :: r).map qD).length ((q :: r).map qD).length none = ((q :: r).map qD).length := rfl
  rw [e, List.length_map]
  rw [Nat.min_eq_left (by simp)]
  simp only [List.map_cons, List.drop_succ_cons, List.drop_zero, List.length_cons, Nat.add_sub_cancel]
  rw [List.take_of_length_le (by simp)]
  rfl
theorem slice_2 (q : Int × Nat) (r : List (Int × Nat)) : sliceD (rD (q :: r)) none (some 1) = some (rD [q]) := by
  show some (D.tup (cutD ((q :: r).map qD) none (some ((1 : Nat) : Int)))) = _
  unfold cutD
  rw [HT.sIx_nat]
  have e : HT.sIx ((q :: r).map qD).length 0 none = 0 := rfl
  rw [e, List.length_map]
  rw [Nat.min_eq_left (by simp)]
  rfl
def rgEnv (bd th : D) (a b c d e f : Option D) : Env := [some bd, some th, a, b, c, d, e, f]
theorem is_ring_ok {n : Int} {cs : List (List Int)} (hb : BOk n cs) {q : Int × Nat} {r : List (Int × Nat)} (h : RingOk n cs q r) : φ_is_ring [bu n cs, rD (q :: r)] = ret (.bl true) := by
  unfold φ_is_ring d_is_ring
  rw [fn2]
  have t0 : isTup (rD (q :: r)) = some (.bl true) := rfl
  have ll : lenD [rD (q :: r)] = some (.int (q :: r).length) := by simp [lenD, rD]
  have lt : ltD (.int (q :: r).length) (.int 2) = some (.bl false) := by
    show some (D.bl (decide (((q :: r).length : Int) < 2))) = _
    have := h.two
    rw [decide_eq_false (by omega)]
  have c1 := compL_all (ρ := rgEnv (bu n cs) (rD (q :: r)) none none none none none none) (t := Gt.name 7) (e := E.app φ_is_step (A.cons (E.var 0) (A.cons (E.var 7) A.nil))) qD (fun z => rgEnv (bu n cs) (rD (q :: r)) none none none none none (some (qD z))) (fun _ => .bl true) (q :: r) (by
    intro z hz
    obtain ⟨m, s⟩ := h.at hz
    refine ⟨rfl, ?_⟩
    simp only [rgEnv, u_app, u_cons, u_nil, u_var0, u_varS, bnd_ret, is_step_ok hb s, noexc_ret])
  have ca : E.comp (I.seq (E.var 1)) [7] (Gt.name 7) T.yes (E.app φ_is_step (A.cons (E.var 0) (A.cons (E.var 7) A.nil))) (rgEnv (bu n cs) (rD (q :: r)) none none none none none none) = ret (.lst ((q :: r).map fun _ => .bl true)) := by
    rw [u_comp, u_iseq, show E.var 1 (rgEnv (bu n cs) (rD (q :: r)) none none none none none none) = ret (rD (q :: r)) from rfl, bnd_ret, show seqD (rD (q :: r)) = some ((q :: r).map qD) from rfl, lift_some, bnd_ret]
    rw [show wipeD (rgEnv (bu n cs) (rD (q :: r)) none none none none none none) [7] = rgEnv (bu n cs) (rD (q :: r)) none none none none none none from rfl, c1, bnd_ret]
  rw [show (some (bu n cs) :: some (rD (q :: r)) :: List.replicate 6 none : Env) = rgEnv (bu n cs) (rD (q :: r)) none none none none none none from rfl]
  rw [u_seq, u_site]
  have te : T.or (T.not (T.val (E.op1 isTup (E.var 1)))) (T.or (T.val (E.op2 ltD (E.blt lenD (A.cons (E.var 1) A.nil)) (E.cst (.int 2)))) (T.not (T.val (E.blt allD (A.cons (E.comp (I.seq (E.var 1)) [7] (Gt.name 7) T.yes (E.app φ_is_step (A.cons (E.var 0) (A.cons (E.var 7) A.nil)))) A.nil))))) (rgEnv (bu n cs) (rD (q :: r)) none none none none none none) = ret false := by
    have v1 : E.var 1 (rgEnv (bu n cs) (rD (q :: r)) none none none none none none) = ret (rD (q :: r)) := rfl
    rw [u_tor, u_tnot, u_val, u_op1, v1, bnd_ret, t0, lift_some, bnd_ret]
    simp only [bnd_ret, Bool.not_true, Bool.false_eq_true, if_false]
    rw [u_tor, u_val, u_op2, u_blt, u_cons, v1]
    simp only [bnd_ret, u_nil, ll, lift_some, u_cst, lt, Bool.false_eq_true, if_false]
    rw [u_tnot, u_val, u_blt, u_cons, ca]
    simp only [bnd_ret, u_nil, all_true, lift_some, Bool.not_true]
  rw [te, bnd_ret]
  simp only [Bool.false_eq_true, if_false, u_snil, bnd_ret]
  have ad : addD (rD r) (rD [q]) = some (rD (r ++ [q])) := by
    show (if _ then _ else _) = _
    have := h.len
    rw [if_pos (by unfold LIM; simp only [List.length_map, List.length_cons, List.length_nil] at *; omega), ← List.map_append]
    rfl
  obtain ⟨ρ', lp, a, b, c, d, e', f, hρ⟩ := forL_inv (t := Gt.tup 2 (Gt.cons (Gt.tup 2 (Gt.cons (Gt.name 2) (Gt.cons (Gt.name 3) Gt.nil))) (Gt.cons (Gt.tup 2 (Gt.cons (Gt.name 4) (Gt.cons (Gt.name 5) Gt.nil))) Gt.nil))) (b := S.seq (S.ite (T.or (T.val (E.op2 notInD (E.op2 subD (E.cst (.int 0)) (E.var 4)) (E.ix (E.ix (E.var 0) (E.cst (.int 1))) (E.var 3)))) (T.val (E.op2 eqD (E.op2 subD (E.cst (.int 0)) (E.var 4)) (E.var 2)))) (S.seq (S.ret (E.cst (.bl false))) S.nil) S.nil) S.nil)
    (fun ρ => ∃ a b c d e f, ρ = rgEnv (bu n cs) (rD (q :: r)) a b c d e f) (((q :: r).zip (r ++ [q])).map fun p => .tup [qD p.1, qD p.2]) (rgEnv (bu n cs) (rD (q :: r)) none none none none none none) ⟨_, _, _, _, _, _, rfl⟩ (by
    rintro d hd ρ ⟨a, b, c, d', e, f, rfl⟩
    obtain ⟨⟨⟨l, i⟩, ⟨m, j⟩⟩, hp, rfl⟩ := List.mem_map.mp hd
    obtain ⟨_, _, cc, h1, _, h3, h4⟩ := stp_lit hb (h.stp _ hp)
    dsimp only at h1 h3 h4
    refine ⟨rgEnv (bu n cs) (rD (q :: r)) (some (.int l)) (some (.int i)) (some (.int m)) (some (.int j)) e f, rgEnv (bu n cs) (rD (q :: r)) (some (.int l)) (some (.int i)) (some (.int m)) (some (.int j)) e f, rfl, ?_, _, _, _, _, _, _, rfl⟩
    have m1 : 0 - m ∈ cc := by rw [Int.zero_sub]; exact h3
    have m2 : ¬ 0 - m = l := by rw [Int.zero_sub]; exact h4
    simp only [rgEnv, u_seq, u_site, u_tor, u_val, u_op2, u_cst, u_ix, u_var0, u_varS, bnd_ret, sub0, bu1, lift_some, ix_cs (n := n) h1, notInD_cl, decide_eq_true m1, Bool.not_true, Bool.false_eq_true, if_false, eq_int', decide_eq_false m2, u_snil])
  subst hρ
  have zz : I.on zp (A.cons (E.var 1) (A.cons (E.op2 addD (E.slice (E.var 1) (E.oSome (E.cst (.int 1))) E.oNone) (E.slice (E.var 1) E.oNone (E.oSome (E.cst (.int 1))))) A.nil)) (rgEnv (bu n cs) (rD (q :: r)) none none none none none none) = ret (((q :: r).zip (r ++ [q])).map fun p => .tup [qD p.1, qD p.2]) := by
    have v1 : E.var 1 (rgEnv (bu n cs) (rD (q :: r)) none none none none none none) = ret (rD (q :: r)) := rfl
    simp only [u_ion, u_cons, u_op2, u_slice, u_oSome, u_oNone, u_cst, u_nil, v1, bnd_ret, slice_1, slice_2, lift_some, ad, zip_qD]
  rw [u_seq, u_sfor, zz, bnd_ret, lp, bnd_ret]
  dsimp only
  have c2 := compL_all (ρ := rgEnv (bu n cs) (rD (q :: r)) a b c d e' none) (t := Gt.name 7) (e := E.ix (E.var 7) (E.cst (.int 0))) qD (fun z => rgEnv (bu n cs) (rD (q :: r)) a b c d e' (some (qD z))) (fun z => .int z.1) (q :: r) (by
    intro z hz
    refine ⟨rfl, ?_⟩
    simp only [rgEnv, u_ix, u_cst, u_var0, u_varS, bnd_ret, ixq0, lift_some])
  have e2 : ((q :: r).map fun z => D.int z.1) = ((q :: r).map (·.1)).map .int := by rw [List.map_map]; rfl
  rw [e2] at c2
  rw [u_seq, u_sset, u_comp, u_iseq, show E.var 1 (rgEnv (bu n cs) (rD (q :: r)) a b c d e' f) = ret (rD (q :: r)) from rfl, bnd_ret, show seqD (rD (q :: r)) = some ((q :: r).map qD) from rfl, lift_some, bnd_ret]
  rw [show wipeD (rgEnv (bu n cs) (rD (q :: r)) a b c d e' f) [7] = rgEnv (bu n cs) (rD (q :: r)) a b c d e' none from rfl, c2]
  simp only [bnd_ret]
  rw [show (List.set (rgEnv (bu n cs) (rD (q :: r)) a b c d e' f) 6 (some (.lst (((q :: r).map (·.1)).map .int))) : Env) = rgEnv (bu n cs) (rD (q :: r)) a b c d (some (li ((q :: r).map (·.1)))) f from rfl]
  generalize hs : (q :: r).map (·.1) = so
  have c3 := compL_all (ρ := rgEnv (bu n cs) (rD (q :: r)) none b c d (some (li so)) f) (t := Gt.name 2) (e := E.op2 inD (E.op2 subD (E.cst (.int 0)) (E.var 2)) (E.var 6)) D.int (fun x => rgEnv (bu n cs) (rD (q :: r)) (some (.int x)) b c d (some (li so)) f) (fun x => .bl (decide (0 - x ∈ so))) so (by
    intro x hx
    refine ⟨rfl, ?_⟩
    simp only [rgEnv, u_op2, u_cst, u_var0, u_varS, bnd_ret, sub0, lift_some, inD_li])
  have an : anyD [.lst (so.map fun x => D.bl (decide (0 - x ∈ so)))] = some (.bl true) := by
    show (bools _).map _ = _
    rw [bools_map (fun x => decide (0 - x ∈ so)), Option.map_some]
    congr 2
    rw [List.any_map, List.any_eq_true]
    obtain ⟨i, hi⟩ := h.con
    refine ⟨q.1, by rw [← hs]; simp, ?_⟩
    simp only [Function.comp, id, decide_eq_true_eq]
    rw [Int.zero_sub, ← hs]
    exact List.mem_map.mpr ⟨_, hi, rfl⟩
  rw [u_seq, u_sret, u_blt, u_cons, u_comp, u_iseq, show E.var 6 (rgEnv (bu n cs) (rD (q :: r)) a b c d (some (li so)) f) = ret (li so) from rfl, bnd_ret, seqD_lst, lift_some, bnd_ret]
  rw [show wipeD (rgEnv (bu n cs) (rD (q :: r)) a b c d (some (li so)) f) [2] = rgEnv (bu n cs) (rD (q :: r)) none b c d (some (li so)) f from rfl, c3]
  simp only [bnd_ret, u_nil, an, lift_some, fnM_ret]
end K09
end G
end L2
end V15_
section V16_
set_option Elab.async false
set_option linter.all false
set_option maxRecDepth 100000
set_option maxHeartbeats 2000000
namespace L2
namespace G
namespace K09
open PySem PySem.Spec PyProof.Rows
def lrEnv (bd th : D) (a b c d e : Option D) : Env := [some bd, some th, a, b, c, d, e]
theorem enm_q (r : List (Int × Nat)) : enm [rD r] = some ((r.zipIdx).map fun p => .tup [.int p.2, qD p.1]) := by
  show (seqD (rD r)).map (enumD 0) = _
  have := enumD_map qD r 0
  show some (enumD 0 (r.map qD)) = _
  rw [show (0 : Int) = ((0 : Nat) : Int) from rfl, this]
theorem mod_next {k n : Nat} (h : k < n) : modD (.int ((k : Int) + 1)) (.int (n : Int)) = some (.int (((k + 1) % n : Nat) : Int)) := by
  show (if (0 : Int) < (n : Int) then some (D.int (((k : Int) + 1) % (n : Int))) else none) = _
  rw [if_pos (by omega)]
  congr 2
theorem law_is_ring_ok {n : Int} {cs : List (List Int)} (hb : BOk n cs) {q : Int × Nat} {r : List (Int × Nat)} (h : RingOk n cs q r) : φ_law_is_ring [bu n cs, rD (q :: r)] = ret (.bl true) := by
  unfold φ_law_is_ring d_law_is_ring
  rw [fn2]
  have t0 : isTup (rD (q :: r)) = some (.bl true) := rfl
  have ll : lenD [rD (q :: r)] = some (.int (q :: r).length) := by simp [lenD, rD]
  have lt : ltD (.int (q :: r).length) (.int 2) = some (.bl false) := by
    show some (D.bl (decide (((q :: r).length : Int) < 2))) = _
    have := h.two
    rw [decide_eq_false (by omega)]
  rw [show (some (bu n cs) :: some (rD (q :: r)) :: List.replicate 5 none : Env) = lrEnv (bu n cs) (rD (q :: r)) none none none none none from rfl]
  have v1 : ∀ a b c d e, E.var 1 (lrEnv (bu n cs) (rD (q :: r)) a b c d e) = ret (rD (q :: r)) := fun _ _ _ _ _ => rfl
  rw [u_seq, u_site]
  have te : T.or (T.not (T.val (E.op1 isTup (E.var 1)))) (T.val (E.op2 ltD (E.blt lenD (A.cons (E.var 1) A.nil)) (E.cst (.int 2)))) (lrEnv (bu n cs) (rD (q :: r)) none none none none none) = ret false := by
    simp only [u_tor, u_tnot, u_val, u_op1, u_op2, u_blt, u_cons, u_nil, u_cst, v1, bnd_ret, t0, lift_some, Bool.not_true, Bool.false_eq_true, if_false, ll, lt]
  rw [te, bnd_ret]
  simp only [Bool.false_eq_true, if_false, u_snil, bnd_ret]
  have lc : lenD [.tup (cs.map cl)] = some (.int cs.length) := by simp [lenD]
  obtain ⟨ρ1, lp1, a1, b1, c1, d1, e1, hρ1⟩ := forL_inv (t := Gt.name 2) (b := S.seq (S.ite (T.or (T.not (T.val (E.op1 isTup (E.var 2)))) (T.or (T.val (E.op2 neD (E.blt lenD (A.cons (E.var 2) A.nil)) (E.cst (.int 2)))) (T.not (T.val (E.app φ_law_is_int (A.cons (E.ix (E.var 2) (E.cst (.int 0))) (A.cons (E.op2 subD (E.cst (.int 0)) (E.ix (E.var 0) (E.cst (.int 0)))) (A.cons (E.ix (E.var 0) (E.cst (.int 0))) A.nil)))))))) (S.seq (S.ret (E.cst (.bl false))) S.nil) S.nil)
    (S.seq (S.ite (T.or (T.not (T.val (E.app φ_law_is_int (A.cons (E.ix (E.var 2) (E.cst (.int 1))) (A.cons (E.cst (.int 0)) (A.cons (E.op2 subD (E.blt lenD (A.cons (E.ix (E.var 0) (E.cst (.int 1))) A.nil)) (E.cst (.int 1))) A.nil)))))) (T.val (E.op2 notInD (E.ix (E.var 2) (E.cst (.int 0))) (E.ix (E.ix (E.var 0) (E.cst (.int 1))) (E.ix (E.var 2) (E.cst (.int 1))))))) (S.seq (S.ret (E.cst (.bl false))) S.nil) S.nil) S.nil))
    (fun ρ => ∃ a b c d e, ρ = lrEnv (bu n cs) (rD (q :: r)) a b c d e) ((q :: r).map qD) (lrEnv (bu n cs) (rD (q :: r)) none none none none none) ⟨_, _, _, _, _, rfl⟩ (by
    rintro d hd ρ ⟨a, b, c, d', e, rfl⟩
    obtain ⟨z, hz, rfl⟩ := List.mem_map.mp hd
    obtain ⟨m, s⟩ := h.at hz
    obtain ⟨lo, hi, cc, h1, h2, _⟩ := stp_lit hb s
    refine ⟨lrEnv (bu n cs) (rD (q :: r)) (some (qD z)) b c d' e, lrEnv (bu n cs) (rD (q :: r)) (some (qD z)) b c d' e, rfl, ?_, _, _, _, _, _, rfl⟩
    have tz : isTup (qD z) = some (.bl true) := rfl
    have l2 : lenD [qD z] = some (.int 2) := rfl
    have n2 : neD (.int 2) (.int 2) = some (.bl false) := rfl
    have sn : subD (.int 0) (.int n) = some (.int (0 - n)) := rfl
    have sb : subD (.int cs.length) (.int 1) = some (.int (cs.length - 1)) := rfl
    unfold litOk nameOf at lo
    rw [Bool.and_eq_true, decide_eq_true_eq, decide_eq_true_eq] at lo
    have g1 : (decide (0 - n ≤ z.1) && decide (z.1 ≤ n)) = true := by
      rw [Bool.and_eq_true, decide_eq_true_eq, decide_eq_true_eq]
      split at lo <;> omega
    have g2 : (decide ((0 : Int) ≤ (z.2 : Int)) && decide ((z.2 : Int) ≤ (cs.length : Int) - 1)) = true := by simp; omega
    simp only [lrEnv, u_seq, u_site, u_tor, u_tnot, u_val, u_op1, u_op2, u_blt, u_cons, u_nil, u_app, u_ix, u_cst, u_var0, u_varS, bnd_ret, tz, l2, n2, lift_some, Bool.not_true, Bool.false_eq_true, if_false, bu0, bu1, ixq0, ixq1, sn, law_is_int_ok, g1, noexc_ret, u_snil, lc, sb, g2, ix_cs (n := n) h1, notInD_cl, decide_eq_true h2])
  subst hρ1
  rw [u_seq, u_sfor, u_iseq, v1, bnd_ret, show seqD (rD (q :: r)) = some ((q :: r).map qD) from rfl, lift_some, bnd_ret, lp1, bnd_ret]
  dsimp only
  obtain ⟨ρ2, lp2, a2, b2, c2, d2, e2, hρ2⟩ := forL_inv (t := Gt.tup 2 (Gt.cons (Gt.name 3) (Gt.cons (Gt.name 2) Gt.nil))) (b := S.seq (S.set 4 (E.ix (E.ix (E.var 1) (E.op2 modD (E.op2 addD (E.var 3) (E.cst (.int 1))) (E.blt lenD (A.cons (E.var 1) A.nil)))) (E.cst (.int 0))))
    (S.seq (S.ite (T.or (T.val (E.op2 notInD (E.op2 subD (E.cst (.int 0)) (E.var 4)) (E.ix (E.ix (E.var 0) (E.cst (.int 1))) (E.ix (E.var 2) (E.cst (.int 1)))))) (T.val (E.op2 eqD (E.op2 subD (E.cst (.int 0)) (E.var 4)) (E.ix (E.var 2) (E.cst (.int 0)))))) (S.seq (S.ret (E.cst (.bl false))) S.nil) S.nil) S.nil))
    (fun ρ => ∃ a b c d e, ρ = lrEnv (bu n cs) (rD (q :: r)) a b c d e) (((q :: r).zipIdx).map fun p => .tup [.int p.2, qD p.1]) (lrEnv (bu n cs) (rD (q :: r)) a1 b1 c1 d1 e1) ⟨_, _, _, _, _, rfl⟩ (by
    rintro d hd ρ ⟨a, b, c, d', e, rfl⟩
    obtain ⟨⟨z, k⟩, hz, rfl⟩ := List.mem_map.mp hd
    have hz := (mem_zipIdx' hz).2
    rw [Nat.sub_zero] at hz
    obtain ⟨hk, ek⟩ := List.getElem?_eq_some_iff.mp hz
    have hk2 : k < (r ++ [q]).length := by rw [List.length_append, List.length_singleton]; rw [List.length_cons] at hk; exact hk
    have hzz : k < ((q :: r).zip (r ++ [q])).length := by rw [List.length_zip]; omega
    have s := h.stp _ (List.getElem_mem hzz)
    rw [List.getElem_zip] at s
    dsimp only at s
    rw [ek] at s
    have nx : (q :: r)[(k + 1) % (q :: r).length]? = some (r ++ [q])[k] := by
      by_cases hl : k + 1 < (q :: r).length
      · rw [Nat.mod_eq_of_lt hl, List.getElem?_cons_succ, ← List.getElem?_eq_getElem hk2, List.getElem?_append_left (by rw [List.length_cons] at hl; omega)]
      · have : k + 1 = (q :: r).length := by omega
        rw [this, Nat.mod_self, List.getElem?_cons_zero, ← List.getElem?_eq_getElem hk2, List.getElem?_append_right (by rw [List.length_cons] at this; omega)]
        rw [show k - r.length = 0 by rw [List.length_cons] at this; omega]
        rfl
    generalize (r ++ [q])[k] = w at s nx
    obtain ⟨_, _, cc, h1, _, h3, h4⟩ := stp_lit hb s
    refine ⟨lrEnv (bu n cs) (rD (q :: r)) (some (qD z)) (some (.int k)) c d' e, lrEnv (bu n cs) (rD (q :: r)) (some (qD z)) (some (.int k)) (some (.int w.1)) d' e, rfl, ?_, _, _, _, _, _, rfl⟩
    have m1 : 0 - w.1 ∈ cc := by rw [Int.zero_sub]; exact h3
    have m2 : ¬ 0 - w.1 = z.1 := by rw [Int.zero_sub]; exact h4
    have ix1 : ixD' (rD (q :: r)) (.int (((k + 1) % (q :: r).length : Nat) : Int)) = some (qD w) := ix_tup qD nx
    have st : S.set 4 (E.ix (E.ix (E.var 1) (E.op2 modD (E.op2 addD (E.var 3) (E.cst (.int 1))) (E.blt lenD (A.cons (E.var 1) A.nil)))) (E.cst (.int 0))) (lrEnv (bu n cs) (rD (q :: r)) (some (qD z)) (some (.int k)) c d' e) = ret (.next, lrEnv (bu n cs) (rD (q :: r)) (some (qD z)) (some (.int k)) (some (.int w.1)) d' e) := by
      have v3 : E.var 3 (lrEnv (bu n cs) (rD (q :: r)) (some (qD z)) (some (.int k)) c d' e) = ret (.int k) := rfl
      simp only [u_sset, u_ix, u_op2, u_blt, u_cons, u_nil, u_cst, v1, v3, bnd_ret, add_ok, lift_some, ll, mod_next hk, ix1, ixq0]
      rfl
    rw [u_seq, st, bnd_ret]
    dsimp only
    simp only [lrEnv, u_seq, u_site, u_tor, u_val, u_op2, u_cst, u_ix, u_var0, u_varS, bnd_ret, sub0, bu1, lift_some, ixq0, ixq1, ix_cs (n := n) h1, notInD_cl, decide_eq_true m1, Bool.not_true, Bool.false_eq_true, if_false, eq_int', decide_eq_false m2, u_snil])
  subst hρ2
  rw [u_seq, u_sfor, u_ion, u_cons, v1]
  simp only [u_nil, bnd_ret, enm_q, lift_some]
  rw [lp2, bnd_ret]
  dsimp only
  have cc2 := compL_all (ρ := lrEnv (bu n cs) (rD (q :: r)) none b2 c2 d2 e2) (t := Gt.name 2) (e := E.ix (E.var 2) (E.cst (.int 0))) qD (fun z => lrEnv (bu n cs) (rD (q :: r)) (some (qD z)) b2 c2 d2 e2) (fun z => .int z.1) (q :: r) (by
    intro z hz
    refine ⟨rfl, ?_⟩
    simp only [lrEnv, u_ix, u_cst, u_var0, u_varS, bnd_ret, ixq0, lift_some])
  have es : ((q :: r).map fun z => D.int z.1) = ((q :: r).map (·.1)).map .int := by rw [List.map_map]; rfl
  rw [es] at cc2
  rw [u_seq, u_sset, u_comp, u_iseq, v1, bnd_ret, show seqD (rD (q :: r)) = some ((q :: r).map qD) from rfl, lift_some, bnd_ret]
  rw [show wipeD (lrEnv (bu n cs) (rD (q :: r)) a2 b2 c2 d2 e2) [2] = lrEnv (bu n cs) (rD (q :: r)) none b2 c2 d2 e2 from rfl, cc2]
  simp only [bnd_ret]
  rw [show (List.set (lrEnv (bu n cs) (rD (q :: r)) a2 b2 c2 d2 e2) 5 (some (.lst (((q :: r).map (·.1)).map .int))) : Env) = lrEnv (bu n cs) (rD (q :: r)) a2 b2 c2 (some (li ((q :: r).map (·.1)))) e2 from rfl]
  generalize hs : (q :: r).map (·.1) = so
  have c3 := compL_map (ρ := lrEnv (bu n cs) (rD (q :: r)) a2 b2 c2 (some (li so)) none) (t := Gt.name 6) (c := T.val (E.op2 inD (E.op2 subD (E.cst (.int 0)) (E.var 6)) (E.var 5))) (e := E.cst (.int 1)) D.int (fun x => lrEnv (bu n cs) (rD (q :: r)) a2 b2 c2 (some (li so)) (some (.int x))) (fun x => decide (0 - x ∈ so)) (fun _ => .int 1) so (by
    intro x hx
    refine ⟨rfl, ?_, fun _ => rfl⟩
    simp only [lrEnv, u_val, u_op2, u_cst, u_var0, u_varS, bnd_ret, sub0, lift_some, inD_li])
  have ne := ne_ones (so.filter fun x => decide (0 - x ∈ so))
  have nn : (so.filter fun x => decide (0 - x ∈ so)) ≠ [] := by
    obtain ⟨i, hi⟩ := h.con
    intro z
    rw [List.filter_eq_nil_iff] at z
    refine z q.1 (by rw [← hs]; simp) ?_
    rw [decide_eq_true_eq, Int.zero_sub, ← hs]
    exact List.mem_map.mpr ⟨_, hi, rfl⟩
  have nm : ¬ (so.filter fun x => decide (0 - x ∈ so)).map (fun _ => (1 : Int)) = [] := by simpa using nn
  rw [decide_eq_false nm] at ne
  rw [u_seq, u_sret, u_op2, u_comp, u_iseq, show E.var 5 (lrEnv (bu n cs) (rD (q :: r)) a2 b2 c2 (some (li so)) e2) = ret (li so) from rfl, bnd_ret, seqD_lst, lift_some, bnd_ret]
  rw [show wipeD (lrEnv (bu n cs) (rD (q :: r)) a2 b2 c2 (some (li so)) e2) [6] = lrEnv (bu n cs) (rD (q :: r)) a2 b2 c2 (some (li so)) none from rfl, c3]
  simp only [bnd_ret, u_lst, u_nil, ne, lift_some, Bool.not_false, fnM_ret]
end K09
end G
end L2
end V16_
section V17_
set_option Elab.async false
set_option linter.all false
set_option maxRecDepth 100000
set_option maxHeartbeats 2000000
namespace L2
namespace G
namespace K09
open PySem PySem.Spec PyProof.Rows
/-! ### texts of small data -/
structure Sm (n : Nat) (d : D) (w : Nat) : Prop where
  ok : d.okd n = true
  sh : d.py.showable = true
  lv : d.py.leavesShort 8 = true
  wt : d.py.weight ≤ w
theorem small_int {i : Int} (h1 : -7 ≤ i) (h2 : i ≤ 7) : (PyData.showable (.int i) = true ∧ PyData.leavesShort 8 (.int i) = true) ∧ PyData.weight (.int i) ≤ 3 := by
  have : i = -7 ∨ i = -6 ∨ i = -5 ∨ i = -4 ∨ i = -3 ∨ i = -2 ∨ i = -1 ∨ i = 0 ∨ i = 1 ∨ i = 2 ∨ i = 3 ∨ i = 4 ∨ i = 5 ∨ i = 6 ∨ i = 7 := by omega
  rcases this with h | h | h | h | h | h | h | h | h | h | h | h | h | h | h <;> subst h <;> decide +kernel
theorem Sm.int {n : Nat} {i : Int} (h1 : -7 ≤ i) (h2 : i ≤ 7) : Sm n (.int i) 3 := ⟨by simp, (small_int h1 h2).1.1, (small_int h1 h2).1.2, (small_int h1 h2).2⟩
theorem Sm.bl {n : Nat} {b : Bool} : Sm n (.bl b) 0 := by cases b <;> exact ⟨rfl, rfl, rfl, Nat.le_refl _⟩
theorem Sm.non {n : Nat} : Sm n .non 0 := ⟨by simp [D.okd], rfl, rfl, Nat.le_refl _⟩
theorem Sm.le {n : Nat} {d : D} {w v : Nat} (h : Sm n d w) (l : w ≤ v) : Sm n d v := ⟨h.ok, h.sh, h.lv, Nat.le_trans h.wt l⟩
theorem Sm.all {n k : Nat} : ∀ {ds : List D}, (∀ d ∈ ds, Sm n d k) → D.okds n ds = true ∧ PyData.showableAll (D.pys ds) = true ∧ PyData.leavesShortAll 8 (D.pys ds) = true ∧ PyData.weightAll (D.pys ds) ≤ (k + 1) * ds.length
  | [], _ => ⟨rfl, rfl, rfl, by simp [D.pys, PyData.weightAll]⟩
  | d :: ds, h => by
    obtain ⟨a1, a2, a3, a4⟩ := Sm.all fun x hx => h x (.tail _ hx)
    have q := h d (.head _)
    refine ⟨by simp [D.okds, q.ok, a1], by simp [D.pys, PyData.showableAll, q.sh, a2], by simp [D.pys, PyData.leavesShortAll, q.lv, a3], ?_⟩
    simp only [D.pys, PyData.weightAll, List.length_cons, Nat.mul_add, Nat.mul_one]
    have := q.wt
    omega
theorem Sm.tup {n k : Nat} {ds : List D} (h : ∀ d ∈ ds, Sm n d k) : Sm (n + 1) (.tup ds) ((k + 1) * ds.length) := by
  obtain ⟨a1, a2, a3, a4⟩ := Sm.all h
  exact ⟨by simpa [D.okd] using a1, by simpa [D.py, PyData.showable] using a2, by simpa [D.py, PyData.leavesShort] using a3, by simpa [D.py, PyData.weight] using a4⟩
theorem Sm.lst {n k : Nat} {ds : List D} (h : ∀ d ∈ ds, Sm n d k) : Sm (n + 1) (.lst ds) ((k + 1) * ds.length) := by
  obtain ⟨a1, a2, a3, a4⟩ := Sm.all h
  exact ⟨by simpa [D.okd] using a1, by simpa [D.py, PyData.showable] using a2, by simpa [D.py, PyData.leavesShort] using a3, by simpa [D.py, PyData.weight] using a4⟩
theorem Sm.repr {d : D} {w : Nat} (h : Sm 60 d w) (hw : w ≤ 90000) (hs : seqy d = true) : reprD [d] = some (.str d.py.shown) := by
  have l := PyData.shown_le 8 (Nat.le_refl _) d.py h.lv
  have := h.wt
  show (if _ then _ else _) = _
  rw [if_pos]
  rw [hs, h.ok, h.sh]
  simp only [Bool.and_self, Bool.true_and, decide_eq_true_eq]
  omega
theorem Sm.ne {d : D} {w : Nat} (h : Sm 60 d w) : neD d d = some (.bl false) := by
  have lay := D.okd_lay h.ok
  have e : D.eq d d = true := SeqAt.eqv_refl d.py lay.1
  unfold neD
  rw [h.ok, e]
  rfl
theorem neS_same (s : Str) : neS (.str s) (.str s) = some (.bl false) := by simp [neS]
theorem eqS_same (s : Str) : eqS (.str s) (.str s) = some (.bl true) := by simp [eqS]
theorem smCl {k : Nat} {n : Int} (h7 : n ≤ 7) {c : List Int} (h : ∀ x ∈ c, litOk n x = true) (hl : c.length ≤ 7) : Sm (k + 1) (cl c) 28 :=
  (Sm.tup (n := k) (k := 3) (ds := c.map .int) (by
    intro d hd
    obtain ⟨x, hx, rfl⟩ := List.mem_map.mp hd
    have := h x hx
    unfold litOk nameOf at this
    rw [Bool.and_eq_true, decide_eq_true_eq, decide_eq_true_eq] at this
    exact Sm.int (by split at this <;> omega) (by split at this <;> omega))).le (by rw [List.length_map]; omega)
theorem smBu {k : Nat} {n : Int} {cs : List (List Int)} (h : BOk n cs) : Sm (k + 3) (bu n cs) 1000 := by
  have h1 := h.lo
  have h2 := h.hi
  have hl := h.len
  have s0 : Sm (k + 2) (.tup (cs.map cl)) ((28 + 1) * (cs.map cl).length) := Sm.tup (n := k + 1) (k := 28) (ds := cs.map cl) (by
    intro d hd
    obtain ⟨c, hc, rfl⟩ := List.mem_map.mp hd
    exact smCl h.hi (isCl_lit (h.cl c hc)) (cl_len h.hi (h.cl c hc)))
  have s : Sm (k + 2) (.tup (cs.map cl)) 464 := s0.le (by rw [List.length_map]; omega)
  refine (Sm.tup (n := k + 2) (k := 464) (ds := [.int n, .tup (cs.map cl)]) ?_).le (by simp)
  intro d hd
  simp only [List.mem_cons, List.not_mem_nil, or_false] at hd
  rcases hd with rfl | rfl
  · exact (Sm.int (by omega) (by omega)).le (by omega)
  · exact s
theorem lot_sm {k : Nat} {n : Int} (h1 : 1 ≤ n) (h7 : n ≤ 7) {l : List Int} (h : l ∈ lots n) : Sm (k + 1) (cl l) 28 := by
  obtain ⟨q1, q2⟩ := (sub_mem _ _ _).mp h
  refine smCl h7 (fun x hx => ?_) ?_
  · have := q2 x hx
    unfold litOk nameOf
    rw [if_neg (by omega), Bool.and_eq_true, decide_eq_true_eq, decide_eq_true_eq]
    omega
  · have := len_le_of_subset (l' := [1, 2, 3, 4, 5, 6, 7]) (q1.imp fun {a b} (q : a < b) (e : a = b) => by omega) (by
      intro x hx
      have := q2 x hx
      have : x = 1 ∨ x = 2 ∨ x = 3 ∨ x = 4 ∨ x = 5 ∨ x = 6 ∨ x = 7 := by omega
      simpa using this)
    exact this
theorem lots_sm {k : Nat} {n : Int} (h1 : 1 ≤ n) (h7 : n ≤ 7) {ls : List (List Int)} (h : ls.Sublist (lots n)) : Sm (k + 2) (.tup (ls.map cl)) 4000 := by
  have := lots_len h1 h7
  have := h.length_le
  refine (Sm.tup (n := k + 1) (k := 28) (ds := ls.map cl) ?_).le (by rw [List.length_map]; omega)
  intro d hd
  obtain ⟨l, hl, rfl⟩ := List.mem_map.mp hd
  exact lot_sm h1 h7 (h.subset hl)
theorem plain_sub (n : Int) (cs : List (List Int)) : (plain n cs).Sublist (lots n) := List.filter_sublist
theorem first_sm {k : Nat} {n : Int} {cs : List (List Int)} (h : BOk n cs) : Sm (k + 1) (firstD (plain n cs)) 28 := by
  cases e : plain n cs with
  | nil => exact Sm.non.le (by omega)
  | cons x l => exact lot_sm h.lo h.hi ((plain_sub n cs).subset (by rw [e]; exact .head _))
theorem near_sm {k : Nat} {n : Int} {cs : List (List Int)} (h : BOk n cs) : Sm (k + 1) (nearL n cs) 28 := by
  obtain ⟨l, hl, _, e⟩ := near_ok n cs
  rw [e]
  exact lot_sm h.lo h.hi hl
theorem three_repr {n : Int} {cs : List (List Int)} (h : BOk n cs) : reprD [.lst [.tup ((plain n cs).map cl), firstD (plain n cs), nearL n cs]] = some (.str (D.py (.lst [.tup ((plain n cs).map cl), firstD (plain n cs), nearL n cs])).shown) := by
  refine Sm.repr (Sm.lst (n := 59) (k := 4000) ?_) (by simp) rfl
  intro d hd
  simp only [List.mem_cons, List.not_mem_nil, or_false] at hd
  rcases hd with rfl | rfl | rfl
  · exact lots_sm h.lo h.hi (plain_sub n cs)
  · exact (first_sm h).le (by omega)
  · exact (near_sm h).le (by omega)
theorem two_repr {n : Int} {cs : List (List Int)} (h : BOk n cs) (b : Bool) : reprD [.lst [bu n cs, .bl b]] = some (.str (D.py (.lst [bu n cs, .bl b])).shown) := by
  refine Sm.repr (Sm.lst (n := 59) (k := 1000) ?_) (by simp) rfl
  intro d hd
  simp only [List.mem_cons, List.not_mem_nil, or_false] at hd
  rcases hd with rfl | rfl
  · exact smBu h
  · exact Sm.bl.le (by omega)
theorem bu_repr {n : Int} {cs : List (List Int)} (h : BOk n cs) : reprD [bu n cs] = some (.str (D.py (bu n cs)).shown) := Sm.repr (smBu (k := 57) h) (by omega) rfl
end K09
end G
end L2
end V17_
section V18_
set_option Elab.async false
set_option linter.all false
set_option maxRecDepth 100000
set_option maxHeartbeats 2000000
namespace L2
namespace G
namespace K09
open PySem PySem.Spec PyProof.Rows
/-! ### the paper -/
def word (n : Int) (cs : List (List Int)) : D := if (plain n cs).isEmpty then .str "ring" else .str "plain"
theorem ring_sm {k : Nat} {n : Int} {cs : List (List Int)} (hb : BOk n cs) {q : Int × Nat} {r : List (Int × Nat)} (h : RingOk n cs q r) : D.okd (k + 2) (rD (q :: r)) = true := by
  have : ∀ l : List (Int × Nat), D.okds (k + 1) (l.map qD) = true := fun l => by
    induction l with
    | nil => rfl
    | cons a l ih => simp [D.okds, D.okd, ih]
  simpa [rD, D.okd] using this (q :: r)
theorem need_form_ok {x d : D} (hx : x = .str "plain" ∨ x = .str "ring") : φ_need_form [.tup [x, d], .tup [.str "plain", .str "ring"]] = ret .non := by
  have i0 : ∀ (w d : D), ixD' (.tup [w, d]) (.int 0) = some w := fun _ _ => rfl
  have t0 : ∀ w d : D, isTup (.tup [w, d]) = some (.bl true) := fun _ _ => rfl
  have l0 : ∀ w d : D, lenD [.tup [w, d]] = some (.int 2) := fun _ _ => rfl
  have n2 : neD (.int 2) (.int 2) = some (.bl false) := rfl
  have s1 : isStr (.str "plain") = some (.bl true) := rfl
  have s2 : isStr (.str "ring") = some (.bl true) := rfl
  have m1 : notInD (.str "plain") (.tup [.str "plain", .str "ring"]) = some (.bl false) := by kernel_rfl
  have m2 : notInD (.str "ring") (.tup [.str "plain", .str "ring"]) = some (.bl false) := by kernel_rfl
  unfold φ_need_form d_need_form
  rw [fn2]
  rcases hx with rfl | rfl
  · simp only [u_seq, u_site, u_tor, u_tnot, u_val, u_op1, u_op2, u_blt, u_cons, u_nil, u_ix, u_cst, u_var0, u_varS, bnd_ret, t0, l0, i0, n2, s1, m1, lift_some, Bool.not_true, Bool.false_eq_true, if_false, u_snil]
    rfl
  · simp only [u_seq, u_site, u_tor, u_tnot, u_val, u_op1, u_op2, u_blt, u_cons, u_nil, u_ix, u_cst, u_var0, u_varS, bnd_ret, t0, l0, i0, n2, s2, m2, lift_some, Bool.not_true, Bool.false_eq_true, if_false, u_snil]
    rfl
theorem ne_of_ok {d : D} (h : d.okd 60 = true) : neD d d = some (.bl false) := by
  have lay := D.okd_lay h
  have e : D.eq d d = true := SeqAt.eqv_refl d.py lay.1
  unfold neD
  rw [h, e]
  rfl
theorem paper_ok {n : Int} {cs : List (List Int)} (hb : BOk n cs) : ∃ s, φ_reading_paper [bu n cs] = ret s ∧ φ_law_due [bu n cs, s] = ret (.lst [word n cs]) ∧ φ_check_reading [bu n cs, s] = ret (word n cs) ∧ neD s s = some (.bl false) := by
  have rp : ∀ s, (if (!(plain n cs).isEmpty) = true then E.tup (A.cons (E.cst (.str "plain")) (A.cons (E.ix (E.var 1) (E.cst (.int 0))) A.nil)) [some (bu n cs), some (.lst ((plain n cs).map cl))] else E.tup (A.cons (E.cst (.str "ring")) (A.cons (E.app φ_ring_in (A.cons (E.var 0) A.nil)) A.nil)) [some (bu n cs), some (.lst ((plain n cs).map cl))]) = ret s → φ_reading_paper [bu n cs] = ret s := fun s hs => by
    unfold φ_reading_paper d_reading_paper
    rw [fn1]
    rw [u_seq, u_sset]
    simp only [u_app, u_cons, u_var0, u_nil, bnd_ret, need_bundle_ok hb, noexc_ret, plain_in_ok hb.lo hb.hi]
    rw [show (List.set (some (bu n cs) :: List.replicate 1 none) 1 (some (.lst ((plain n cs).map cl))) : Env) = [some (bu n cs), some (.lst ((plain n cs).map cl))] from rfl]
    rw [u_seq, u_sret, u_ifx, u_val, u_op2]
    simp only [u_lst, u_nil, u_varS, u_var0, bnd_ret, ne_lst_nil, lift_some]
    rw [hs]
    rfl
  have i0 : ∀ (w d : D), ixD' (.tup [w, d]) (.int 0) = some w := fun _ _ => rfl
  have i1 : ∀ (w d : D), ixD' (.tup [w, d]) (.int 1) = some d := fun _ _ => rfl
  have t0 : ∀ w d : D, isTup (.tup [w, d]) = some (.bl true) := fun _ _ => rfl
  have l0 : ∀ w d : D, lenD [.tup [w, d]] = some (.int 2) := fun _ _ => rfl
  have n2 : neD (.int 2) (.int 2) = some (.bl false) := rfl
  have s1 : isStr (.str "plain") = some (.bl true) := rfl
  have s2 : isStr (.str "ring") = some (.bl true) := rfl
  have m1 : notInD (.str "plain") (.tup [.str "plain", .str "ring"]) = some (.bl false) := by kernel_rfl
  have m2 : notInD (.str "ring") (.tup [.str "plain", .str "ring"]) = some (.bl false) := by kernel_rfl
  have q1 : eqD (.str "plain") (.str "plain") = some (.bl true) := by kernel_rfl
  have q2 : eqD (.str "ring") (.str "plain") = some (.bl false) := by kernel_rfl
  cases hp : plain n cs with
  | nil =>
    obtain ⟨q, r, e, ok⟩ := ring_in_ok hb hp
    have hw : word n cs = .str "ring" := by unfold word; rw [hp]; rfl
    refine ⟨.tup [.str "ring", rD (q :: r)], rp _ ?_, ?_, ?_, ?_⟩
    · rw [hp]
      rw [if_neg (by simp), u_tup, u_cons, u_cons, u_app, u_cons]
      simp only [u_cst, u_nil, u_var0, bnd_ret, e, noexc_ret]
      rfl
    · unfold φ_law_due d_law_due
      rw [fn2, hw]
      simp only [u_seq, u_site, u_tor, u_tnot, u_val, u_op1, u_op2, u_blt, u_cons, u_nil, u_tup, u_ix, u_cst, u_var0, u_varS, bnd_ret, t0, l0, i0, i1, n2, s2, m2, q2, lift_some, Bool.not_true, Bool.false_eq_true, if_false, u_snil, u_sret, u_ifx, u_app, law_is_ring_ok hb ok, noexc_ret, if_true, u_lst, fnM_ret]
    · unfold φ_check_reading d_check_reading
      rw [fn2, hw]
      simp only [u_seq, u_sexpr, u_site, u_val, u_op2, u_app, u_cons, u_nil, u_tup, u_ix, u_cst, u_var0, u_varS, bnd_ret, need_bundle_ok hb, noexc_ret, need_form_ok (.inr rfl), i0, i1, q2, lift_some, Bool.false_eq_true, if_false, u_sset, is_ring_ok hb ok, u_snil]
      rfl
    · refine ne_of_ok ?_
      have := ring_sm (k := 57) hb ok
      simp [D.okd, D.okds, this]
      decide +kernel
  | cons x l =>
    have hx : x ∈ plain n cs := by rw [hp]; exact .head _
    have hl := (plain_sub n cs).subset hx
    have hc : crowded cs x = 0 := by simpa using (List.mem_filter.mp hx).2
    have ok := lots_ok hb.lo hl
    have hw : word n cs = .str "plain" := by unfold word; rw [hp]; rfl
    have xl : x.length < 1000 := by
      obtain ⟨a1, a2⟩ := (sub_mem _ _ _).mp hl
      have := len_le_of_subset (l' := upto n) (a1.imp fun {a b} (q : a < b) (e : a = b) => by omega) (fun y hy => mem_upto.mpr (by have := a2 y hy; have := hb.lo; omega))
      rw [upto_len] at this
      have := hb.hi
      omega
    have c0 : eqD (.int ((0 : Nat) : Int)) (.int 0) = some (.bl true) := rfl
    refine ⟨.tup [.str "plain", cl x], rp _ ?_, ?_, ?_, ?_⟩
    · rw [hp]
      have e := ix_lst cl (l := x :: l) (j := 0) (x := x) rfl
      rw [if_pos (by simp), u_tup, u_cons, u_cons]
      show bnd (bnd (ret (D.str "plain")) fun y => bnd (bnd (E.ix (E.var 1) (E.cst (.int ((0 : Nat) : Int))) [some (bu n cs), some (.lst ((x :: l).map cl))]) _) _) _ = _
      simp only [u_ix, u_cst, u_nil, u_varS, u_var0, bnd_ret, e, lift_some]
    · unfold φ_law_due d_law_due
      rw [fn2, hw]
      simp only [u_seq, u_site, u_tor, u_tand, u_tnot, u_val, u_op1, u_op2, u_blt, u_cons, u_nil, u_tup, u_ix, u_cst, u_var0, u_varS, bnd_ret, t0, l0, i0, i1, n2, s1, m1, q1, lift_some, Bool.not_true, Bool.false_eq_true, if_false, u_snil, u_sret, u_ifx, u_app, bu0, law_is_lot_ok ok xl, noexc_ret, if_true, law_crowded_ok hb, hc, c0, u_lst, fnM_ret]
    · unfold φ_check_reading d_check_reading
      rw [fn2, hw]
      simp only [u_seq, u_sexpr, u_site, u_val, u_and, u_op2, u_app, u_cons, u_nil, u_tup, u_ix, u_cst, u_var0, u_varS, bnd_ret, need_bundle_ok hb, noexc_ret, need_form_ok (.inl rfl), i0, i1, q1, lift_some, if_true, u_sset, bu0, is_lot_ok, ok, crowded_in_ok, hc, c0, u_snil]
      rfl
    · refine ne_of_ok ?_
      have := okd_cl 58 x
      simp [D.okd, D.okds, okds_ints]
      decide +kernel
end K09
end G
end L2
end V18_
section V19_
set_option Elab.async false
set_option linter.all false
set_option maxRecDepth 100000
set_option maxHeartbeats 2000000
namespace L2
namespace G
namespace K09
open PySem PySem.Spec PyProof.Rows
theorem in_cls (c : List Int) (cs : List (List Int)) : inD (cl c) (.tup (cs.map cl)) = some (.bl (decide (c ∈ cs))) := by
  have h : inL (cl c) (cs.map cl) = decide (c ∈ cs) := by
    unfold inL
    induction cs with
    | nil => simp
    | cons y a ih =>
      rw [List.map_cons, List.any_cons, ih, eq_cl]
      by_cases h : y = c
      · simp [h]
      · have h' : ¬ c = y := fun z => h z.symm
        simp [h, h']
  simp [inD, seqD, okds_cls, h]
theorem ne_tup_nil (l : List (List Int)) : neD (.tup (l.map cl)) (.tup []) = some (.bl (!l.isEmpty)) := by
  have e : D.eq (.tup (l.map cl)) (.tup []) = decide (l = []) := eqvAll_cls l []
  have o1 : D.okd 60 (.tup (l.map cl)) = true := by simp [D.okd, okds_cls]
  have o2 : D.okd 60 (.tup []) = true := rfl
  unfold neD
  rw [o1, o2, e]
  cases l <;> rfl
theorem ne_word (n : Int) (cs : List (List Int)) : neD (word n cs) (word n cs) = some (.bl false) := by
  unfold word
  split
  · exact ne_of_ok (by kernel_rfl)
  · exact ne_of_ok (by kernel_rfl)
theorem ne_words (n : Int) (cs : List (List Int)) : neD (.lst [word n cs]) (.lst [word n cs]) = some (.bl false) := by
  unfold word
  split
  · exact ne_of_ok (by kernel_rfl)
  · exact ne_of_ok (by kernel_rfl)
theorem ne_bu (n : Int) (a : List (List Int)) : neD (bu n a) (bu n a) = some (.bl false) := by simp [neD]
def bEnv9 (bd : D) (l k p f m t lo du sh wo : Option D) : Env := [some bd, l, k, p, f, m, t, lo, du, sh, wo]
theorem law_bundle_right_ok {n : Int} {cs : List (List Int)} (hb : BOk n cs) : φ_law_bundle_right [bu n cs] = ret (.bl true) := by
  unfold φ_law_bundle_right d_law_bundle_right
  rw [fn1]
  generalize hB : bu n cs = B
  generalize hL : D.lst ((lots n).map cl) = L
  generalize hK : D.str (D.py B).shown = Kp
  generalize hP : D.tup ((plain n cs).map cl) = P
  generalize hF : firstD (plain n cs) = F
  generalize hM : nearL n cs = M
  have lk : φ_law_lots [.int n] = ret L := by rw [law_lots_ok hb.lo hb.hi, hL]
  have rb : reprD [B] = some Kp := by rw [← hB, bu_repr hb, hB, hK]
  have b0 : ixD' B (.int 0) = some (.int n) := by rw [← hB]; rfl
  have sL : seqD L = some ((lots n).map cl) := by rw [← hL]; rfl
  -- lots, kept
  rw [u_seq, u_spar]
  simp only [u_app, u_cons, u_nil, u_ix, u_cst, u_var0, bnd_ret, b0, lift_some, lk, noexc_ret, u_blt, rb]
  rw [show (List.set (List.set (some B :: List.replicate 10 none) 1 (some L)) 2 (some Kp) : Env) = bEnv9 B (some L) (some Kp) none none none none none none none none from rfl]
  -- plain
  have c1 := compL_map (ρ := bEnv9 B (some L) (some Kp) none none none none none none none none) (t := Gt.name 7) (c := T.val (E.op2 eqD (E.app φ_law_crowded (A.cons (E.var 0) (A.cons (E.var 7) A.nil))) (E.cst (.int 0)))) (e := E.var 7) cl (fun l => bEnv9 B (some L) (some Kp) none none none none (some (cl l)) none none none) (fun l => decide (crowded cs l = 0)) cl (lots n) (by
    intro l hl
    refine ⟨rfl, ?_, fun _ => rfl⟩
    have lc := law_crowded_ok hb l
    rw [hB] at lc
    simp only [bEnv9, u_val, u_op2, u_app, u_cons, u_nil, u_var0, u_varS, u_cst, bnd_ret, lc, noexc_ret, eq_int', lift_some, zero_int])
  have st3 : S.set 3 (E.blt tupleD (A.cons (E.comp (I.seq (E.var 1)) [7] (Gt.name 7) (T.val (E.op2 eqD (E.app φ_law_crowded (A.cons (E.var 0) (A.cons (E.var 7) A.nil))) (E.cst (.int 0)))) (E.var 7)) A.nil)) (bEnv9 B (some L) (some Kp) none none none none none none none none) = ret (.next, bEnv9 B (some L) (some Kp) (some P) none none none none none none none) := by
    rw [u_sset, u_blt, u_cons, u_comp, u_iseq, show E.var 1 (bEnv9 B (some L) (some Kp) none none none none none none none none) = ret L from rfl, bnd_ret, sL, lift_some, bnd_ret]
    rw [show wipeD (bEnv9 B (some L) (some Kp) none none none none none none none none) [7] = bEnv9 B (some L) (some Kp) none none none none none none none none from rfl, c1]
    simp only [bnd_ret, u_nil, tupleD, lift_some]
    rw [← hP]
    rfl
  rw [u_seq, st3, bnd_ret]
  dsimp only
  -- first
  have nP : neD P (.tup []) = some (.bl (!(plain n cs).isEmpty)) := by rw [← hP]; exact ne_tup_nil _
  have st4 : S.set 4 (E.ifx (T.val (E.op2 neD (E.var 3) (E.tup A.nil))) (E.ix (E.var 3) (E.cst (.int 0))) (E.cst .non)) (bEnv9 B (some L) (some Kp) (some P) none none none none none none none) = ret (.next, bEnv9 B (some L) (some Kp) (some P) (some F) none none none none none none) := by
    rw [u_sset, u_ifx, u_val, u_op2, show E.var 3 (bEnv9 B (some L) (some Kp) (some P) none none none none none none none) = ret P from rfl]
    simp only [u_tup, u_nil, bnd_ret, nP, lift_some]
    cases hp : plain n cs with
    | nil =>
      rw [hp] at hF
      rw [← hF]
      rfl
    | cons x l =>
      have e := ix_tup cl (l := x :: l) (j := 0) (x := x) rfl
      rw [hp] at hP hF
      have e' : ixD' P (.int 0) = some F := by rw [← hP, ← hF]; exact e
      show bnd (E.ix (E.var 3) (E.cst (.int 0)) (bEnv9 B (some L) (some Kp) (some P) none none none none none none none)) _ = _
      rw [u_ix, show E.var 3 (bEnv9 B (some L) (some Kp) (some P) none none none none none none none) = ret P from rfl]
      simp only [u_cst, bnd_ret, e', lift_some]
      rfl
  rw [u_seq, st4, bnd_ret]
  dsimp only
  -- least
  obtain ⟨ml, _, me, mn⟩ := near_ok n cs
  have c2 := compL_all (ρ := bEnv9 B (some L) (some Kp) (some P) (some F) none none none none none none) (t := Gt.name 7) (e := E.tup (A.cons (E.app φ_law_crowded (A.cons (E.var 0) (A.cons (E.var 7) A.nil))) (A.cons (E.var 7) A.nil))) cl (fun l => bEnv9 B (some L) (some Kp) (some P) (some F) none none (some (cl l)) none none none) (pairL cs) (lots n) (by
    intro l hl
    refine ⟨rfl, ?_⟩
    have lc := law_crowded_ok hb l
    rw [hB] at lc
    simp only [bEnv9, u_tup, u_cons, u_app, u_nil, u_var0, u_varS, bnd_ret, lc, noexc_ret]
    rfl)
  have ix1 : ixD' (pairL cs ml) (.int 1) = some M := by rw [← hM, mn]; rfl
  have st5 : S.set 5 (E.ix (E.blt minD2 (A.cons (E.comp (I.seq (E.var 1)) [7] (Gt.name 7) T.yes (E.tup (A.cons (E.app φ_law_crowded (A.cons (E.var 0) (A.cons (E.var 7) A.nil))) (A.cons (E.var 7) A.nil)))) A.nil)) (E.cst (.int 1))) (bEnv9 B (some L) (some Kp) (some P) (some F) none none none none none none) = ret (.next, bEnv9 B (some L) (some Kp) (some P) (some F) (some M) none none none none none) := by
    rw [u_sset, u_ix, u_blt, u_cons, u_comp, u_iseq, show E.var 1 (bEnv9 B (some L) (some Kp) (some P) (some F) none none none none none none) = ret L from rfl, bnd_ret, sL, lift_some, bnd_ret]
    rw [show wipeD (bEnv9 B (some L) (some Kp) (some P) (some F) none none none none none none) [7] = bEnv9 B (some L) (some Kp) (some P) (some F) none none none none none none from rfl, c2]
    simp only [bnd_ret, u_nil, me, lift_some, u_cst, ix1]
    rfl
  rw [u_seq, st5, bnd_ret]
  dsimp only
  -- twice
  have ap : φ_all_plain [B] = ret P := by rw [← hB, all_plain_ok hb, hP]
  have pr : φ_plain_reading [B] = ret F := by rw [← hB, plain_reading_ok hb, hF]
  have nr : φ_nearest_reading [B] = ret M := by rw [← hB, nearest_ok hb, hM]
  obtain ⟨R3, r3⟩ : ∃ s, reprD [.lst [P, F, M]] = some (.str s) := ⟨_, by rw [← hP, ← hF, ← hM]; exact three_repr hb⟩
  obtain ⟨ρ1, lp1, t1, hρ1⟩ := forL_inv (t := Gt.name 6) (b := S.seq (S.ite (T.val (E.op2 neS (E.blt reprD (A.cons (E.lst (A.cons (E.app φ_all_plain (A.cons (E.var 0) A.nil)) (A.cons (E.app φ_plain_reading (A.cons (E.var 0) A.nil)) (A.cons (E.app φ_nearest_reading (A.cons (E.var 0) A.nil)) A.nil)))) A.nil)) (E.blt reprD (A.cons (E.lst (A.cons (E.var 3) (A.cons (E.var 4) (A.cons (E.var 5) A.nil)))) A.nil)))) (S.seq (S.ret (E.cst (.bl false))) S.nil) S.nil) S.nil)
    (fun ρ => ∃ t, ρ = bEnv9 B (some L) (some Kp) (some P) (some F) (some M) t none none none none) (rangeD 0 2) (bEnv9 B (some L) (some Kp) (some P) (some F) (some M) none none none none none) ⟨_, rfl⟩ (by
    rintro d hd ρ ⟨t, rfl⟩
    refine ⟨bEnv9 B (some L) (some Kp) (some P) (some F) (some M) (some d) none none none none, bEnv9 B (some L) (some Kp) (some P) (some F) (some M) (some d) none none none none, rfl, ?_, _, rfl⟩
    simp only [bEnv9, u_seq, u_site, u_val, u_op2, u_blt, u_cons, u_nil, u_lst, u_app, u_var0, u_varS, bnd_ret, ap, pr, nr, noexc_ret, r3, lift_some, neS_same, Bool.false_eq_true, if_false, u_snil])
  subst hρ1
  rw [u_seq, u_sfor, u_irange]
  simp only [u_cons, u_cst, u_nil, bnd_ret]
  rw [show rng1 [.int 2] = some (rangeD 0 2) from rfl, lift_some, bnd_ret, lp1, bnd_ret]
  dsimp only
  -- all lots
  obtain ⟨ρ2, lp2, lo2, du2, hρ2⟩ := forL_inv (t := Gt.name 7) (b := S.seq (S.set 8 (E.lst (A.cons (E.app φ_law_read (A.cons (E.var 0) (A.cons (E.var 7) A.nil))) (A.cons (E.op2 inD (E.var 7) (E.var 3)) A.nil))))
    (S.seq (S.ite (T.or (T.val (E.op2 neS (E.blt reprD (A.cons (E.lst (A.cons (E.app φ_read_by (A.cons (E.var 0) (A.cons (E.var 7) A.nil))) (A.cons (E.app φ_is_plain (A.cons (E.var 0) (A.cons (E.var 7) A.nil))) A.nil))) A.nil)) (E.blt reprD (A.cons (E.var 8) A.nil)))) (T.val (E.op2 neD (E.app φ_read_by (A.cons (E.ix (E.var 8) (E.cst (.int 0))) (A.cons (E.var 7) A.nil))) (E.var 0)))) (S.seq (S.ret (E.cst (.bl false))) S.nil) S.nil) S.nil))
    (fun ρ => ∃ lo du, ρ = bEnv9 B (some L) (some Kp) (some P) (some F) (some M) t1 lo du none none) ((lots n).map cl) (bEnv9 B (some L) (some Kp) (some P) (some F) (some M) t1 none none none none) ⟨_, _, rfl⟩ (by
    rintro d hd ρ ⟨lo, du, rfl⟩
    obtain ⟨l, hl, rfl⟩ := List.mem_map.mp hd
    have ok := lots_ok hb.lo hl
    have lr := law_read_ok n cs l
    have rby := read_by_ok hb ok
    have ip := is_plain_ok hb ok
    have r2 := read_by_ok (hb.read l) ok
    rw [read_read hb] at r2
    have iP : inD (cl l) P = some (.bl (decide (crowded cs l = 0))) := by
      rw [← hP, in_cls]
      congr 2
      rw [decide_eq_decide]
      unfold plain
      rw [List.mem_filter, decide_eq_true_eq]
      exact ⟨fun z => z.2, fun z => ⟨hl, z⟩⟩
    obtain ⟨R2, e2⟩ : ∃ s, reprD [.lst [bu n (readB l cs), .bl (decide (crowded cs l = 0))]] = some (.str s) := ⟨_, two_repr (hb.read l) _⟩
    have nb := ne_bu n cs
    rw [hB] at lr rby ip r2 nb
    refine ⟨bEnv9 B (some L) (some Kp) (some P) (some F) (some M) t1 (some (cl l)) du none none, bEnv9 B (some L) (some Kp) (some P) (some F) (some M) t1 (some (cl l)) (some (.lst [bu n (readB l cs), .bl (decide (crowded cs l = 0))])) none none, rfl, ?_, _, _, rfl⟩
    have st : S.set 8 (E.lst (A.cons (E.app φ_law_read (A.cons (E.var 0) (A.cons (E.var 7) A.nil))) (A.cons (E.op2 inD (E.var 7) (E.var 3)) A.nil))) (bEnv9 B (some L) (some Kp) (some P) (some F) (some M) t1 (some (cl l)) du none none) = ret (.next, bEnv9 B (some L) (some Kp) (some P) (some F) (some M) t1 (some (cl l)) (some (.lst [bu n (readB l cs), .bl (decide (crowded cs l = 0))])) none none) := by
      simp only [bEnv9, u_sset, u_lst, u_cons, u_nil, u_app, u_op2, u_var0, u_varS, bnd_ret, lr, noexc_ret, iP, lift_some]
      rfl
    rw [u_seq, st, bnd_ret]
    dsimp only
    have i0 : ixD' (.lst [bu n (readB l cs), .bl (decide (crowded cs l = 0))]) (.int 0) = some (bu n (readB l cs)) := rfl
    simp only [bEnv9, u_seq, u_site, u_tor, u_val, u_op2, u_blt, u_cons, u_nil, u_lst, u_app, u_ix, u_cst, u_var0, u_varS, bnd_ret, rby, ip, noexc_ret, e2, lift_some, neS_same, Bool.false_eq_true, if_false, i0, r2, nb, u_snil])
  subst hρ2
  rw [u_seq, u_sfor, u_iseq, show E.var 1 (bEnv9 B (some L) (some Kp) (some P) (some F) (some M) t1 none none none none) = ret L from rfl, bnd_ret, sL, lift_some, bnd_ret, lp2, bnd_ret]
  dsimp only
  -- the paper
  obtain ⟨s, p1, p2, p3, p4⟩ := paper_ok hb
  have w1 := ne_word n cs
  have w2 := ne_words n cs
  generalize hw : word n cs = w at p2 p3 w1 w2
  rw [hB] at p1 p2 p3
  have st9 : S.set 9 (E.app φ_reading_paper (A.cons (E.var 0) A.nil)) (bEnv9 B (some L) (some Kp) (some P) (some F) (some M) t1 lo2 du2 none none) = ret (.next, bEnv9 B (some L) (some Kp) (some P) (some F) (some M) t1 lo2 du2 (some s) none) := by
    simp only [bEnv9, u_sset, u_app, u_cons, u_nil, u_var0, bnd_ret, p1, noexc_ret]
    rfl
  rw [u_seq, st9, bnd_ret]
  dsimp only
  have stw : S.set 10 (E.ifx (T.val (E.op2 neD (E.var 3) (E.tup A.nil))) (E.cst (.str "plain")) (E.cst (.str "ring"))) (bEnv9 B (some L) (some Kp) (some P) (some F) (some M) t1 lo2 du2 (some s) none) = ret (.next, bEnv9 B (some L) (some Kp) (some P) (some F) (some M) t1 lo2 du2 (some s) (some w)) := by
    simp only [bEnv9, u_sset, u_ifx, u_val, u_op2, u_tup, u_nil, u_var0, u_varS, bnd_ret, nP, lift_some, u_cst]
    rw [← hw]
    unfold word
    cases (plain n cs).isEmpty <;> rfl
  rw [u_seq, stw, bnd_ret]
  dsimp only
  simp only [bEnv9, u_seq, u_site, u_tor, u_val, u_op2, u_app, u_cons, u_nil, u_lst, u_blt, u_var0, u_varS, bnd_ret, p1, p2, p3, noexc_ret, w1, w2, p4, lift_some, Bool.false_eq_true, if_false, u_snil, u_sret, rb]
  rw [← hK, eqS_same]
  rfl
end K09
end G
end L2
end V19_
section V20_
set_option Elab.async false
set_option linter.all false
set_option maxRecDepth 100000
set_option maxHeartbeats 2000000
namespace L2
namespace G
namespace K09
open PySem PySem.Spec PyProof.Rows
theorem not_run {tt : Env → M Bool} {ρ : Env} {st st' : Store} {q : Bool} (h : run (tt ρ) st = .ok q st') : run (T.not tt ρ) st = .ok (!q) st' := by
  have z : T.not tt ρ = bnd (tt ρ) _ := rfl
  rw [z, run_bnd h]
  rfl
theorem or_run {a b : Env → M Bool} {ρ : Env} {st st' st1 : Store} (ha : run (a ρ) st = .ok false st') (hb : run (b ρ) st' = .ok false st1) : run (T.or a b ρ) st = .ok false st1 := by
  have z : T.or a b ρ = bnd (a ρ) _ := rfl
  rw [z, run_bnd ha]
  exact hb
theorem guard_run {tt : Env → M Bool} {s t : SD} {ρ : Env} {st st' : Store} (h : run (tt ρ) st = .ok false st') : run (S.seq (S.ite tt s S.nil) t ρ) st = run (t ρ) st' :=
  seq_step ((ite_run h).trans rfl)
theorem app3_run {φ : List D → M D} {a b c : Env → M D} {ρ : Env} {st st1 st2 st3 st4 : Store} {x y z d : D} (ha : run (a ρ) st = .ok x st1) (hb : run (b ρ) st1 = .ok y st2) (hc : run (c ρ) st2 = .ok z st3) (hg : run (φ [x, y, z]) st3 = .ok d st4) :
    run (E.app φ (A.cons a (A.cons b (A.cons c A.nil))) ρ) st = .ok d st4 := by
  have e1 : E.app φ (A.cons a (A.cons b (A.cons c A.nil))) ρ = bnd (bnd (a ρ) _) _ := rfl
  rw [e1, bnd_bnd, run_bnd ha]
  have e2 : A.cons b (A.cons c A.nil) ρ = bnd (b ρ) _ := rfl
  rw [e2, bnd_bnd, bnd_bnd, run_bnd hb]
  have e3 : A.cons c A.nil ρ = bnd (c ρ) _ := rfl
  rw [e3, bnd_bnd, bnd_bnd, run_bnd hc]
  simp [run_noexc hg]
def lEnv (s : D) (t so to wi : Option D) : Env := [some s, some (.ref 2), t, so, to, wi, none]
def tBody : SD := S.seq (S.ite (T.not (T.val (E.app φ_law_bundle_right (A.cons (E.app φ_law_bundle (A.cons (E.var 1) (A.cons (E.cst (.int 5)) (A.cons (E.cst (.int 7)) A.nil)))) A.nil)))) (S.seq (S.ret (E.cst (.bl false))) S.nil) S.nil) S.nil
theorem tLoop (s : D) : ∀ (ds : List D) (t : Option D) (n : Nat) (st : Store), St n st → n + 200 * ds.length < BIG →
    ∃ (t' : Option D) (st' : Store) (n' : Nat), run (forL (Gt.name 2) tBody ds (lEnv s t none none none)) st = .ok (.next, lEnv s t' none none none) st' ∧ St n' st'
  | [], t, n, st, hs, _ => ⟨t, st, n, rfl, hs⟩
  | d :: ds, t, n, st, hs, hn => by
    simp only [List.length_cons] at hn
    obtain ⟨d1, st1, n1, r1, s1, q1, N, cs, rfl, hb⟩ := law_bundle_dr (most := 5) (many := 7) (by decide) (by decide) (by decide) (by decide) n st hs (by omega)
    obtain ⟨t3, st3, n3, r3, s3⟩ := tLoop s ds (some d) n1 st1 s1 (by omega)
    refine ⟨t3, st3, n3, ?_, s3⟩
    refine (for_step (st' := st1) (ρ2 := lEnv s (some d) none none none) rfl ?_).trans r3
    have ok := law_bundle_right_ok hb
    exact (guard_run (not_run (q := true) (val_run (app1_run (app3_run (var_run rfl) cst_run cst_run r1) (by rw [ok]; rfl))))).trans rfl
theorem ascL {cs : List (List Int)} (h : ∀ i, i < cs.length → lexGe (cs.getD i []) (cs.getD (i + 1) [1]) = false ∨ cs.length ≤ i + 1) : asc cs := fun i a b ha hb => by
  obtain ⟨x1, y1⟩ := List.getElem?_eq_some_iff.mp ha
  obtain ⟨x2, y2⟩ := List.getElem?_eq_some_iff.mp hb
  rcases h i x1 with z | z
  · rw [List.getD_eq_getElem?_getD, List.getD_eq_getElem?_getD, ha, hb] at z
    exact z
  · omega
abbrev cs0 : List (List Int) := [[-2], [-1, -2], [-1, 2], [1, -2], [1, 2]]
abbrev cs4 : List (List Int) := [[1, 2, 3, 4, 5, 6, 7]]
theorem bk0 : BOk 2 cs0 := ⟨by decide, by decide, by decide, by decide, ascL (by decide)⟩
theorem bk1 : BOk 3 [[1, 2, 3]] := ⟨by decide, by decide, by decide, by decide, ascL (by decide)⟩
theorem bk2 : BOk 2 [] := ⟨by decide, by decide, by decide, by decide, ascL (by decide)⟩
theorem bk3 : BOk 1 [[]] := ⟨by decide, by decide, by decide, by decide, ascL (by decide)⟩
theorem bk4 : BOk 7 cs4 := ⟨by decide, by decide, by decide, by decide, ascL (by decide)⟩
theorem pl0 : plain 2 cs0 = [] := by decide +kernel
theorem pl1 : (plain 3 [[1, 2, 3]]).head? = some [1, 2] := by decide +kernel
theorem pl2 : (plain 2 []).head? = some [] := by decide +kernel
theorem pl3 : plain 1 [[]] = [[], [1]] := by decide +kernel
theorem pl4 : (plain 7 cs4).length = 8 ∧ (plain 7 cs4).head? = some [1, 2, 3, 4, 5, 6] := by decide +kernel
theorem near0 : nearL 2 cs0 = cl [] := by kernel_rfl
theorem firstD_of {l : List (List Int)} {x : List Int} (h : l.head? = some x) : firstD l = cl x := by
  cases l with
  | nil => cases h
  | cons y l => cases h; rfl
abbrev soD : D := .lst [bu 2 cs0, bu 3 [[1, 2, 3]], bu 2 [], bu 1 [[]]]
abbrev toD : D := .lst [.non, cl [1, 2], cl [], cl [], cl [], .tup [cl [], cl [1]]]
def toE : Env → M D := E.op2 addD (E.comp (I.seq (E.var 3)) [6] (Gt.name 6) T.yes (E.app φ_plain_reading (A.cons (E.var 6) A.nil))) (E.lst (A.cons (E.app φ_nearest_reading (A.cons (E.ix (E.var 3) (E.cst (.int 0))) A.nil)) (A.cons (E.app φ_all_plain (A.cons (E.ix (E.var 3) (E.cst (.int 3))) A.nil)) A.nil)))
theorem toE_ok (s : D) (t : Option D) : toE (lEnv s t (some soD) none none) = ret toD := by
  have p0 := plain_reading_ok bk0
  have p1 := plain_reading_ok bk1
  have p2 := plain_reading_ok bk2
  have p3 := plain_reading_ok bk3
  have a3 := all_plain_ok bk3
  have n0 := nearest_ok bk0
  rw [pl0] at p0
  rw [firstD_of pl1] at p1
  rw [firstD_of pl2] at p2
  rw [pl3] at p3 a3
  rw [near0] at n0
  have i0 : ixD' soD (.int 0) = some (bu 2 cs0) := rfl
  have i3 : ixD' soD (.int 3) = some (bu 1 [[]]) := rfl
  have one : ∀ d r, φ_plain_reading [d] = ret r → E.app φ_plain_reading (A.cons (E.var 6) A.nil) [some s, some (.ref 2), t, some soD, none, none, some d] = ret r := fun d r h => by
    simp only [u_app, u_cons, u_nil, u_var0, u_varS, bnd_ret, h, noexc_ret]
  have cm : compL (lEnv s t (some soD) none none) (Gt.name 6) T.yes (E.app φ_plain_reading (A.cons (E.var 6) A.nil)) [bu 2 cs0, bu 3 [[1, 2, 3]], bu 2 [], bu 1 [[]]] = ret [.non, cl [1, 2], cl [], cl []] := by
    have g : ∀ d, Gt.name 6 d (lEnv s t (some soD) none none) = some [some s, some (.ref 2), t, some soD, none, none, some d] := fun _ => rfl
    unfold compL
    rw [g, lift_some, bnd_ret, u_tyes, bnd_ret, if_pos rfl, one _ _ p0, bnd_ret]
    unfold compL
    rw [g, lift_some, bnd_ret, u_tyes, bnd_ret, if_pos rfl, one _ _ p1, bnd_ret]
    unfold compL
    rw [g, lift_some, bnd_ret, u_tyes, bnd_ret, if_pos rfl, one _ _ p2, bnd_ret]
    unfold compL
    rw [g, lift_some, bnd_ret, u_tyes, bnd_ret, if_pos rfl, one _ _ p3, bnd_ret]
    rfl
  have v3 : E.var 3 (lEnv s t (some soD) none none) = ret soD := rfl
  unfold toE
  rw [u_op2, u_comp, u_iseq, v3, bnd_ret, seqD_lst, lift_some, bnd_ret]
  rw [show wipeD (lEnv s t (some soD) none none) [6] = lEnv s t (some soD) none none from rfl, cm]
  simp only [u_lst, u_cons, u_nil, u_app, u_ix, u_cst, v3, bnd_ret, i0, i3, lift_some, n0, a3, noexc_ret]
  rfl
theorem law_true (ns : List Int) (hl : ns.length ≤ 63) (hb : ∀ z ∈ ns, Builtin.Int.intBits z ≤ 1048576) : ∃ st', φ_law [.lst (ns.map .int)] [] = .ok (.bl true) st' := by
  have b0 := law_begin_ok ns
  have s0 : St 0 (sto (lefts (cellsOf ns)) (cellsOf ns) 0) := by
    refine ⟨_, _, ?_, ?_, rfl⟩
    · unfold cellsOf; split
      · simp
      · assumption
    · simp [lefts]
  have mn : minD [.int ns.length, .int 9] = some (.int (if (9 : Int) < ns.length then (9 : Int) else (ns.length : Int))) := rfl
  have ln : lenD [li ns] = some (.int ns.length) := by simp [lenD]
  have ad : addD (.int 6) (.int (if (9 : Int) < ns.length then (9 : Int) else (ns.length : Int))) = some (.int (6 + (if (9 : Int) < ns.length then (9 : Int) else (ns.length : Int)))) := rfl
  obtain ⟨ds, hd, ld⟩ := rng1_ok (m := 6 + (if (9 : Int) < ns.length then (9 : Int) else (ns.length : Int))) (by split <;> omega) (by split <;> omega)
  have ld : ds.length ≤ 15 := by rw [ld]; split <;> omega
  obtain ⟨t2, st2, n2, r2, s2⟩ := tLoop (li ns) ds none 0 _ s0 (by unfold BIG; omega)
  refine ⟨st2, ?_⟩
  show run (φ_law [li ns]) _ = _
  unfold φ_law d_law
  rw [fnD_eq]
  have env0 : (List.map some [li ns] ++ List.replicate (7 - [li ns].length) none) = [some (li ns), none, none, none, none, none, none] := rfl
  rw [env0]
  refine (fn_step (ρ' := lEnv (li ns) none none none none) (set_run (app1_run (var_run rfl) b0))).trans ?_
  have rr : run (E.op2 addD (E.cst (.int 6)) (E.blt minD (A.cons (E.blt lenD (A.cons (E.var 0) A.nil)) (A.cons (E.cst (.int 9)) A.nil))) (lEnv (li ns) none none none none)) (sto (lefts (cellsOf ns)) (cellsOf ns) 0) = .ok (.int (6 + (if (9 : Int) < ns.length then (9 : Int) else (ns.length : Int)))) (sto (lefts (cellsOf ns)) (cellsOf ns) 0) := by
    refine pure_run ?_
    simp only [lEnv, u_op2, u_cst, u_blt, u_cons, u_nil, u_var0, bnd_ret, ln, mn, ad, lift_some]
  refine (fn_step (for_run (range_run rr hd) r2)).trans ?_
  refine (fn_step (ρ' := lEnv (li ns) t2 (some soD) none none) (st' := st2) (set_run rfl)).trans ?_
  refine (fn_step (ρ' := lEnv (li ns) t2 (some soD) (some toD) none) (st' := st2) (set_run (pure_run (toE_ok (li ns) t2)))).trans ?_
  have q0 := law_bundle_right_ok bk0
  have q4 := law_bundle_right_ok bk4
  have g1 : run (T.val (E.op2 neD (E.var 4) (E.lst (A.cons (E.cst .non) (A.cons (E.tup (A.cons (E.cst (.int 1)) (A.cons (E.cst (.int 2)) A.nil))) (A.cons (E.tup A.nil) (A.cons (E.tup A.nil) (A.cons (E.tup A.nil) (A.cons (E.tup (A.cons (E.tup A.nil) (A.cons (E.tup (A.cons (E.cst (.int 1)) A.nil)) A.nil))) A.nil)))))))) (lEnv (li ns) t2 (some soD) (some toD) none)) st2 = .ok false st2 :=
    val_run (op2_run (x := toD) (y := toD) (var_run rfl) rfl (ne_of_ok (by kernel_rfl)))
  have g2 : run (T.not (T.val (E.app φ_law_bundle_right (A.cons (E.ix (E.var 3) (E.cst (.int 0))) A.nil))) (lEnv (li ns) t2 (some soD) (some toD) none)) st2 = .ok false st2 :=
    not_run (q := true) (val_run (app1_run (x := bu 2 cs0) (st' := st2) (ix_run (st' := st2) (var_run rfl) cst_run rfl) (by rw [q0]; rfl)))
  refine (fn_step (ρ' := lEnv (li ns) t2 (some soD) (some toD) none) (st' := st2) ((ite_run (q := false) (or_run g1 g2)).trans rfl)).trans ?_
  refine (fn_step (ρ' := lEnv (li ns) t2 (some soD) (some toD) (some (bu 7 cs4))) (st' := st2) (set_run rfl)).trans ?_
  refine fn_ret (ret_run (pure_run ?_))
  have ap := all_plain_ok bk4
  have pr := plain_reading_ok bk4
  rw [firstD_of pl4.2] at pr
  have l8 : lenD [.tup ((plain 7 cs4).map cl)] = some (.int 8) := by
    show some (D.int (((plain 7 cs4).map cl).length : Nat)) = _
    rw [List.length_map, pl4.1]; rfl
  have e8 : eqD (.int 8) (.int 8) = some (.bl true) := rfl
  have e6 : eqD (cl [1, 2, 3, 4, 5, 6]) (.tup [.int 1, .int 2, .int 3, .int 4, .int 5, .int 6]) = some (.bl true) := by kernel_rfl
  have v5 : E.var 5 (lEnv (li ns) t2 (some soD) (some toD) (some (bu 7 cs4))) = ret (bu 7 cs4) := rfl
  simp only [u_and, u_op2, u_blt, u_app, u_cons, u_nil, u_cst, u_tup, v5, bnd_ret, ap, pr, q4, noexc_ret, l8, e8, e6, lift_some]
end K09
end G
end L2
end V20_
section H_k09_
set_option Elab.async false
set_option linter.all false
set_option maxRecDepth 100000
set_option maxHeartbeats 0
namespace L2
namespace G
namespace K09
open PySem PySem.Spec PyProof.Rows
/-! ### the head -/
def dOf (x : Str) (i : Nat) : He.DefD := ⟨(x, none), x, x, defArgs (top i), defBody (top i), defScope (top i), [], []⟩
def hfn0 : List He.DefD := [dOf "_law_begin" 39, dOf "lots_of" 24, dOf "is_up" 20, dOf "crowded_in" 22, dOf "plain_in" 25, dOf "is_integer" 1, dOf "is_between" 2, dOf "are_rising" 3, dOf "is_literal" 4, dOf "is_clause" 5, dOf "need_bundle" 15, dOf "steps_from" 29, dOf "way_to" 30, dOf "ring_in" 31, dOf "reading_paper" 32, dOf "_law_lots" 43, dOf "_law_read" 51, dOf "_law_is_int" 46, dOf "_law_is_ring" 49, dOf "_law_are_rising" 47]
def hfn1 : List He.DefD := [dOf "_law_is_lot" 48, dOf "_law_is_up" 44, dOf "_law_crowded" 45, dOf "_law_due" 50, dOf "need_form" 35, dOf "is_step" 33, dOf "is_ring" 34, dOf "is_lot" 6, dOf "check_reading" 36, dOf "need_reading" 19, dOf "read_by" 21, dOf "all_plain" 27, dOf "plain_reading" 26, dOf "nearest_reading" 28, dOf "is_plain" 23, dOf "_law_bundle_right" 52, dOf "_law_mixed" 38, dOf "_law_draw" 40, dOf "_law_clause" 41, dOf "_law_bundle" 42]
def hfn2 : List He.DefD := [dOf "law" 53]
def fn : List He.DefD := hfn0 ++ hfn1 ++ hfn2
def hfa0 : List He.Fa := [.glo "_law_begin", .glo "lots_of", .glo "is_up", .glo "crowded_in", .glo "plain_in", .glo "is_integer", .glo "is_between", .glo "are_rising", .glo "is_literal", .glo "is_clause", .glo "need_bundle", .glo "steps_from", .glo "way_to", .glo "ring_in", .glo "reading_paper", .glo "_law_lots", .glo "_law_read", .glo "_law_is_int", .glo "_law_is_ring", .glo "_law_are_rising"]
def hfa1 : List He.Fa := [.glo "_law_is_lot", .glo "_law_is_up", .glo "_law_crowded", .glo "_law_due", .glo "need_form", .glo "is_step", .glo "is_ring", .glo "is_lot", .glo "check_reading", .glo "need_reading", .glo "read_by", .glo "all_plain", .glo "plain_reading", .glo "nearest_reading", .glo "is_plain", .glo "_law_bundle_right", .glo "_law_mixed", .glo "_law_draw", .glo "_law_clause", .glo "_law_bundle"]
def hfa2 : List He.Fa := [.glo "law", .free "abs", .free "all", .free "any", .free "bool", .free "enumerate", .free "int", .free "isinstance", .free "len", .free "list", .free "max", .free "min", .free "range", .free "repr", .free "sorted", .free "str", .free "sum", .free "tuple", .free "zip", .int "MOST_CLAUSES" 16]
def hfa3 : List He.Fa := [.int "MOST_NAMES" 7, .str "PLAIN" "plain", .str "RING" "ring"]
def fa : List He.Fa := hfa0 ++ hfa1 ++ hfa2 ++ hfa3
def tf : List He.Defn := []
def tabsNd (K : PySem.W.Frag) : Bool := decide ((tf.map fun p => (He.cT K p).2).Nodup)
def hlo0 : List Str := ["is_integer", "is_between", "are_rising", "is_literal", "is_clause", "is_lot", "ClauseError", "BadBundle", "BadPaper", "BadLot", "MOST_NAMES", "MOST_CLAUSES", "need_bundle", "PLAIN", "RING", "need_reading", "is_up", "read_by", "crowded_in", "is_plain", "lots_of", "plain_in", "plain_reading", "all_plain", "nearest_reading", "steps_from", "way_to", "ring_in", "reading_paper", "is_step"]
def hlo1 : List Str := ["is_ring", "need_form", "check_reading", "_law_mixed", "_law_begin", "_law_draw", "_law_clause", "_law_bundle", "_law_lots", "_law_is_up", "_law_crowded", "_law_is_int", "_law_are_rising", "_law_is_lot", "_law_is_ring", "_law_due", "_law_read", "_law_bundle_right"]
def lo : List Str := hlo0 ++ hlo1
abbrev R : PySem.W.OpenRow := PySem.W.OpenLaw.row PySem.Challenge.rw_idleclauses_k09_whole_readings
abbrev hk : PySem.W.Hook := He.hookX 4 fa fn [] tf tabsNd
def ob (s : PySem.W.SharedT) : He.AlX := He.obsX 4 fa fn [] tf tabsNd (HandSHeadRun.getT s)
theorem ob_eq (s : PySem.W.SharedT) : ob s = hk.obs s.abs := He.obsX_eq (HandSHeadRun.getT_eq s)
theorem run (w : World) : HandSHeadRun.RunEq R (PySem.W.view R.prog [53]) hk ob 20000 lo w := by
  intro os
  kernel_rfl
theorem facts {w : World} {K : PySem.W.Frag} {h : Heap} {mg : Str → Option Value} {f : Addr} (X : K.In h) (G : h.Ns mainGlobals mg) (hfa : mg ("law" : Str) = some (.ref f)) (c : He.SaysX fa fn [] tf tabsNd w h K) :
    LawG PySem.Challenge.rw_idleclauses_k09_whole_readings w K 8 63 "script" mg f h := by
  have cD : He.SaysD fa fn K := c.t.d
  have m_abs : mg "abs" = none := He.free_ok X G (cD.fact 41 (f := .free "abs") rfl)
  have m_all : mg "all" = none := He.free_ok X G (cD.fact 42 (f := .free "all") rfl)
  have m_any : mg "any" = none := He.free_ok X G (cD.fact 43 (f := .free "any") rfl)
  have m_bool : mg "bool" = none := He.free_ok X G (cD.fact 44 (f := .free "bool") rfl)
  have m_enumerate : mg "enumerate" = none := He.free_ok X G (cD.fact 45 (f := .free "enumerate") rfl)
  have m_int : mg "int" = none := He.free_ok X G (cD.fact 46 (f := .free "int") rfl)
  have m_isinstance : mg "isinstance" = none := He.free_ok X G (cD.fact 47 (f := .free "isinstance") rfl)
  have m_len : mg "len" = none := He.free_ok X G (cD.fact 48 (f := .free "len") rfl)
  have m_list : mg "list" = none := He.free_ok X G (cD.fact 49 (f := .free "list") rfl)
  have m_max : mg "max" = none := He.free_ok X G (cD.fact 50 (f := .free "max") rfl)
  have m_min : mg "min" = none := He.free_ok X G (cD.fact 51 (f := .free "min") rfl)
  have m_range : mg "range" = none := He.free_ok X G (cD.fact 52 (f := .free "range") rfl)
  have m_repr : mg "repr" = none := He.free_ok X G (cD.fact 53 (f := .free "repr") rfl)
  have m_sorted : mg "sorted" = none := He.free_ok X G (cD.fact 54 (f := .free "sorted") rfl)
  have m_str : mg "str" = none := He.free_ok X G (cD.fact 55 (f := .free "str") rfl)
  have m_sum : mg "sum" = none := He.free_ok X G (cD.fact 56 (f := .free "sum") rfl)
  have m_tuple : mg "tuple" = none := He.free_ok X G (cD.fact 57 (f := .free "tuple") rfl)
  have m_zip : mg "zip" = none := He.free_ok X G (cD.fact 58 (f := .free "zip") rfl)
  have g_MOST_CLAUSES := He.int_ok X G (cD.fact 59 (f := .int "MOST_CLAUSES" 16) rfl)
  have g_MOST_NAMES := He.int_ok X G (cD.fact 60 (f := .int "MOST_NAMES" 7) rfl)
  have g_PLAIN := He.str_ok X G (cD.fact 61 (f := .str "PLAIN" "plain") rfl)
  have g_RING := He.str_ok X G (cD.fact 62 (f := .str "RING" "ring") rfl)
  have N_law_begin : Fnc1 K mg "_law_begin" (top 39) := by
    obtain ⟨fd, h⟩ := cD.def_ 0 (d := dOf "_law_begin" 39) rfl
    exact ⟨fd, h, He.glo_ok X G (cD.fact 0 (f := .glo "_law_begin") rfl)⟩
  have N_lots_of : Fnc1 K mg "lots_of" (top 24) := by
    obtain ⟨fd, h⟩ := cD.def_ 1 (d := dOf "lots_of" 24) rfl
    exact ⟨fd, h, He.glo_ok X G (cD.fact 1 (f := .glo "lots_of") rfl)⟩
  have N_is_up : Fnc1 K mg "is_up" (top 20) := by
    obtain ⟨fd, h⟩ := cD.def_ 2 (d := dOf "is_up" 20) rfl
    exact ⟨fd, h, He.glo_ok X G (cD.fact 2 (f := .glo "is_up") rfl)⟩
  have N_crowded_in : Fnc1 K mg "crowded_in" (top 22) := by
    obtain ⟨fd, h⟩ := cD.def_ 3 (d := dOf "crowded_in" 22) rfl
    exact ⟨fd, h, He.glo_ok X G (cD.fact 3 (f := .glo "crowded_in") rfl)⟩
  have N_plain_in : Fnc1 K mg "plain_in" (top 25) := by
    obtain ⟨fd, h⟩ := cD.def_ 4 (d := dOf "plain_in" 25) rfl
    exact ⟨fd, h, He.glo_ok X G (cD.fact 4 (f := .glo "plain_in") rfl)⟩
  have N_is_integer : Fnc1 K mg "is_integer" (top 1) := by
    obtain ⟨fd, h⟩ := cD.def_ 5 (d := dOf "is_integer" 1) rfl
    exact ⟨fd, h, He.glo_ok X G (cD.fact 5 (f := .glo "is_integer") rfl)⟩
  have N_is_between : Fnc1 K mg "is_between" (top 2) := by
    obtain ⟨fd, h⟩ := cD.def_ 6 (d := dOf "is_between" 2) rfl
    exact ⟨fd, h, He.glo_ok X G (cD.fact 6 (f := .glo "is_between") rfl)⟩
  have N_are_rising : Fnc1 K mg "are_rising" (top 3) := by
    obtain ⟨fd, h⟩ := cD.def_ 7 (d := dOf "are_rising" 3) rfl
    exact ⟨fd, h, He.glo_ok X G (cD.fact 7 (f := .glo "are_rising") rfl)⟩
  have N_is_literal : Fnc1 K mg "is_literal" (top 4) := by
    obtain ⟨fd, h⟩ := cD.def_ 8 (d := dOf "is_literal" 4) rfl
    exact ⟨fd, h, He.glo_ok X G (cD.fact 8 (f := .glo "is_literal") rfl)⟩
  have N_is_clause : Fnc1 K mg "is_clause" (top 5) := by
    obtain ⟨fd, h⟩ := cD.def_ 9 (d := dOf "is_clause" 5) rfl
    exact ⟨fd, h, He.glo_ok X G (cD.fact 9 (f := .glo "is_clause") rfl)⟩
  have N_need_bundle : Fnc1 K mg "need_bundle" (top 15) := by
    obtain ⟨fd, h⟩ := cD.def_ 10 (d := dOf "need_bundle" 15) rfl
    exact ⟨fd, h, He.glo_ok X G (cD.fact 10 (f := .glo "need_bundle") rfl)⟩
  have N_steps_from : Fnc1 K mg "steps_from" (top 29) := by
    obtain ⟨fd, h⟩ := cD.def_ 11 (d := dOf "steps_from" 29) rfl
    exact ⟨fd, h, He.glo_ok X G (cD.fact 11 (f := .glo "steps_from") rfl)⟩
  have N_way_to : Fnc1 K mg "way_to" (top 30) := by
    obtain ⟨fd, h⟩ := cD.def_ 12 (d := dOf "way_to" 30) rfl
    exact ⟨fd, h, He.glo_ok X G (cD.fact 12 (f := .glo "way_to") rfl)⟩
  have N_ring_in : Fnc1 K mg "ring_in" (top 31) := by
    obtain ⟨fd, h⟩ := cD.def_ 13 (d := dOf "ring_in" 31) rfl
    exact ⟨fd, h, He.glo_ok X G (cD.fact 13 (f := .glo "ring_in") rfl)⟩
  have N_reading_paper : Fnc1 K mg "reading_paper" (top 32) := by
    obtain ⟨fd, h⟩ := cD.def_ 14 (d := dOf "reading_paper" 32) rfl
    exact ⟨fd, h, He.glo_ok X G (cD.fact 14 (f := .glo "reading_paper") rfl)⟩
  have N_law_lots : Fnc1 K mg "_law_lots" (top 43) := by
    obtain ⟨fd, h⟩ := cD.def_ 15 (d := dOf "_law_lots" 43) rfl
    exact ⟨fd, h, He.glo_ok X G (cD.fact 15 (f := .glo "_law_lots") rfl)⟩
  have N_law_read : Fnc1 K mg "_law_read" (top 51) := by
    obtain ⟨fd, h⟩ := cD.def_ 16 (d := dOf "_law_read" 51) rfl
    exact ⟨fd, h, He.glo_ok X G (cD.fact 16 (f := .glo "_law_read") rfl)⟩
  have N_law_is_int : Fnc1 K mg "_law_is_int" (top 46) := by
    obtain ⟨fd, h⟩ := cD.def_ 17 (d := dOf "_law_is_int" 46) rfl
    exact ⟨fd, h, He.glo_ok X G (cD.fact 17 (f := .glo "_law_is_int") rfl)⟩
  have N_law_is_ring : Fnc1 K mg "_law_is_ring" (top 49) := by
    obtain ⟨fd, h⟩ := cD.def_ 18 (d := dOf "_law_is_ring" 49) rfl
    exact ⟨fd, h, He.glo_ok X G (cD.fact 18 (f := .glo "_law_is_ring") rfl)⟩
  have N_law_are_rising : Fnc1 K mg "_law_are_rising" (top 47) := by
    obtain ⟨fd, h⟩ := cD.def_ 19 (d := dOf "_law_are_rising" 47) rfl
    exact ⟨fd, h, He.glo_ok X G (cD.fact 19 (f := .glo "_law_are_rising") rfl)⟩
  have N_law_is_lot : Fnc1 K mg "_law_is_lot" (top 48) := by
    obtain ⟨fd, h⟩ := cD.def_ 20 (d := dOf "_law_is_lot" 48) rfl
    exact ⟨fd, h, He.glo_ok X G (cD.fact 20 (f := .glo "_law_is_lot") rfl)⟩
  have N_law_is_up : Fnc1 K mg "_law_is_up" (top 44) := by
    obtain ⟨fd, h⟩ := cD.def_ 21 (d := dOf "_law_is_up" 44) rfl
    exact ⟨fd, h, He.glo_ok X G (cD.fact 21 (f := .glo "_law_is_up") rfl)⟩
  have N_law_crowded : Fnc1 K mg "_law_crowded" (top 45) := by
    obtain ⟨fd, h⟩ := cD.def_ 22 (d := dOf "_law_crowded" 45) rfl
    exact ⟨fd, h, He.glo_ok X G (cD.fact 22 (f := .glo "_law_crowded") rfl)⟩
  have N_law_due : Fnc1 K mg "_law_due" (top 50) := by
    obtain ⟨fd, h⟩ := cD.def_ 23 (d := dOf "_law_due" 50) rfl
    exact ⟨fd, h, He.glo_ok X G (cD.fact 23 (f := .glo "_law_due") rfl)⟩
  have N_need_form : Fnc1 K mg "need_form" (top 35) := by
    obtain ⟨fd, h⟩ := cD.def_ 24 (d := dOf "need_form" 35) rfl
    exact ⟨fd, h, He.glo_ok X G (cD.fact 24 (f := .glo "need_form") rfl)⟩
  have N_is_step : Fnc1 K mg "is_step" (top 33) := by
    obtain ⟨fd, h⟩ := cD.def_ 25 (d := dOf "is_step" 33) rfl
    exact ⟨fd, h, He.glo_ok X G (cD.fact 25 (f := .glo "is_step") rfl)⟩
  have N_is_ring : Fnc1 K mg "is_ring" (top 34) := by
    obtain ⟨fd, h⟩ := cD.def_ 26 (d := dOf "is_ring" 34) rfl
    exact ⟨fd, h, He.glo_ok X G (cD.fact 26 (f := .glo "is_ring") rfl)⟩
  have N_is_lot : Fnc1 K mg "is_lot" (top 6) := by
    obtain ⟨fd, h⟩ := cD.def_ 27 (d := dOf "is_lot" 6) rfl
    exact ⟨fd, h, He.glo_ok X G (cD.fact 27 (f := .glo "is_lot") rfl)⟩
  have N_check_reading : Fnc1 K mg "check_reading" (top 36) := by
    obtain ⟨fd, h⟩ := cD.def_ 28 (d := dOf "check_reading" 36) rfl
    exact ⟨fd, h, He.glo_ok X G (cD.fact 28 (f := .glo "check_reading") rfl)⟩
  have N_need_reading : Fnc1 K mg "need_reading" (top 19) := by
    obtain ⟨fd, h⟩ := cD.def_ 29 (d := dOf "need_reading" 19) rfl
    exact ⟨fd, h, He.glo_ok X G (cD.fact 29 (f := .glo "need_reading") rfl)⟩
  have N_read_by : Fnc1 K mg "read_by" (top 21) := by
    obtain ⟨fd, h⟩ := cD.def_ 30 (d := dOf "read_by" 21) rfl
    exact ⟨fd, h, He.glo_ok X G (cD.fact 30 (f := .glo "read_by") rfl)⟩
  have N_all_plain : Fnc1 K mg "all_plain" (top 27) := by
    obtain ⟨fd, h⟩ := cD.def_ 31 (d := dOf "all_plain" 27) rfl
    exact ⟨fd, h, He.glo_ok X G (cD.fact 31 (f := .glo "all_plain") rfl)⟩
  have N_plain_reading : Fnc1 K mg "plain_reading" (top 26) := by
    obtain ⟨fd, h⟩ := cD.def_ 32 (d := dOf "plain_reading" 26) rfl
    exact ⟨fd, h, He.glo_ok X G (cD.fact 32 (f := .glo "plain_reading") rfl)⟩
  have N_nearest_reading : Fnc1 K mg "nearest_reading" (top 28) := by
    obtain ⟨fd, h⟩ := cD.def_ 33 (d := dOf "nearest_reading" 28) rfl
    exact ⟨fd, h, He.glo_ok X G (cD.fact 33 (f := .glo "nearest_reading") rfl)⟩
  have N_is_plain : Fnc1 K mg "is_plain" (top 23) := by
    obtain ⟨fd, h⟩ := cD.def_ 34 (d := dOf "is_plain" 23) rfl
    exact ⟨fd, h, He.glo_ok X G (cD.fact 34 (f := .glo "is_plain") rfl)⟩
  have N_law_bundle_right : Fnc1 K mg "_law_bundle_right" (top 52) := by
    obtain ⟨fd, h⟩ := cD.def_ 35 (d := dOf "_law_bundle_right" 52) rfl
    exact ⟨fd, h, He.glo_ok X G (cD.fact 35 (f := .glo "_law_bundle_right") rfl)⟩
  have N_law_mixed : Fnc1 K mg "_law_mixed" (top 38) := by
    obtain ⟨fd, h⟩ := cD.def_ 36 (d := dOf "_law_mixed" 38) rfl
    exact ⟨fd, h, He.glo_ok X G (cD.fact 36 (f := .glo "_law_mixed") rfl)⟩
  have N_law_draw : Fnc1 K mg "_law_draw" (top 40) := by
    obtain ⟨fd, h⟩ := cD.def_ 37 (d := dOf "_law_draw" 40) rfl
    exact ⟨fd, h, He.glo_ok X G (cD.fact 37 (f := .glo "_law_draw") rfl)⟩
  have N_law_clause : Fnc1 K mg "_law_clause" (top 41) := by
    obtain ⟨fd, h⟩ := cD.def_ 38 (d := dOf "_law_clause" 41) rfl
    exact ⟨fd, h, He.glo_ok X G (cD.fact 38 (f := .glo "_law_clause") rfl)⟩
  have N_law_bundle : Fnc1 K mg "_law_bundle" (top 42) := by
    obtain ⟨fd, h⟩ := cD.def_ 39 (d := dOf "_law_bundle" 42) rfl
    exact ⟨fd, h, He.glo_ok X G (cD.fact 39 (f := .glo "_law_bundle") rfl)⟩
  obtain ⟨fd, FL⟩ := cD.def_ 40 (d := dOf "law" 53) rfl
  have e := hfa.symm.trans (He.glo_ok X G (cD.fact 40 (f := .glo "law") rfl))
  cases e
  have b := FunD.bindsA (ps := ["script"]) FL fun _ _ _ _ _ _ us hl => match us, hl with | [_], _ => rfl
  refine law_at (φ := φ_law) X c (of_decide_eq_true c.more) (by decide) (fun s v => b s [v] rfl) (fun ns hl hb => law_true ns hl hb) fun base KX NX TB => ?_
  have F_law_begin := fc_law_begin (P := PySem.Challenge.pw_idleclauses_k09_whole_readings) (w := w) (base := base) N_law_begin m_list
  have F_lots_of := fc_lots_of (P := PySem.Challenge.pw_idleclauses_k09_whole_readings) (w := w) (base := base) N_lots_of m_range m_sorted
  have F_is_up := fc_is_up (P := PySem.Challenge.pw_idleclauses_k09_whole_readings) (w := w) (base := base) N_is_up m_abs
  have F_crowded_in := fc_crowded_in (P := PySem.Challenge.pw_idleclauses_k09_whole_readings) (w := w) (base := base) N_crowded_in m_len F_is_up
  have F_plain_in := fc_plain_in (P := PySem.Challenge.pw_idleclauses_k09_whole_readings) (w := w) (base := base) N_plain_in F_lots_of F_crowded_in
  have F_is_integer := fc_is_integer (P := PySem.Challenge.pw_idleclauses_k09_whole_readings) (w := w) (base := base) N_is_integer m_bool m_int m_isinstance
  have F_is_between := fc_is_between (P := PySem.Challenge.pw_idleclauses_k09_whole_readings) (w := w) (base := base) N_is_between F_is_integer
  have F_are_rising := fc_are_rising (P := PySem.Challenge.pw_idleclauses_k09_whole_readings) (w := w) (base := base) N_are_rising m_all m_zip
  have F_is_literal := fc_is_literal (P := PySem.Challenge.pw_idleclauses_k09_whole_readings) (w := w) (base := base) N_is_literal m_abs F_is_integer
  have F_is_clause := fc_is_clause (P := PySem.Challenge.pw_idleclauses_k09_whole_readings) (w := w) (base := base) N_is_clause m_abs m_all m_isinstance m_tuple F_are_rising F_is_literal
  have F_need_bundle := fc_need_bundle (P := PySem.Challenge.pw_idleclauses_k09_whole_readings) (w := w) (base := base) N_need_bundle m_enumerate m_isinstance m_len m_tuple g_MOST_CLAUSES g_MOST_NAMES F_is_clause F_is_between
  have F_steps_from := fc_steps_from (P := PySem.Challenge.pw_idleclauses_k09_whole_readings) (w := w) (base := base) N_steps_from m_enumerate
  have F_way_to := fc_way_to (P := PySem.Challenge.pw_idleclauses_k09_whole_readings) (w := w) (base := base) N_way_to m_list F_steps_from
  have F_ring_in := fc_ring_in (P := PySem.Challenge.pw_idleclauses_k09_whole_readings) (w := w) (base := base) N_ring_in m_range m_tuple F_way_to
  have F_reading_paper := fc_reading_paper (P := PySem.Challenge.pw_idleclauses_k09_whole_readings) (w := w) (base := base) N_reading_paper g_PLAIN g_RING F_ring_in F_plain_in F_need_bundle
  have F_law_lots := fc_law_lots (P := PySem.Challenge.pw_idleclauses_k09_whole_readings) (w := w) (base := base) N_law_lots m_range m_sorted
  have F_law_read := fc_law_read (P := PySem.Challenge.pw_idleclauses_k09_whole_readings) (w := w) (base := base) N_law_read m_abs m_sorted m_tuple
  have F_law_is_int := fc_law_is_int (P := PySem.Challenge.pw_idleclauses_k09_whole_readings) (w := w) (base := base) N_law_is_int m_bool m_int m_isinstance
  have F_law_is_ring := fc_law_is_ring (P := PySem.Challenge.pw_idleclauses_k09_whole_readings) (w := w) (base := base) N_law_is_ring m_enumerate m_isinstance m_len m_tuple F_law_is_int
  have F_law_are_rising := fc_law_are_rising (P := PySem.Challenge.pw_idleclauses_k09_whole_readings) (w := w) (base := base) N_law_are_rising m_len m_range
  have F_law_is_lot := fc_law_is_lot (P := PySem.Challenge.pw_idleclauses_k09_whole_readings) (w := w) (base := base) N_law_is_lot m_isinstance m_tuple F_law_are_rising F_law_is_int
  have F_law_is_up := fc_law_is_up (P := PySem.Challenge.pw_idleclauses_k09_whole_readings) (w := w) (base := base) N_law_is_up 
  have F_law_crowded := fc_law_crowded (P := PySem.Challenge.pw_idleclauses_k09_whole_readings) (w := w) (base := base) N_law_crowded m_int m_len m_sum F_law_is_up
  have F_law_due := fc_law_due (P := PySem.Challenge.pw_idleclauses_k09_whole_readings) (w := w) (base := base) N_law_due m_isinstance m_len m_str m_tuple F_law_is_ring F_law_crowded F_law_is_lot
  have F_need_form := fc_need_form (P := PySem.Challenge.pw_idleclauses_k09_whole_readings) (w := w) (base := base) N_need_form m_isinstance m_len m_str m_tuple
  have F_is_step := fc_is_step (P := PySem.Challenge.pw_idleclauses_k09_whole_readings) (w := w) (base := base) N_is_step m_isinstance m_len m_tuple F_is_between F_is_literal
  have F_is_ring := fc_is_ring (P := PySem.Challenge.pw_idleclauses_k09_whole_readings) (w := w) (base := base) N_is_ring m_all m_any m_isinstance m_len m_tuple m_zip F_is_step
  have F_is_lot := fc_is_lot (P := PySem.Challenge.pw_idleclauses_k09_whole_readings) (w := w) (base := base) N_is_lot m_all m_isinstance m_tuple F_are_rising F_is_between
  have F_check_reading := fc_check_reading (P := PySem.Challenge.pw_idleclauses_k09_whole_readings) (w := w) (base := base) N_check_reading g_PLAIN g_RING F_crowded_in F_is_lot F_is_ring F_need_form F_need_bundle
  have F_need_reading := fc_need_reading (P := PySem.Challenge.pw_idleclauses_k09_whole_readings) (w := w) (base := base) N_need_reading F_is_lot F_need_bundle
  have F_read_by := fc_read_by (P := PySem.Challenge.pw_idleclauses_k09_whole_readings) (w := w) (base := base) N_read_by m_abs m_sorted m_tuple F_need_reading
  have F_all_plain := fc_all_plain (P := PySem.Challenge.pw_idleclauses_k09_whole_readings) (w := w) (base := base) N_all_plain m_tuple F_plain_in F_need_bundle
  have F_plain_reading := fc_plain_reading (P := PySem.Challenge.pw_idleclauses_k09_whole_readings) (w := w) (base := base) N_plain_reading F_plain_in F_need_bundle
  have F_nearest_reading := fc_nearest_reading (P := PySem.Challenge.pw_idleclauses_k09_whole_readings) (w := w) (base := base) N_nearest_reading m_min F_lots_of F_crowded_in F_need_bundle
  have F_is_plain := fc_is_plain (P := PySem.Challenge.pw_idleclauses_k09_whole_readings) (w := w) (base := base) N_is_plain F_crowded_in F_need_reading
  have F_law_bundle_right := fc_law_bundle_right (P := PySem.Challenge.pw_idleclauses_k09_whole_readings) (w := w) (base := base) N_law_bundle_right m_min m_range m_repr m_tuple F_reading_paper F_check_reading F_law_due F_read_by F_is_plain F_law_read F_nearest_reading F_plain_reading F_all_plain F_law_crowded F_law_lots
  have F_law_mixed := fc_law_mixed (P := PySem.Challenge.pw_idleclauses_k09_whole_readings) (w := w) (base := base) N_law_mixed m_int
  have F_law_draw := fc_law_draw (P := PySem.Challenge.pw_idleclauses_k09_whole_readings) (w := w) (base := base) N_law_draw m_int m_len F_law_mixed
  have F_law_clause := fc_law_clause (P := PySem.Challenge.pw_idleclauses_k09_whole_readings) (w := w) (base := base) N_law_clause m_len m_list m_min m_range m_sorted m_tuple F_law_draw
  have F_law_bundle := fc_law_bundle (P := PySem.Challenge.pw_idleclauses_k09_whole_readings) (w := w) (base := base) N_law_bundle m_max m_min m_range m_sorted m_tuple F_law_draw F_law_clause
  exact ok_law (base := base) FL m_len m_min m_range F_law_bundle_right F_plain_reading F_all_plain F_nearest_reading F_law_bundle F_law_begin
end K09
end G
end L2
open PySem PySem.W PySem.Calls PyProof.Rows
theorem PySem.Challenge.cw_idleclauses_k09_whole_readings_holds : PySem.Challenge.rw_idleclauses_k09_whole_readings.Holds := by
  w_on; o_law
  refine HandSHeadRun.head_any (r := OpenLaw.row PySem.Challenge.rw_idleclauses_k09_whole_readings) (q := view (OpenLaw.row PySem.Challenge.rw_idleclauses_k09_whole_readings).prog [53]) (H := L2.G.K09.hk) (ob := L2.G.K09.ob) (M := 20000) (loose := L2.G.K09.lo) (d := HandSHeadRun.topDef (OpenLaw.row PySem.Challenge.rw_idleclauses_k09_whole_readings).prog 53) (kwd := []) L2.G.K09.ob_eq
    (by kernel_rfl) (fun s => by kernel_rfl) L2.G.K09.run (by kernel_rfl) (by kernel_rfl) (by kernel_rfl) (by rfl) (by first | assumption | decide +kernel) (by decide +kernel) ⟨rfl, rfl, rfl, rfl, rfl, by decide +kernel⟩ ?hw ?hc
  case hw => w_witness2
  case hc =>
    refine L2.G.walk_G (l := PySem.Challenge.rw_idleclauses_k09_whole_readings) (n := 63) (k := 8) (x := "script") rfl (by decide) (by kernel_rfl) ⟨⟨rfl, by decide, by decide⟩, rfl⟩ ?F
    intro w mg fa h Y G hmg0
    obtain ⟨K, KX, c⟩ := Y
    have hmg : mg ("law" : PySem.Str) = some (.ref fa) := by
      have e : (HandSHeadRun.topDef (OpenLaw.row PySem.Challenge.rw_idleclauses_k09_whole_readings).prog 53).name = ("law" : PySem.Str) := by kernel_rfl
      rw [← e]
      exact hmg0
    exact ⟨K, KX, L2.G.K09.facts KX G hmg c⟩
end H_k09_
