import PyProof.Rows.All
import Wide.All
import OpenK.AllK
import Wide.FinOn
import HandS.ForMost
import HandS.Lambda
import HandS.HeadHook4
import HandS.Exc
import HandS.ExcInit
import HandS.ExcOwn
import HandS.ExcField
import HandS.TryOnly
import HandS.TryMany
import HandS.HeadWalk
import KE.KMinKey
import HandS.Defaults
import HandS.Star
import HandS.Deep
import HandS.TupLe
import HandS.TupAny
import HandS.IsInst
import HandS.More
import HandS.TupLen
import HandS.Zip
import KE.GoesEnum
import KE.SortData
import HandS.Dict
import KE.KDictCopyH
import KE.KDictSum
import HandS.DictComp
import HandS.DictTup
import HandS.Conv
import HandS.Strs
import KE.KDictPairs
import HandS.ClsMeth
import PyProof.ReprRoads
import PyProof.CallFns
import KE.DataMinMax
import KE.KExcInit
import HandS.TupMul
import HandS.Style
import HandS.HeadHook3
import KE.KDflt
import KE.SortKeyHeap
import PyProof.NeData
import KE.KStateDown
import HandS.Head0
import HandS.Head1
import HandS.Head2
import HandS.HeadEnd
import PySem.Challenge.RW_idleclauses_k26_terms_refused
section G1_
set_option Elab.async false
set_option linter.all false
set_option maxRecDepth 100000
set_option maxHeartbeats 1000000
namespace L2
namespace G
open PySem PySem.Spec PyProof.Rows

/-! ### data, stores, results -/
inductive D where
  | non
  | bl (b : Bool)
  | int (i : Int)
  | str (x : Str)
  | tup (xs : List D)
  | lst (xs : List D)
  | dct (t : Bool) (ks vs : List D)
  | ref (n : Nat)
  /-- a tuple whose object is known: of the text, or frozen -/
  | ftup (xs : List D)

inductive Cell where
  | lst (xs : List D)
  | dct (t : Bool) (ks vs : List D)
  /-- the table of code objects of the def x -/
  | tbl (x : Str)
abbrev Store := List Cell
structure Ex where
  cls : Str
  fs : List (Str × D)
inductive Res (α : Type) where
  | ok (a : α) (s : Store)
  | exc (x : Ex) (s : Store)
  | bad
def M (α : Type) := Store → Res α
def ret {α : Type} (a : α) : M α := fun s => .ok a s
def bad {α : Type} : M α := fun _ => .bad
def bnd {α β : Type} (m : M α) (k : α → M β) : M β := fun s => match m s with
  | .ok a s' => k a s'
  | .exc x s' => .exc x s'
  | .bad => .bad
def lift {α : Type} : Option α → M α
  | some a => ret a
  | none => bad
/-- what is said of a result -/
def Ev {α : Type} (r : Res α) (P : α → Store → Prop) (Z : Ex → Store → Prop) : Prop := match r with
  | .ok a s => P a s
  | .exc x s => Z x s
  | .bad => False
theorem Ev.bnd {α β : Type} {m : M α} {k : α → M β} {s : Store} {P : β → Store → Prop} {Z : Ex → Store → Prop} (h : Ev (bnd m k s) P Z) : Ev (m s) (fun a s' => Ev (k a s') P Z) Z := by
  unfold G.bnd at h
  cases e : m s with
  | ok a s' => rw [e] at h; exact h
  | exc x s' => rw [e] at h; exact h
  | bad => rw [e] at h; exact h
theorem Ev.mono {α : Type} {r : Res α} {P P' : α → Store → Prop} {Z Z' : Ex → Store → Prop} (h : Ev r P Z) (hp : ∀ a s, P a s → P' a s) (hz : ∀ x s, Z x s → Z' x s) : Ev r P' Z' := by
  cases r with
  | ok a s => exact hp _ _ h
  | exc x s => exact hz _ _ h
  | bad => exact h
theorem Ev.lift {α : Type} {o : Option α} {s : Store} {P : α → Store → Prop} {Z : Ex → Store → Prop} (h : Ev (lift o s) P Z) : ∃ a, o = some a ∧ P a s := by
  cases o with
  | none => exact h.elim
  | some a => exact ⟨a, rfl, h⟩

/-! ### how data lie in the heap -/
def WrT (K : PySem.W.Frag) (a : Addr) (xs : List V) : Prop := ∃ (o : Obj) (its : Array Value) (n : Nat), K.lookup a = some o ∧ o.cls = .type "tuple" ∧ o.data = .seq its n ∧ its.size ≤ sizeLine ∧ Vals xs its.toList
def WrL (K : PySem.W.Frag) (a : Addr) (xs : List V) : Prop := ∃ (o : Obj) (its : Array Value) (n : Nat), K.lookup a = some o ∧ o.cls = .type "list" ∧ o.dict = none ∧ o.data = .seq its n ∧ its.size ≤ sizeLine ∧ Vals xs its.toList
def LstAt (K : PySem.W.Frag) (F : Addr → Prop) (H : Hp) (a : Addr) (xs : List V) : Prop := (¬ F a ∧ Rd H a (.lst xs)) ∨ WrL K a xs
theorem LstAt.sq {K : PySem.W.Frag} {F : Addr → Prop} {H : Hp} {a : Addr} {xs : List V} (h : LstAt K F H a xs) : SqL K H a xs := h.elim (fun q => .inl q.2) .inr
/-- a tuple whose object is known -/
def FT (K : PySem.W.Frag) (H : Hp) (a : Addr) (xs : List V) : Prop := (∃ o, o.cls = .type "tuple" ∧ o.dict = none ∧ H a = some (.frz o (.tup xs))) ∨ ∃ (o : Obj) (its : Array Value) (n : Nat), K.lookup a = some o ∧ o.cls = .type "tuple" ∧ o.dict = none ∧ o.data = .seq its n ∧ its.size ≤ sizeLine ∧ Vals xs its.toList
theorem FT.sq {K : PySem.W.Frag} {H : Hp} {a : Addr} {xs : List V} (h : FT K H a xs) : SqT K H a xs := by
  rcases h with ⟨o, _, _, h⟩ | ⟨o, its, n, h1, h2, _, h3, h4, h5⟩
  · exact .inl (.inr ⟨o, h⟩)
  · exact .inr ⟨o, its, n, h1, h2, h3, h4, h5⟩
/-- keys -/
def kD : Key → D
  | .inl i => .int i
  | .inr x => .str x
def tkD (k : List Key) : D := .tup (k.map kD)
/-- a dict's object -/
def DctO (o : HO) (t : Bool) (ks : List D) (vs : List V) : Prop := (∃ kvs : List (Key × V), t = false ∧ o = .dK kvs ∧ ks = kvs.map (fun p => kD p.1) ∧ vs = kvs.map (·.2)) ∨ (∃ kvs : List (List Key × V), t = true ∧ o = .dT kvs ∧ ks = kvs.map (fun p => tkD p.1) ∧ vs = kvs.map (·.2))
mutual
inductive Rep (K : PySem.W.Frag) (F : Addr → Prop) (as : List Addr) (H : Hp) : V → D → Prop
  | non : Rep K F as H .non .non
  | bl (b : Bool) : Rep K F as H (.bl b) (.bl b)
  | int (i : Int) : Rep K F as H (.int i) (.int i)
  | str (x : Str) : Rep K F as H (.str x) (.str x)
  | tup {a : Addr} {xs : List V} {ds : List D} : H a = some (.tup xs) → Reps K F as H xs ds → Rep K F as H (.ref a) (.tup ds)
  | lst {a : Addr} {xs : List V} {ds : List D} : LstAt K F H a xs → Reps K F as H xs ds → Rep K F as H (.ref a) (.lst ds)
  | dct {a : Addr} {o : HO} {xs : List V} {t : Bool} {ks ds : List D} : ¬ F a → Rd H a o → DctO o t ks xs → Reps K F as H xs ds → Rep K F as H (.ref a) (.dct t ks ds)
  | ref {a : Addr} {n : Nat} : as[n]? = some a → Rep K F as H (.ref a) (.ref n)
  | ftup {a : Addr} {xs : List V} {ds : List D} : FT K H a xs → Reps K F as H xs ds → Rep K F as H (.ref a) (.ftup ds)
inductive Reps (K : PySem.W.Frag) (F : Addr → Prop) (as : List Addr) (H : Hp) : List V → List D → Prop
  | nil : Reps K F as H [] []
  | cons {v : V} {vs : List V} {d : D} {ds : List D} : Rep K F as H v d → Reps K F as H vs ds → Reps K F as H (v :: vs) (d :: ds)
end
def TupO : HO → Prop
  | .tup _ => True
  | .frz _ (.tup _) => True
  | .ext _ => True
  | _ => False
section
variable {K : PySem.W.Frag} {F F' : Addr → Prop} {as as' : List Addr} {H H' : Hp}
theorem sqT_frame {a : Addr} {xs : List V} (k : ∀ b o, H b = some o → TupO o → H' b = some o) (h : SqT K H a xs) : SqT K H' a xs := by
  rcases h with (h | ⟨o, h⟩) | h
  · exact .inl (.inl (k _ _ h trivial))
  · exact .inl (.inr ⟨o, k _ _ h trivial⟩)
  · exact .inr h
theorem FT.frame {a : Addr} {xs : List V} (k : ∀ b o, H b = some o → TupO o → H' b = some o) (h : FT K H a xs) : FT K H' a xs := by
  rcases h with ⟨o, c, d, h⟩ | h
  · exact .inl ⟨o, c, d, k _ _ h trivial⟩
  · exact .inr h
theorem LstAt.frame {a : Addr} {xs : List V} (k : ∀ b o, H b = some o → ¬ F b → H' b = some o) (h : LstAt K F H a xs) : LstAt K F H' a xs := by
  rcases h with ⟨n, h | ⟨o, h⟩⟩ | h
  · exact .inl ⟨n, .inl (k _ _ h n)⟩
  · exact .inl ⟨n, .inr ⟨o, k _ _ h n⟩⟩
  · exact .inr h
theorem LstAt.weak {a : Addr} {xs : List V} (k : ∀ a o, H a = some o → F' a → F a) (h : LstAt K F H a xs) : LstAt K F' H a xs := by
  rcases h with ⟨n, h | ⟨o, h⟩⟩ | h
  · exact .inl ⟨fun q => n (k _ _ h q), .inl h⟩
  · exact .inl ⟨fun q => n (k _ _ h q), .inr ⟨o, h⟩⟩
  · exact .inr h
theorem rd_frame {a : Addr} {o : HO} (k : ∀ b o, H b = some o → ¬ F b → H' b = some o) (n : ¬ F a) (h : Rd H a o) : Rd H' a o := h.elim (fun h => .inl (k _ _ h n)) fun ⟨u, h⟩ => .inr ⟨u, k _ _ h n⟩
theorem rd_weak {a : Addr} {o : HO} (k : ∀ a o, H a = some o → F' a → F a) (n : ¬ F a) (h : Rd H a o) : ¬ F' a := h.elim (fun h q => n (k _ _ h q)) fun ⟨u, h⟩ q => n (k _ _ h q)
mutual
theorem Rep.frame {v : V} {d : D} (k : ∀ b o, H b = some o → ¬ F b → H' b = some o) (kt : ∀ b o, H b = some o → TupO o → H' b = some o) (p : ∀ (n : Nat) (a : Addr), as[n]? = some a → as'[n]? = some a) : Rep K F as H v d → Rep K F as' H' v d
  | .non => .non
  | .bl b => .bl b
  | .int i => .int i
  | .str x => .str x
  | .tup h r => .tup (kt _ _ h trivial) (r.frame k kt p)
  | .lst h r => .lst (h.frame k) (r.frame k kt p)
  | .dct n h o r => .dct n (rd_frame k n h) o (r.frame k kt p)
  | .ref h => .ref (p _ _ h)
  | .ftup h r => .ftup (h.frame kt) (r.frame k kt p)
theorem Reps.frame {vs : List V} {ds : List D} (k : ∀ b o, H b = some o → ¬ F b → H' b = some o) (kt : ∀ b o, H b = some o → TupO o → H' b = some o) (p : ∀ (n : Nat) (a : Addr), as[n]? = some a → as'[n]? = some a) : Reps K F as H vs ds → Reps K F as' H' vs ds
  | .nil => .nil
  | .cons h r => .cons (h.frame k kt p) (r.frame k kt p)
end
mutual
theorem Rep.weak {v : V} {d : D} (k : ∀ a o, H a = some o → F' a → F a) : Rep K F as H v d → Rep K F' as H v d
  | .non => .non
  | .bl b => .bl b
  | .int i => .int i
  | .str x => .str x
  | .tup h r => .tup h (r.weak k)
  | .lst h r => .lst (h.weak k) (r.weak k)
  | .dct n h o r => .dct (rd_weak k n h) h o (r.weak k)
  | .ref h => .ref h
  | .ftup h r => .ftup h (r.weak k)
theorem Reps.weak {vs : List V} {ds : List D} (k : ∀ a o, H a = some o → F' a → F a) : Reps K F as H vs ds → Reps K F' as H vs ds
  | .nil => .nil
  | .cons h r => .cons (h.weak k) (r.weak k)
end
theorem Reps.length {vs : List V} {ds : List D} : Reps K F as H vs ds → vs.length = ds.length
  | .nil => rfl
  | .cons _ r => by simp [r.length]
theorem Reps.append {vs vs' : List V} {ds ds' : List D} : Reps K F as H vs ds → Reps K F as H vs' ds' → Reps K F as H (vs ++ vs') (ds ++ ds')
  | .nil, r => r
  | .cons h t, r => .cons h (t.append r)
theorem Reps.get {vs : List V} {ds : List D} {i : Nat} {v : V} : Reps K F as H vs ds → vs[i]? = some v → ∃ d, ds[i]? = some d ∧ Rep K F as H v d
  | .nil, e => by simp at e
  | .cons h t, e => by
    cases i with
    | zero => simp at e; subst e; exact ⟨_, rfl, h⟩
    | succ i => exact t.get (i := i) (by simpa using e)
theorem Reps.get' {vs : List V} {ds : List D} {i : Nat} {d : D} : Reps K F as H vs ds → ds[i]? = some d → ∃ v, vs[i]? = some v ∧ Rep K F as H v d
  | .nil, e => by simp at e
  | .cons h t, e => by
    cases i with
    | zero => simp at e; subst e; exact ⟨_, rfl, h⟩
    | succ i => exact t.get' (i := i) (by simpa using e)
end

/-! ### immutable data -/
mutual
def D.imm : D → Bool
  | .tup xs => D.imms xs
  | .ftup xs => D.imms xs
  | .lst _ => false
  | .dct _ _ _ => false
  | _ => true
def D.imms : List D → Bool
  | [] => true
  | d :: ds => d.imm && D.imms ds
end
mutual
theorem Rep.of_imm {K : PySem.W.Frag} {F F' : Addr → Prop} {as : List Addr} {H : Hp} {v : V} {d : D} (i : d.imm = true) : Rep K F as H v d → Rep K F' as H v d
  | .non => .non
  | .bl b => .bl b
  | .int i => .int i
  | .str x => .str x
  | .tup h r => .tup h (r.of_imm (by simpa [D.imm] using i))
  | .lst h r => by simp [D.imm] at i
  | .dct n h o r => by simp [D.imm] at i
  | .ref h => .ref h
  | .ftup h r => .ftup h (r.of_imm (by simpa [D.imm] using i))
theorem Reps.of_imm {K : PySem.W.Frag} {F F' : Addr → Prop} {as : List Addr} {H : Hp} {vs : List V} {ds : List D} (i : D.imms ds = true) : Reps K F as H vs ds → Reps K F' as H vs ds
  | .nil => .nil
  | .cons h r => by
    simp only [D.imms, Bool.and_eq_true] at i
    exact .cons (h.of_imm i.1) (r.of_imm i.2)
end

/-! ### the store -/
def CellAt (K : PySem.W.Frag) (as : List Addr) (H : Hp) (a : Addr) : Cell → Prop
  | .lst xs => ∃ vs, H a = some (.lst vs) ∧ Reps K (fun _ => True) as H vs xs
  | .dct t ks xs => ∃ o vs, H a = some o ∧ DctO o t ks vs ∧ Reps K (fun _ => True) as H vs xs
  | .tbl x => a = (He.cT K (x, none)).2 ∧ LamX.TabS H a (x ++ (".<locals>." : Str) ++ ("<lambda>" : Str))
structure SRep (K : PySem.W.Frag) (as : List Addr) (st : Store) (H : Hp) : Prop where
  nd : as.Nodup
  len : as.length = st.length
  at_ : ∀ (i : Nat) (a : Addr) (c : Cell), as[i]? = some a → st[i]? = some c → CellAt K as H a c
theorem DctO.notTup {o : HO} {t : Bool} {ks : List D} {vs : List V} (h : DctO o t ks vs) : ¬ TupO o := by
  rcases h with ⟨_, _, rfl, _⟩ | ⟨_, _, rfl, _⟩ <;> exact fun z => z
theorem SRep.mem {K : PySem.W.Frag} {as : List Addr} {st : Store} {H : Hp} (h : SRep K as st H) {a : Addr} (ha : a ∈ as) : ∃ o, H a = some o ∧ ¬ TupO o := by
  obtain ⟨i, hi, e⟩ := List.getElem_of_mem ha
  have hi' : i < st.length := by rw [← h.len]; exact hi
  have q := h.at_ i a st[i] (by rw [List.getElem?_eq_getElem hi, e]) (List.getElem?_eq_getElem hi')
  cases hc : st[i] with
  | lst xs => rw [hc] at q; obtain ⟨vs, q, _⟩ := q; exact ⟨_, q, fun z => z⟩
  | dct t ks xs => rw [hc] at q; obtain ⟨o, vs, q, r, _⟩ := q; exact ⟨_, q, r.notTup⟩
  | tbl y => rw [hc] at q; obtain ⟨_, ps, q, _⟩ := q; exact ⟨_, q, fun z => z⟩
structure Grow (as : List Addr) (H : Hp) (as' : List Addr) (H' : Hp) : Prop where
  pre : ∀ (n : Nat) (a : Addr), as[n]? = some a → as'[n]? = some a
  keep : ∀ b o, H b = some o → b ∉ as → H' b = some o
  fre : ∀ a ∈ as', a ∉ as → H a = none
theorem Grow.refl (as : List Addr) (H : Hp) : Grow as H as H := ⟨fun _ _ h => h, fun _ _ h _ => h, fun _ h n => absurd h n⟩
theorem Grow.sub {as : List Addr} {H : Hp} {as' : List Addr} {H' : Hp} (g : Grow as H as' H') {a : Addr} (h : a ∈ as) : a ∈ as' := by
  obtain ⟨i, hi, e⟩ := List.getElem_of_mem h
  exact List.mem_of_getElem? (g.pre i a (by rw [List.getElem?_eq_getElem hi, e]))
theorem Grow.trans {as as1 as2 : List Addr} {H H1 H2 : Hp} (g : Grow as H as1 H1) (k : Grow as1 H1 as2 H2) : Grow as H as2 H2 where
  pre := fun n a h => k.pre n a (g.pre n a h)
  keep := fun b o h n => k.keep b o (g.keep b o h n) fun q => by
    have := g.fre b q n
    rw [h] at this
    cases this
  fre := fun a h n => by
    by_cases q : a ∈ as1
    · exact g.fre a q n
    · cases e : H a with
      | none => rfl
      | some o =>
        have := k.fre a h q
        rw [g.keep a o e n] at this
        cases this
/-- a new object that is no cell -/
theorem Grow.new {as : List Addr} {H : Hp} {p : Addr} {o : HO} (n : H p = none) : Grow as H as (upd H p o) := ⟨fun _ _ h => h, fun b u h _ => by rw [upd_ne (ne_of_none h n)]; exact h, fun _ h q => absurd h q⟩
theorem SRep.frame {K : PySem.W.Frag} {as : List Addr} {st : Store} {H H' : Hp} (h : SRep K as st H) (k : ∀ b o, H b = some o → (b ∈ as ∨ TupO o) → H' b = some o) : SRep K as st H' where
  nd := h.nd
  len := h.len
  at_ := fun i a c ha hc => by
    have q := h.at_ i a c ha hc
    have hm : a ∈ as := List.mem_of_getElem? ha
    cases c with
    | lst xs =>
      obtain ⟨vs, e, r⟩ := q
      exact ⟨vs, k _ _ e (.inl hm), r.frame (fun _ _ _ n => absurd trivial n) (fun b o e t => k b o e (.inr t)) fun _ _ h => h⟩
    | dct t ks xs =>
      obtain ⟨o, vs, e, d, r⟩ := q
      exact ⟨o, vs, k _ _ e (.inl hm), d, r.frame (fun _ _ _ n => absurd trivial n) (fun b o e t => k b o e (.inr t)) fun _ _ h => h⟩
    | tbl y =>
      obtain ⟨hx, ps, e, t, c⟩ := q
      refine ⟨hx, ps, k _ _ e (.inl hm), t, fun pos cv hcv => ?_⟩
      obtain ⟨c, e1, e2⟩ := c pos cv hcv
      exact ⟨c, e1, k _ _ e2 (.inr trivial)⟩
theorem SRep.new {K : PySem.W.Frag} {as : List Addr} {st : Store} {H : Hp} {p : Addr} {o : HO} (h : SRep K as st H) (n : H p = none) : SRep K as st (upd H p o) :=
  h.frame fun b u e _ => by rw [upd_ne (ne_of_none e n)]; exact e
end G
end L2
end G1_
section G2_
set_option Elab.async false
set_option linter.all false
set_option maxRecDepth 100000
set_option maxHeartbeats 1000000
namespace L2
namespace G
open PySem PySem.Spec PyProof.Rows

abbrev Env := List (Option D)
def ownA (O : List Nat) (σ : St) (a : Addr) : Prop := ∃ i, i ∈ O ∧ σ[i]? = some (some (.ref a))
/-- what must not be shared -/
def Ff (B : Addr → Prop) (as : List Addr) (O : List Nat) (σ : St) (a : Addr) : Prop := B a ∨ a ∈ as ∨ ownA O σ a
inductive Own (K : PySem.W.Frag) (F : Addr → Prop) (as : List Addr) (H : Hp) : V → D → Prop
  | lst {p : Addr} {vs : List V} {ds : List D} : H p = some (.lst vs) → Reps K F as H vs ds → Own K F as H (.ref p) (.lst ds)
  | dct {p : Addr} {o : HO} {vs : List V} {t : Bool} {ks ds : List D} : H p = some o → DctO o t ks vs → Reps K F as H vs ds → Own K F as H (.ref p) (.dct t ks ds)
  | sca {v : V} {d : D} : Rep K F as H v d → (∀ p, v ≠ .ref p) → Own K F as H v d
structure Wf (K : PySem.W.Frag) (O : List Nat) (B : Addr → Prop) (H0 : Hp) (as0 as : List Addr) (ρ : Env) (σ : St) (H : Hp) : Prop where
  len : σ.length = ρ.length
  var : ∀ i d, ρ[i]? = some (some d) → i ∉ O → ∃ v, σ[i]? = some (some v) ∧ Rep K (Ff B as O σ) as H v d
  own : ∀ i d, ρ[i]? = some (some d) → i ∈ O → ∃ v, σ[i]? = some (some v) ∧ Own K (Ff B as O σ) as H v d
  slot : ∀ i a, i ∈ O → σ[i]? = some (some (.ref a)) → H0 a = none ∧ a ∉ as ∧ ¬ B a ∧ ∃ o, H a = some o ∧ ¬ TupO o
  dis : ∀ i j a, i ∈ O → j ∈ O → σ[i]? = some (some (.ref a)) → σ[j]? = some (some (.ref a)) → i = j
  trB : ∀ a, B a → ∃ o, H a = some o
  gr : Grow as0 H0 as H
inductive RepT (K : PySem.W.Frag) (F : Addr → Prop) (as : List Addr) (H : Hp) (v : V) (d : D) : Prop
  | rep : Rep K F as H v d → RepT K F as H v d
  | own : Own K F as H v d → (∀ p, v = .ref p → p ∉ as) → RepT K F as H v d
section
variable {K : PySem.W.Frag} {O : List Nat} {B : Addr → Prop} {H0 : Hp} {as0 as as' : List Addr} {ρ : Env} {σ : St} {H H' : Hp} {st : Store} {v : V} {d : D}
theorem Wf.tr (w : Wf K O B H0 as0 as ρ σ H) (s : SRep K as st H) : ∀ a, Ff B as O σ a → ∃ o, H a = some o := by
  rintro a (h | h | ⟨i, hi, h⟩)
  · exact w.trB a h
  · obtain ⟨o, h, _⟩ := s.mem h; exact ⟨o, h⟩
  · obtain ⟨_, _, _, o, h, _⟩ := w.slot i a hi h; exact ⟨o, h⟩
theorem ff_grow (g : Grow as H as' H') : ∀ a o, H a = some o → Ff B as' O σ a → Ff B as O σ a := by
  rintro a o e (h | h | h)
  · exact .inl h
  · by_cases q : a ∈ as
    · exact .inr (.inl q)
    · rw [g.fre a h q] at e; cases e
  · exact .inr (.inr h)
theorem grow_k (g : Grow as H as' H') : ∀ b o, H b = some o → ¬ Ff B as' O σ b → H' b = some o := fun b o e n => g.keep b o e fun q => n (.inr (.inl (g.sub q)))
theorem grow_t (s : SRep K as st H) (g : Grow as H as' H') : ∀ b o, H b = some o → TupO o → H' b = some o := fun b o e t => g.keep b o e fun q => by
  obtain ⟨o', e', n⟩ := s.mem q
  rw [e] at e'; cases e'
  exact n t
theorem Rep.grow (s : SRep K as st H) (g : Grow as H as' H') (r : Rep K (Ff B as O σ) as H v d) : Rep K (Ff B as' O σ) as' H' v d :=
  (r.weak (ff_grow g)).frame (grow_k g) (grow_t s g) g.pre
theorem Reps.grow {vs : List V} {ds : List D} (s : SRep K as st H) (g : Grow as H as' H') (r : Reps K (Ff B as O σ) as H vs ds) : Reps K (Ff B as' O σ) as' H' vs ds :=
  (r.weak (ff_grow g)).frame (grow_k g) (grow_t s g) g.pre
theorem Own.grow (s : SRep K as st H) (g : Grow as H as' H') (n : ∀ p, v = .ref p → p ∉ as) (r : Own K (Ff B as O σ) as H v d) : Own K (Ff B as' O σ) as' H' v d := by
  cases r with
  | lst h r => exact .lst (g.keep _ _ h (n _ rfl)) (r.grow s g)
  | dct h o r => exact .dct (g.keep _ _ h (n _ rfl)) o (r.grow s g)
  | sca r q => exact .sca (r.grow s g) q
theorem RepT.grow (s : SRep K as st H) (g : Grow as H as' H') (r : RepT K (Ff B as O σ) as H v d) : RepT K (Ff B as' O σ) as' H' v d := by
  cases r with
  | rep r => exact .rep (r.grow s g)
  | own r n =>
    refine .own (r.grow s g n) fun p e q => ?_
    have hp := n p e
    have hn := g.fre p q hp
    subst e
    cases r with
    | lst h _ => rw [h] at hn; cases hn
    | dct h _ _ => rw [h] at hn; cases hn
    | sca _ z => exact z p rfl
theorem Wf.grow {st' : Store} (w : Wf K O B H0 as0 as ρ σ H) (s : SRep K as st H) (g : Grow as H as' H') (s' : SRep K as' st' H') : Wf K O B H0 as0 as' ρ σ H' where
  len := w.len
  var := fun i d e n => let ⟨v, h, r⟩ := w.var i d e n; ⟨v, h, r.grow s g⟩
  own := fun i d e m => by
    obtain ⟨v, h, r⟩ := w.own i d e m
    exact ⟨v, h, r.grow s g fun p z => by subst z; exact (w.slot i p m h).2.1⟩
  slot := fun i a m e => by
    obtain ⟨h1, h2, h3, o, h4, h5⟩ := w.slot i a m e
    refine ⟨h1, fun q => ?_, h3, o, g.keep a o h4 h2, h5⟩
    have := g.fre a q h2
    rw [h4] at this
    cases this
  dis := w.dis
  trB := fun a b => by
    obtain ⟨o, h⟩ := w.trB a b
    by_cases q : a ∈ as
    · obtain ⟨o, h, _⟩ := s'.mem (g.sub q); exact ⟨o, h⟩
    · exact ⟨o, g.keep a o h q⟩
  gr := w.gr.trans g
/-! ### views -/
section
variable {F : Addr → Prop}
theorem RepT.t_int {i : Int} (r : RepT K F as H v (.int i)) : v = .int i := by
  cases r with
  | rep r => cases r; rfl
  | own r => cases r with | sca r => cases r; rfl
theorem RepT.t_bl {b : Bool} (r : RepT K F as H v (.bl b)) : v = .bl b := by
  cases r with
  | rep r => cases r; rfl
  | own r => cases r with | sca r => cases r; rfl
theorem RepT.t_str {x : Str} (r : RepT K F as H v (.str x)) : v = .str x := by
  cases r with
  | rep r => cases r; rfl
  | own r => cases r with | sca r => cases r; rfl
theorem RepT.t_non (r : RepT K F as H v .non) : v = .non := by
  cases r with
  | rep r => cases r; rfl
  | own r => cases r with | sca r => cases r; rfl
theorem RepT.t_lst {ds : List D} (r : RepT K F as H v (.lst ds)) : ∃ a xs, v = .ref a ∧ SqL K H a xs ∧ Reps K F as H xs ds := by
  cases r with
  | rep r => cases r with | lst h r => exact ⟨_, _, rfl, h.sq, r⟩
  | own r => cases r with
    | lst h r => exact ⟨_, _, rfl, .inl (.inl h), r⟩
    | sca r z => cases r; exact absurd rfl (z _)
theorem RepT.t_tup {ds : List D} (r : RepT K F as H v (.tup ds)) : ∃ a xs, v = .ref a ∧ H a = some (.tup xs) ∧ Reps K F as H xs ds := by
  cases r with
  | rep r => cases r with | tup h r => exact ⟨_, _, rfl, h, r⟩
  | own r => cases r with
    | sca r z => cases r; exact absurd rfl (z _)
theorem RepT.t_ftup {ds : List D} (r : RepT K F as H v (.ftup ds)) : ∃ a xs, v = .ref a ∧ FT K H a xs ∧ Reps K F as H xs ds := by
  cases r with
  | rep r => cases r with | ftup h r => exact ⟨_, _, rfl, h, r⟩
  | own r => cases r with
    | sca r z => cases r; exact absurd rfl (z _)
theorem RepT.t_dct {t : Bool} {ks ds : List D} (r : RepT K F as H v (.dct t ks ds)) : ∃ a o xs, v = .ref a ∧ Rd H a o ∧ DctO o t ks xs ∧ Reps K F as H xs ds := by
  cases r with
  | rep r => cases r with | dct n h o r => exact ⟨_, _, _, rfl, h, o, r⟩
  | own r => cases r with
    | dct h o r => exact ⟨_, _, _, rfl, .inl h, o, r⟩
    | sca r z => cases r; exact absurd rfl (z _)
theorem RepT.t_ref {n : Nat} (r : RepT K F as H v (.ref n)) : ∃ a, v = .ref a ∧ as[n]? = some a := by
  cases r with
  | rep r => cases r with | ref h => exact ⟨_, rfl, h⟩
  | own r => cases r with
    | sca r z => cases r; exact absurd rfl (z _)
end
end

/-! ### the judgements -/
abbrev ZT := (Addr → Prop) → Ex → Store → List Addr → L2.St → Hp → Prop
def Zc (K : PySem.W.Frag) (O : List Nat) (B : Addr → Prop) (H0 : Hp) (as0 : List Addr) (Z : ZT) (x : Ex) (st' : Store) : Prop := ∀ as' ρ' σ' H' (B' : Addr → Prop), (∀ a, B a → B' a) → Wf K O B H0 as0 as' ρ' σ' H' → SRep K as' st' H' → Z B' x st' as' σ' H'
/-- what stands: the ghosts of a reading -/
structure Gh where
  B : Addr → Prop
  H0 : Hp
  as0 : List Addr
  as : List Addr
  ρ : Env
  st : Store
structure Gh.ok (K : PySem.W.Frag) (O : List Nat) (g : Gh) (σ : L2.St) (H : Hp) : Prop where
  wf : Wf K O g.B g.H0 g.as0 g.as g.ρ σ H
  sr : SRep K g.as g.st H
def tE (K : PySem.W.Frag) (O : List Nat) (Z : ZT) (f : Env → M D) : TE := fun σ H Q => ∃ g : Gh, g.ok K O σ H ∧ Ev (f g.ρ g.st) (fun d st' => ∀ as' v H', Grow g.as H as' H' → SRep K as' st' H' → Rep K (Ff g.B as' O σ) as' H' v d → Q v H') (Zc K O g.B g.H0 g.as0 Z)
def tU (K : PySem.W.Frag) (O : List Nat) (Z : ZT) (f : Env → M D) : TE := fun σ H Q => ∃ g : Gh, g.ok K O σ H ∧ Ev (f g.ρ g.st) (fun d st' => ∀ as' v H', Grow g.as H as' H' → SRep K as' st' H' → RepT K (Ff g.B as' O σ) as' H' v d → Q v H') (Zc K O g.B g.H0 g.as0 Z)
/-- a new list or dict, or what is no object -/
def tN (K : PySem.W.Frag) (O : List Nat) (Z : ZT) (f : Env → M D) : TE := fun σ H Q => ∃ g : Gh, g.ok K O σ H ∧ Ev (f g.ρ g.st) (fun d st' => ∀ as' v H', Grow g.as H as' H' → SRep K as' st' H' → Own K (fun a => Ff g.B as' O σ a ∨ v = .ref a) as' H' v d → (∀ p, v = .ref p → H p = none ∧ p ∉ as') → Q v H') (Zc K O g.B g.H0 g.as0 Z)
def tA (K : PySem.W.Frag) (O : List Nat) (Z : ZT) (f : Env → M (List D)) : TA := fun σ H Q => ∃ g : Gh, g.ok K O σ H ∧ Ev (f g.ρ g.st) (fun ds st' => ∀ as' vs H', Grow g.as H as' H' → SRep K as' st' H' → Reps K (Ff g.B as' O σ) as' H' vs ds → Q vs H') (Zc K O g.B g.H0 g.as0 Z)
def tT (K : PySem.W.Frag) (O : List Nat) (Z : ZT) (f : Env → M Bool) : TT := fun σ H Q => ∃ g : Gh, g.ok K O σ H ∧ Ev (f g.ρ g.st) (fun b st' => ∀ as' H', Grow g.as H as' H' → SRep K as' st' H' → Q b H') (Zc K O g.B g.H0 g.as0 Z)
inductive Fl where
  | next | brk | cont | ret (d : D)
/-- what statements leave as it was -/
structure Step (O : List Nat) (as : List Addr) (σ : L2.St) (H : Hp) (as' : List Addr) (σ' : L2.St) (H' : Hp) : Prop where
  pre : ∀ (n : Nat) (a : Addr), as[n]? = some a → as'[n]? = some a
  keep : ∀ b o, H b = some o → b ∉ as → ¬ ownA O σ b → H' b = some o
  fre : ∀ a ∈ as', a ∉ as → H a = none
  own : ∀ a, ownA O σ' a → ownA O σ a ∨ H a = none
  trk : ∀ b o, H b = some o → ∃ o', H' b = some o'
theorem Grow.step {K : PySem.W.Frag} {O : List Nat} {as : List Addr} {σ : L2.St} {H : Hp} {as' : List Addr} {H' : Hp} {st' : Store} (g : Grow as H as' H') (s' : SRep K as' st' H') : Step O as σ H as' σ H' :=
  ⟨g.pre, fun b o h n _ => g.keep b o h n, g.fre, fun _ h => .inl h, fun b o h => by
    by_cases q : b ∈ as
    · obtain ⟨o', h, _⟩ := s'.mem (g.sub q); exact ⟨o', h⟩
    · exact ⟨o, g.keep b o h q⟩⟩
theorem Step.refl (O : List Nat) (as : List Addr) (σ : L2.St) (H : Hp) : Step O as σ H as σ H := ⟨fun _ _ h => h, fun _ _ h _ _ => h, fun _ h n => absurd h n, fun _ h => .inl h, fun _ o h => ⟨o, h⟩⟩
theorem Step.back {O : List Nat} {as as1 : List Addr} {σ σ1 : L2.St} {H H1 : Hp} (g : Step O as σ H as1 σ1 H1) {a : Addr} (h : H1 a = none) : H a = none := by
  cases e : H a with
  | none => rfl
  | some o =>
    obtain ⟨o', e'⟩ := g.trk a o e
    rw [h] at e'; cases e'
theorem Step.trans {O : List Nat} {as as1 as2 : List Addr} {σ σ1 σ2 : L2.St} {H H1 H2 : Hp} (g : Step O as σ H as1 σ1 H1) (k : Step O as1 σ1 H1 as2 σ2 H2) : Step O as σ H as2 σ2 H2 where
  pre := fun n a h => k.pre n a (g.pre n a h)
  keep := fun b o h n m => k.keep b o (g.keep b o h n m) (fun q => by
    have := g.fre b q n
    rw [h] at this
    cases this) fun q => by
    rcases g.own b q with q | q
    · exact m q
    · rw [h] at q; cases q
  fre := fun a h n => by
    by_cases q : a ∈ as1
    · exact g.fre a q n
    · exact g.back (k.fre a h q)
  own := fun a h => by
    rcases k.own a h with h | h
    · exact g.own a h
    · exact .inr (g.back h)
  trk := fun b o h => by
    obtain ⟨o1, h1⟩ := g.trk b o h
    exact k.trk b o1 h1
def tS (K : PySem.W.Frag) (O : List Nat) (Z : ZT) (f : Env → M (Fl × Env)) : TS := fun E σ H => ∃ g : Gh, g.ok K O σ H ∧ Ev (f g.ρ g.st) (fun r st' => ∀ as' σ' H', Step O g.as σ H as' σ' H' → Wf K O g.B g.H0 g.as0 as' r.2 σ' H' → SRep K as' st' H' → match r.1 with
  | .next => E.nx σ' H'
  | .brk => E.bk σ' H'
  | .cont => E.ct σ' H'
  | .ret d => ∀ v, Rep K (fun a => g.B a ∨ a ∈ as') as' H' v d → E.rt v H') (Zc K O g.B g.H0 g.as0 Z)
abbrev DE (X : Cx) (O : List Nat) (Z : ZT) (e : Expr) (f : Env → M D) : Prop := PE X e (tE X.K O Z f)
abbrev DU (X : Cx) (O : List Nat) (Z : ZT) (e : Expr) (f : Env → M D) : Prop := PE X e (tU X.K O Z f)
abbrev DN (X : Cx) (O : List Nat) (Z : ZT) (e : Expr) (f : Env → M D) : Prop := PE X e (tN X.K O Z f)
abbrev DA (X : Cx) (O : List Nat) (Z : ZT) (es : List Expr) (f : Env → M (List D)) : Prop := PA X es (tA X.K O Z f)
abbrev DT (X : Cx) (O : List Nat) (Z : ZT) (e : Expr) (f : Env → M Bool) : Prop := PT X e (tT X.K O Z f)
abbrev DW (X : Cx) (O : List Nat) (Z : ZT) (e : Expr) (f : Env → M Bool) : Prop := PW X e (tT X.K O Z f)
abbrev DS (X : Cx) (O : List Nat) (Z : ZT) (s : Stmt) (f : Env → M (Fl × Env)) : Prop := PS X s (tS X.K O Z f)
abbrev DSs (X : Cx) (O : List Nat) (Z : ZT) (s : List Stmt) (f : Env → M (Fl × Env)) : Prop := PSs X s (tS X.K O Z f)
theorem PE.imp {X : Cx} {e : Expr} {t t' : TE} (h : PE X e t) (k : ∀ σ H Q, t' σ H Q → t σ H Q) : PE X e t' := ⟨fun pins s σ H Q I q => h.run pins s σ H Q I (k σ H Q q)⟩
theorem PA.imp {X : Cx} {e : List Expr} {t t' : TA} (h : PA X e t) (k : ∀ σ H Q, t' σ H Q → t σ H Q) : PA X e t' := ⟨fun pos pins s σ H Q I q => h.run pos pins s σ H Q I (k σ H Q q)⟩
theorem PT.imp {X : Cx} {e : Expr} {t t' : TT} (h : PT X e t) (k : ∀ σ H Q, t' σ H Q → t σ H Q) : PT X e t' := ⟨fun pins s σ H Q I q => h.run pins s σ H Q I (k σ H Q q)⟩
theorem PW.imp {X : Cx} {e : Expr} {t t' : TT} (h : PW X e t) (k : ∀ σ H Q, t' σ H Q → t σ H Q) : PW X e t' := ⟨fun wh pins s σ H Q I q => h.run wh pins s σ H Q I (k σ H Q q)⟩
theorem PS.imp {X : Cx} {e : Stmt} {t t' : TS} (h : PS X e t) (k : ∀ D σ H, t' D σ H → t D σ H) : PS X e t' := ⟨fun pins s σ H D I q => h.run pins s σ H D I (k D σ H q)⟩
theorem PSs.imp {X : Cx} {e : List Stmt} {t t' : TS} (h : PSs X e t) (k : ∀ D σ H, t' D σ H → t D σ H) : PSs X e t' := ⟨fun pins s σ H D I q => h.run pins s σ H D I (k D σ H q)⟩
section
variable {X : Cx} {O : List Nat} {Z : ZT} {e a b c : Expr} {es : List Expr} {f fa fb fc : Env → M D} {pos : Pos}
theorem DE.du (h : DE X O Z e f) : DU X O Z e f := PE.imp h fun σ H Q ⟨g, ok, q⟩ => ⟨g, ok, q.mono (fun d st' q as' v H' gr s r => q as' v H' gr s (.rep r)) fun _ _ z => z⟩
theorem DN.de (h : DN X O Z e f) : DE X O Z e f := PE.imp h fun σ H Q ⟨g, ok, q⟩ => ⟨g, ok, q.mono (fun d st' q as' v H' gr s r n => q as' v H' gr s (by
  have nF : ∀ p, v = .ref p → ¬ Ff g.B as' O σ p := fun p e z => by
    obtain ⟨n1, n2⟩ := n p e
    rcases z with z | z | ⟨i, hi, z⟩
    · obtain ⟨o, z⟩ := ok.wf.trB p z; rw [n1] at z; cases z
    · exact n2 z
    · obtain ⟨_, _, _, o, z, _⟩ := ok.wf.slot i p hi z; rw [n1] at z; cases z
  cases r with
  | lst h r => exact .lst (.inl ⟨nF _ rfl, .inl h⟩) (r.weak fun _ _ _ z => .inl z)
  | dct h o r => exact .dct (nF _ rfl) (.inl h) o (r.weak fun _ _ _ z => .inl z)
  | sca r _ => exact r.weak fun _ _ _ z => .inl z)) fun _ _ z => z⟩
theorem DN.du (h : DN X O Z e f) : DU X O Z e f := DE.du (DN.de h)
/-- the ghosts behind an expression -/
def Gh.at (g : Gh) (as' : List Addr) (st' : Store) : Gh := { g with as := as', st := st' }
theorem Gh.ok.step {K : PySem.W.Frag} {g : Gh} {σ : L2.St} {H H' : Hp} {as' : List Addr} {st' : Store} (ok : g.ok K O σ H) (gr : Grow g.as H as' H') (s : SRep K as' st' H') : (g.at as' st').ok K O σ H' := ⟨ok.wf.grow ok.sr gr s, s⟩

/-! ### combinators -/
def E.var (i : Nat) : Env → M D := fun ρ => match ρ[i]? with
  | some (some d) => ret d
  | _ => bad
def E.cst (d : D) : Env → M D := fun _ => ret d
def E.op2 (g : D → D → Option D) (a b : Env → M D) : Env → M D := fun ρ => bnd (a ρ) fun x => bnd (b ρ) fun y => lift (g x y)
def E.op1 (g : D → Option D) (a : Env → M D) : Env → M D := fun ρ => bnd (a ρ) fun x => lift (g x)
def A.nil : Env → M (List D) := fun _ => ret []
def A.cons (a : Env → M D) (r : Env → M (List D)) : Env → M (List D) := fun ρ => bnd (a ρ) fun x => bnd (r ρ) fun xs => ret (x :: xs)
def E.tup (r : Env → M (List D)) : Env → M D := fun ρ => bnd (r ρ) fun xs => ret (.tup xs)
def E.lst (r : Env → M (List D)) : Env → M D := fun ρ => bnd (r ρ) fun xs => ret (.lst xs)
def T.val (a : Env → M D) : Env → M Bool := fun ρ => bnd (a ρ) fun x => match x with
  | .bl b => ret b
  | _ => bad
def T.not (a : Env → M Bool) : Env → M Bool := fun ρ => bnd (a ρ) fun b => ret (!b)
def T.and (a b : Env → M Bool) : Env → M Bool := fun ρ => bnd (a ρ) fun x => if x = true then b ρ else ret false
def T.or (a b : Env → M Bool) : Env → M Bool := fun ρ => bnd (a ρ) fun x => if x = true then ret true else b ρ
def E.and (a b : Env → M D) : Env → M D := fun ρ => bnd (a ρ) fun x => match x with
  | .bl true => b ρ
  | .bl false => ret (.bl false)
  | _ => bad
def E.or (a b : Env → M D) : Env → M D := fun ρ => bnd (a ρ) fun x => match x with
  | .bl false => b ρ
  | .bl true => ret (.bl true)
  | _ => bad
def E.not (a : Env → M D) : Env → M D := fun ρ => bnd (a ρ) fun x => match x with
  | .bl b => ret (.bl (!b))
  | _ => bad
def E.ifx (t : Env → M Bool) (a b : Env → M D) : Env → M D := fun ρ => bnd (t ρ) fun c => if c = true then a ρ else b ρ

/-! ### rules: names, constants -/
theorem du_var (i : Nat) {x : Str} {pos : Pos} (hN : X.N[i]? = some x := by rfl) (hv : Vis X.env.scope x := by first | exact Or.inl rfl | exact Or.inr (Or.inl rfl) | exact Or.inr (Or.inr rfl)) (hd : (x == ("__debug__" : Str)) = false := by decide)
    (hcd : (x == ("__classdict__" : Str)) = false := by decide) : DU X O Z (.Name x pos) (E.var i) := PE.imp (pe_var hN hv hd hcd) fun σ H Q ⟨g, ok, q⟩ => by
  unfold E.var at q
  cases e : g.ρ[i]? with
  | none => rw [e] at q; exact q.elim
  | some o =>
    rw [e] at q
    cases o with
    | none => exact q.elim
    | some d =>
      by_cases m : i ∈ O
      · obtain ⟨v, h, r⟩ := ok.wf.own i d e m
        exact ⟨v, h, q _ v H (Grow.refl _ _) ok.sr (.own r fun p z => by subst z; exact (ok.wf.slot i p m h).2.1)⟩
      · obtain ⟨v, h, r⟩ := ok.wf.var i d e m
        exact ⟨v, h, q _ v H (Grow.refl _ _) ok.sr (.rep r)⟩
theorem de_var (i : Nat) {x : Str} {pos : Pos} (hO : i ∉ O := by decide) (hN : X.N[i]? = some x := by rfl) (hv : Vis X.env.scope x := by first | exact Or.inl rfl | exact Or.inr (Or.inl rfl) | exact Or.inr (Or.inr rfl)) (hd : (x == ("__debug__" : Str)) = false := by decide)
    (hcd : (x == ("__classdict__" : Str)) = false := by decide) : DE X O Z (.Name x pos) (E.var i) := PE.imp (pe_var hN hv hd hcd) fun σ H Q ⟨g, ok, q⟩ => by
  unfold E.var at q
  cases e : g.ρ[i]? with
  | none => rw [e] at q; exact q.elim
  | some o =>
    rw [e] at q
    cases o with
    | none => exact q.elim
    | some d =>
      obtain ⟨v, h, r⟩ := ok.wf.var i d e hO
      exact ⟨v, h, q _ v H (Grow.refl _ _) ok.sr r⟩
theorem dn_int {i j pos} : DN X O Z (.Constant (.int i) j pos) (E.cst (.int i)) := PE.imp pe_int fun σ H Q ⟨g, ok, q⟩ => q _ _ H (Grow.refl _ _) ok.sr (.sca (.int i) fun p z => nomatch z) fun p z => nomatch z
theorem dn_str {x j pos} : DN X O Z (.Constant (.str x) j pos) (E.cst (.str x)) := PE.imp pe_str fun σ H Q ⟨g, ok, q⟩ => q _ _ H (Grow.refl _ _) ok.sr (.sca (.str x) fun p z => nomatch z) fun p z => nomatch z
theorem dn_bl {b j pos} : DN X O Z (.Constant (.bool b) j pos) (E.cst (.bl b)) := PE.imp pe_bl fun σ H Q ⟨g, ok, q⟩ => q _ _ H (Grow.refl _ _) ok.sr (.sca (.bl b) fun p z => nomatch z) fun p z => nomatch z
theorem dn_non {j pos} : DN X O Z (.Constant .none j pos) (E.cst .non) := PE.imp pe_non fun σ H Q ⟨g, ok, q⟩ => q _ _ H (Grow.refl _ _) ok.sr (.sca .non fun p z => nomatch z) fun p z => nomatch z
end
end G
end L2
end G2_
section G3_
set_option Elab.async false
set_option linter.all false
set_option maxRecDepth 100000
set_option maxHeartbeats 1000000
namespace L2
namespace G
open PySem PySem.Spec PyProof.Rows
section
variable {X : Cx} {O : List Nat} {Z : ZT} {e a b c : Expr} {es : List Expr} {f fa fb fc : Env → M D} {pos : Pos}

/-! ### operators, by values -/
/-- g told of data is what f does of values -/
def Op2 (X : Cx) (f : Value → Value → Sem Value) (g : D → D → Option D) : Prop := ∃ r : R2, OpR X f r ∧ ∀ (F : Addr → Prop) (as : List Addr) (H : Hp) (x y : V) (d1 d2 d : D) (Q : VK), (∀ a, F a → ∃ o, H a = some o) →
  RepT X.K F as H x d1 → RepT X.K F as H y d2 → g d1 d2 = some d → (∀ v H', Same H H' → Rep X.K F as H' v d → Q v H') → r x y H Q
theorem grow_same {as : List Addr} {H H' : Hp} (s : Same H H') : Grow as H as H' := ⟨fun _ _ h => h, fun b o h _ => s b o h, fun _ h n => absurd h n⟩
theorem SRep.same {K : PySem.W.Frag} {as : List Addr} {st : Store} {H H' : Hp} (h : SRep K as st H) (s : Same H H') : SRep K as st H' := h.frame fun b o e _ => s b o e
/-- two expressions in a row, then what is told of both -/
theorem two {σ : L2.St} {H : Hp} {g : Gh} {P : D → Store → Prop} {ZZ : Ex → Store → Prop} {k : D → D → M D} {R : V → V → Hp → Prop} (ok : g.ok X.K O σ H)
    (q : Ev (bnd (fa g.ρ) (fun x => bnd (fb g.ρ) fun y => k x y) g.st) P (Zc X.K O g.B g.H0 g.as0 Z))
    (hR : ∀ d1 d2 x y as' st' H', Grow g.as H as' H' → SRep X.K as' st' H' → RepT X.K (Ff g.B as' O σ) as' H' x d1 → RepT X.K (Ff g.B as' O σ) as' H' y d2 → Ev (k d1 d2 st') P (Zc X.K O g.B g.H0 g.as0 Z) → R x y H') :
    tU X.K O Z fa σ H fun x H1 => tU X.K O Z fb σ H1 fun y H2 => R x y H2 := by
  refine ⟨g, ok, q.bnd.mono (fun d1 st1 q1 as1 x H1 g1 s1 r1 => ?_) fun _ _ z => z⟩
  refine ⟨g.at as1 st1, ok.step g1 s1, q1.bnd.mono (fun d2 st2 q2 as2 y H2 g2 s2 r2 => ?_) fun _ _ z => z⟩
  exact hR d1 d2 x y as2 st2 H2 (g1.trans g2) s2 (r1.grow s1 g2) r2 q2
theorem op2_fin {σ : L2.St} {H : Hp} {g : Gh} {r : R2} {h : D → D → Option D} {Q : VK} (ok : g.ok X.K O σ H)
    (hr : ∀ (F : Addr → Prop) (as : List Addr) (H : Hp) (x y : V) (d1 d2 d : D) (Q : VK), (∀ a, F a → ∃ o, H a = some o) →
      RepT X.K F as H x d1 → RepT X.K F as H y d2 → h d1 d2 = some d → (∀ v H', Same H H' → Rep X.K F as H' v d → Q v H') → r x y H Q)
    (q : Ev (E.op2 h fa fb g.ρ g.st) (fun d st' => ∀ as' v H', Grow g.as H as' H' → SRep X.K as' st' H' → Rep X.K (Ff g.B as' O σ) as' H' v d → Q v H') (Zc X.K O g.B g.H0 g.as0 Z)) :
    tU X.K O Z fa σ H fun x H1 => tU X.K O Z fb σ H1 fun y H2 => r x y H2 Q := by
  refine two (k := fun x y => lift (h x y)) (ZZ := fun _ _ => True) ok q fun d1 d2 x y as' st' H' g1 s1 r1 r2 q => ?_
  obtain ⟨d, e, q⟩ := q.lift
  exact hr _ as' H' x y d1 d2 d Q ((ok.step g1 s1).wf.tr s1) r1 r2 e fun v H2 sm rv => q as' v H2 (g1.trans (grow_same sm)) (s1.same sm) rv
theorem de_bin {op : Operator} {g : D → D → Option D} (ho : Op2 X (binaryOp op) g) (ha : DU X O Z a fa) (hb : DU X O Z b fb) : DE X O Z (.BinOp a op b pos) (E.op2 g fa fb) := by
  obtain ⟨r, ho, hr⟩ := ho
  exact PE.imp (pe_op ho ha hb) fun σ H Q ⟨g, ok, q⟩ => op2_fin ok hr q
theorem de_cmp {op : CmpOp} {g : D → D → Option D} (ho : Op2 X (compareOp op) g) (ha : DU X O Z a fa) (hb : DU X O Z b fb) (hm : behindInMarks op b = false) : DE X O Z (.Compare a [op] [b] pos) (E.op2 g fa fb) := by
  obtain ⟨r, ho, hr⟩ := ho
  exact PE.imp (pe_cmpR ho ha hb hm) fun σ H Q ⟨g, ok, q⟩ => op2_fin ok hr q
theorem test_fin {σ : L2.St} {g : Gh} {H : Hp} {Q : Bool → Hp → Prop} (ok : g.ok X.K O σ H) (q : Ev (T.val f g.ρ g.st) (fun b st' => ∀ as' H', Grow g.as H as' H' → SRep X.K as' st' H' → Q b H') (Zc X.K O g.B g.H0 g.as0 Z)) :
    Ev (f g.ρ g.st) (fun d st' => ∀ as' v H', Grow g.as H as' H' → SRep X.K as' st' H' → Rep X.K (Ff g.B as' O σ) as' H' v d → ∃ k, v = .bl k ∧ Q k H') (Zc X.K O g.B g.H0 g.as0 Z) := by
  refine (Ev.bnd q).mono (fun d st' q as' v H' gr s r => ?_) fun _ _ z => z
  cases d with
  | bl b => cases r; exact ⟨b, rfl, q as' H' gr s⟩
  | _ => exact q.elim
theorem dt_cmp {op : CmpOp} {g : D → D → Option D} (ho : Op2 X (compareOp op) g) (ha : DU X O Z a fa) (hb : DU X O Z b fb) (hm : behindInMarks op b = false) : DT X O Z (.Compare a [op] [b] pos) (T.val (E.op2 g fa fb)) := by
  obtain ⟨r, ho, hr⟩ := ho
  exact PT.imp (pt_cmpR ho ha hb hm) fun σ H Q ⟨g, ok, q⟩ => op2_fin (Q := fun x H' => ∃ k, x = .bl k ∧ Q k H') ok hr (test_fin ok q)
/-- an expression as a test -/
theorem dt_val (h : DE X O Z e f) (he : ∀ whole, isTrue e X.env whole = (do let v ← whole; standAt e.pos; holding [v] (truthy v)) := by intro _; rfl) : DT X O Z e (T.val f) :=
  PT.imp (pt_val h he) fun σ H Q ⟨g, ok, q⟩ => ⟨g, ok, test_fin ok q⟩
theorem dt_not {t : Env → M Bool} (h : DT X O Z a t) : DT X O Z (.UnaryOp .Not a pos) (T.not t) := PT.imp (pt_not h) fun σ H Q ⟨g, ok, q⟩ => ⟨g, ok, (Ev.bnd q).mono (fun b st' q as' H' gr s => q as' H' gr s) fun _ _ z => z⟩
theorem dw_and1 {t : Env → M Bool} (h : DT X O Z a t) : DW X O Z (.BoolOp .And [a] pos) t := pw_and1 h
theorem dw_or1 {t : Env → M Bool} (h : DT X O Z a t) : DW X O Z (.BoolOp .Or [a] pos) t := pw_or1 h
theorem dw_and {t u : Env → M Bool} (h : DT X O Z a t) (k : DW X O Z (.BoolOp .And (b :: es) pos) u) : DW X O Z (.BoolOp .And (a :: b :: es) pos) (T.and t u) := PW.imp (pw_and h k) fun σ H Q ⟨g, ok, q⟩ =>
  ⟨g, ok, (Ev.bnd q).mono (fun x st' q as' H' gr s => by
    cases x with
    | true => exact ⟨g.at as' st', ok.step gr s, q.mono (fun y st2 q as2 H2 g2 s2 => q as2 H2 (gr.trans g2) s2) fun _ _ z => z⟩
    | false => exact q as' H' gr s) fun _ _ z => z⟩
theorem dw_or {t u : Env → M Bool} (h : DT X O Z a t) (k : DW X O Z (.BoolOp .Or (b :: es) pos) u) : DW X O Z (.BoolOp .Or (a :: b :: es) pos) (T.or t u) := PW.imp (pw_or h k) fun σ H Q ⟨g, ok, q⟩ =>
  ⟨g, ok, (Ev.bnd q).mono (fun x st' q as' H' gr s => by
    cases x with
    | true => exact q as' H' gr s
    | false => exact ⟨g.at as' st', ok.step gr s, q.mono (fun y st2 q as2 H2 g2 s2 => q as2 H2 (gr.trans g2) s2) fun _ _ z => z⟩) fun _ _ z => z⟩
theorem dt_w {t : Env → M Bool} (h : DW X O Z e t) : DT X O Z e t := PW.pt h
theorem de_one {op} (h : DE X O Z a f) : DE X O Z (.BoolOp op [a] pos) f := pe_one h
theorem de_and (h : DE X O Z a fa) (k : DE X O Z (.BoolOp .And (b :: es) pos) fb) : DE X O Z (.BoolOp .And (a :: b :: es) pos) (E.and fa fb) := PE.imp (pe_and h k) fun σ H Q ⟨g, ok, q⟩ =>
  ⟨g, ok, (Ev.bnd q).mono (fun d st' q as' v H' gr s r => by
    cases d with
    | bl x =>
      cases r
      cases x with
      | true => exact ⟨true, rfl, g.at as' st', ok.step gr s, q.mono (fun y st2 q as2 v H2 g2 s2 => q as2 v H2 (gr.trans g2) s2) fun _ _ z => z⟩
      | false => exact ⟨false, rfl, q as' _ H' gr s (.bl false)⟩
    | _ => exact q.elim) fun _ _ z => z⟩
theorem de_or (h : DE X O Z a fa) (k : DE X O Z (.BoolOp .Or (b :: es) pos) fb) : DE X O Z (.BoolOp .Or (a :: b :: es) pos) (E.or fa fb) := PE.imp (pe_or h k) fun σ H Q ⟨g, ok, q⟩ =>
  ⟨g, ok, (Ev.bnd q).mono (fun d st' q as' v H' gr s r => by
    cases d with
    | bl x =>
      cases r
      cases x with
      | false => exact ⟨false, rfl, g.at as' st', ok.step gr s, q.mono (fun y st2 q as2 v H2 g2 s2 => q as2 v H2 (gr.trans g2) s2) fun _ _ z => z⟩
      | true => exact ⟨true, rfl, q as' _ H' gr s (.bl true)⟩
    | _ => exact q.elim) fun _ _ z => z⟩
theorem de_not (h : DE X O Z a f) : DE X O Z (.UnaryOp .Not a pos) (E.not f) := PE.imp (pe_not h) fun σ H Q ⟨g, ok, q⟩ =>
  ⟨g, ok, (Ev.bnd q).mono (fun d st' q as' v H' gr s r => by
    cases d with
    | bl x => cases r; exact ⟨x, rfl, q as' _ H' gr s (.bl _)⟩
    | _ => exact q.elim) fun _ _ z => z⟩
theorem de_ifx {t : Env → M Bool} (h : DT X O Z c t) (ha : DE X O Z a fa) (hb : DE X O Z b fb) : DE X O Z (.IfExp c a b pos) (E.ifx t fa fb) := PE.imp (pe_ifExp h ha hb) fun σ H Q ⟨g, ok, q⟩ =>
  ⟨g, ok, (Ev.bnd q).mono (fun x st' q as' H' gr s => by
    cases x with
    | true => exact ⟨g.at as' st', ok.step gr s, q.mono (fun y st2 q as2 v H2 g2 s2 => q as2 v H2 (gr.trans g2) s2) fun _ _ z => z⟩
    | false => exact ⟨g.at as' st', ok.step gr s, q.mono (fun y st2 q as2 v H2 g2 s2 => q as2 v H2 (gr.trans g2) s2) fun _ _ z => z⟩) fun _ _ z => z⟩
theorem du_ifx {t : Env → M Bool} (h : DT X O Z c t) (ha : DU X O Z a fa) (hb : DU X O Z b fb) : DU X O Z (.IfExp c a b pos) (E.ifx t fa fb) := PE.imp (pe_ifExp h ha hb) fun σ H Q ⟨g, ok, q⟩ =>
  ⟨g, ok, (Ev.bnd q).mono (fun x st' q as' H' gr s => by
    cases x with
    | true => exact ⟨g.at as' st', ok.step gr s, q.mono (fun y st2 q as2 v H2 g2 s2 => q as2 v H2 (gr.trans g2) s2) fun _ _ z => z⟩
    | false => exact ⟨g.at as' st', ok.step gr s, q.mono (fun y st2 q as2 v H2 g2 s2 => q as2 v H2 (gr.trans g2) s2) fun _ _ z => z⟩) fun _ _ z => z⟩

/-! ### arguments, displays -/
variable {r : Env → M (List D)}
theorem da_nil : DA X O Z [] A.nil := PA.imp pa_nil fun σ H Q ⟨g, ok, q⟩ => q _ _ H (Grow.refl _ _) ok.sr .nil
theorem da_cons (ha : DE X O Z e f) (hr : DA X O Z es r) (hs : starEach (e :: es) X.env = (false, eval e X.env) :: starEach es X.env := by rfl) : DA X O Z (e :: es) (A.cons f r) := PA.imp (pa_cons ha hr hs) fun σ H Q ⟨g, ok, q⟩ =>
  ⟨g, ok, (Ev.bnd q).mono (fun d st1 q as1 v H1 g1 s1 r1 => ⟨g.at as1 st1, ok.step g1 s1, (Ev.bnd q).mono (fun ds st2 q as2 vs H2 g2 s2 r2 => q as2 _ H2 (g1.trans g2) s2 (.cons (r1.grow s1 g2) r2)) fun _ _ z => z⟩) fun _ _ z => z⟩
theorem not_ff {K : PySem.W.Frag} {g : Gh} {σ : L2.St} {H : Hp} {p : Addr} (ok : g.ok K O σ H) (n : H p = none) : ¬ Ff g.B g.as O σ p := fun z => by
  obtain ⟨o, z⟩ := ok.wf.tr ok.sr p z
  rw [n] at z; cases z
theorem not_as {K : PySem.W.Frag} {g : Gh} {σ : L2.St} {H : Hp} {p : Addr} (ok : g.ok K O σ H) (n : H p = none) : p ∉ g.as := fun z => by
  obtain ⟨o, z, _⟩ := ok.sr.mem z
  rw [n] at z; cases z
theorem de_tup {x1} (h : DA X O Z es r) (hn : ∀ ρ s ds s', r ρ s = .ok ds s' → ds.length ≤ sizeLine) : DE X O Z (.Tuple es x1 pos) (E.tup r) := PE.imp (pe_tup h) fun σ H Q ⟨g, ok, q⟩ => by
  refine ⟨g, ok, ?_⟩
  have q := Ev.bnd q
  cases e : r g.ρ g.st with
  | ok ds st' =>
    rw [e] at q
    refine fun as' vs H' gr s rs => ⟨by rw [rs.length]; exact hn _ _ _ _ e, fun p np => ?_⟩
    have ok' := ok.step gr s
    exact q as' _ _ (gr.trans (Grow.new np)) (s.new np) (.tup upd_same (rs.grow s (Grow.new np)))
  | exc x st' => rw [e] at q; exact q
  | bad => rw [e] at q; exact q
theorem dn_lst (h : DA X O Z es r) (hn : ∀ ρ s ds s', r ρ s = .ok ds s' → ds.length ≤ sizeLine) : DN X O Z (.List es pos) (E.lst r) := PE.imp (pe_lst h) fun σ H Q ⟨g, ok, q⟩ => by
  refine ⟨g, ok, ?_⟩
  have q := Ev.bnd q
  cases e : r g.ρ g.st with
  | ok ds st' =>
    rw [e] at q
    refine fun as' vs H' gr s rs => ⟨by rw [rs.length]; exact hn _ _ _ _ e, fun p np => ?_⟩
    have ok' := ok.step gr s
    refine q as' _ _ (gr.trans (Grow.new np)) (s.new np) (.lst upd_same ?_) fun p' e' => ?_
    · refine (rs.weak fun a o ha z => ?_).frame (fun b o e _ => by rw [upd_ne (ne_of_none e np)]; exact e) (fun b o e _ => by rw [upd_ne (ne_of_none e np)]; exact e) fun _ _ h => h
      rcases z with z | z
      · exact z
      · cases z; rw [np] at ha; cases ha
    cases e'
    refine ⟨?_, not_as ok' np⟩
    cases z : H p with
    | none => rfl
    | some o => 
      by_cases m : p ∈ g.as
      · exact absurd (gr.sub m) (not_as ok' np)
      · have := gr.keep p o z m
        rw [np] at this; cases this
  | exc x st' => rw [e] at q; exact q
  | bad => rw [e] at q; exact q
end
end G
end L2
end G3_
section G4_
set_option Elab.async false
set_option linter.all false
set_option maxRecDepth 100000
set_option maxHeartbeats 1000000
namespace L2
namespace G
open PySem PySem.Spec PyProof.Rows

/-! ### arguments that may be owned; built-in functions -/
inductive RepTs (K : PySem.W.Frag) (F : Addr → Prop) (as : List Addr) (H : Hp) : List V → List D → Prop
  | nil : RepTs K F as H [] []
  | cons {v : V} {vs : List V} {d : D} {ds : List D} : RepT K F as H v d → RepTs K F as H vs ds → RepTs K F as H (v :: vs) (d :: ds)
theorem RepTs.grow {K : PySem.W.Frag} {O : List Nat} {B : Addr → Prop} {as as' : List Addr} {σ : L2.St} {H H' : Hp} {st : Store} {vs : List V} {ds : List D} (s : SRep K as st H) (g : Grow as H as' H') : RepTs K (Ff B as O σ) as H vs ds → RepTs K (Ff B as' O σ) as' H' vs ds
  | .nil => .nil
  | .cons h r => .cons (h.grow s g) (r.grow s g)
def tAU (K : PySem.W.Frag) (O : List Nat) (Z : ZT) (f : Env → M (List D)) : TA := fun σ H Q => ∃ g : Gh, g.ok K O σ H ∧ Ev (f g.ρ g.st) (fun ds st' => ∀ as' vs H', Grow g.as H as' H' → SRep K as' st' H' → RepTs K (Ff g.B as' O σ) as' H' vs ds → Q vs H') (Zc K O g.B g.H0 g.as0 Z)
abbrev DAU (X : Cx) (O : List Nat) (Z : ZT) (es : List Expr) (f : Env → M (List D)) : Prop := PA X es (tAU X.K O Z f)
/-- g told of data is what the call of f does -/
def Bl (X : Cx) (f : Value) (g : List D → Option D) : Prop := ∃ r : List V → Hp → VK → Prop, CallR X f r ∧ ∀ (F : Addr → Prop) (as : List Addr) (H : Hp) (xs : List V) (ds : List D) (d : D) (Q : VK), (∀ a, F a → ∃ o, H a = some o) →
  RepTs X.K F as H xs ds → g ds = some d → (∀ v H', Same H H' → Rep X.K F as H' v d → Q v H') → r xs H Q
/-- .. a new list or dict, or what is no object -/
def BlN (X : Cx) (f : Value) (g : List D → Option D) : Prop := ∃ r : List V → Hp → VK → Prop, CallR X f r ∧ ∀ (F : Addr → Prop) (as : List Addr) (H : Hp) (xs : List V) (ds : List D) (d : D) (Q : VK), (∀ a, F a → ∃ o, H a = some o) →
  RepTs X.K F as H xs ds → g ds = some d → (∀ v H', Same H H' → Own X.K (fun a => F a ∨ v = .ref a) as H' v d → (∀ p, v = .ref p → H p = none) → Q v H') → r xs H Q
def E.blt (g : List D → Option D) (r : Env → M (List D)) : Env → M D := fun ρ => bnd (r ρ) fun xs => lift (g xs)
def noexc {α : Type} (m : M α) : M α := fun s => match m s with
  | .exc _ _ => .bad
  | r => r
theorem Ev.noexc {α : Type} {m : M α} {s : Store} {P : α → Store → Prop} {Z Z' : Ex → Store → Prop} (h : Ev (noexc m s) P Z) : Ev (noexc m s) P Z' := by
  unfold G.noexc at h ⊢
  cases e : m s with
  | ok a s' => rw [e] at h; exact h
  | exc x s' => rw [e] at h; exact h.elim
  | bad => rw [e] at h; exact h
/-- a call of a def that lets nothing out -/
def E.app (φ : List D → M D) (r : Env → M (List D)) : Env → M D := fun ρ => bnd (r ρ) fun xs => noexc (φ xs)
/-- .. of arguments that may be owned: what comes is immutable -/
def E.appI (φ : List D → M D) (r : Env → M (List D)) : Env → M D := fun ρ => bnd (r ρ) fun xs => bnd (noexc (φ xs)) fun d => if d.imm = true then ret d else bad
section
variable {X : Cx} {O : List Nat} {Z : ZT} {e a b c : Expr} {es : List Expr} {f fa fb fc : Env → M D} {r : Env → M (List D)} {pos p : Pos} {x : Str}
theorem dau_nil : DAU X O Z [] A.nil := PA.imp pa_nil fun σ H Q ⟨g, ok, q⟩ => q _ _ H (Grow.refl _ _) ok.sr .nil
theorem dau_cons (ha : DU X O Z e f) (hr : DAU X O Z es r) (hs : starEach (e :: es) X.env = (false, eval e X.env) :: starEach es X.env := by rfl) : DAU X O Z (e :: es) (A.cons f r) := PA.imp (pa_cons ha hr hs) fun σ H Q ⟨g, ok, q⟩ =>
  ⟨g, ok, (Ev.bnd q).mono (fun d st1 q as1 v H1 g1 s1 r1 => ⟨g.at as1 st1, ok.step g1 s1, (Ev.bnd q).mono (fun ds st2 q as2 vs H2 g2 s2 r2 => q as2 _ H2 (g1.trans g2) s2 (.cons (r1.grow s1 g2) r2)) fun _ _ z => z⟩) fun _ _ z => z⟩
theorem blt_fin {σ : L2.St} {H : Hp} {g : Gh} {rr : List V → Hp → VK → Prop} {h : List D → Option D} {Q : VK} (ok : g.ok X.K O σ H)
    (hr : ∀ (F : Addr → Prop) (as : List Addr) (H : Hp) (xs : List V) (ds : List D) (d : D) (Q : VK), (∀ a, F a → ∃ o, H a = some o) →
      RepTs X.K F as H xs ds → h ds = some d → (∀ v H', Same H H' → Rep X.K F as H' v d → Q v H') → rr xs H Q)
    (q : Ev (E.blt h r g.ρ g.st) (fun d st' => ∀ as' v H', Grow g.as H as' H' → SRep X.K as' st' H' → Rep X.K (Ff g.B as' O σ) as' H' v d → Q v H') (Zc X.K O g.B g.H0 g.as0 Z)) :
    tAU X.K O Z r σ H fun vs H1 => rr vs H1 Q := by
  refine ⟨g, ok, (Ev.bnd q).mono (fun ds st' q as' vs H' gr s rs => ?_) fun _ _ z => z⟩
  obtain ⟨d, e, q⟩ := q.lift
  exact hr _ as' H' vs ds d Q ((ok.step gr s).wf.tr s) rs e fun v H2 sm rv => q as' v H2 (gr.trans (grow_same sm)) (s.same sm) rv
theorem blt_finN {σ : L2.St} {H : Hp} {g : Gh} {rr : List V → Hp → VK → Prop} {h : List D → Option D} {Q : VK} (ok : g.ok X.K O σ H)
    (hr : ∀ (F : Addr → Prop) (as : List Addr) (H : Hp) (xs : List V) (ds : List D) (d : D) (Q : VK), (∀ a, F a → ∃ o, H a = some o) →
      RepTs X.K F as H xs ds → h ds = some d → (∀ v H', Same H H' → Own X.K (fun a => F a ∨ v = .ref a) as H' v d → (∀ p, v = .ref p → H p = none) → Q v H') → rr xs H Q)
    (q : Ev (E.blt h r g.ρ g.st) (fun d st' => ∀ as' v H', Grow g.as H as' H' → SRep X.K as' st' H' → Own X.K (fun a => Ff g.B as' O σ a ∨ v = .ref a) as' H' v d → (∀ p, v = .ref p → H p = none ∧ p ∉ as') → Q v H') (Zc X.K O g.B g.H0 g.as0 Z)) :
    tAU X.K O Z r σ H fun vs H1 => rr vs H1 Q := by
  refine ⟨g, ok, (Ev.bnd q).mono (fun ds st' q as' vs H' gr s rs => ?_) fun _ _ z => z⟩
  obtain ⟨d, e, q⟩ := q.lift
  refine hr _ as' H' vs ds d Q ((ok.step gr s).wf.tr s) rs e fun v H2 sm rv n => q as' v H2 (gr.trans (grow_same sm)) (s.same sm) rv fun p z => ?_
  have np := n p z
  have m : p ∉ as' := fun m => by
    obtain ⟨o, m, _⟩ := s.mem m
    rw [np] at m; cases m
  refine ⟨?_, m⟩
  cases y : H p with
  | none => rfl
  | some o =>
    have := gr.keep p o y fun k => m (gr.sub k)
    rw [np] at this; cases this
theorem de_bltB {id : String} {g : List D → Option D} (hc : Bl X (.builtin id) g) (hg : Gl X x) (hm : X.mg x = none) (hv : bootBuiltins x = some (.builtin id)) (ha : DAU X O Z (e :: es) r) (hn : x ≠ "__name__" := by decide) (hdb : (x == ("__debug__" : Str)) = false := by decide)
    (he : starEach (e :: es) X.env = (false, eval e X.env) :: starEach es X.env := by rfl) (hpl : (backTo pos (starEach es X.env)).any (·.1) = false := by rfl) : DE X O Z (.Call (.Name x p) (e :: es) [] pos) (E.blt g r) := by
  obtain ⟨rr, hc, hr⟩ := hc
  exact PE.imp (pe_callB hc hg hm hv ha hn hdb he hpl) fun σ H Q ⟨g, ok, q⟩ => blt_fin ok hr q
theorem de_bltT {T : String} {g : List D → Option D} (hc : Bl X (.type T) g) (hg : Gl X x) (hm : X.mg x = none) (hv : bootBuiltins x = some (.type T)) (ha : DAU X O Z (e :: es) r) (hn : x ≠ "__name__" := by decide) (hdb : (x == ("__debug__" : Str)) = false := by decide)
    (he : starEach (e :: es) X.env = (false, eval e X.env) :: starEach es X.env := by rfl) (hpl : (backTo pos (starEach es X.env)).any (·.1) = false := by rfl) : DE X O Z (.Call (.Name x p) (e :: es) [] pos) (E.blt g r) := by
  obtain ⟨rr, hc, hr⟩ := hc
  exact PE.imp (pe_callTy hc hg hm hv ha hn hdb he hpl) fun σ H Q ⟨g, ok, q⟩ => blt_fin ok hr q
theorem dn_bltB {id : String} {g : List D → Option D} (hc : BlN X (.builtin id) g) (hg : Gl X x) (hm : X.mg x = none) (hv : bootBuiltins x = some (.builtin id)) (ha : DAU X O Z (e :: es) r) (hn : x ≠ "__name__" := by decide) (hdb : (x == ("__debug__" : Str)) = false := by decide)
    (he : starEach (e :: es) X.env = (false, eval e X.env) :: starEach es X.env := by rfl) (hpl : (backTo pos (starEach es X.env)).any (·.1) = false := by rfl) : DN X O Z (.Call (.Name x p) (e :: es) [] pos) (E.blt g r) := by
  obtain ⟨rr, hc, hr⟩ := hc
  exact PE.imp (pe_callB hc hg hm hv ha hn hdb he hpl) fun σ H Q ⟨g, ok, q⟩ => blt_finN ok hr q
theorem dn_bltT {T : String} {g : List D → Option D} (hc : BlN X (.type T) g) (hg : Gl X x) (hm : X.mg x = none) (hv : bootBuiltins x = some (.type T)) (ha : DAU X O Z (e :: es) r) (hn : x ≠ "__name__" := by decide) (hdb : (x == ("__debug__" : Str)) = false := by decide)
    (he : starEach (e :: es) X.env = (false, eval e X.env) :: starEach es X.env := by rfl) (hpl : (backTo pos (starEach es X.env)).any (·.1) = false := by rfl) : DN X O Z (.Call (.Name x p) (e :: es) [] pos) (E.blt g r) := by
  obtain ⟨rr, hc, hr⟩ := hc
  exact PE.imp (pe_callTy hc hg hm hv ha hn hdb he hpl) fun σ H Q ⟨g, ok, q⟩ => blt_finN ok hr q

/-! ### room, and no guard of repr -/
structure Rm (k : Nat) (A : Around) : Prop where
  rm : Room k A
  gd : A.guards = some []
theorem Rm.mono {j k : Nat} {A : Around} (r : Rm k A) (h : j ≤ k) : Rm j A := ⟨r.rm.mono h, r.gd⟩
theorem Rm.deeper {k : Nat} {A : Around} (r : Rm (k + 1) A) (env : PySem.Env) : Rm k (A.deeper env) := ⟨r.rm.deeper env, r.gd⟩
theorem Rm.in1 {k : Nat} {A : Around} (r : Rm (k + 1) A) : Rm k A.in1 := ⟨r.rm.in1, r.gd⟩
/-! ### exceptions -/
/-- the exception (its class, its own dict) stands for x -/
def ExR (K : PySem.W.Frag) (F : Addr → Prop) (as : List Addr) (H : Hp) (cls : Value) (d : Option Addr) (x : Ex) : Prop :=
  cls = .ref (He.ga K x.cls) ∧ ∃ (dd : Addr) (fs : List (Str × V)), d = some dd ∧ H dd = some (.xd fs) ∧ fs.map (·.1) = x.fs.map (·.1) ∧ Reps K F as H (fs.map (·.2)) (x.fs.map (·.2))
theorem ExR.weak {K : PySem.W.Frag} {F F' : Addr → Prop} {as : List Addr} {H : Hp} {cls : Value} {d : Option Addr} {x : Ex} (k : ∀ a o, H a = some o → F' a → F a) (h : ExR K F as H cls d x) : ExR K F' as H cls d x :=
  let ⟨a, dd, fs, b, c, e, r⟩ := h; ⟨a, dd, fs, b, c, e, r.weak k⟩
/-- what a body wishes of exceptions, by Z -/
def WZ (K : PySem.W.Frag) (Z : ZT) : WX := fun cls d σ H => ∃ (B : Addr → Prop) (x : Ex) (st : Store) (as : List Addr), ExR K (fun a => B a ∨ a ∈ as) as H cls d x ∧ Z B x st as σ H
/-! ### defs -/
/-- a def keeps the promise, wherever there is room and no guard -/
structure FnG (P : Program) (w : World) (K : PySem.W.Frag) (mg : Str → Option Value) (base : Heap) (k : Nat) (f : Addr) (fd : FuncData) (ps : List Str) (sp : Sp) : Prop where
  len : ∀ vs H Q E, sp vs H Q E → vs.length = ps.length
  run : ∀ (A : Around) (outer : List PySem.Env) (s : Shared) (H : Hp) (args : Args) (us : List Value) (vs : List V) (Q : VK) (E : XK), Rm k A → Env0 P w K mg base A outer s H → BindsTo s fd args (ps.zip us) → Vals vs us → sp vs H Q E →
    codeAny (model P w) A (.call (.ref f) args) (CR (L2.CX P w) outer P w H s Q E) s
/-- a def does what φ says -/
def spD (K : PySem.W.Frag) (n : Nat) (φ : List D → M D) : Sp := fun vs H Q E => ∃ (B : Addr → Prop) (as : List Addr) (st : Store) (ds : List D), vs.length = n ∧ (∀ a, B a → ∃ o, H a = some o) ∧ SRep K as st H ∧ Reps K (fun a => B a ∨ a ∈ as) as H vs ds ∧
  Ev (φ ds st) (fun d st' => ∀ as' v H', Grow as H as' H' → SRep K as' st' H' → Rep K (fun a => B a ∨ a ∈ as') as' H' v d → Q v H')
    (fun x st' => ∀ as' H' cls d, Grow as H as' H' → SRep K as' st' H' → ExR K (fun a => B a ∨ a ∈ as') as' H' cls d x → E cls d H')
/-- a def as it is called -/
structure Dn (X : Cx) (x : Str) (n k : Nat) (φ : List D → M D) : Prop where
  ex : ∃ f fd ps, FnG X.prog X.w X.K X.mg X.base k f fd ps (spD X.K n φ) ∧ X.mg x = some (.ref f) ∧ PySem.W.keepIn X.K (.ref f) = true ∧ Binds X.K fd ps []
theorem run_fnG {k : Nat} {f : Addr} {fd : FuncData} {ps : List Str} {sp : Sp} {E : XK} {pins : List (Addr × Obj)} {σ : L2.St} {H : Hp} {s : Shared} {Q : VK} {us : List Value} {vs : List V} (F : FnG X.prog X.w X.K X.mg X.base k f fd ps sp) (hr : Rm k X.A) (hb : Binds X.K fd ps [])
    (hx : PassesAt (L2.CX X.prog X.w) X σ E) (I : Inv X pins σ H s) (rv : Vals vs us) (h : sp vs H Q E) : wpAny (model X.prog X.w) X.A (call (.ref f) us) (EP X pins σ Q) X.xe s := by
  have len : us.length = ps.length := rv.length ▸ F.len _ _ _ _ h
  have bound : BindsTo s fd ⟨us, []⟩ (ps.zip us) := by
    have b := hb s us I.kIn (by simpa using len)
    simpa using b
  refine wpAny_call (codeAny_mono (F.run _ _ s H _ us vs Q E hr I.env0 bound rv h) fun res s' hq => ?_)
  match res, hq with
  | .error e, hq => exact hx pins H s e s' I hq
  | .ok (.ret u), hq => exact I.after hq
theorem pe_callG {k : Nat} {f : Addr} {fd : FuncData} {ps : List Str} {sp : Sp} {E : L2.St → XK} {t : TA} (F : FnG X.prog X.w X.K X.mg X.base k f fd ps sp) (hr : Rm k X.A) (hg : Gl X x) (hm : X.mg x = some (.ref f)) (hk : PySem.W.keepIn X.K (.ref f) = true)
    (hb : Binds X.K fd ps []) (hx : ∀ σ, PassesAt (L2.CX X.prog X.w) X σ (E σ)) (ha : PA X (e :: es) t) (hdb : (x == ("__debug__" : Str)) = false := by decide)
    (he : starEach (e :: es) X.env = (false, eval e X.env) :: starEach es X.env := by rfl) (hpl : (backTo pos (starEach es X.env)).any (·.1) = false := by rfl) :
    PE X (.Call (.Name x p) (e :: es) [] pos) (tCallS sp E t) := ⟨fun pins s σ H Q I h => by
  refine wpAny_Call_Name_kw (ld_glob I hg hm ?_ hdb)
  exact PySem.W.callWith_K (h₀ := X.base) I.ok.mod.kin hk (thn (ha.run pos pins s σ H _ I h) fun us s1 ⟨vs, H1, I1, rv, q⟩ => ⟨I1.kIn, run_fnG F hr hb (hx σ) I1 rv q⟩) he hpl⟩
theorem pe_callG0 {k : Nat} {f : Addr} {fd : FuncData} {ps : List Str} {sp : Sp} {E : L2.St → XK} (F : FnG X.prog X.w X.K X.mg X.base k f fd ps sp) (hr : Rm k X.A) (hg : Gl X x) (hm : X.mg x = some (.ref f)) (hk : PySem.W.keepIn X.K (.ref f) = true)
    (hb : Binds X.K fd ps []) (hx : ∀ σ, PassesAt (L2.CX X.prog X.w) X σ (E σ)) (hdb : (x == ("__debug__" : Str)) = false := by decide) :
    PE X (.Call (.Name x p) [] [] pos) (fun σ H Q => sp [] H Q (E σ)) := ⟨fun pins s σ H Q I h => by
  refine wpAny_Call_Name_kw (ld_glob I hg hm ?_ hdb)
  exact PySem.W.callWith_K0 I.kIn hk (run_fnG F hr hb (hx σ) I .nil h)⟩
def XE0 : XK := fun _ _ _ => False
theorem pass_none {σ : L2.St} : PassesAt (L2.CX X.prog X.w) X σ XE0 := fun _ _ _ _ _ _ c => by
  obtain ⟨_, _, _, _, _, _, _, _, _, _, _, _, z⟩ := c
  exact z.elim
/-- a call of a def, what it raises goes on -/
def E.appX (φ : List D → M D) (r : Env → M (List D)) : Env → M D := fun ρ => bnd (r ρ) fun xs => φ xs
theorem Ev.of_noexc {α : Type} {m : M α} {s : Store} {P : α → Store → Prop} {Z Z' : Ex → Store → Prop} (h : Ev (G.noexc m s) P Z) : Ev (m s) P Z' := by
  unfold G.noexc at h
  cases e : m s with
  | ok a s' => rw [e] at h; exact h
  | exc x s' => rw [e] at h; exact h.elim
  | bad => rw [e] at h; exact h
theorem app_fin {n : Nat} {φ : List D → M D} {σ : L2.St} {H : Hp} {g : Gh} {Q : VK} (ok : g.ok X.K O σ H) (hl : ∀ ρ s ds s', r ρ s = .ok ds s' → ds.length = n)
    (q : Ev (E.app φ r g.ρ g.st) (fun d st' => ∀ as' v H', Grow g.as H as' H' → SRep X.K as' st' H' → Rep X.K (Ff g.B as' O σ) as' H' v d → Q v H') (Zc X.K O g.B g.H0 g.as0 Z)) :
    tA X.K O Z r σ H fun vs H1 => spD X.K n φ vs H1 Q XE0 := by
  refine ⟨g, ok, ?_⟩
  have q := Ev.bnd q
  cases e : r g.ρ g.st with
  | ok ds st' =>
    rw [e] at q
    intro as' vs H' gr s rs
    have ok' := ok.step gr s
    refine ⟨fun a => g.B a ∨ ownA O σ a, as', st', ds, by rw [rs.length]; exact hl _ _ _ _ e, fun a z => ?_, s, rs.weak fun a o _ z => ?_, ?_⟩
    · rcases z with z | z
      · exact ok'.wf.tr s a (.inl z)
      · exact ok'.wf.tr s a (.inr (.inr z))
    · rcases z with (z | z) | z
      · exact .inl z
      · exact .inr (.inr z)
      · exact .inr (.inl z)
    · refine Ev.of_noexc (Z := Zc X.K O g.B g.H0 g.as0 Z) (Ev.mono q (fun d st2 q as2 v H2 g2 s2 rv => q as2 v H2 (gr.trans g2) s2 (rv.weak fun a o _ z => ?_)) fun _ _ z => z)
      rcases z with z | z | z
      · exact .inl (.inl z)
      · exact .inr z
      · exact .inl (.inr z)
  | exc x st' => rw [e] at q; exact q
  | bad => rw [e] at q; exact q
theorem appX_fin {n : Nat} {φ : List D → M D} {σ : L2.St} {H : Hp} {g : Gh} {Q : VK} (ok : g.ok X.K O σ H) (hl : ∀ ρ s ds s', r ρ s = .ok ds s' → ds.length = n)
    (q : Ev (E.appX φ r g.ρ g.st) (fun d st' => ∀ as' v H', Grow g.as H as' H' → SRep X.K as' st' H' → Rep X.K (Ff g.B as' O σ) as' H' v d → Q v H') (Zc X.K O g.B g.H0 g.as0 Z)) :
    tA X.K O Z r σ H fun vs H1 => spD X.K n φ vs H1 Q (WE (WZ X.K Z) σ) := by
  refine ⟨g, ok, ?_⟩
  have q := Ev.bnd q
  cases e : r g.ρ g.st with
  | ok ds st' =>
    rw [e] at q
    intro as' vs H' gr s rs
    have ok' := ok.step gr s
    refine ⟨fun a => g.B a ∨ ownA O σ a, as', st', ds, by rw [rs.length]; exact hl _ _ _ _ e, fun a z => ?_, s, rs.weak fun a o _ z => ?_, ?_⟩
    · rcases z with z | z
      · exact ok'.wf.tr s a (.inl z)
      · exact ok'.wf.tr s a (.inr (.inr z))
    · rcases z with (z | z) | z
      · exact .inl z
      · exact .inr (.inr z)
      · exact .inr (.inl z)
    · refine Ev.mono q (fun d st2 q as2 v H2 g2 s2 rv => q as2 v H2 (gr.trans g2) s2 (rv.weak fun a o _ z => ?_)) fun x st2 z as2 H2 cls d g2 s2 ex => ?_
      · rcases z with z | z | z
        · exact .inl (.inl z)
        · exact .inr z
        · exact .inl (.inr z)
      · refine ⟨g.B, x, st2, as2, ex.weak fun a o _ y => ?_, z as2 g.ρ σ H2 g.B (fun _ h => h) (ok'.wf.grow s g2 s2) s2⟩
        rcases y with y | y
        · exact .inl (.inl y)
        · exact .inr y
  | exc x st' => rw [e] at q; exact q
  | bad => rw [e] at q; exact q
theorem de_app {n k : Nat} {φ : List D → M D} (F : Dn X x n k φ) (hr : Rm k X.A) (hg : Gl X x) (ha : DA X O Z (e :: es) r) (hl : ∀ ρ s ds s', r ρ s = .ok ds s' → ds.length = n) (hdb : (x == ("__debug__" : Str)) = false := by decide)
    (he : starEach (e :: es) X.env = (false, eval e X.env) :: starEach es X.env := by rfl) (hpl : (backTo pos (starEach es X.env)).any (·.1) = false := by rfl) : DE X O Z (.Call (.Name x p) (e :: es) [] pos) (E.app φ r) := by
  obtain ⟨f, fd, ps, F, hm, hk, hb⟩ := F.ex
  exact PE.imp (pe_callG (E := fun _ => XE0) F hr hg hm hk hb (fun _ => pass_none) ha hdb he hpl) fun σ H Q ⟨g, ok, q⟩ => app_fin ok hl q
theorem de_appX {n k : Nat} {φ : List D → M D} (F : Dn X x n k φ) (tk : Takes X (WZ X.K Z)) (hr : Rm k X.A) (hg : Gl X x) (ha : DA X O Z (e :: es) r) (hl : ∀ ρ s ds s', r ρ s = .ok ds s' → ds.length = n) (hdb : (x == ("__debug__" : Str)) = false := by decide)
    (he : starEach (e :: es) X.env = (false, eval e X.env) :: starEach es X.env := by rfl) (hpl : (backTo pos (starEach es X.env)).any (·.1) = false := by rfl) : DE X O Z (.Call (.Name x p) (e :: es) [] pos) (E.appX φ r) := by
  obtain ⟨f, fd, ps, F, hm, hk, hb⟩ := F.ex
  exact PE.imp (pe_callG (E := WE (WZ X.K Z)) F hr hg hm hk hb (fun σ => passAt tk σ) ha hdb he hpl) fun σ H Q ⟨g, ok, q⟩ => appX_fin ok hl q
/-- a call without arguments -/
theorem de_app0 {k : Nat} {φ : List D → M D} (F : Dn X x 0 k φ) (hr : Rm k X.A) (hg : Gl X x) (hdb : (x == ("__debug__" : Str)) = false := by decide) : DE X O Z (.Call (.Name x p) [] [] pos) (E.app φ A.nil) := by
  obtain ⟨f, fd, ps, F, hm, hk, hb⟩ := F.ex
  refine PE.imp (pe_callG0 (E := fun _ => XE0) F hr hg hm hk hb (fun _ => pass_none) hdb) fun σ H Q ⟨g, ok, q⟩ => ?_
  have q' : Ev (noexc (φ []) g.st) _ _ := q
  refine ⟨fun a => g.B a ∨ ownA O σ a, g.as, g.st, [], rfl, fun a z => ?_, ok.sr, .nil, ?_⟩
  · rcases z with z | z
    · exact ok.wf.tr ok.sr a (.inl z)
    · exact ok.wf.tr ok.sr a (.inr (.inr z))
  · refine Ev.of_noexc (Z := Zc X.K O g.B g.H0 g.as0 Z) (Ev.mono q' (fun d st2 q as2 v H2 g2 s2 rv => q as2 v H2 g2 s2 (rv.weak fun a o _ z => ?_)) fun _ _ z => z)
    rcases z with z | z | z
    · exact .inl (.inl z)
    · exact .inr z
    · exact .inl (.inr z)
theorem RepT.bare {K : PySem.W.Frag} {F : Addr → Prop} {as : List Addr} {H : Hp} {v : V} {d : D} (sub : ∀ a ∈ as, F a) (r : RepT K F as H v d) : Rep K (fun a => False ∨ a ∈ as) as H v d := by
  have w : ∀ a o, H a = some o → (False ∨ a ∈ as) → F a := fun a o _ z => z.elim False.elim (sub a)
  cases r with
  | rep r => exact r.weak w
  | own r n =>
    cases r with
    | lst h r => exact .lst (.inl ⟨fun z => z.elim id (n _ rfl), .inl h⟩) (r.weak w)
    | dct h o r => exact .dct (fun z => z.elim id (n _ rfl)) (.inl h) o (r.weak w)
    | sca r _ => exact r.weak w
theorem RepTs.bare {K : PySem.W.Frag} {F : Addr → Prop} {as : List Addr} {H : Hp} {vs : List V} {ds : List D} (sub : ∀ a ∈ as, F a) : RepTs K F as H vs ds → Reps K (fun a => False ∨ a ∈ as) as H vs ds
  | .nil => .nil
  | .cons h r => .cons (h.bare sub) (r.bare sub)
theorem RepTs.length {K : PySem.W.Frag} {F : Addr → Prop} {as : List Addr} {H : Hp} {vs : List V} {ds : List D} : RepTs K F as H vs ds → vs.length = ds.length
  | .nil => rfl
  | .cons _ r => by simp [r.length]
theorem appI_fin {n : Nat} {φ : List D → M D} {σ : L2.St} {H : Hp} {g : Gh} {Q : VK} (ok : g.ok X.K O σ H) (hl : ∀ ρ s ds s', r ρ s = .ok ds s' → ds.length = n)
    (q : Ev (E.appI φ r g.ρ g.st) (fun d st' => ∀ as' v H', Grow g.as H as' H' → SRep X.K as' st' H' → Rep X.K (Ff g.B as' O σ) as' H' v d → Q v H') (Zc X.K O g.B g.H0 g.as0 Z)) :
    tAU X.K O Z r σ H fun vs H1 => spD X.K n φ vs H1 Q XE0 := by
  refine ⟨g, ok, ?_⟩
  have q := Ev.bnd q
  cases e : r g.ρ g.st with
  | ok ds st' =>
    rw [e] at q
    intro as' vs H' gr s rs
    refine ⟨fun _ => False, as', st', ds, by rw [rs.length]; exact hl _ _ _ _ e, fun a z => z.elim, s, rs.bare fun a h => .inr (.inl h), ?_⟩
    refine Ev.of_noexc (Z := Zc X.K O g.B g.H0 g.as0 Z) (Ev.mono (Ev.bnd q) (fun d st2 q as2 v H2 g2 s2 rv => ?_) fun _ _ z => z)
    by_cases i : d.imm = true
    · rw [if_pos i] at q
      exact q as2 v H2 (gr.trans g2) s2 (rv.of_imm i)
    · rw [if_neg i] at q
      exact q.elim
  | exc x st' => rw [e] at q; exact q
  | bad => rw [e] at q; exact q
theorem de_appI {n k : Nat} {φ : List D → M D} (F : Dn X x n k φ) (hr : Rm k X.A) (hg : Gl X x) (ha : DAU X O Z (e :: es) r) (hl : ∀ ρ s ds s', r ρ s = .ok ds s' → ds.length = n) (hdb : (x == ("__debug__" : Str)) = false := by decide)
    (he : starEach (e :: es) X.env = (false, eval e X.env) :: starEach es X.env := by rfl) (hpl : (backTo pos (starEach es X.env)).any (·.1) = false := by rfl) : DE X O Z (.Call (.Name x p) (e :: es) [] pos) (E.appI φ r) := by
  obtain ⟨f, fd, ps, F, hm, hk, hb⟩ := F.ex
  exact PE.imp (pe_callG (E := fun _ => XE0) F hr hg hm hk hb (fun _ => pass_none) ha hdb he hpl) fun σ H Q ⟨g, ok, q⟩ => appI_fin ok hl q
theorem alen_nil : ∀ ρ s ds s', A.nil ρ s = .ok ds s' → ds.length = 0 := fun ρ s ds s' h => by cases h; rfl
theorem alen_cons {n : Nat} (h : ∀ ρ s ds s', r ρ s = .ok ds s' → ds.length = n) : ∀ ρ s ds s', A.cons f r ρ s = .ok ds s' → ds.length = n + 1 := fun ρ s ds s' z => by
  unfold A.cons bnd at z
  cases e : f ρ s with
  | ok d s1 =>
    rw [e] at z
    dsimp only at z
    cases e2 : r ρ s1 with
    | ok ds2 s2 =>
      rw [e2] at z
      cases z
      rw [List.length_cons, h _ _ _ _ e2]
    | exc x s2 => rw [e2] at z; cases z
    | bad => rw [e2] at z; cases z
  | exc x s1 => rw [e] at z; cases z
  | bad => rw [e] at z; cases z
end
end G
end L2
end G4_
section G5_
set_option Elab.async false
set_option linter.all false
set_option maxRecDepth 100000
set_option maxHeartbeats 1000000
namespace L2
namespace G
open PySem PySem.Spec PyProof.Rows

/-! ### slots are set -/
theorem ownA_set {O : List Nat} {σ : L2.St} {i : Nat} {o : Option V} (h : i ∉ O) (a : Addr) : ownA O (σ.set i o) a ↔ ownA O σ a := by
  constructor
  · rintro ⟨j, hj, e⟩
    rw [List.getElem?_set_ne (fun z => h (by rw [z]; exact hj))] at e
    exact ⟨j, hj, e⟩
  · rintro ⟨j, hj, e⟩
    exact ⟨j, hj, by rw [List.getElem?_set_ne (fun z => h (by rw [z]; exact hj))]; exact e⟩
theorem ff_set {B : Addr → Prop} {as : List Addr} {O : List Nat} {σ : L2.St} {i : Nat} {o : Option V} (h : i ∉ O) : Ff B as O (σ.set i o) = Ff B as O σ := by
  funext a
  apply propext
  unfold Ff
  rw [ownA_set h]
theorem get_set_some {α : Type} {l : List (Option α)} {i j : Nat} {x : Option α} {d : α} (e : (l.set i x)[j]? = some (some d)) : (j = i ∧ x = some d ∧ i < l.length) ∨ (j ≠ i ∧ l[j]? = some (some d)) := by
  rw [List.getElem?_set] at e
  by_cases h : i = j
  · rw [if_pos h] at e
    by_cases q : i < l.length
    · rw [if_pos q] at e
      exact .inl ⟨h.symm, Option.some.inj e, q⟩
    · rw [if_neg q] at e; cases e
  · rw [if_neg h] at e
    exact .inr ⟨fun z => h z.symm, e⟩
section
variable {K : PySem.W.Frag} {O : List Nat} {B : Addr → Prop} {H0 : Hp} {as0 as as' : List Addr} {ρ : Env} {σ : L2.St} {H H' : Hp} {st st' : Store} {v : V} {d : D} {i : Nat}
theorem Wf.set (w : Wf K O B H0 as0 as ρ σ H) (hi : i ∉ O) (r : Rep K (Ff B as O σ) as H v d) : Wf K O B H0 as0 as (ρ.set i (some d)) (σ.set i (some v)) H where
  len := by rw [List.length_set, List.length_set]; exact w.len
  var := fun j d' e n => by
    rw [ff_set hi]
    rcases get_set_some e with ⟨rfl, e, l⟩ | ⟨ne, e⟩
    · cases e
      exact ⟨v, by rw [List.getElem?_set_self (by rw [w.len]; exact l)], r⟩
    · obtain ⟨u, h, q⟩ := w.var j d' e n
      exact ⟨u, by rw [List.getElem?_set_ne (Ne.symm ne)]; exact h, q⟩
  own := fun j d' e m => by
    rw [ff_set hi]
    have ne : j ≠ i := fun z => hi (z ▸ m)
    rw [List.getElem?_set_ne (Ne.symm ne)] at e ⊢
    exact w.own j d' e m
  slot := fun j a m e => by
    have ne : j ≠ i := fun z => hi (z ▸ m)
    rw [List.getElem?_set_ne (Ne.symm ne)] at e
    exact w.slot j a m e
  dis := fun j k a mj mk ej ek => by
    rw [List.getElem?_set_ne (fun z => hi (by rw [z]; exact mj))] at ej
    rw [List.getElem?_set_ne (fun z => hi (by rw [z]; exact mk))] at ek
    exact w.dis j k a mj mk ej ek
  trB := w.trB
  gr := w.gr
/-- a slot is forgotten -/
theorem Wf.drop (w : Wf K O B H0 as0 as ρ σ H) (hi : i ∉ O) (o : Option V) : Wf K O B H0 as0 as (ρ.set i none) (σ.set i o) H where
  len := by rw [List.length_set, List.length_set]; exact w.len
  var := fun j d' e n => by
    rw [ff_set hi]
    rcases get_set_some e with ⟨_, e, _⟩ | ⟨ne, e⟩
    · cases e
    · obtain ⟨u, h, q⟩ := w.var j d' e n
      exact ⟨u, by rw [List.getElem?_set_ne (Ne.symm ne)]; exact h, q⟩
  own := fun j d' e m => by
    rw [ff_set hi]
    have ne : j ≠ i := fun z => hi (z ▸ m)
    rw [List.getElem?_set_ne (Ne.symm ne)] at e ⊢
    exact w.own j d' e m
  slot := fun j a m e => by
    have ne : j ≠ i := fun z => hi (z ▸ m)
    rw [List.getElem?_set_ne (Ne.symm ne)] at e
    exact w.slot j a m e
  dis := fun j k a mj mk ej ek => by
    rw [List.getElem?_set_ne (fun z => hi (by rw [z]; exact mj))] at ej
    rw [List.getElem?_set_ne (fun z => hi (by rw [z]; exact mk))] at ek
    exact w.dis j k a mj mk ej ek
  trB := w.trB
  gr := w.gr
theorem Step.set (hi : i ∉ O) (o : Option V) : Step O as σ H as (σ.set i o) H := ⟨fun _ _ h => h, fun _ _ h _ _ => h, fun _ h n => absurd h n, fun a h => .inl ((ownA_set hi a).mp h), fun _ o h => ⟨o, h⟩⟩
/-- an owned slot takes a new list or dict -/
theorem Wf.setN (w : Wf K O B H0 as0 as ρ σ H) (s : SRep K as st H) (g : Grow as H as' H') (s' : SRep K as' st' H') (hi : i ∈ O) (r : Own K (fun a => Ff B as' O σ a ∨ v = .ref a) as' H' v d) (n : ∀ p, v = .ref p → H p = none ∧ p ∉ as') :
    Wf K O B H0 as0 as' (ρ.set i (some d)) (σ.set i (some v)) H' ∧ Step O as σ H as' (σ.set i (some v)) H' := by
  have w' := w.grow s g s'
  -- the new set of what is owned
  have own' : ∀ a, ownA O (σ.set i (some v)) a → ownA O σ a ∨ v = .ref a := by
    rintro a ⟨j, hj, e⟩
    rcases get_set_some e with ⟨_, e, _⟩ | ⟨_, e⟩
    · exact .inr (Option.some.inj e)
    · exact .inl ⟨j, hj, e⟩
  have ffw : ∀ a o, H a = some o → Ff B as' O (σ.set i (some v)) a → Ff B as O σ a := fun a o e z => by
    rcases z with z | z | z
    · exact .inl z
    · exact ff_grow g a o e (.inr (.inl z))
    · rcases own' a z with z | z
      · exact .inr (.inr z)
      · rw [(n a z).1] at e; cases e
  have kk : ∀ b o, H b = some o → ¬ Ff B as' O (σ.set i (some v)) b → H' b = some o := fun b o e z => g.keep b o e fun q => z (.inr (.inl (g.sub q)))
  have repw : ∀ {u : V} {dd : D}, Rep K (Ff B as O σ) as H u dd → Rep K (Ff B as' O (σ.set i (some v))) as' H' u dd := fun h => (h.weak ffw).frame kk (grow_t s g) g.pre
  have repsw : ∀ {us : List V} {dds : List D}, Reps K (Ff B as O σ) as H us dds → Reps K (Ff B as' O (σ.set i (some v))) as' H' us dds := fun h => (h.weak ffw).frame kk (grow_t s g) g.pre
  refine ⟨⟨by rw [List.length_set, List.length_set]; exact w.len, fun j d' e nj => ?_, fun j d' e mj => ?_, fun j a mj e => ?_, fun j k a mj mk ej ek => ?_, w'.trB, w'.gr⟩, g.pre, fun b o h nb _ => g.keep b o h nb, g.fre, fun a h => ?_, (g.step (O := O) (σ := σ) s').trk⟩
  · have ne : j ≠ i := fun z => nj (z ▸ hi)
    rw [List.getElem?_set_ne (Ne.symm ne)] at e
    obtain ⟨u, h, q⟩ := w.var j d' e nj
    exact ⟨u, by rw [List.getElem?_set_ne (Ne.symm ne)]; exact h, repw q⟩
  · rcases get_set_some e with ⟨rfl, e, l⟩ | ⟨ne, e⟩
    · cases e
      refine ⟨v, by rw [List.getElem?_set_self (by rw [w.len]; exact l)], ?_⟩
      have wk : ∀ a o, H' a = some o → Ff B as' O (σ.set j (some v)) a → (Ff B as' O σ a ∨ v = .ref a) := fun a o _ z => by
        rcases z with z | z | z
        · exact .inl (.inl z)
        · exact .inl (.inr (.inl z))
        · rcases own' a z with z | z
          · exact .inl (.inr (.inr z))
          · exact .inr z
      cases r with
      | lst h r => exact .lst h (r.weak wk)
      | dct h o r => exact .dct h o (r.weak wk)
      | sca r q => exact .sca (r.weak wk) q
    · obtain ⟨u, h, q⟩ := w.own j d' e mj
      refine ⟨u, by rw [List.getElem?_set_ne (Ne.symm ne)]; exact h, ?_⟩
      have hp : ∀ p, u = .ref p → p ∉ as := fun p z => by subst z; exact (w.slot j p mj h).2.1
      cases q with
      | lst hh r => exact .lst (g.keep _ _ hh (hp _ rfl)) (repsw r)
      | dct hh o r => exact .dct (g.keep _ _ hh (hp _ rfl)) o (repsw r)
      | sca r q => exact .sca (repw r) q
  · rcases get_set_some e with ⟨rfl, e, l⟩ | ⟨ne, e⟩
    · cases e
      obtain ⟨n1, n2⟩ := n a rfl
      refine ⟨?_, n2, fun z => ?_, ?_⟩
      · cases q : H0 a with
        | none => rfl
        | some o =>
          by_cases m : a ∈ as0
          · obtain ⟨o', z, _⟩ := s.mem (w.gr.sub m)
            rw [n1] at z; cases z
          · have := w.gr.keep a o q m
            rw [n1] at this; cases this
      · obtain ⟨o, z⟩ := w.trB a z
        rw [n1] at z; cases z
      · cases r with
        | lst h r => exact ⟨_, h, fun z => z⟩
        | dct h o r => exact ⟨_, h, o.notTup⟩
        | sca r q => exact absurd rfl (q a)
    · exact w'.slot j a mj e
  · rcases get_set_some ej with ⟨rfl, e1, l1⟩ | ⟨ne1, e1⟩ <;> rcases get_set_some ek with ⟨rfl, e2, l2⟩ | ⟨ne2, e2⟩
    · rfl
    · cases e1
      obtain ⟨_, _, _, o, z, _⟩ := w.slot k a mk e2
      rw [(n a rfl).1] at z; cases z
    · cases e2
      obtain ⟨_, _, _, o, z, _⟩ := w.slot j a mj e1
      rw [(n a rfl).1] at z; cases z
    · exact w.dis j k a mj mk e1 e2
  · rcases own' a h with h | h
    · exact .inl h
    · exact .inr (n a h).1
/-- an owned object is changed -/
theorem Wf.write {p : Addr} {o : HO} (w : Wf K O B H0 as0 as ρ σ H) (s : SRep K as st H) (hi : i ∈ O) (e : σ[i]? = some (some (.ref p))) (no : ¬ TupO o)
    (r : (∃ vs ds, o = .lst vs ∧ d = .lst ds ∧ Reps K (Ff B as O σ) as H vs ds) ∨ ∃ vs t ks ds, DctO o t ks vs ∧ d = .dct t ks ds ∧ Reps K (Ff B as O σ) as H vs ds) :
    Wf K O B H0 as0 as (ρ.set i (some d)) σ (upd H p o) ∧ SRep K as st (upd H p o) ∧ Step O as σ H as σ (upd H p o) := by
  obtain ⟨n0, n1, n2, o0, h0, t0⟩ := w.slot i p hi e
  have fp : Ff B as O σ p := .inr (.inr ⟨i, hi, e⟩)
  have kk : ∀ b u, H b = some u → ¬ Ff B as O σ b → upd H p o b = some u := fun b u h n => by rw [upd_ne (fun (z : b = p) => n (by rw [z]; exact fp))]; exact h
  have kt : ∀ b u, H b = some u → TupO u → upd H p o b = some u := fun b u h t => by
    rw [upd_ne (fun z => by subst z; rw [h] at h0; cases h0; exact t0 t)]; exact h
  have trk : ∀ b u, H b = some u → ∃ u', upd H p o b = some u' := fun b u h => by
    by_cases z : b = p
    · subst z; exact ⟨o, upd_same⟩
    · exact ⟨u, by rw [upd_ne z]; exact h⟩
  refine ⟨⟨by rw [List.length_set]; exact w.len, fun j d' ej nj => ?_, fun j d' ej mj => ?_, fun j a mj ej => ?_, w.dis, fun a b => ?_, ⟨w.gr.pre, fun b u h n => ?_, w.gr.fre⟩⟩, s.frame fun b u h c => ?_, fun _ _ h => h, fun b u h nb nw => ?_, fun _ h n => absurd h n, fun _ h => .inl h, trk⟩
  · have ne : j ≠ i := fun z => nj (z ▸ hi)
    rw [List.getElem?_set_ne (Ne.symm ne)] at ej
    obtain ⟨u, h, q⟩ := w.var j d' ej nj
    exact ⟨u, h, q.frame kk kt fun _ _ h => h⟩
  · rcases get_set_some ej with ⟨rfl, e', l⟩ | ⟨ne, e'⟩
    · cases e'
      refine ⟨.ref p, e, ?_⟩
      rcases r with ⟨vs, ds, rfl, rfl, r⟩ | ⟨vs, t, ks, ds, dd, rfl, r⟩
      · exact .lst upd_same (r.frame kk kt fun _ _ h => h)
      · exact .dct upd_same dd (r.frame kk kt fun _ _ h => h)
    · obtain ⟨u, h, q⟩ := w.own j d' e' mj
      refine ⟨u, h, ?_⟩
      have hp : ∀ q, u = .ref q → q ≠ p := fun q z y => by
        subst z; subst y
        exact ne (w.dis j i _ mj hi h e)
      cases q with
      | lst hh r => exact .lst (by rw [upd_ne (hp _ rfl)]; exact hh) (r.frame kk kt fun _ _ h => h)
      | dct hh o r => exact .dct (by rw [upd_ne (hp _ rfl)]; exact hh) o (r.frame kk kt fun _ _ h => h)
      | sca r q => exact .sca (r.frame kk kt fun _ _ h => h) q
  · obtain ⟨a1, a2, a3, oa, a4, a5⟩ := w.slot j a mj ej
    refine ⟨a1, a2, a3, ?_⟩
    by_cases z : a = p
    · subst z; exact ⟨o, upd_same, no⟩
    · exact ⟨oa, by rw [upd_ne z]; exact a4, a5⟩
  · obtain ⟨u, h⟩ := w.trB a b
    exact trk a u h
  · rw [upd_ne (ne_of_none h n0)]
    exact w.gr.keep b u h n
  · rcases c with c | c
    · rw [upd_ne (fun (z : b = p) => n1 (by rw [← z]; exact c))]; exact h
    · exact kt b u h c
  · rw [upd_ne (fun z => nw ⟨i, hi, by rw [z]; exact e⟩)]; exact h
end

/-! ### statements: combinators -/
abbrev SD := Env → M (Fl × Env)
def S.nil : SD := fun ρ => ret (.next, ρ)
def S.seq (s r : SD) : SD := fun ρ => bnd (s ρ) fun q => match q.1 with
  | .next => r q.2
  | .brk => ret (.brk, q.2)
  | .cont => ret (.cont, q.2)
  | .ret d => ret (.ret d, q.2)
def S.bad : SD := fun _ => G.bad
def S.brk : SD := fun ρ => ret (.brk, ρ)
def S.cont : SD := fun ρ => ret (.cont, ρ)
def S.ret (e : Env → M D) : SD := fun ρ => bnd (e ρ) fun d => G.ret (.ret d, ρ)
def S.retN : SD := fun ρ => G.ret (.ret .non, ρ)
def S.expr (e : Env → M D) : SD := fun ρ => bnd (e ρ) fun _ => G.ret (.next, ρ)
def S.ite (t : Env → M Bool) (a b : SD) : SD := fun ρ => bnd (t ρ) fun c => if c = true then a ρ else b ρ
def S.set (i : Nat) (e : Env → M D) : SD := fun ρ => bnd (e ρ) fun d => G.ret (.next, List.set ρ i (some d))
section
variable {X : Cx} {O : List Nat} {Z : ZT} {e a b c : Expr} {es : List Expr} {f fa fb fc : Env → M D} {r : Env → M (List D)} {pos p : Pos} {x : Str} {st : Stmt} {ss ss' : List Stmt} {s s' : SD}
def Gh.on (g : Gh) (as' : List Addr) (ρ' : Env) (st' : Store) : Gh := { g with as := as', ρ := ρ', st := st' }
theorem dss_nil : DSs X O Z [] S.nil := PSs.imp pss_nil fun D σ H ⟨g, ok, q⟩ => q _ _ _ (Step.refl ..) ok.wf ok.sr
theorem dss_cons (h : DS X O Z st s) (k : DSs X O Z ss s') : DSs X O Z (st :: ss) (S.seq s s') := PSs.imp (pss_cons h k) fun D σ H ⟨g, ok, q⟩ => by
  refine ⟨g, ok, (Ev.bnd q).mono (fun r st1 q as1 σ1 H1 sp1 w1 s1 => ?_) fun _ _ z => z⟩
  obtain ⟨fl, ρ1⟩ := r
  cases fl with
  | next =>
    exact ⟨g.on as1 ρ1 st1, ⟨w1, s1⟩, Ev.mono q (fun r2 st2 q as2 σ2 H2 sp2 w2 s2 => q as2 σ2 H2 (sp1.trans sp2) w2 s2) fun _ _ z => z⟩
  | brk => exact q as1 σ1 H1 sp1 w1 s1
  | cont => exact q as1 σ1 H1 sp1 w1 s1
  | ret d => exact q as1 σ1 H1 sp1 w1 s1
theorem ds_pass : DS X O Z (.Pass pos) S.nil := PS.imp ps_pass fun D σ H ⟨g, ok, q⟩ => q _ _ _ (Step.refl ..) ok.wf ok.sr
theorem ds_break : DS X O Z (.Break pos) S.brk := PS.imp ps_break fun D σ H ⟨g, ok, q⟩ => q _ _ _ (Step.refl ..) ok.wf ok.sr
theorem ds_continue : DS X O Z (.Continue pos) S.cont := PS.imp ps_continue fun D σ H ⟨g, ok, q⟩ => q _ _ _ (Step.refl ..) ok.wf ok.sr
theorem ds_bad : DS X O Z st S.bad := PS.imp ps_never fun D σ H ⟨g, ok, q⟩ => q.elim
theorem dss_bad : DSs X O Z ss S.bad := PSs.imp pss_never fun D σ H ⟨g, ok, q⟩ => q.elim
theorem ds_expr (h : DU X O Z e f) (hs : swapsWith e none pos.line X.env = pure false := by rfl) : DS X O Z (.Expr e pos) (S.expr f) := PS.imp (ps_expr h hs) fun D σ H ⟨g, ok, q⟩ =>
  ⟨g, ok, (Ev.bnd q).mono (fun d st' q as' v H' gr s _ => q as' σ H' (gr.step s) (ok.wf.grow ok.sr gr s) s) fun _ _ z => z⟩
theorem ds_ret (h : DE X O Z e f) : DS X O Z (.Return (some e) pos) (S.ret f) := PS.imp (ps_ret h) fun D σ H ⟨g, ok, q⟩ =>
  ⟨g, ok, (Ev.bnd q).mono (fun d st' q as' v H' gr s r => q as' σ H' (gr.step s) (ok.wf.grow ok.sr gr s) s v (r.weak fun a o _ z => by
    rcases z with z | z
    · exact .inl z
    · exact .inr (.inl z))) fun _ _ z => z⟩
theorem ds_retN : DS X O Z (.Return none pos) S.retN := PS.imp ps_retN fun D σ H ⟨g, ok, q⟩ => q _ σ H (Step.refl ..) ok.wf ok.sr .non .non
/-- return x, x an owned name -/
theorem ds_retV (i : Nat) {x : Str} {p : Pos} (hO : i ∈ O := by decide) (hN : X.N[i]? = some x := by rfl) (hv : Vis X.env.scope x := by first | exact Or.inl rfl | exact Or.inr (Or.inl rfl) | exact Or.inr (Or.inr rfl)) (hd : (x == ("__debug__" : Str)) = false := by decide)
    (hcd : (x == ("__classdict__" : Str)) = false := by decide) : DS X O Z (.Return (some (.Name x p)) pos) (S.ret (E.var i)) := PS.imp (ps_ret (pe_var hN hv hd hcd)) fun D σ H ⟨g, ok, q⟩ => by
  have q := Ev.bnd q
  unfold E.var at q
  cases e : g.ρ[i]? with
  | none => rw [e] at q; exact q.elim
  | some o =>
    rw [e] at q
    cases o with
    | none => exact q.elim
    | some d =>
      obtain ⟨v, h, r⟩ := ok.wf.own i d e hO
      refine ⟨v, h, q _ σ H (Step.refl ..) ok.wf ok.sr v ?_⟩
      have wk : ∀ a o, H a = some o → (g.B a ∨ a ∈ g.as) → Ff g.B g.as O σ a := fun a o _ z => by
        rcases z with z | z
        · exact .inl z
        · exact .inr (.inl z)
      have nn : ∀ p, v = .ref p → ¬ (g.B p ∨ p ∈ g.as) := fun p z y => by
        subst z
        obtain ⟨_, n1, n2, _⟩ := ok.wf.slot i p hO h
        rcases y with y | y
        · exact n2 y
        · exact n1 y
      cases r with
      | lst hh r => exact .lst (.inl ⟨nn _ rfl, .inl hh⟩) (r.weak wk)
      | dct hh o r => exact .dct (nn _ rfl) (.inl hh) o (r.weak wk)
      | sca r _ => exact r.weak wk
theorem ds_if {t : Env → M Bool} (h : DT X O Z c t) (ha : DSs X O Z ss s) (hb : DSs X O Z ss' s') : DS X O Z (.If c ss ss' pos) (S.ite t s s') := PS.imp (ps_if h ha hb) fun D σ H ⟨g, ok, q⟩ =>
  ⟨g, ok, (Ev.bnd q).mono (fun x st' q as' H' gr s1 => by
    have st := gr.step (O := O) (σ := σ) s1
    cases x with
    | true => exact ⟨g.at as' st', ok.step gr s1, Ev.mono q (fun r2 st2 q as2 σ2 H2 sp2 w2 s2 => q as2 σ2 H2 (st.trans sp2) w2 s2) fun _ _ z => z⟩
    | false => exact ⟨g.at as' st', ok.step gr s1, Ev.mono q (fun r2 st2 q as2 σ2 H2 sp2 w2 s2 => q as2 σ2 H2 (st.trans sp2) w2 s2) fun _ _ z => z⟩) fun _ _ z => z⟩
/-- x = e -/
theorem ds_set (i : Nat) {x : Str} {pos' : Pos} (hO : i ∉ O) (hN : X.N.Nodup) (hi : X.N[i]? = some x) (hx : Loc X.env.scope x) (he : DE X O Z e f) (hs : swapsWith e (some (.Name x pos')) pos.line X.env = pure false := by rfl)
    (hf : X.fn x = true ∨ X.env.scope.names.lookup x = some .local := by first | exact .inl rfl | exact .inr rfl | assumption) : DS X O Z (.Assign [.Name x pos'] e pos) (S.set i f) := PS.imp (ps_set hN hi hx he hs hf) fun D σ H ⟨g, ok, q⟩ =>
  ⟨g, ok, (Ev.bnd q).mono (fun d st' q as' v H' gr s r => q as' _ H' ((gr.step s).trans (Step.set hO _)) ((ok.wf.grow ok.sr gr s).set hO r) s) fun _ _ z => z⟩
theorem ds_setN (i : Nat) {x : Str} {pos' : Pos} (hO : i ∈ O) (hN : X.N.Nodup) (hi : X.N[i]? = some x) (hx : Loc X.env.scope x) (he : DN X O Z e f) (hs : swapsWith e (some (.Name x pos')) pos.line X.env = pure false := by rfl)
    (hf : X.fn x = true ∨ X.env.scope.names.lookup x = some .local := by first | exact .inl rfl | exact .inr rfl | assumption) : DS X O Z (.Assign [.Name x pos'] e pos) (S.set i f) := PS.imp (ps_set hN hi hx he hs hf) fun D σ H ⟨g, ok, q⟩ =>
  ⟨g, ok, (Ev.bnd q).mono (fun d st' q as' v H' gr s r n => by
    obtain ⟨w, sp⟩ := ok.wf.setN ok.sr gr s hO r n
    exact q as' _ H' sp w s) fun _ _ z => z⟩
end

/-! ### a def's body -/
def fnD (N : Nat) (b : SD) : List D → M D := fun ds s => match b (ds.map some ++ List.replicate (N - ds.length) none) s with
  | .ok q s' => (match q.1 with
    | .ret d => .ok d s'
    | .next => .ok .non s'
    | _ => .bad)
  | .exc x s' => .exc x s'
  | .bad => .bad
def Z0 : ZT := fun _ _ _ _ _ _ => False
theorem Reps.at {K : PySem.W.Frag} {F : Addr → Prop} {as : List Addr} {H : Hp} {vs : List V} {ds : List D} (r : Reps K F as H vs ds) (n : Nat) {i : Nat} {d : D} (e : (ds.map some ++ List.replicate n none)[i]? = some (some d)) :
    ∃ v, (vs.map some ++ List.replicate n (none : Option V))[i]? = some (some v) ∧ Rep K F as H v d := by
  rw [List.getElem?_append] at e
  by_cases l : i < (ds.map some).length
  · rw [if_pos l, List.getElem?_map] at e
    cases q : ds[i]? with
    | none => rw [q] at e; cases e
    | some d' =>
      rw [q] at e
      cases e
      obtain ⟨v, h, rv⟩ := r.get' q
      refine ⟨v, ?_, rv⟩
      have l' : i < (vs.map some).length := by rw [List.length_map, r.length]; rw [List.length_map] at l; exact l
      rw [List.getElem?_append, if_pos l', List.getElem?_map, h]
      rfl
  · rw [if_neg l, List.getElem?_replicate] at e
    split at e <;> cases e
/-- the way out of a def, as a wish -/
def zE (K : PySem.W.Frag) (E : XK) : ZT := fun B x _ as _ H => ∀ cls d, ExR K (fun a => B a ∨ a ∈ as) as H cls d x → E cls d H
theorem zE_takes {X : Cx} {E : XK} (t : Takes X fun cls d _ H => E cls d H) : Takes X (WZ X.K (zE X.K E)) := t.imp fun cls d σ H ⟨B, x, st, as, ex, z⟩ => z cls d ex
theorem fn_body {P : Program} {w : World} {K : PySem.W.Frag} {mg : Str → Option Value} {base : Heap} {x : Str} {st : Stmt} {f : Addr} {N ps : List Str} {O : List Nat} {b : SD} {cdv : Value} {A : Around} {outer : List PySem.Env} {s : Shared} {H : Hp} {E : XK} {vs : List V} {Q : VK}
    (S : FnScope N ps (defScope st)) (hO : ∀ i ∈ O, ps.length ≤ i) (hb : ∀ {Z : ZT}, Takes (cxOf (L2.CX P w) P w K mg base N x (defScope st) f cdv A outer s H E) (WZ K Z) → DSs (cxOf (L2.CX P w) P w K mg base N x (defScope st) f cdv A outer s H E) O Z (defBody st) b) (h : spD K ps.length (fnD N.length b) vs H Q E) :
    ∃ t, PSs (cxOf (L2.CX P w) P w K mg base N x (defScope st) f cdv A outer s H E) (defBody st) t ∧ t { nx := fun _ H' => Q .non H', rt := Q } (start N vs) H := by
  obtain ⟨B, as, st0, ds, hl, tr, sr, rs, q⟩ := h
  refine ⟨_, hb (zE_takes (takes_of rfl rfl rfl rfl)), ⟨B, H, as, as, ds.map some ++ List.replicate (N.length - ds.length) none, st0⟩, ⟨⟨?_, fun i d e n => ?_, fun i d e m => ?_, fun i a m e => ?_, fun i j a m _ e _ => ?_, tr, Grow.refl _ _⟩, sr⟩, ?_⟩
  · unfold start
    rw [List.length_append, List.length_append, List.length_map, List.length_map, List.length_replicate, List.length_replicate, rs.length]
  · unfold start
    rw [rs.length]
    obtain ⟨v, h, r⟩ := rs.at (N.length - ds.length) e
    refine ⟨v, h, r.weak fun a o _ z => ?_⟩
    rcases z with z | z | ⟨j, hj, z⟩
    · exact .inl z
    · exact .inr z
    · exfalso
      have := hO j hj
      rw [List.getElem?_append, if_neg (by rw [List.length_map, hl]; omega), List.getElem?_replicate] at z
      split at z <;> cases z
  · exfalso
    have := hO i m
    rw [List.getElem?_append, if_neg (by rw [List.length_map, ← rs.length, hl]; omega), List.getElem?_replicate] at e
    split at e <;> cases e
  · exfalso
    have := hO i m
    unfold start at e
    rw [List.getElem?_append, if_neg (by rw [List.length_map, hl]; omega), List.getElem?_replicate] at e
    split at e <;> cases e
  · exfalso
    have := hO i m
    unfold start at e
    rw [List.getElem?_append, if_neg (by rw [List.length_map, hl]; omega), List.getElem?_replicate] at e
    split at e <;> cases e
  · unfold fnD at q
    cases e : b (ds.map some ++ List.replicate (N.length - ds.length) none) st0 with
    | ok r st1 =>
      rw [e] at q
      obtain ⟨fl, ρ1⟩ := r
      cases fl with
      | next => exact fun as1 σ1 H1 sp1 w1 s1 => q as1 .non H1 w1.gr s1 .non
      | ret d => exact fun as1 σ1 H1 sp1 w1 s1 v r => q as1 v H1 w1.gr s1 r
      | brk => exact q.elim
      | cont => exact q.elim
    | exc x st1 =>
      rw [e] at q
      exact fun as1 ρ1 σ1 H1 B1 hB w1 s1 cls d ex => q as1 H1 cls d w1.gr s1 (ex.weak fun a o _ z => z.elim (fun z => .inl (hB a z)) .inr)
    | bad => rw [e] at q; exact q.elim
theorem fn_ok {P : Program} {w : World} {K : PySem.W.Frag} {mg : Str → Option Value} {base : Heap} {x : Str} {st : Stmt} {f : Addr} {fd : FuncData} {N ps : List Str} {k : Nat} {O : List Nat} {b : SD}
    (F : FunD K x x (defArgs st) (defBody st) (defScope st) [] [] f fd) (S : FnScope N ps (defScope st)) (hO : ∀ i ∈ O, ps.length ≤ i)
    (hb : ∀ (cdv : Value) (A : Around) (outer : List PySem.Env) (s : Shared) (H : Hp) (E : XK) {Z : ZT}, fd.code = cdv → Rm k (A.deeper (envOfC x (defScope st) s.heap.objs.size f cdv)) → Takes (cxOf (L2.CX P w) P w K mg base N x (defScope st) f cdv A outer s H E) (WZ K Z) → DSs (cxOf (L2.CX P w) P w K mg base N x (defScope st) f cdv A outer s H E) O Z (defBody st) b) :
    FnG P w K mg base (k + 1) f fd ps (spD K ps.length (fnD N.length b)) := by
  obtain ⟨oc, od, dV, kV, doc, pm, an, cdv, ct, osl, rfl, lk, hcd, _, _⟩ := F.ex
  have len : ∀ vs H Q E, spD K ps.length (fnD N.length b) vs H Q E → vs.length = ps.length := fun vs H Q E h => by obtain ⟨_, _, _, _, h, _⟩ := h; exact h
  exact ⟨len, fun A outer s H args us vs Q E hr e0 bd rv h => LamX.run_ofS lk hcd S hr.rm e0 bd rv (len _ _ _ _ h) fun hr' => fn_body S hO (fun tk => hb cdv A outer s H E rfl ⟨hr', hr.gd⟩ tk) h⟩
end G
end L2
end G5_
section G6_
set_option Elab.async false
set_option linter.all false
set_option maxRecDepth 100000
set_option maxHeartbeats 1000000
namespace L2
namespace G
open PySem PySem.Spec PyProof.Rows

/-! ### an owned list: append, extend, pop -/
def LIM : Nat := 1000000
theorem lim_line : LIM < sizeLine := by rw [sizeLine_eq]; decide
def S.append (i : Nat) (e : Env → M D) : SD := fun ρ => match ρ[i]? with
  | some (some (.lst ds)) => bnd (e ρ) fun d => if ds.length < LIM then G.ret (.next, List.set ρ i (some (.lst (ds ++ [d])))) else G.bad
  | _ => G.bad
def S.extend (i : Nat) (e : Env → M D) : SD := fun ρ => match ρ[i]? with
  | some (some (.lst ds)) => bnd (e ρ) fun d => (match d with
    | .lst xs => if ds.length + xs.length < LIM then G.ret (.next, List.set ρ i (some (.lst (ds ++ xs)))) else G.bad
    | _ => G.bad)
  | _ => G.bad
/-- y = x.pop() -/
def S.pop (i j : Nat) : SD := fun ρ => match ρ[i]? with
  | some (some (.lst ds)) => (match ds[ds.length - 1]? with
    | some d => G.ret (.next, List.set (List.set ρ i (some (.lst ds.dropLast))) j (some d))
    | none => G.bad)
  | _ => G.bad
/-- y = x.pop(e) -/
def S.popAt (i j : Nat) (e : Env → M D) : SD := fun ρ => match ρ[i]? with
  | some (some (.lst ds)) => bnd (e ρ) fun k => (match k with
    | .int k => if 0 ≤ k ∧ k < 1000000 then (match ds[k.toNat]? with
      | some d => G.ret (.next, List.set (List.set ρ i (some (.lst (ds.eraseIdx k.toNat)))) j (some d))
      | none => G.bad) else G.bad
    | _ => G.bad)
  | _ => G.bad
theorem slot_lst {ρ : Env} {i : Nat} {k : List D → M (Fl × Env)} {st : Store} {P : (Fl × Env) → Store → Prop} {ZZ : Ex → Store → Prop} (q : Ev ((match ρ[i]? with
  | some (some (.lst ds)) => k ds
  | _ => G.bad) st) P ZZ) : ∃ ds, ρ[i]? = some (some (.lst ds)) ∧ Ev (k ds st) P ZZ := by
  cases e : ρ[i]? with
  | none => rw [e] at q; exact q.elim
  | some o =>
    rw [e] at q
    cases o with
    | none => exact q.elim
    | some d =>
      cases d with
      | lst ds => exact ⟨ds, rfl, q⟩
      | _ => exact q.elim
theorem Wf.lst_at {K : PySem.W.Frag} {O : List Nat} {B : Addr → Prop} {H0 : Hp} {as0 as : List Addr} {ρ : Env} {σ : L2.St} {H : Hp} {i : Nat} {ds : List D} (w : Wf K O B H0 as0 as ρ σ H) (hO : i ∈ O) (e : ρ[i]? = some (some (.lst ds))) :
    ∃ p vs, σ[i]? = some (some (.ref p)) ∧ H p = some (.lst vs) ∧ Reps K (Ff B as O σ) as H vs ds := by
  obtain ⟨v, h, r⟩ := w.own i _ e hO
  cases r with
  | lst hh r => exact ⟨_, _, h, hh, r⟩
  | sca r z => cases r; exact absurd rfl (z _)
section
variable {X : Cx} {O : List Nat} {Z : ZT} {e a b c : Expr} {es : List Expr} {f fa fb fc : Env → M D} {r : Env → M (List D)} {pos p : Pos} {x : Str} {st : Stmt} {ss ss' : List Stmt} {s s' : SD}
/-- x.append(e) -/
theorem ds_append (i : Nat) {x : Str} {p apos cpos : Pos} (hO : i ∈ O) (hN : X.N[i]? = some x) (hv : Vis X.env.scope x) (he : DE X O Z e f)
    (hd : (x == ("__debug__" : Str)) = false := by decide) (hcd : (x == ("__classdict__" : Str)) = false := by decide)
    (hbase : attributeBase (.Name x p) "append" X.env (eval (.Name x p) X.env) = eval (.Name x p) X.env := by rfl) (hline : (apos.endLine == cpos.line) = true := by rfl) (hs1 : starEach [e] X.env = (false, eval e X.env) :: starEach [] X.env := by rfl)
    (hfew : ((backTo cpos (starEach [e] X.env)).all (fun x => !x.1) && (backToKw cpos (keywordEach [] X.env)).all (fun x => x.1.isSome)
      && decide (([e] : List Expr).length + ([] : List Keyword).length + (if ([] : List Keyword).isEmpty then 0 else 1) < 30)) = true := by rfl) :
    DS X O Z (.Expr (.Call (.Attribute (.Name x p) "append" apos) [e] [] cpos) pos) (S.append i f) := by
  refine PS.imp (ps_expr (pe_bm PySem.F.plainAttrs_list PySem.F.slot_list_append PySem.F.type_list_append mt_append (pe_var (i := i) hN hv hd hcd) (pa_cons he pa_nil hs1) hbase hfew hline hs1) rfl) fun D σ H ⟨g, ok, q⟩ => ?_
  unfold S.append at q
  obtain ⟨ds, er, q⟩ : ∃ ds, g.ρ[i]? = some (some (.lst ds)) ∧ Ev (bnd (f g.ρ) (fun d => if ds.length < LIM then G.ret (Fl.next, List.set g.ρ i (some (.lst (ds ++ [d])))) else G.bad) g.st) _ _ := slot_lst q
  obtain ⟨p, vs, hσ, hp, rs⟩ := ok.wf.lst_at hO er
  refine ⟨.ref p, hσ, .inl ⟨rfl, _, .inl (.inl hp)⟩, g, ok, (Ev.bnd q).mono (fun d st1 q as1 v H1 g1 s1 rv => ?_) fun _ _ z => z⟩
  have ok1 := ok.step g1 s1
  obtain ⟨p', vs1, hσ1, hp1, rs1⟩ := ok1.wf.lst_at hO er
  cases (hσ.symm.trans hσ1)
  by_cases hl : ds.length < LIM
  · rw [if_pos hl] at q
    refine ⟨p, vs1, v, rfl, rfl, hp1, by rw [rs1.length]; exact Nat.lt_trans hl lim_line, ?_⟩
    obtain ⟨w, s, sp⟩ := ok1.wf.write (d := .lst (ds ++ [d])) (o := .lst (vs1 ++ [v])) ok1.sr hO hσ (fun z => z) (.inl ⟨_, _, rfl, rfl, rs1.append (.cons rv .nil)⟩)
    exact q as1 σ _ ((g1.step s1).trans sp) w s
  · rw [if_neg hl] at q
    exact q.elim
/-- x.extend(e), e a new list -/
theorem ds_extend (i : Nat) {x : Str} {p apos cpos : Pos} (hO : i ∈ O) (hN : X.N[i]? = some x) (hv : Vis X.env.scope x) (he : DN X O Z e f)
    (hd : (x == ("__debug__" : Str)) = false := by decide) (hcd : (x == ("__classdict__" : Str)) = false := by decide)
    (hbase : attributeBase (.Name x p) "extend" X.env (eval (.Name x p) X.env) = eval (.Name x p) X.env := by rfl) (hline : (apos.endLine == cpos.line) = true := by rfl) (hs1 : starEach [e] X.env = (false, eval e X.env) :: starEach [] X.env := by rfl)
    (hfew : ((backTo cpos (starEach [e] X.env)).all (fun x => !x.1) && (backToKw cpos (keywordEach [] X.env)).all (fun x => x.1.isSome)
      && decide (([e] : List Expr).length + ([] : List Keyword).length + (if ([] : List Keyword).isEmpty then 0 else 1) < 30)) = true := by rfl) :
    DS X O Z (.Expr (.Call (.Attribute (.Name x p) "extend" apos) [e] [] cpos) pos) (S.extend i f) := by
  refine PS.imp (ps_expr (pe_bm PySem.F.plainAttrs_list PySem.F.slot_list_extend PySem.F.type_list_extend mt_extend (pe_var (i := i) hN hv hd hcd) (pa_cons he pa_nil hs1) hbase hfew hline hs1) rfl) fun D σ H ⟨g, ok, q⟩ => ?_
  unfold S.extend at q
  obtain ⟨ds, er, q⟩ := slot_lst q
  obtain ⟨p, vs, hσ, hp, rs⟩ := ok.wf.lst_at hO er
  refine ⟨.ref p, hσ, .inl ⟨rfl, _, .inl (.inl hp)⟩, g, ok, (Ev.bnd q).mono (fun d st1 q as1 v H1 g1 s1 rv nv => ?_) fun _ _ z => z⟩
  have ok1 := ok.step g1 s1
  obtain ⟨p', vs1, hσ1, hp1, rs1⟩ := ok1.wf.lst_at hO er
  cases (hσ.symm.trans hσ1)
  cases rv with
  | lst hb rb =>
    rename_i b ws xs
    dsimp only at q
    by_cases hl : ds.length + xs.length < LIM
    · rw [if_pos hl] at q
      refine ⟨p, b, vs1, ws, rfl, rfl, hp1, hb, by rw [rs1.length, rb.length]; exact Nat.le_of_lt (Nat.lt_trans hl lim_line), ?_⟩
      obtain ⟨w, s, sp⟩ := ok1.wf.write (d := .lst (ds ++ xs)) (o := .lst (vs1 ++ ws)) ok1.sr hO hσ (fun z => z) (.inl ⟨_, _, rfl, rfl, rs1.append (rb.weak fun _ _ _ z => .inl z)⟩)
      exact q as1 σ _ ((g1.step s1).trans sp) w s
    · rw [if_neg hl] at q
      exact q.elim
  | dct hb o rb => exact q.elim
  | sca r z =>
    cases r with
    | lst => exact absurd rfl (z _)
    | _ => exact q.elim
end
end G
end L2
end G6_
section G7_
set_option Elab.async false
set_option linter.all false
set_option maxRecDepth 100000
set_option maxHeartbeats 1000000
namespace L2
namespace G
open PySem PySem.Spec PyProof.Rows

/-! ### shifting -/
section
variable {K : PySem.W.Frag} {F F' : Addr → Prop} {as as' : List Addr} {H H' : Hp}
theorem LstAt.shift {a : Addr} {xs : List V} (k : ∀ b o, H b = some o → ¬ F b → H' b = some o ∧ ¬ F' b) (h : LstAt K F H a xs) : LstAt K F' H' a xs := by
  rcases h with ⟨n, h | ⟨o, h⟩⟩ | h
  · exact .inl ⟨(k _ _ h n).2, .inl (k _ _ h n).1⟩
  · exact .inl ⟨(k _ _ h n).2, .inr ⟨o, (k _ _ h n).1⟩⟩
  · exact .inr h
theorem rd_shift {a : Addr} {o : HO} (k : ∀ b o, H b = some o → ¬ F b → H' b = some o ∧ ¬ F' b) (n : ¬ F a) (h : Rd H a o) : Rd H' a o ∧ ¬ F' a := h.elim (fun h => ⟨.inl (k _ _ h n).1, (k _ _ h n).2⟩) fun ⟨u, h⟩ => ⟨.inr ⟨u, (k _ _ h n).1⟩, (k _ _ h n).2⟩
mutual
theorem Rep.shift {v : V} {d : D} (k : ∀ b o, H b = some o → ¬ F b → H' b = some o ∧ ¬ F' b) (kt : ∀ b o, H b = some o → TupO o → H' b = some o) (p : ∀ (n : Nat) (a : Addr), as[n]? = some a → as'[n]? = some a) : Rep K F as H v d → Rep K F' as' H' v d
  | .non => .non
  | .bl b => .bl b
  | .int i => .int i
  | .str x => .str x
  | .tup h r => .tup (kt _ _ h trivial) (r.shift k kt p)
  | .lst h r => .lst (h.shift k) (r.shift k kt p)
  | .dct n h o r => .dct (rd_shift k n h).2 (rd_shift k n h).1 o (r.shift k kt p)
  | .ref h => .ref (p _ _ h)
  | .ftup h r => .ftup (h.frame kt) (r.shift k kt p)
theorem Reps.shift {vs : List V} {ds : List D} (k : ∀ b o, H b = some o → ¬ F b → H' b = some o ∧ ¬ F' b) (kt : ∀ b o, H b = some o → TupO o → H' b = some o) (p : ∀ (n : Nat) (a : Addr), as[n]? = some a → as'[n]? = some a) : Reps K F as H vs ds → Reps K F' as' H' vs ds
  | .nil => .nil
  | .cons h r => .cons (h.shift k kt p) (r.shift k kt p)
end
end

/-! ### targets -/
theorem PG.imp {X : Cx} {e : Expr} {t t' : TG} (h : PG X e t) (k : ∀ v σ H Q, t' v σ H Q → t v σ H Q) : PG X e t' := ⟨fun pins s σ H v u Q I r q => h.run pins s σ H v u Q I r (k v σ H Q q)⟩
theorem PGs.imp {X : Cx} {e : List Expr} {t t' : TGs} (h : PGs X e t) (k : ∀ v σ H Q, t' v σ H Q → t v σ H Q) : PGs X e t' := ⟨fun pins s σ H v u Q I r q => h.run pins s σ H v u Q I r (k v σ H Q q)⟩
/-- what a target leaves: the slots vs alone change -/
def Tgd (K : PySem.W.Frag) (O : List Nat) (vs : List Nat) (g : Gh) (σ : L2.St) (H : Hp) (ρ' : Env) (Q : L2.St → Hp → Prop) : Prop :=
  ∀ σ', Wf K O g.B g.H0 g.as0 g.as ρ' σ' H → (∀ a, ownA O σ' a ↔ ownA O σ a) → σ'.length = σ.length → (∀ j, j ∉ vs → σ'[j]? = σ[j]?) → Q σ' H
def tG (K : PySem.W.Frag) (O : List Nat) (vs : List Nat) (t : D → Env → Option Env) : TG := fun v σ H Q => ∃ (g : Gh) (d : D) (ρ' : Env), g.ok K O σ H ∧ Rep K (Ff g.B g.as O σ) g.as H v d ∧ t d g.ρ = some ρ' ∧ Tgd K O vs g σ H ρ' Q
def tGs (K : PySem.W.Frag) (O : List Nat) (vs : List Nat) (t : List D → Env → Option Env) : TGs := fun v σ H Q => ∃ (g : Gh) (d : List D) (ρ' : Env), g.ok K O σ H ∧ Reps K (Ff g.B g.as O σ) g.as H v d ∧ t d g.ρ = some ρ' ∧ Tgd K O vs g σ H ρ' Q
abbrev DG (X : Cx) (O : List Nat) (vs : List Nat) (e : Expr) (t : D → Env → Option Env) : Prop := PG X e (tG X.K O vs t)
abbrev DGs (X : Cx) (O : List Nat) (vs : List Nat) (e : List Expr) (t : List D → Env → Option Env) : Prop := PGs X e (tGs X.K O vs t)
def Gt.name (i : Nat) : D → Env → Option Env := fun d ρ => some (List.set ρ i (some d))
def Gt.nil : List D → Env → Option Env := fun ds ρ => match ds with
  | [] => some ρ
  | _ => none
def Gt.cons (t : D → Env → Option Env) (u : List D → Env → Option Env) : List D → Env → Option Env := fun ds ρ => match ds with
  | d :: r => (t d ρ).bind (u r)
  | [] => none
def Gt.tup (n : Nat) (u : List D → Env → Option Env) : D → Env → Option Env := fun d ρ => match d with
  | .tup ds => if ds.length = n then u ds ρ else none
  | _ => none
section
variable {X : Cx} {O : List Nat} {Z : ZT} {e : Expr} {es : List Expr} {vs : List Nat} {pos : Pos}
theorem dg_name (i : Nat) {x : Str} (hO : i ∉ O) (hv : i ∈ vs) (hN : X.N.Nodup) (hi : X.N[i]? = some x) (hx : Loc X.env.scope x) (hf : X.fn x = true ∨ X.env.scope.names.lookup x = some .local := by first | exact .inl rfl | exact .inr rfl | assumption) :
    DG X O vs (.Name x pos) (Gt.name i) := PG.imp (pg_name hN hi hx hf) fun v σ H Q ⟨g, d, ρ', ok, r, e, q⟩ => by
  cases e
  exact q _ (ok.wf.set hO r) (fun a => ownA_set hO a) (List.length_set ..) fun j hj => List.getElem?_set_ne fun (z : i = j) => hj (by rw [← z]; exact hv)
theorem dgs_nil : DGs X O vs [] Gt.nil := PGs.imp pgs_nil fun v σ H Q ⟨g, d, ρ', ok, r, e, q⟩ => by
  cases r with
  | nil => cases e; exact ⟨rfl, q σ ok.wf (fun _ => Iff.rfl) rfl fun _ _ => rfl⟩
  | cons _ _ => cases e
theorem dgs_cons {t : D → Env → Option Env} {u : List D → Env → Option Env} (h : DG X O vs e t) (k : DGs X O vs es u)
    (hs : (assignEach (e :: es) X.env).map (·.2) = assign e X.env :: (assignEach es X.env).map (·.2) := by rfl) : DGs X O vs (e :: es) (Gt.cons t u) := PGs.imp (pgs_cons h k hs) fun v σ H Q ⟨g, d, ρ', ok, r, e, q⟩ => by
  cases r with
  | nil => cases e
  | cons r1 rr =>
    have e : (t _ g.ρ).bind (u _) = some ρ' := e
    obtain ⟨ρ1, e1, e2⟩ := Option.bind_eq_some_iff.mp e
    refine ⟨_, _, rfl, g, _, ρ1, ok, r1, e1, fun σ1 w1 o1 l1 j1 => ?_⟩
    have ff1 : ∀ a, Ff g.B g.as O σ1 a ↔ Ff g.B g.as O σ a := fun a => or_congr Iff.rfl (or_congr Iff.rfl (o1 a))
    refine ⟨g.on g.as ρ1 g.st, _, ρ', ⟨w1, ok.sr⟩, rr.weak fun a o _ z => (ff1 a).mp z, e2, fun σ2 w2 o2 l2 j2 => ?_⟩
    exact q σ2 w2 (fun a => (o2 a).trans (o1 a)) (l2.trans l1) fun j hj => (j2 j hj).trans (j1 j hj)
theorem dg_tup {k : Nat} {u : List D → Env → Option Env} {n : Nat} (hc : X.calm = true) (h : DGs X O vs es u) (hn : (assignEach es X.env).length = n := by rfl) (hst : (assignEach es X.env).findIdx? (·.1) = none := by rfl) :
    DG X O vs (.Tuple es k pos) (Gt.tup n u) := PG.imp (pg_tup hc h hn hst) fun v σ H Q ⟨g, d, ρ', ok, r, e, q⟩ => by
  cases d with
  | tup ds =>
    unfold Gt.tup at e
    cases r with
    | tup hs rs =>
      by_cases hl : ds.length = n
      · dsimp only at e
        rw [if_pos hl] at e
        exact ⟨_, _, rfl, SqT.of hs, by rw [rs.length]; exact hl, g, ds, ρ', ok, rs, e, q⟩
      · dsimp only at e
        rw [if_neg hl] at e; cases e
  | _ => cases e
end

/-! ### what is walked -/
def Stay (F : Addr → Prop) (H H1 : Hp) : Prop := (∀ b o, H b = some o → ¬ F b → H1 b = some o) ∧ ∀ b o, H b = some o → TupO o → H1 b = some o
structure Walk (K : PySem.W.Frag) (F : Addr → Prop) (as : List Addr) (H : Hp) (J : It) (ds : List D) : Prop where
  len : ds.length ≤ sizeLine
  go : ∀ i H1, Stay F H H1 → i < ds.length → J.go i H1
  yl : ∀ i H1 x H2 d (F1 : Addr → Prop) as1, Stay F H H1 → (∀ (n : Nat) (a : Addr), as[n]? = some a → as1[n]? = some a) → (∀ a o, H a = some o → F1 a → F a) → J.yld i H1 x H2 → ds[i]? = some d → Same H1 H2 ∧ Rep K F1 as1 H2 x d
  stop : ∀ i H1, Stay F H H1 → ds.length = i → J.stop i H1
def tI (K : PySem.W.Frag) (O : List Nat) (Z : ZT) (f : Env → M (List D)) : TI := fun σ H R => ∃ g : Gh, g.ok K O σ H ∧ Ev (f g.ρ g.st) (fun ds st' => ∀ as' H' J, Grow g.as H as' H' → SRep K as' st' H' → Walk K (Ff g.B as' O σ) as' H' J ds → R J H') (Zc K O g.B g.H0 g.as0 Z)
abbrev DI (X : Cx) (O : List Nat) (Z : ZT) (tg e : Expr) (f : Env → M (List D)) : Prop := PI X tg e (tI X.K O Z f)
/-- .. in a comprehension: what is owned stays, too -/
structure WalkC (K : PySem.W.Frag) (F S : Addr → Prop) (as : List Addr) (H : Hp) (J : It) (ds : List D) : Prop where
  len : ds.length ≤ sizeLine
  go : ∀ i H1, Stay S H H1 → i < ds.length → J.go i H1
  yl : ∀ i H1 x H2 d (F1 : Addr → Prop) as1, Stay S H H1 → (∀ (n : Nat) (a : Addr), as[n]? = some a → as1[n]? = some a) → (∀ a o, H a = some o → F1 a → F a) → J.yld i H1 x H2 → ds[i]? = some d → Same H1 H2 ∧ Rep K F1 as1 H2 x d
  stop : ∀ i H1, Stay S H H1 → ds.length = i → J.stop i H1
theorem Stay.up {F S : Addr → Prop} {H H1 : Hp} (s : Stay S H H1) (h : ∀ a, S a → F a) : Stay F H H1 := ⟨fun b o e n => s.1 b o e fun z => n (h b z), s.2⟩
theorem Walk.c {K : PySem.W.Frag} {F S : Addr → Prop} {as : List Addr} {H : Hp} {J : It} {ds : List D} (w : Walk K F as H J ds) (h : ∀ a, S a → F a) : WalkC K F S as H J ds :=
  ⟨w.len, fun i H1 st => w.go i H1 (st.up h), fun i H1 x H2 d F1 as1 st => w.yl i H1 x H2 d F1 as1 (st.up h), fun i H1 st => w.stop i H1 (st.up h)⟩
def tIc (K : PySem.W.Frag) (O : List Nat) (Z : ZT) (f : Env → M (List D)) : TI := fun σ H R => ∃ g : Gh, g.ok K O σ H ∧ Ev (f g.ρ g.st) (fun ds st' => ∀ as' H' J, Grow g.as H as' H' → SRep K as' st' H' → WalkC K (Ff g.B as' O σ) (· ∈ as') as' H' J ds → R J H') (Zc K O g.B g.H0 g.as0 Z)
abbrev DIc (X : Cx) (O : List Nat) (Z : ZT) (tg e : Expr) (f : Env → M (List D)) : Prop := PI X tg e (tIc X.K O Z f)
theorem PI.imp {X : Cx} {tg e : Expr} {t t' : TI} (h : PI X tg e t) (k : ∀ σ H R, t' σ H R → t σ H R) : PI X tg e t' := ⟨fun pins s σ H R I q => h.run pins s σ H R I (k σ H R q)⟩
def Lens (K : PySem.W.Frag) (H : Hp) : Prop := ∀ a xs, (SqL K H a xs ∨ SqT K H a xs) → xs.length ≤ sizeLine
theorem Inv.lens {X : Cx} {pins : List (Addr × Obj)} {σ : L2.St} {H : Hp} {s : Shared} (I : Inv X pins σ H s) : Lens X.K H := fun a xs h => by
  rcases h with h | h
  · obtain ⟨_, _, _, z⟩ := I.list h; exact z
  · obtain ⟨_, _, _, z⟩ := I.tuple h; exact z
theorem DI.c {X : Cx} {O : List Nat} {Z : ZT} {tg e : Expr} {f : Env → M (List D)} (h : DI X O Z tg e f) : DIc X O Z tg e f := PI.imp h fun σ H R ⟨g, ok, q⟩ => ⟨g, ok, q.mono (fun ds st' q as' H' J gr s w => q as' H' J gr s (w.c fun a z => .inr (.inl z))) fun _ _ z => z⟩
/-- the lengths of what stands are bounded -/
theorem pi_len {X : Cx} {tg e : Expr} {t : TI} (h : PI X tg e t) : PI X tg e (fun σ H R => t σ H fun J H' => Lens X.K H' → R J H') := ⟨fun pins s σ H R I q => thn (h.run pins s σ H _ I q) fun v s1 h1 => thn h1 fun itv s2 h2 => by
  obtain ⟨it, fp, tn, J, H', e, I2, T, t0, fo, r⟩ := h2
  exact ⟨it, fp, tn, J, H', e, I2, T, t0, fo, r (Inv.lens I2)⟩⟩
theorem pe_len {X : Cx} {e : Expr} {t : TE} (h : PE X e t) : PE X e (fun σ H Q => t σ H fun v H' => Lens X.K H' → Q v H') := ⟨fun pins s σ H Q I q => thn (h.run pins s σ H _ I q) fun u s1 ⟨v, H1, I1, r1, q1⟩ => ⟨v, H1, I1, r1, q1 (Inv.lens I1)⟩⟩
theorem pi_seq {X : Cx} {tg l : Expr} {tl : TE} (hl : PE X l tl) : PI X tg l (fun σ H R => tl σ H fun x H1 => ∃ a xs, x = .ref a ∧ ((SqL X.K H1 a xs ∧ R (Itl X.K a) H1) ∨ (SqT X.K H1 a xs ∧ R (Itt X.K a) H1))) := by
  refine ⟨fun pins s σ H R I h => ?_⟩
  refine thn (hl.run pins s σ H _ I h) fun v s1 ⟨x, H1, I1, r1, q1⟩ => ?_
  obtain ⟨a, xs, e, ⟨hq, q⟩ | ⟨hq, q⟩⟩ := q1
  · subst e
    cases r1
    obtain ⟨its, rv, p, hz⟩ := I1.list hq
    refine wpAny_pyIter_list p.isList ?_
    refine ⟨s1.heap.objs.size, [s1.heap.objs.size], _, _, H1, rfl, I1.kept (t' := s1.toks) fun b o e => Heap.get?_push_of_some _ e, turn_list a _, ⟨_, Heap.get?_push_size _ rfl, rfl, rfl⟩, fun b hb => ?_, q⟩
    have e : b = s1.heap.objs.size := by simpa using hb
    subst e
    exact I1.fpOk (Nat.le_refl _) (I1.hok.fresh (Nat.le_refl _))
  · subst e
    cases r1
    obtain ⟨its, rv, p, hz⟩ := I1.tuple hq
    refine wpAny_pyIter_tuple (show s1.heap.IsTuple a its.toArray from p) ?_
    refine ⟨s1.heap.objs.size, [s1.heap.objs.size], _, _, H1, rfl, I1.kept (t' := s1.toks) fun b o e => Heap.get?_push_of_some _ e, turn_tuple a _, ⟨_, Heap.get?_push_size _ rfl, rfl, rfl⟩, fun b hb => ?_, q⟩
    have e : b = s1.heap.objs.size := by simpa using hb
    subst e
    exact I1.fpOk (Nat.le_refl _) (I1.hok.fresh (Nat.le_refl _))
def seqD : D → Option (List D)
  | .lst ds => some ds
  | .tup ds => some ds
  | .ftup ds => some ds
  | _ => none
def I.seq (e : Env → M D) : Env → M (List D) := fun ρ => bnd (e ρ) fun d => lift (seqD d)
theorem rep_stay {K : PySem.W.Frag} {F F1 : Addr → Prop} {as as1 : List Addr} {H H1 : Hp} {v : V} {d : D} (st : Stay F H H1) (p : ∀ (n : Nat) (a : Addr), as[n]? = some a → as1[n]? = some a) (k : ∀ a o, H a = some o → F1 a → F a) (r : Rep K F as H v d) : Rep K F1 as1 H1 v d :=
  r.shift (fun b o h n => ⟨st.1 b o h n, fun z => n (k b o h z)⟩) st.2 p
theorem walk_lst {K : PySem.W.Frag} {F : Addr → Prop} {as : List Addr} {H : Hp} {a : Addr} {xs : List V} {ds : List D} (hl : xs.length ≤ sizeLine) (h : LstAt K F H a xs) (r : Reps K F as H xs ds) : Walk K F as H (Itl K a) ds where
  len := by rw [← r.length]; exact hl
  go := fun i H1 st hi => ⟨xs, xs[i]'(by rw [r.length]; exact hi), (h.frame st.1).sq, by simp⟩
  yl := fun i H1 x H2 d F1 as1 st p k y e => by
    obtain ⟨rfl, y⟩ := y
    have y := y xs (h.frame st.1).sq
    obtain ⟨d', e', rv⟩ := r.get y
    rw [e] at e'; cases e'
    exact ⟨Same.refl _, rep_stay st p k rv⟩
  stop := fun i H1 st hi => ⟨xs, (h.frame st.1).sq, by rw [r.length, hi]; exact Nat.le_refl _⟩
theorem walk_tup {K : PySem.W.Frag} {F : Addr → Prop} {as : List Addr} {H : Hp} {a : Addr} {xs : List V} {ds : List D} (hl : xs.length ≤ sizeLine) (h : SqT K H a xs) (r : Reps K F as H xs ds) : Walk K F as H (Itt K a) ds where
  len := by rw [← r.length]; exact hl
  go := fun i H1 st hi => ⟨xs, xs[i]'(by rw [r.length]; exact hi), sqT_frame st.2 h, by simp⟩
  yl := fun i H1 x H2 d F1 as1 st p k y e => by
    obtain ⟨rfl, y⟩ := y
    have y := y xs (sqT_frame st.2 h)
    obtain ⟨d', e', rv⟩ := r.get y
    rw [e] at e'; cases e'
    exact ⟨Same.refl _, rep_stay st p k rv⟩
  stop := fun i H1 st hi => ⟨xs, sqT_frame st.2 h, by rw [r.length, hi]; exact Nat.le_refl _⟩
end G
end L2
end G7_
section G8_
set_option Elab.async false
set_option linter.all false
set_option maxRecDepth 100000
set_option maxHeartbeats 1000000
namespace L2
namespace G
open PySem PySem.Spec PyProof.Rows

/-! ### iterables -/
section
variable {X : Cx} {O : List Nat} {Z : ZT} {e a b c tg : Expr} {es : List Expr} {f fa fb fc : Env → M D} {r : Env → M (List D)} {pos p : Pos} {x : Str} {st : Stmt} {ss ss' : List Stmt} {s s' : SD}
theorem di_seq (h : DE X O Z e f) : DI X O Z tg e (I.seq f) := PI.imp (pi_len (pi_seq h)) fun σ H R ⟨g, ok, q⟩ => by
  refine ⟨g, ok, (Ev.bnd q).mono (fun d st' q as' v H' gr s r => ?_) fun _ _ z => z⟩
  obtain ⟨ds, e, q⟩ := q.lift
  cases d with
  | lst xs =>
    cases e
    cases r with
    | lst h r => exact ⟨_, _, rfl, .inl ⟨h.sq, fun L => q as' H' _ gr s (walk_lst (L _ _ (.inl h.sq)) h r)⟩⟩
  | tup xs =>
    cases e
    cases r with
    | tup h r => exact ⟨_, _, rfl, .inr ⟨SqT.of h, fun L => q as' H' _ gr s (walk_tup (L _ _ (.inr (SqT.of h))) (SqT.of h) r)⟩⟩
  | ftup xs =>
    cases e
    cases r with
    | ftup h r => exact ⟨_, _, rfl, .inr ⟨h.sq, fun L => q as' H' _ gr s (walk_tup (L _ _ (.inr h.sq)) h.sq r)⟩⟩
  | _ => cases e
/-- range -/
def rangeD (lo hi : Int) : List D := (List.range (hi - lo).toNat).map fun k => .int (lo + (k : Nat))
def rng1 (xs : List D) : Option (List D) := match xs with
  | [.int j] => if -1000000 ≤ j ∧ j ≤ 1000000 then some (rangeD 0 j) else none
  | _ => none
def rng2 (xs : List D) : Option (List D) := match xs with
  | [.int i, .int j] => if -1000000 ≤ i ∧ i ≤ 1000000 ∧ -1000000 ≤ j ∧ j ≤ 1000000 then some (rangeD i j) else none
  | _ => none
def rng3 (xs : List D) : Option (List D) := match xs with
  | [.int i, .int j, .int c] => if -1000000 ≤ i ∧ i ≤ 1000000 ∧ j = -1 ∧ c = -1 then some ((List.range (i + 1).toNat).map fun k => .int (i - (k : Nat))) else none
  | _ => none
def I.range (h : List D → Option (List D)) (r : Env → M (List D)) : Env → M (List D) := fun ρ => bnd (r ρ) fun xs => lift (h xs)
theorem walk_rng {K : PySem.W.Frag} {F : Addr → Prop} {as : List Addr} {H : Hp} {lo hi : Int} (h : (hi - lo).toNat ≤ sizeLine) : Walk K F as H (Itr lo (hi - lo).toNat) (rangeD lo hi) where
  len := by unfold rangeD; rw [List.length_map, List.length_range]; exact h
  go := fun i H1 _ hi => by unfold rangeD at hi; rw [List.length_map, List.length_range] at hi; exact hi
  yl := fun i H1 x H2 d F1 as1 st p k y e => by
    obtain ⟨rfl, rfl⟩ := y
    unfold rangeD at e
    rw [List.getElem?_map] at e
    cases q : (List.range (hi - lo).toNat)[i]? with
    | none => rw [q] at e; cases e
    | some j =>
      rw [q] at e
      cases e
      obtain ⟨_, q⟩ := List.getElem?_eq_some_iff.mp q
      rw [List.getElem_range] at q
      subst q
      exact ⟨Same.refl _, .int _⟩
  stop := fun i H1 _ hi => by unfold rangeD at hi; rw [List.length_map, List.length_range] at hi; exact Nat.le_of_eq hi
theorem line_million : 3000000 ≤ sizeLine := by rw [sizeLine_eq]; decide
theorem di_range1 (hg : Gl X "range") (hm : X.mg "range" = none) (ha : DAU X O Z [a] r) (hs : starEach [a] X.env = [(false, eval a X.env)] := by rfl) : DI X O Z tg (.Call (.Name "range" p) [a] [] pos) (I.range rng1 r) := PI.imp (pi_range1 hg hm ha hs) fun σ H R ⟨g, ok, q⟩ => by
  refine ⟨g, ok, (Ev.bnd q).mono (fun ds st' q as' vs H' gr s rs => ?_) fun _ _ z => z⟩
  obtain ⟨xs, e, q⟩ := q.lift
  unfold rng1 at e
  split at e
  · rename_i j
    split at e
    · rename_i h
      cases e
      cases rs with
      | cons r1 rr =>
        cases rr
        rw [r1.t_int]
        refine ⟨j, rfl, by omega, by omega, ?_⟩
        have : (j - 0).toNat = j.toNat := by rw [Int.sub_zero]
        rw [← this]
        exact q as' H' _ gr s (walk_rng (by have := line_million; omega))
    · cases e
  · cases e
theorem di_range2 (hg : Gl X "range") (hm : X.mg "range" = none) (ha : DAU X O Z [a, b] r) (hs : starEach [a, b] X.env = [(false, eval a X.env), (false, eval b X.env)] := by rfl) (hs2 : starEach [b] X.env = [(false, eval b X.env)] := by rfl) : DI X O Z tg (.Call (.Name "range" p) [a, b] [] pos) (I.range rng2 r) := PI.imp (pi_range2 hg hm ha hs hs2) fun σ H R ⟨g, ok, q⟩ => by
  refine ⟨g, ok, (Ev.bnd q).mono (fun ds st' q as' vs H' gr s rs => ?_) fun _ _ z => z⟩
  obtain ⟨xs, e, q⟩ := q.lift
  unfold rng2 at e
  split at e
  · rename_i i j
    split at e
    · rename_i h
      cases e
      cases rs with
      | cons r1 rr =>
        cases rr with
        | cons r2 rr =>
          cases rr
          rw [r1.t_int, r2.t_int]
          exact ⟨i, j, rfl, ⟨by omega, by omega, by omega, by omega⟩, q as' H' _ gr s (walk_rng (by have := line_million; omega))⟩
    · cases e
  · cases e

/-! ### for -/
def forL (t : D → Env → Option Env) (b : SD) : List D → SD
  | [], ρ => G.ret (.next, ρ)
  | d :: r, ρ => bnd (lift (t d ρ)) fun ρ1 => bnd (b ρ1) fun q => match q.1 with
    | .next => forL t b r q.2
    | .cont => forL t b r q.2
    | .brk => G.ret (.next, q.2)
    | .ret d => G.ret (.ret d, q.2)
def S.for_ (i : Env → M (List D)) (t : D → Env → Option Env) (b : SD) : SD := fun ρ => bnd (i ρ) fun ds => forL t b ds ρ
theorem Step.stay {K : PySem.W.Frag} {B : Addr → Prop} {H0 : Hp} {as0 as as1 : List Addr} {ρ : Env} {σ σ1 : L2.St} {H H1 : Hp} {st : Store} (w : Wf K O B H0 as0 as ρ σ H) (s : SRep K as st H) (sp : Step O as σ H as1 σ1 H1) :
    Stay (Ff B as O σ) H H1 ∧ ∀ a o, H a = some o → Ff B as1 O σ1 a → Ff B as O σ a := by
  refine ⟨⟨fun b o h n => sp.keep b o h (fun z => n (.inr (.inl z))) fun z => n (.inr (.inr z)), fun b o h t => sp.keep b o h (fun z => ?_) fun z => ?_⟩, fun a o h z => ?_⟩
  · obtain ⟨o', e, n⟩ := s.mem z
    rw [h] at e; cases e
    exact n t
  · obtain ⟨i, hi, z⟩ := z
    obtain ⟨_, _, _, o', e, n⟩ := w.slot i b hi z
    rw [h] at e; cases e
    exact n t
  · rcases z with z | z | z
    · exact .inl z
    · by_cases m : a ∈ as
      · exact .inr (.inl m)
      · rw [sp.fre a z m] at h; cases h
    · rcases sp.own a z with z | z
      · exact .inr (.inr z)
      · rw [h] at z; cases z
theorem Step.of_same {as : List Addr} {σ σ1 : L2.St} {H H1 : Hp} (s : Same H H1) (o : ∀ a, ownA O σ1 a ↔ ownA O σ a) : Step O as σ H as σ1 H1 := ⟨fun _ _ h => h, fun b o h _ _ => s b o h, fun _ h n => absurd h n, fun a h => .inl ((o a).mp h), fun b o h => ⟨o, s b o h⟩⟩
theorem ds_for {fi : Env → M (List D)} {t : D → Env → Option Env} {vs : List Nat} (hp : PassesOwn (model X.prog X.w) X.A X.env X.xe) (hc : X.calm = true) (hi : DI X O Z tg e fi) (hg : DG X O vs tg t) (hb : DSs X O Z ss s)
    (hs : ∀ x, foldedSetIterable e X.env x = pure x := by intro _; rfl) : DS X O Z (.For tg e ss [] pos) (S.for_ fi t s) := PS.imp (ps_for hp hc hi hg hb hs) fun D σ H ⟨g, ok, q⟩ => by
  refine ⟨g, ok, (Ev.bnd q).mono (fun ds st1 q as1 H1 J g1 s1 wk => ?_) fun _ _ z => z⟩
  have w1 := ok.wf.grow ok.sr g1 s1
  refine ⟨fun i m σ2 H2 => m = ds.length - i ∧ i ≤ ds.length ∧ ∃ as2 ρ2 st2, Wf X.K O g.B g.H0 g.as0 as2 ρ2 σ2 H2 ∧ SRep X.K as2 st2 H2 ∧ Step O as1 σ H1 as2 σ2 H2 ∧ Ev (forL t s (ds.drop i) ρ2 st2) _ (Zc X.K O g.B g.H0 g.as0 Z), ⟨_, rfl, Nat.zero_le _, as1, g.ρ, st1, w1, s1, Step.refl .., q⟩, ?_⟩
  rintro i m σ2 H2 ⟨rfl, hi, as2, ρ2, st2, w2, s2, sp2, q2⟩
  obtain ⟨stay, ffs⟩ := sp2.stay w1 s1
  by_cases hlt : i < ds.length
  · refine .inr ⟨wk.go i H2 stay hlt, ?_⟩
    rw [List.drop_eq_getElem_cons hlt] at q2
    obtain ⟨ρ3, e3, q3⟩ := (Ev.bnd q2).lift
    have q3 := Ev.bnd q3
    refine ⟨fun σ' H' => ∃ as2 ρ2 st2, Wf X.K O g.B g.H0 g.as0 as2 ρ2 σ' H' ∧ SRep X.K as2 st2 H' ∧ Step O as1 σ H1 as2 σ' H' ∧ Ev (forL t s (ds.drop (i + 1)) ρ2 st2) _ (Zc X.K O g.B g.H0 g.as0 Z), fun σ' H' n => ⟨ds.length - (i + 1), by omega, rfl, hlt, n⟩, fun x H3 y => ?_⟩
    obtain ⟨sm, rx⟩ := wk.yl i H2 x H3 _ (Ff g.B as2 O σ2) as2 stay sp2.pre ffs y (List.getElem?_eq_getElem hlt)
    have s3 := s2.same sm
    have w3 := w2.grow s2 (grow_same sm) s3
    refine ⟨g.on as2 ρ2 st2, _, ρ3, ⟨w3, s3⟩, rx, e3, fun σ4 w4 o4 l4 j4 => ?_⟩
    have sp4 : Step O as1 σ H1 as2 σ4 H3 := sp2.trans (Step.of_same sm o4)
    refine ⟨g.on as2 ρ3 st2, ⟨w4, s3⟩, Ev.mono q3 (fun r st5 q5 as5 σ5 H5 sp5 w5 s5 => ?_) fun _ _ z => z⟩
    obtain ⟨fl, ρ5⟩ := r
    cases fl with
    | next => exact ⟨as5, ρ5, st5, w5, s5, sp4.trans sp5, q5⟩
    | cont => exact ⟨as5, ρ5, st5, w5, s5, sp4.trans sp5, q5⟩
    | brk => exact q5 as5 σ5 H5 ((g1.step s1).trans (sp4.trans sp5)) w5 s5
    | ret d => exact q5 as5 σ5 H5 ((g1.step s1).trans (sp4.trans sp5)) w5 s5
  · have e : i = ds.length := by omega
    subst e
    rw [List.drop_length] at q2
    exact .inl ⟨wk.stop _ H2 stay rfl, q2 as2 σ2 H2 ((g1.step s1).trans sp2) w2 s2⟩

/-! ### while -/
def whileN (c : Env → M Bool) (b : SD) : Nat → SD
  | 0, _ => G.bad
  | n + 1, ρ => bnd (c ρ) fun k => if k = true then bnd (b ρ) fun q => (match q.1 with
      | .next => whileN c b n q.2
      | .cont => whileN c b n q.2
      | .brk => G.ret (.next, q.2)
      | .ret d => G.ret (.ret d, q.2)) else G.ret (.next, ρ)
theorem ds_while (n : Nat) {c : Expr} {t : Env → M Bool} (hp : PassesOwn (model X.prog X.w) X.A X.env X.xe) (hc : DT X O Z c t) (hb : DSs X O Z ss s) : DS X O Z (.While c ss [] pos) (whileN t s n) := PS.imp (ps_while hp hc hb) fun D σ H ⟨g, ok, q⟩ => by
  refine ⟨fun m σ2 H2 => ∃ as2 ρ2 st2, Wf X.K O g.B g.H0 g.as0 as2 ρ2 σ2 H2 ∧ SRep X.K as2 st2 H2 ∧ Step O g.as σ H as2 σ2 H2 ∧ Ev (whileN t s m ρ2 st2) _ (Zc X.K O g.B g.H0 g.as0 Z), ⟨n, g.as, g.ρ, g.st, ok.wf, ok.sr, Step.refl .., q⟩, ?_⟩
  rintro m σ2 H2 ⟨as2, ρ2, st2, w2, s2, sp2, q2⟩
  cases m with
  | zero => exact q2.elim
  | succ m =>
    refine ⟨g.on as2 ρ2 st2, ⟨w2, s2⟩, (Ev.bnd q2).mono (fun k st3 q3 as3 H3 g3 s3 => ?_) fun _ _ z => z⟩
    have w3 := w2.grow s2 g3 s3
    have sp3 := sp2.trans (g3.step s3)
    cases k with
    | false => exact q3 as3 σ2 H3 sp3 w3 s3
    | true =>
      refine ⟨fun σ' H' => ∃ as2 ρ2 st2, Wf X.K O g.B g.H0 g.as0 as2 ρ2 σ' H' ∧ SRep X.K as2 st2 H' ∧ Step O g.as σ H as2 σ' H' ∧ Ev (whileN t s m ρ2 st2) _ (Zc X.K O g.B g.H0 g.as0 Z), fun σ' H' n => ⟨m, Nat.lt_succ_self _, n⟩, ?_⟩
      refine ⟨g.on as3 ρ2 st3, ⟨w3, s3⟩, (Ev.bnd q3).mono (fun r st5 q5 as5 σ5 H5 sp5 w5 s5 => ?_) fun _ _ z => z⟩
      obtain ⟨fl, ρ5⟩ := r
      cases fl with
      | next => exact ⟨as5, ρ5, st5, w5, s5, sp3.trans sp5, q5⟩
      | cont => exact ⟨as5, ρ5, st5, w5, s5, sp3.trans sp5, q5⟩
      | brk => exact q5 as5 σ5 H5 (sp3.trans sp5) w5 s5
      | ret d => exact q5 as5 σ5 H5 (sp3.trans sp5) w5 s5
end
end G
end L2
end G8_
section G9_
set_option Elab.async false
set_option linter.all false
set_option maxRecDepth 100000
set_option maxHeartbeats 1000000
namespace L2
namespace G
open PySem PySem.Spec PyProof.Rows

/-! ### list comprehensions -/
def wipeD (ρ : Env) : List Nat → Env
  | [] => ρ
  | v :: vs => List.set (wipeD ρ vs) v none
def compL (ρ : Env) (t : D → Env → Option Env) (c : Env → M Bool) (e : Env → M D) : List D → M (List D)
  | [] => ret []
  | d :: r => bnd (lift (t d ρ)) fun ρ1 => bnd (c ρ1) fun k => if k = true then bnd (e ρ1) fun y => bnd (compL ρ t c e r) fun ys => ret (y :: ys) else compL ρ t c e r
def E.comp (i : Env → M (List D)) (vs : List Nat) (t : D → Env → Option Env) (c : Env → M Bool) (e : Env → M D) : Env → M D := fun ρ => bnd (i ρ) fun ds => bnd (compL (wipeD ρ vs) t c e ds) fun rs => ret (.lst rs)
def T.yes : Env → M Bool := fun _ => ret true
abbrev DTs (X : Cx) (O : List Nat) (Z : ZT) (es : List Expr) (f : Env → M Bool) : Prop := PTs X es (tT X.K O Z f)
theorem PTs.imp {X : Cx} {e : List Expr} {t t' : TT} (h : PTs X e t) (k : ∀ σ H Q, t' σ H Q → t σ H Q) : PTs X e t' := ⟨fun pins s σ H Q I q => h.run pins s σ H Q I (k σ H Q q)⟩
section
variable {K : PySem.W.Frag} {O : List Nat} {B : Addr → Prop} {H0 : Hp} {as0 as as' : List Addr} {ρ : Env} {σ : L2.St} {H H' : Hp} {st st' : Store} {v : V} {d : D} {i : Nat}
theorem Wf.wipe (w : Wf K O B H0 as0 as ρ σ H) : ∀ {vs : List Nat}, (∀ i ∈ vs, i ∉ O) → Wf K O B H0 as0 as (wipeD ρ vs) (L2.wipe σ vs) H
  | [], _ => w
  | v :: vs, h => (Wf.wipe w fun i hi => h i (List.mem_cons_of_mem _ hi)).drop (h v (List.mem_cons_self ..)) none
theorem ownA_wipe : ∀ {vs : List Nat}, (∀ i ∈ vs, i ∉ O) → ∀ a, ownA O (L2.wipe σ vs) a ↔ ownA O σ a
  | [], _, _ => Iff.rfl
  | v :: vs, h, a => (ownA_set (h v (List.mem_cons_self ..)) a).trans (ownA_wipe (fun i hi => h i (List.mem_cons_of_mem _ hi)) a)
theorem wipe_same {vs : List Nat} {σ1 σ2 : L2.St} (l : σ2.length = σ1.length) (h : ∀ j, j ∉ vs → σ2[j]? = σ1[j]?) : L2.wipe σ2 vs = L2.wipe σ1 vs := by
  apply List.ext_getElem?
  intro j
  by_cases m : j ∈ vs
  · have key : ∀ (us : List Nat) (τ : L2.St), j ∈ us → (L2.wipe τ us)[j]? = if j < τ.length then some none else none := by
      intro us τ hm
      induction us with
      | nil => cases hm
      | cons u us ih =>
        unfold L2.wipe
        by_cases e : u = j
        · subst e
          rw [List.getElem?_set]
          rw [if_pos rfl, wipe_length]
        · rw [List.getElem?_set_ne e]
          rcases List.mem_cons.mp hm with z | z
          · exact absurd z.symm e
          · exact ih z
    rw [key vs σ2 m, key vs σ1 m, l]
  · rw [wipe_out m, wipe_out m]
    exact h j m
theorem wipe_wipe {vs : List Nat} : L2.wipe (L2.wipe σ vs) vs = L2.wipe σ vs := wipe_same (wipe_length _ _) fun j m => wipe_out m
theorem Wf.growB {D0 : Addr} (w : Wf K O B H0 as0 as ρ σ H) (s : SRep K as st H) (n : H D0 = none) (g : Grow as H as' H') (s' : SRep K as' st' H') (hD : ∃ o, H' D0 = some o) : Wf K O (fun a => B a ∨ a = D0) H0 as0 as' ρ σ H' := by
  have w' := w.grow s g s'
  have ffw : ∀ a o, H a = some o → Ff (fun a => B a ∨ a = D0) as' O σ a → Ff B as O σ a := fun a o e z => by
    rcases z with (z | z) | z | z
    · exact .inl z
    · rw [z, n] at e; cases e
    · exact ff_grow g a o e (.inr (.inl z))
    · exact .inr (.inr z)
  have kk : ∀ b o, H b = some o → ¬ Ff (fun a => B a ∨ a = D0) as' O σ b → H' b = some o := fun b o e z => g.keep b o e fun q => z (.inr (.inl (g.sub q)))
  refine ⟨w.len, fun i d e ni => ?_, fun i d e m => ?_, fun i a m e => ?_, w.dis, fun a z => ?_, w'.gr⟩
  · obtain ⟨v, h, r⟩ := w.var i d e ni
    exact ⟨v, h, (r.weak ffw).frame kk (grow_t s g) g.pre⟩
  · obtain ⟨v, h, r⟩ := w.own i d e m
    refine ⟨v, h, ?_⟩
    have hp : ∀ p, v = .ref p → p ∉ as := fun p z => by subst z; exact (w.slot i p m h).2.1
    cases r with
    | lst hh r => exact .lst (g.keep _ _ hh (hp _ rfl)) ((r.weak ffw).frame kk (grow_t s g) g.pre)
    | dct hh o r => exact .dct (g.keep _ _ hh (hp _ rfl)) o ((r.weak ffw).frame kk (grow_t s g) g.pre)
    | sca r q => exact .sca ((r.weak ffw).frame kk (grow_t s g) g.pre) q
  · obtain ⟨h1, h2, h3, h4⟩ := w'.slot i a m e
    refine ⟨h1, h2, fun z => ?_, h4⟩
    rcases z with z | z
    · exact h3 z
    · obtain ⟨_, _, _, o, y, _⟩ := w.slot i a m e
      rw [z, n] at y; cases y
  · rcases z with z | z
    · exact w'.trB a z
    · rw [z]; exact hD
theorem Wf.mono {B' : Addr → Prop} (w : Wf K O B' H0 as0 as ρ σ H) (h : ∀ a, B a → B' a) : Wf K O B H0 as0 as ρ σ H := by
  have ffw : ∀ a o, H a = some o → Ff B as O σ a → Ff B' as O σ a := fun a o _ z => z.elim (fun z => .inl (h a z)) .inr
  refine ⟨w.len, fun i d e ni => ?_, fun i d e m => ?_, fun i a m e => ?_, w.dis, fun a z => w.trB a (h a z), w.gr⟩
  · obtain ⟨v, h, r⟩ := w.var i d e ni
    exact ⟨v, h, r.weak ffw⟩
  · obtain ⟨v, h, r⟩ := w.own i d e m
    refine ⟨v, h, ?_⟩
    cases r with
    | lst hh r => exact .lst hh (r.weak ffw)
    | dct hh o r => exact .dct hh o (r.weak ffw)
    | sca r q => exact .sca (r.weak ffw) q
  · obtain ⟨h1, h2, h3, h4⟩ := w.slot i a m e
    exact ⟨h1, h2, fun z => h3 (h a z), h4⟩
theorem Zc.mono {Z : ZT} {B' : Addr → Prop} (h : ∀ a, B a → B' a) {x : Ex} {st' : Store} (z : Zc K O B H0 as0 Z x st') : Zc K O B' H0 as0 Z x st' := fun as' ρ' σ' H' B2 hB w s => z as' ρ' σ' H' B2 (fun a q => hB a (h a q)) (w.mono h) s
end
section
variable {X : Cx} {O : List Nat} {Z : ZT} {e a b c tg iter elt : Expr} {es ifs : List Expr} {f fa fb fc fe : Env → M D} {fi r : Env → M (List D)} {fc : Env → M Bool} {t : D → Env → Option Env} {pos p : Pos} {x : Str} {scope : Scope} {own : List (Str × Nat)}
theorem dts_nil : DTs X O Z [] T.yes := PTs.imp pts_nil fun σ H Q ⟨g, ok, q⟩ => q _ H (Grow.refl _ _) ok.sr
theorem dts_one (h : DT X O Z c fc) : DTs X O Z [c] fc := pts_one h
def lcB (g : TG) (tt : TT) (te : TE) (vs : List Nat) (σ : L2.St) (Q : VK) (J : It) (H1 : Hp) : Prop := ∀ D, H1 D = none → ∃ W : Nat → Nat → Hp → Prop, (∃ m, W 0 m (upd H1 D (.lst []))) ∧ ∀ i m H, W i m H →
  (J.stop i H ∧ Q (.ref D) H) ∨ (J.go i H ∧ ∃ Nx : Hp → Prop, (∀ H', Nx H' → ∃ m', m' < m ∧ W (i + 1) m' H') ∧ ∀ x H', J.yld i H x H' → g x (L2.wipe σ vs) H' fun σ2 H2 => L2.wipe σ2 vs = L2.wipe σ vs ∧ tt σ2 H2 fun b H3 =>
    if b = true then te σ2 H3 fun y H4 => ∃ acc, H4 D = some (.lst acc) ∧ acc.length < sizeLine ∧ Nx (upd H4 D (.lst (acc ++ [y]))) else Nx H3)
theorem comp_core {vs : List Nat} {σ : L2.St} {H H1 : Hp} {g : Gh} {Q : VK} {ds : List D} {st1 : Store} {as1 : List Addr} {J : It} (hO : ∀ i ∈ vs, i ∉ O) (ok : g.ok X.K O σ H) (g1 : Grow g.as H as1 H1) (s1 : SRep X.K as1 st1 H1) (wk : WalkC X.K (Ff g.B as1 O σ) (· ∈ as1) as1 H1 J ds)
    (q : Ev (bnd (compL (wipeD g.ρ vs) t fc fe ds) (fun rs => ret (.lst rs)) st1) (fun d st' => ∀ as' v H', Grow g.as H as' H' → SRep X.K as' st' H' → Own X.K (fun a => Ff g.B as' O σ a ∨ v = .ref a) as' H' v d → (∀ p, v = .ref p → H p = none ∧ p ∉ as') → Q v H') (Zc X.K O g.B g.H0 g.as0 Z)) :
    lcB (tG X.K O vs t) (tT X.K O Z fc) (tE X.K O Z fe) vs σ Q J H1 := by
  intro D nD
  have q := Ev.bnd q
  have ok1 := ok.step g1 s1
  have w1 : Wf X.K O g.B g.H0 g.as0 as1 (wipeD g.ρ vs) (L2.wipe σ vs) H1 := ok1.wf.wipe hO
  have own1 := ownA_wipe (σ := σ) hO
  have ff1 : ∀ (as : List Addr) a, Ff g.B as O (L2.wipe σ vs) a ↔ Ff g.B as O σ a := fun as a => or_congr Iff.rfl (or_congr Iff.rfl (own1 a))
  have nDH : H D = none := by
    cases z : H D with
    | none => rfl
    | some o =>
      by_cases m : D ∈ g.as
      · exact absurd (g1.sub m) (not_as ok1 nD)
      · have := g1.keep D o z m
        rw [nD] at this; cases this
  -- what stands at a turn
  have wD : ∀ {as2 : List Addr} {H2 : Hp} {st2 : Store} {acc : List V}, Grow as1 H1 as2 H2 → SRep X.K as2 st2 H2 → H2 D = some (.lst acc) → Wf X.K O (fun a => g.B a ∨ a = D) g.H0 g.as0 as2 (wipeD g.ρ vs) (L2.wipe σ vs) H2 := fun g2 s2 hD => w1.growB s1 nD g2 s2 ⟨_, hD⟩
  refine ⟨fun i m H2 => m = ds.length - i ∧ i ≤ ds.length ∧ ∃ as2 st2 acc accD, SRep X.K as2 st2 H2 ∧ Grow as1 H1 as2 H2 ∧ H2 D = some (.lst acc) ∧ D ∉ as2 ∧ acc.length ≤ i ∧
    Reps X.K (Ff (fun a => g.B a ∨ a = D) as2 O (L2.wipe σ vs)) as2 H2 acc accD ∧
    Ev (compL (wipeD g.ρ vs) t fc fe (ds.drop i) st2) (fun ys st' => ∀ as' v H', Grow g.as H as' H' → SRep X.K as' st' H' → Own X.K (fun a => Ff g.B as' O σ a ∨ v = .ref a) as' H' v (.lst (accD ++ ys)) → (∀ p, v = .ref p → H p = none ∧ p ∉ as') → Q v H') (Zc X.K O g.B g.H0 g.as0 Z),
    ⟨_, rfl, Nat.zero_le _, as1, st1, [], [], s1.new nD, Grow.new nD, upd_same, not_as ok1 nD, Nat.le_refl _, .nil, ?_⟩, ?_⟩
  · exact Ev.mono q (fun ys st' q as' v H' a b c d => q as' v H' a b c d) fun _ _ z => z
  · rintro i m H2 ⟨rfl, hi, as2, st2, acc, accD, s2, g2, hD, nA, hl, rs, q2⟩
    have w2 := wD g2 s2 hD
    obtain ⟨_, ffs0⟩ := Step.stay (σ1 := σ) ok1.wf s1 (g2.step s2)
    have stay0 : Stay (· ∈ as1) H1 H2 := ⟨fun b o h n => g2.keep b o h n, grow_t s1 g2⟩
    have ffs : ∀ a o, H1 a = some o → Ff (fun a => g.B a ∨ a = D) as2 O (L2.wipe σ vs) a → Ff g.B as1 O σ a := fun a o h z => by
      rcases z with (z | z) | z | z
      · exact .inl z
      · rw [z, nD] at h; cases h
      · exact ffs0 a o h (.inr (.inl z))
      · exact .inr (.inr ((own1 a).mp z))
    by_cases hlt : i < ds.length
    · refine .inr ⟨wk.go i H2 stay0 hlt, ?_⟩
      rw [List.drop_eq_getElem_cons hlt] at q2
      obtain ⟨ρ3, e3, q3⟩ := (Ev.bnd q2).lift
      have q3 := Ev.bnd q3
      refine ⟨fun H3 => ∃ as2 st2 acc accD, SRep X.K as2 st2 H3 ∧ Grow as1 H1 as2 H3 ∧ H3 D = some (.lst acc) ∧ D ∉ as2 ∧ acc.length ≤ i + 1 ∧
        Reps X.K (Ff (fun a => g.B a ∨ a = D) as2 O (L2.wipe σ vs)) as2 H3 acc accD ∧ Ev (compL (wipeD g.ρ vs) t fc fe (ds.drop (i + 1)) st2) (fun ys st' => ∀ as' v H', Grow g.as H as' H' → SRep X.K as' st' H' → Own X.K (fun a => Ff g.B as' O σ a ∨ v = .ref a) as' H' v (.lst (accD ++ ys)) → (∀ p, v = .ref p → H p = none ∧ p ∉ as') → Q v H') (Zc X.K O g.B g.H0 g.as0 Z), fun H' n => ⟨ds.length - (i + 1), by omega, rfl, hlt, n⟩, fun x H3 y => ?_⟩
      obtain ⟨sm, rx⟩ := wk.yl i H2 x H3 _ (Ff (fun a => g.B a ∨ a = D) as2 O (L2.wipe σ vs)) as2 stay0 g2.pre ffs y (List.getElem?_eq_getElem hlt)
      have s3 := s2.same sm
      have w3 := w2.grow s2 (grow_same sm) s3
      refine ⟨⟨fun a => g.B a ∨ a = D, g.H0, g.as0, as2, wipeD g.ρ vs, st2⟩, _, ρ3, ⟨w3, s3⟩, rx, e3, fun σ4 w4 o4 l4 j4 => ⟨?_, ?_⟩⟩
      · rw [wipe_same l4 j4, wipe_wipe]
      have ff4 : ∀ (as : List Addr) a, Ff (fun a => g.B a ∨ a = D) as O σ4 a ↔ Ff (fun a => g.B a ∨ a = D) as O (L2.wipe σ vs) a := fun as a => or_congr Iff.rfl (or_congr Iff.rfl (o4 a))
      have hD3 := sm D _ hD
      have g3 := g2.trans (grow_same (as := as2) sm)
      have rs3 : Reps X.K (Ff (fun a => g.B a ∨ a = D) as2 O (L2.wipe σ vs)) as2 H3 acc accD := rs.grow s2 (grow_same sm)
      have grows : ∀ {as5 : List Addr} {H5 : Hp} {st5 : Store}, Grow as2 H3 as5 H5 → SRep X.K as5 st5 H5 → H5 D = some (.lst acc) ∧ D ∉ as5 ∧ Reps X.K (Ff (fun a => g.B a ∨ a = D) as5 O (L2.wipe σ vs)) as5 H5 acc accD := by
        intro as5 H5 st5 g5 s5
        refine ⟨g5.keep D _ hD3 nA, fun z => ?_, rs3.grow s3 g5⟩
        have := g5.fre D z nA
        rw [hD3] at this; cases this
      refine ⟨⟨fun a => g.B a ∨ a = D, g.H0, g.as0, as2, ρ3, st2⟩, ⟨w4, s3⟩, Ev.mono q3 (fun k st5 q5 as5 H5 g5 s5 => ?_) fun _ _ z => z.mono fun _ z => .inl z⟩
      obtain ⟨d5, n5, r5⟩ := grows g5 s5
      cases k with
      | false =>
        exact ⟨as5, st5, acc, accD, s5, g3.trans g5, d5, n5, Nat.le_succ_of_le hl, r5, q5⟩
      | true =>
        have w4' := w4.grow s3 g5 s5
        refine ⟨⟨fun a => g.B a ∨ a = D, g.H0, g.as0, as5, ρ3, st5⟩, ⟨w4', s5⟩, (Ev.bnd q5).mono (fun y st6 q6 as6 yv H6 g6 s6 ry => ?_) fun _ _ z => z.mono fun _ z => .inl z⟩
        have g36 := g5.trans g6
        obtain ⟨d6, n6, r6⟩ := grows g36 s6
        have sl : acc.length < sizeLine := Nat.lt_of_lt_of_le (Nat.lt_of_le_of_lt hl hlt) wk.len
        have ry' : Rep X.K (Ff (fun a => g.B a ∨ a = D) as6 O (L2.wipe σ vs)) as6 H6 yv y := ry.weak fun a o _ z => (ff4 as6 a).mpr z
        have kD : ∀ b o, H6 b = some o → ¬ Ff (fun a => g.B a ∨ a = D) as6 O (L2.wipe σ vs) b → upd H6 D (.lst (acc ++ [yv])) b = some o := fun b o h n => by rw [upd_ne (fun (z : b = D) => n (.inl (.inr z)))]; exact h
        have kT : ∀ b o, H6 b = some o → TupO o → upd H6 D (.lst (acc ++ [yv])) b = some o := fun b o h t => by
          rw [upd_ne (fun (z : b = D) => by rw [z, d6] at h; cases h; exact t)]; exact h
        refine ⟨acc, d6, sl, as6, st6, acc ++ [yv], accD ++ [y], ?_, ?_, upd_same, n6, by rw [List.length_append, List.length_singleton]; omega, (r6.append (.cons ry' .nil)).frame kD kT fun _ _ h => h, (Ev.bnd q6).mono (fun ys st7 q7 as7 v7 H7 a7 b7 c7 e7 => q7 as7 v7 H7 a7 b7 (by rw [List.append_assoc] at c7; exact c7) e7) fun _ _ z => z⟩
        · refine s6.frame fun b o h z => ?_
          rcases z with z | z
          · rw [upd_ne (fun (y : b = D) => n6 (by rw [← y]; exact z))]; exact h
          · exact kT b o h z
        · have gg := g3.trans g36
          exact ⟨gg.pre, fun b o h n => by rw [upd_ne (ne_of_none h nD)]; exact gg.keep b o h n, gg.fre⟩
    · have e : i = ds.length := by omega
      subst e
      rw [List.drop_length] at q2
      refine .inl ⟨wk.stop _ H2 stay0 rfl, q2 as2 (.ref D) H2 (g1.trans g2) s2 ?_ fun p e => ?_⟩
      · refine .lst hD ?_
        rw [List.append_nil]
        refine rs.weak fun a o _ z => ?_
        rcases z with (z | z | z) | z
        · exact .inl (.inl z)
        · exact .inr (.inl z)
        · exact .inr (.inr ((own1 a).mpr z))
        · cases z; exact .inl (.inr rfl)
      · cases e
        exact ⟨nDH, nA⟩
theorem comp_fin {vs : List Nat} {σ : L2.St} {H : Hp} {g : Gh} {Q : VK} (hO : ∀ i ∈ vs, i ∉ O) (ok : g.ok X.K O σ H)
    (q : Ev (E.comp fi vs t fc fe g.ρ g.st) (fun d st' => ∀ as' v H', Grow g.as H as' H' → SRep X.K as' st' H' → Own X.K (fun a => Ff g.B as' O σ a ∨ v = .ref a) as' H' v d → (∀ p, v = .ref p → H p = none ∧ p ∉ as') → Q v H') (Zc X.K O g.B g.H0 g.as0 Z)) :
    tLc (tIc X.K O Z fi) (tG X.K O vs t) (tT X.K O Z fc) (tE X.K O Z fe) vs σ H Q :=
  ⟨g, ok, (Ev.bnd q).mono (fun ds st1 q as1 H1 J g1 s1 wk => comp_core hO ok g1 s1 wk q) fun _ _ z => z⟩
theorem dn_comp (hc : X.calm = true) (hN : X.N.Nodup) (hi : DIc X O Z tg iter fi) (ok : BlkOk X.N X.env.scope scope own) (hO : ∀ i ∈ own.map (·.2), i ∉ O)
    (hg : ∀ (s : Shared) (H : Hp) (C : Addr) (cl : List (Str × Addr)) (fp : List Addr), DG (X.blk s H scope (compEnvC scope cl C X.env) fp) O (own.map (·.2)) tg t) (ht : ∀ (s : Shared) (H : Hp) (C : Addr) (cl : List (Str × Addr)) (fp : List Addr), DTs (X.blk s H scope (compEnvC scope cl C X.env) fp) O Z ifs fc)
    (he : ∀ (s : Shared) (H : Hp) (C : Addr) (cl : List (Str × Addr)) (fp : List Addr), DE (X.blk s H scope (compEnvC scope cl C X.env) fp) O Z elt fe) (hs : ∀ x, foldedSetIterable iter X.env x = pure x := by intro _; rfl) :
    DN X O Z (.ListComp elt [⟨tg, iter, ifs, 0⟩] scope pos) (E.comp fi (own.map (·.2)) t fc fe) :=
  PE.imp (pe_lc hc hN hi ok hg ht he hs) fun σ H Q ⟨g, ok, q⟩ => comp_fin hO ok q
theorem ds_setComp (i : Nat) {y : Str} {py spos : Pos} (hyO : i ∉ O) (hc : X.calm = true) (hN : X.N.Nodup) (hy : X.N[i]? = some y) (hyl : X.env.scope.names.lookup y = some .local)
    (hsw : swapsWith (.ListComp elt [⟨tg, iter, ifs, 0⟩] scope pos) (some (.Name y py)) spos.line X.env = pure true) (hi : DIc X O Z tg iter fi) (ok : BlkOk X.N X.env.scope scope own) (hO : ∀ i ∈ own.map (·.2), i ∉ O)
    (hg : ∀ (s : Shared) (H : Hp) (C : Addr) (cl : List (Str × Addr)) (fp : List Addr), DG (X.blk s H scope (compEnvC scope cl C X.env) fp) O (own.map (·.2)) tg t) (ht : ∀ (s : Shared) (H : Hp) (C : Addr) (cl : List (Str × Addr)) (fp : List Addr), DTs (X.blk s H scope (compEnvC scope cl C X.env) fp) O Z ifs fc)
    (he : ∀ (s : Shared) (H : Hp) (C : Addr) (cl : List (Str × Addr)) (fp : List Addr), DE (X.blk s H scope (compEnvC scope cl C X.env) fp) O Z elt fe) (hs : ∀ x, foldedSetIterable iter X.env x = pure x := by intro _; rfl) :
    DS X O Z (.Assign [.Name y py] (.ListComp elt [⟨tg, iter, ifs, 0⟩] scope pos) spos) (S.set i (E.comp fi (own.map (·.2)) t fc fe)) :=
  PS.imp (ps_setLc hc hN hy hyl hsw hi ok hg ht he hs) fun D σ H ⟨g, ok, q⟩ => by
    refine comp_fin (X := X) (Z := Z) hO ok ((Ev.bnd q).mono (fun d st' q as' v H' gr s r n => ?_) fun _ _ z => z)
    have nF : ∀ p, v = .ref p → ¬ Ff g.B as' O σ p := fun p e z => by
      obtain ⟨n1, n2⟩ := n p e
      rcases z with z | z | ⟨i, hi, z⟩
      · obtain ⟨o, z⟩ := ok.wf.trB p z; rw [n1] at z; cases z
      · exact n2 z
      · obtain ⟨_, _, _, o, z, _⟩ := ok.wf.slot i p hi z; rw [n1] at z; cases z
    have r' : Rep X.K (Ff g.B as' O σ) as' H' v d := by
      cases r with
      | lst h r => exact .lst (.inl ⟨nF _ rfl, .inl h⟩) (r.weak fun _ _ _ z => .inl z)
      | dct h o r => exact .dct (nF _ rfl) (.inl h) o (r.weak fun _ _ _ z => .inl z)
      | sca r _ => exact r.weak fun _ _ _ z => .inl z
    exact q as' _ H' ((gr.step s).trans (Step.set hyO _)) ((ok.wf.grow ok.sr gr s).set hyO r') s
theorem ds_setCompN (i : Nat) {y : Str} {py spos : Pos} (hyO : i ∈ O) (hc : X.calm = true) (hN : X.N.Nodup) (hy : X.N[i]? = some y) (hyl : X.env.scope.names.lookup y = some .local)
    (hsw : swapsWith (.ListComp elt [⟨tg, iter, ifs, 0⟩] scope pos) (some (.Name y py)) spos.line X.env = pure true) (hi : DIc X O Z tg iter fi) (ok : BlkOk X.N X.env.scope scope own) (hO : ∀ i ∈ own.map (·.2), i ∉ O)
    (hg : ∀ (s : Shared) (H : Hp) (C : Addr) (cl : List (Str × Addr)) (fp : List Addr), DG (X.blk s H scope (compEnvC scope cl C X.env) fp) O (own.map (·.2)) tg t) (ht : ∀ (s : Shared) (H : Hp) (C : Addr) (cl : List (Str × Addr)) (fp : List Addr), DTs (X.blk s H scope (compEnvC scope cl C X.env) fp) O Z ifs fc)
    (he : ∀ (s : Shared) (H : Hp) (C : Addr) (cl : List (Str × Addr)) (fp : List Addr), DE (X.blk s H scope (compEnvC scope cl C X.env) fp) O Z elt fe) (hs : ∀ x, foldedSetIterable iter X.env x = pure x := by intro _; rfl) :
    DS X O Z (.Assign [.Name y py] (.ListComp elt [⟨tg, iter, ifs, 0⟩] scope pos) spos) (S.set i (E.comp fi (own.map (·.2)) t fc fe)) :=
  PS.imp (ps_setLc hc hN hy hyl hsw hi ok hg ht he hs) fun D σ H ⟨g, ok, q⟩ => by
    refine comp_fin (X := X) (Z := Z) hO ok ((Ev.bnd q).mono (fun d st' q as' v H' gr s r n => ?_) fun _ _ z => z)
    obtain ⟨w, sp⟩ := ok.wf.setN ok.sr gr s hyO r n
    exact q as' _ H' sp w s
end
end G
end L2
end G9_
section G10_
set_option Elab.async false
set_option linter.all false
set_option maxRecDepth 100000
set_option maxHeartbeats 1000000
namespace L2
namespace G
open PySem PySem.Spec PyProof.Rows

/-! ### data as the library's -/
mutual
def D.py : D → PyData
  | .non => .none
  | .bl b => .bool b
  | .int i => .int i
  | .str x => .str x
  | .tup xs => .tuple (D.pys xs)
  | .ftup xs => .tuple (D.pys xs)
  | .lst xs => .list (D.pys xs)
  | .dct _ _ _ => .none
  | .ref _ => .none
def D.pys : List D → List PyData
  | [] => []
  | d :: ds => d.py :: D.pys ds
end
mutual
/-- plain data, at most n deep -/
def D.okd : Nat → D → Bool
  | _, .non => true
  | _, .bl _ => true
  | _, .int _ => true
  | _, .str x => PyData.strOk x
  | n, .tup xs => (match n with
    | 0 => false
    | n + 1 => D.okds n xs)
  | n, .lst xs => (match n with
    | 0 => false
    | n + 1 => D.okds n xs)
  | n, .ftup xs => (match n with
    | 0 => false
    | n + 1 => D.okds n xs)
  | _, .dct _ _ _ => false
  | _, .ref _ => false
def D.okds : Nat → List D → Bool
  | _, [] => true
  | n, d :: ds => D.okd n d && D.okds n ds
end
mutual
theorem D.okd_lay : ∀ {n : Nat} {d : D}, d.okd n = true → d.py.canLay0 = true ∧ d.py.depth ≤ n
  | _, .non, _ => by simp [D.py, PyData.canLay0, PyData.depth]
  | _, .bl _, _ => by simp [D.py, PyData.canLay0, PyData.depth]
  | _, .int _, _ => by simp [D.py, PyData.canLay0, PyData.depth]
  | _, .str x, h => by simp only [D.py, PyData.canLay0, PyData.depth]; exact ⟨by simpa [D.okd] using h, Nat.zero_le _⟩
  | 0, .tup xs, h => by simp [D.okd] at h
  | n + 1, .tup xs, h => by
    have q := D.okds_lay (n := n) (ds := xs) (by simpa [D.okd] using h)
    simp only [D.py, PyData.canLay0, PyData.depth]
    exact ⟨q.1, Nat.succ_le_succ q.2⟩
  | 0, .lst xs, h => by simp [D.okd] at h
  | n + 1, .lst xs, h => by
    have q := D.okds_lay (n := n) (ds := xs) (by simpa [D.okd] using h)
    simp only [D.py, PyData.canLay0, PyData.depth]
    exact ⟨q.1, Nat.succ_le_succ q.2⟩
  | 0, .ftup xs, h => by simp [D.okd] at h
  | n + 1, .ftup xs, h => by
    have q := D.okds_lay (n := n) (ds := xs) (by simpa [D.okd] using h)
    simp only [D.py, PyData.canLay0, PyData.depth]
    exact ⟨q.1, Nat.succ_le_succ q.2⟩
  | _, .dct _ _ _, h => by simp [D.okd] at h
  | _, .ref _, h => by simp [D.okd] at h
theorem D.okds_lay : ∀ {n : Nat} {ds : List D}, D.okds n ds = true → PyData.canLayAll0 (D.pys ds) = true ∧ PyData.depthAll (D.pys ds) ≤ n
  | _, [], _ => by simp [D.pys, PyData.canLayAll0, PyData.depthAll]
  | n, d :: ds, h => by
    simp only [D.okds, Bool.and_eq_true] at h
    have q1 := D.okd_lay h.1
    have q2 := D.okds_lay h.2
    simp only [D.pys, PyData.canLayAll0, PyData.depthAll, Bool.and_eq_true]
    exact ⟨⟨q1.1, q2.1⟩, by omega⟩
end
theorem D.shaped {n : Nat} {d : D} (h : d.okd n = true) (hn : n ≤ 64) : SeqAt.shaped d.py = true := by
  have q := D.okd_lay h
  show (d.py.canLay0 && decide (d.py.depth ≤ 64)) = true
  rw [Bool.and_eq_true]
  exact ⟨q.1, decide_eq_true (by omega)⟩
mutual
theorem Rep.dp {K : PySem.W.Frag} {F : Addr → Prop} {as : List Addr} {H : Hp} {v : V} {d : D} {n : Nat} (o : d.okd n = true) : Rep K F as H v d → Dp K H v d.py
  | .non => by simp only [D.py]; exact .non
  | .bl b => by simp only [D.py]; exact .bl b
  | .int i => by simp only [D.py]; exact .int i
  | .str x => by simp only [D.py]; exact .str x
  | .tup h r => by
    simp only [D.py]
    cases n with
    | zero => simp [D.okd] at o
    | succ n => exact .tup (SqT.of h) (r.dp (n := n) (by simpa [D.okd] using o))
  | .lst h r => by
    simp only [D.py]
    cases n with
    | zero => simp [D.okd] at o
    | succ n => exact .lst h.sq (r.dp (n := n) (by simpa [D.okd] using o))
  | .ftup h r => by
    simp only [D.py]
    cases n with
    | zero => simp [D.okd] at o
    | succ n => exact .tup h.sq (r.dp (n := n) (by simpa [D.okd] using o))
  | .dct .. => by simp [D.okd] at o
  | .ref .. => by simp [D.okd] at o
theorem Reps.dp {K : PySem.W.Frag} {F : Addr → Prop} {as : List Addr} {H : Hp} {vs : List V} {ds : List D} {n : Nat} (o : D.okds n ds = true) : Reps K F as H vs ds → DpAll K H vs (D.pys ds)
  | .nil => by simp only [D.pys]; exact .nil
  | .cons h r => by
    simp only [D.okds, Bool.and_eq_true] at o
    simp only [D.pys]
    exact .cons (h.dp o.1) (r.dp o.2)
end
theorem RepT.dp {K : PySem.W.Frag} {F : Addr → Prop} {as : List Addr} {H : Hp} {v : V} {d : D} {n : Nat} (o : d.okd n = true) (r : RepT K F as H v d) : Dp K H v d.py := by
  cases r with
  | rep r => exact r.dp o
  | own r _ =>
    cases r with
    | lst h r =>
      cases n with
      | zero => simp [D.okd] at o
      | succ n =>
        simp only [D.py]
        exact .lst (.inl (.inl h)) (r.dp (n := n) (by simpa [D.okd] using o))
    | dct h _ _ => simp [D.okd] at o
    | sca r _ => exact r.dp o
/-- equality -/
def D.eq (a b : D) : Bool := PyData.eqv a.py b.py
def eqD (a b : D) : Option D := if a.okd 60 && b.okd 60 then some (.bl (D.eq a b)) else none
def neD (a b : D) : Option D := if a.okd 60 && b.okd 60 then some (.bl (!D.eq a b)) else none
def inL (a : D) (ds : List D) : Bool := ds.any fun z => D.eq z a
def inD (a b : D) : Option D := match seqD b with
  | some ds => if a.okd 60 && D.okds 60 ds then some (.bl (inL a ds)) else none
  | none => none
def notInD (a b : D) : Option D := match seqD b with
  | some ds => if a.okd 60 && D.okds 60 ds then some (.bl (!inL a ds)) else none
  | none => none
theorem any_pys (a : D) : ∀ ds : List D, (D.pys ds).any (fun z => PyData.eqv z a.py) = inL a ds
  | [] => by simp [D.pys, inL]
  | d :: ds => by
    have := any_pys a ds
    simp only [D.pys, inL, List.any_cons, D.eq] at this ⊢
    rw [this]
section
variable {X : Cx}
theorem o_eq (hu : X.A.units + 65 < cLine) : Op2 X (compareOp .Eq) eqD := ⟨_, op_eqD (by omega), fun F as H x y d1 d2 d Q tr r1 r2 e q => by
  unfold eqD at e
  split at e
  · rename_i h
    cases e
    simp only [Bool.and_eq_true] at h
    exact ⟨_, _, r1.dp h.1, r2.dp h.2, D.shaped h.1 (by decide), D.shaped h.2 (by decide), q _ H (Same.refl _) (.bl _)⟩
  · cases e⟩
theorem o_ne (hu : X.A.units + 65 < cLine) : Op2 X (compareOp .NotEq) neD := ⟨_, op_neD (by omega), fun F as H x y d1 d2 d Q tr r1 r2 e q => by
  unfold neD at e
  split at e
  · rename_i h
    cases e
    simp only [Bool.and_eq_true] at h
    exact ⟨_, _, r1.dp h.1, r2.dp h.2, D.shaped h.1 (by decide), D.shaped h.2 (by decide), q _ H (Same.refl _) (.bl _)⟩
  · cases e⟩
def rInDA (K : PySem.W.Frag) (neg : Bool) : R2 := fun x y H Q => ∃ d ds, Dp K H x d ∧ (Dp K H y (.list ds) ∨ Dp K H y (.tuple ds)) ∧ SeqAt.shaped d = true ∧ PyData.canLayAll0 ds = true ∧ Q (.bl (if neg then !ds.any fun z => PyData.eqv z d else ds.any fun z => PyData.eqv z d)) H
theorem op_inDA (hu : X.A.units + 65 < cLine) : OpR X (compareOp .In) (rInDA X.K false) := by
  intro pins s σ H x y v u Q I rx ry h
  obtain ⟨d, ds, hd, he, sd, se, q⟩ := h
  obtain ⟨as, r1⟩ := Dp.reads I d x v hd rx
  rcases he with he | he
  · obtain ⟨bs, r2⟩ := Dp.reads I (.list ds) y u he ry
    exact SeqAt.in_list_reads r2 r1 se (SeqAt.canLay_of_shaped sd) (room_in_shaped sd hu) ⟨.bl _, H, I, rfl, q⟩
  · obtain ⟨bs, r2⟩ := Dp.reads I (.tuple ds) y u he ry
    exact SeqAt.in_tuple_reads r2 r1 se (SeqAt.canLay_of_shaped sd) (room_in_shaped sd hu) ⟨.bl _, H, I, rfl, q⟩
theorem op_notInDA (hu : X.A.units + 65 < cLine) : OpR X (compareOp .NotIn) (rInDA X.K true) := by
  intro pins s σ H x y v u Q I rx ry h
  obtain ⟨d, ds, hd, he, sd, se, q⟩ := h
  obtain ⟨as, r1⟩ := Dp.reads I d x v hd rx
  rcases he with he | he
  · obtain ⟨bs, r2⟩ := Dp.reads I (.list ds) y u he ry
    exact SeqAt.notIn_list_reads r2 r1 se (SeqAt.canLay_of_shaped sd) (room_in_shaped sd hu) ⟨.bl _, H, I, rfl, q⟩
  · obtain ⟨bs, r2⟩ := Dp.reads I (.tuple ds) y u he ry
    exact SeqAt.notIn_tuple_reads r2 r1 se (SeqAt.canLay_of_shaped sd) (room_in_shaped sd hu) ⟨.bl _, H, I, rfl, q⟩
theorem seq_dp {K : PySem.W.Frag} {F : Addr → Prop} {as : List Addr} {H : Hp} {v : V} {d : D} {ds : List D} (e : seqD d = some ds) (o : D.okds 60 ds = true) (r : RepT K F as H v d) : Dp K H v (.list (D.pys ds)) ∨ Dp K H v (.tuple (D.pys ds)) := by
  cases d with
  | lst xs => cases e; exact .inl (by have := r.dp (n := 61) (by simpa [D.okd] using o); simpa only [D.py] using this)
  | tup xs => cases e; exact .inr (by have := r.dp (n := 61) (by simpa [D.okd] using o); simpa only [D.py] using this)
  | ftup xs => cases e; exact .inr (by have := r.dp (n := 61) (by simpa [D.okd] using o); simpa only [D.py] using this)
  | _ => cases e
theorem o_in (hu : X.A.units + 65 < cLine) : Op2 X (compareOp .In) inD := ⟨_, op_inDA hu, fun F as H x y d1 d2 d Q tr r1 r2 e q => by
  unfold inD at e
  split at e
  · rename_i ds es
    split at e
    · rename_i h
      cases e
      simp only [Bool.and_eq_true] at h
      refine ⟨_, _, r1.dp h.1, seq_dp es h.2 r2, D.shaped h.1 (by decide), (D.okds_lay h.2).1, ?_⟩
      rw [if_neg Bool.false_ne_true, any_pys]
      exact q _ H (Same.refl _) (.bl _)
    · cases e
  · cases e⟩
theorem o_notIn (hu : X.A.units + 65 < cLine) : Op2 X (compareOp .NotIn) notInD := ⟨_, op_notInDA hu, fun F as H x y d1 d2 d Q tr r1 r2 e q => by
  unfold notInD at e
  split at e
  · rename_i ds es
    split at e
    · rename_i h
      cases e
      simp only [Bool.and_eq_true] at h
      refine ⟨_, _, r1.dp h.1, seq_dp es h.2 r2, D.shaped h.1 (by decide), (D.okds_lay h.2).1, ?_⟩
      rw [if_pos rfl, any_pys]
      exact q _ H (Same.refl _) (.bl _)
    · cases e
  · cases e⟩
end
end G
end L2
end G10_
section G11_
set_option Elab.async false
set_option linter.all false
set_option maxRecDepth 100000
set_option maxHeartbeats 1000000
namespace L2
namespace G
open PySem PySem.Spec PyProof.Rows
section
variable {X : Cx}
/-! ### + -/
def rCatL (K : PySem.W.Frag) : R2 := fun x y H Q => ∃ l b xs zs, x = .ref l ∧ y = .ref b ∧ SqL K H l xs ∧ SqL K H b zs ∧ xs.length + zs.length ≤ sizeLine ∧ ∀ p, H p = none → Q (.ref p) (upd H p (.lst (xs ++ zs)))
theorem op_catL : OpR X (binaryOp .Add) (rCatL X.K) := by
  intro pins s σ H x y v u Q I rx ry h
  obtain ⟨l, b, xs, zs, rfl, rfl, hH, hB, hz, q⟩ := h
  cases rx
  cases ry
  obtain ⟨its, r, ⟨⟨cls, dd, data, sl⟩, n, ho, hc, hdn, hd⟩, hl⟩ := I.list hH
  obtain ⟨its2, r2, ⟨⟨cls2, dd2, data2, sl2⟩, n2, ho2, hc2, hdn2, hd2⟩, hl2⟩ := I.list hB
  simp only at hc hd hc2 hd2
  subst hc hd hc2 hd2
  have e : its.toArray ++ its2.toArray = (its ++ its2).toArray := by simp
  have hs : its.length + its2.length ≤ sizeLine := by rw [← r.length, ← r2.length]; exact hz
  refine concat_meets ⟨_, ho, rfl⟩ ⟨_, ho2, rfl⟩ noFill_list_add seq_list_add PySem.F.slot_list_add PySem.F.entry_list_add (PySem.F.args_list_add_2 _ _) (list_addW l b its.toArray its2.toArray n n2 dd dd2 sl sl2 (by simpa using hs)) ⟨ho, ho2, ?_⟩
  rw [e]
  exact ⟨.ref _, _, I.lnew (t' := s.toks) (r.append r2) (by rw [List.length_append]; omega), rfl, q _ I.fresh⟩
def addD : D → D → Option D
  | .int i, .int j => some (.int (i + j))
  | .lst a, .lst b => if a.length + b.length < LIM then some (.lst (a ++ b)) else none
  | .tup a, .tup b => if a.length + b.length < LIM then some (.tup (a ++ b)) else none
  | .str a, .str b => if a.length + b.length < LIM then some (.str (a ++ b)) else none
  | _, _ => none
theorem Reps.new {K : PySem.W.Frag} {F : Addr → Prop} {as : List Addr} {H : Hp} {vs : List V} {ds : List D} {p : Addr} {o : HO} (n : H p = none) (r : Reps K F as H vs ds) : Reps K F as (upd H p o) vs ds :=
  r.frame (fun b u e _ => by rw [upd_ne (ne_of_none e n)]; exact e) (fun b u e _ => by rw [upd_ne (ne_of_none e n)]; exact e) fun _ _ h => h
theorem same_new {H : Hp} {p : Addr} {o : HO} (h : H p = none) : Same H (upd H p o) := fun b x e => by rw [upd_ne (ne_of_none e h)]; exact e
theorem not_of_tr {F : Addr → Prop} {H : Hp} {p : Addr} (tr : ∀ a, F a → ∃ o, H a = some o) (n : H p = none) : ¬ F p := fun z => by
  obtain ⟨o, z⟩ := tr p z
  rw [n] at z; cases z
theorem Rep.newL {K : PySem.W.Frag} {F : Addr → Prop} {as : List Addr} {H : Hp} {vs : List V} {ds : List D} {p : Addr} (tr : ∀ a, F a → ∃ o, H a = some o) (n : H p = none) (r : Reps K F as H vs ds) : Rep K F as (upd H p (.lst vs)) (.ref p) (.lst ds) :=
  .lst (.inl ⟨not_of_tr tr n, .inl upd_same⟩) (r.new n)
theorem Rep.newT {K : PySem.W.Frag} {F : Addr → Prop} {as : List Addr} {H : Hp} {vs : List V} {ds : List D} {p : Addr} (n : H p = none) (r : Reps K F as H vs ds) : Rep K F as (upd H p (.tup vs)) (.ref p) (.tup ds) :=
  .tup upd_same (r.new n)
theorem o_add : Op2 X (binaryOp .Add) addD := ⟨_, op_add.or (op_catL.or (op_catA.or op_add_str)), fun F as H x y d1 d2 d Q tr r1 r2 e q => by
  cases d1 with
  | int i =>
    cases d2 with
    | int j => cases e; rw [r1.t_int, r2.t_int]; exact .inl ⟨i, j, rfl, rfl, q _ H (Same.refl _) (.int _)⟩
    | _ => cases e
  | lst xs =>
    cases d2 with
    | lst ys =>
      unfold addD at e
      dsimp only at e
      split at e
      · rename_i h
        cases e
        obtain ⟨a, us, rfl, s1, q1⟩ := r1.t_lst
        obtain ⟨b, ws, rfl, s2, q2⟩ := r2.t_lst
        refine .inr (.inl ⟨a, b, us, ws, rfl, rfl, s1, s2, ?_, fun p np => q _ _ (same_new np) (.newL tr np (q1.append q2))⟩)
        rw [q1.length, q2.length]
        exact Nat.le_of_lt (Nat.lt_trans h lim_line)
      · cases e
    | _ => cases e
  | tup xs =>
    cases d2 with
    | tup ys =>
      unfold addD at e
      dsimp only at e
      split at e
      · rename_i h
        cases e
        obtain ⟨a, us, rfl, s1, q1⟩ := r1.t_tup
        obtain ⟨b, ws, rfl, s2, q2⟩ := r2.t_tup
        refine .inr (.inr (.inl ⟨a, b, us, ws, rfl, rfl, SqT.of s1, SqT.of s2, ?_, fun z => ?_, fun z y => ?_, fun z y p np => q _ _ (same_new np) (.newT np (q1.append q2))⟩))
        · rw [q1.length, q2.length]
          exact Nat.le_of_lt (Nat.lt_trans h lim_line)
        · subst z
          cases q1
          exact q _ H (Same.refl _) (.tup s2 q2)
        · subst y
          cases q2
          rw [List.append_nil] at q
          exact q _ H (Same.refl _) (.tup s1 q1)
      · cases e
    | _ => cases e
  | str xs =>
    cases d2 with
    | str ys =>
      unfold addD at e
      dsimp only at e
      split at e
      · rename_i h
        cases e
        rw [r1.t_str, r2.t_str]
        exact .inr (.inr (.inr ⟨xs, ys, rfl, rfl, Nat.le_of_lt (Nat.lt_trans h lim_line), q _ H (Same.refl _) (.str _)⟩))
      · cases e
    | _ => cases e
  | _ => cases e⟩
def subD : D → D → Option D
  | .int i, .int j => some (.int (i - j))
  | _, _ => none
theorem o_sub : Op2 X (binaryOp .Sub) subD := ⟨_, op_sub, fun F as H x y d1 d2 d Q tr r1 r2 e q => by
  unfold subD at e
  split at e
  · cases e
    rw [r1.t_int, r2.t_int]
    exact ⟨_, _, rfl, rfl, q _ H (Same.refl _) (.int _)⟩
  · cases e⟩
def mulD : D → D → Option D
  | .int i, .int j => if (-(2 ^ 64) < i ∧ i < 2 ^ 64) ∨ (-(2 ^ 64) < j ∧ j < 2 ^ 64) then some (.int (i * j)) else none
  | _, _ => none
theorem o_mul : Op2 X (binaryOp .Mult) mulD := ⟨_, op_mul, fun F as H x y d1 d2 d Q tr r1 r2 e q => by
  unfold mulD at e
  split at e
  · split at e
    · rename_i h
      cases e
      rw [r1.t_int, r2.t_int]
      exact ⟨_, _, rfl, rfl, h, q _ H (Same.refl _) (.int _)⟩
    · cases e
  · cases e⟩
def modD : D → D → Option D
  | .int i, .int j => if 0 < j then some (.int (i % j)) else none
  | _, _ => none
theorem o_mod : Op2 X (binaryOp .Mod) modD := ⟨_, op_mod, fun F as H x y d1 d2 d Q tr r1 r2 e q => by
  unfold modD at e
  split at e
  · split at e
    · rename_i h
      cases e
      rw [r1.t_int, r2.t_int]
      exact ⟨_, _, rfl, rfl, h, q _ H (Same.refl _) (.int _)⟩
    · cases e
  · cases e⟩
def fdivD : D → D → Option D
  | .int i, .int j => if 0 < j ∧ j < 1073741824 then some (.int (i / j)) else none
  | _, _ => none
theorem o_fdiv : Op2 X (binaryOp .FloorDiv) fdivD := ⟨_, op_fdiv, fun F as H x y d1 d2 d Q tr r1 r2 e q => by
  unfold fdivD at e
  split at e
  · split at e
    · rename_i h
      cases e
      rw [r1.t_int, r2.t_int]
      exact ⟨_, _, rfl, rfl, h, q _ H (Same.refl _) (.int _)⟩
    · cases e
  · cases e⟩
/-! ### order -/
def ordI (p : Int → Int → Bool) : D → D → Option D
  | .int i, .int j => some (.bl (p i j))
  | _, _ => none
theorem o_ordI {op : CmpOp} {p : Int → Int → Bool} (h : OpR X (compareOp op) (rI0 fun i j => .bl (p i j))) : Op2 X (compareOp op) (ordI p) := ⟨_, h, fun F as H x y d1 d2 d Q tr r1 r2 e q => by
  unfold ordI at e
  split at e
  · cases e
    rw [r1.t_int, r2.t_int]
    exact ⟨_, _, rfl, rfl, q _ H (Same.refl _) (.bl _)⟩
  · cases e⟩
abbrev ltD := ordI fun i j => decide (i < j)
abbrev leD := ordI fun i j => decide (i ≤ j)
abbrev gtD := ordI fun i j => decide (j < i)
abbrev geD := ordI fun i j => decide (j ≤ i)
theorem o_lt : Op2 X (compareOp .Lt) ltD := o_ordI op_lt
theorem o_le : Op2 X (compareOp .LtE) leD := o_ordI op_le
theorem o_gt : Op2 X (compareOp .Gt) gtD := o_ordI op_gt
theorem o_ge : Op2 X (compareOp .GtE) geD := o_ordI op_ge
/-! ### is None -/
def D.isNon : D → Bool
  | .non => true
  | _ => false
theorem RepT.isNon {K : PySem.W.Frag} {F : Addr → Prop} {as : List Addr} {H : Hp} {v : V} {d : D} (r : RepT K F as H v d) : decide (v = .non) = d.isNon := by
  have key : ∀ {v d}, Rep K F as H v d → decide (v = V.non) = d.isNon := fun r => by cases r <;> rfl
  cases r with
  | rep r => exact key r
  | own r _ => cases r with
    | lst _ _ => rfl
    | dct _ _ _ => rfl
    | sca r _ => exact key r
def isD : D → D → Option D
  | a, .non => some (.bl a.isNon)
  | _, _ => none
def isNotD : D → D → Option D
  | a, .non => some (.bl (!a.isNon))
  | _, _ => none
theorem o_is : Op2 X (compareOp .Is) isD := ⟨_, op_isN, fun F as H x y d1 d2 d Q tr r1 r2 e q => by
  unfold isD at e
  split at e
  · cases e
    rw [r2.t_non]
    exact ⟨rfl, by rw [r1.isNon]; exact q _ H (Same.refl _) (.bl _)⟩
  · cases e⟩
theorem o_isNot : Op2 X (compareOp .IsNot) isNotD := ⟨_, op_notN, fun F as H x y d1 d2 d Q tr r1 r2 e q => by
  unfold isNotD at e
  split at e
  · cases e
    rw [r2.t_non]
    exact ⟨rfl, by rw [r1.isNon]; exact q _ H (Same.refl _) (.bl _)⟩
  · cases e⟩
end
end G
end L2
end G11_
section G12_
set_option Elab.async false
set_option linter.all false
set_option maxRecDepth 100000
set_option maxHeartbeats 1000000
namespace L2
namespace G
open PySem PySem.Spec PyProof.Rows
section
variable {X : Cx} {O : List Nat} {Z : ZT} {e a b c : Expr} {es : List Expr} {f fa fb fc : Env → M D} {r : Env → M (List D)} {pos p : Pos} {x : Str}
/-! ### chains a <= b <= c -/
def E.chain (g h : D → D → Option D) (fa fb fc : Env → M D) : Env → M D := fun ρ => bnd (fa ρ) fun x => bnd (fb ρ) fun y => bnd (lift (g x y)) fun z => match z with
  | .bl true => bnd (fc ρ) fun w => lift (h y w)
  | .bl false => ret (.bl false)
  | _ => bad
theorem chain_fin {σ : L2.St} {H : Hp} {g : Gh} {r1 r2 : R2} {h1 h2 : D → D → Option D} {Q : VK} (ok : g.ok X.K O σ H)
    (hr1 : ∀ (F : Addr → Prop) (as : List Addr) (H : Hp) (x y : V) (d1 d2 d : D) (Q : VK), (∀ a, F a → ∃ o, H a = some o) →
      RepT X.K F as H x d1 → RepT X.K F as H y d2 → h1 d1 d2 = some d → (∀ v H', Same H H' → Rep X.K F as H' v d → Q v H') → r1 x y H Q)
    (hr2 : ∀ (F : Addr → Prop) (as : List Addr) (H : Hp) (x y : V) (d1 d2 d : D) (Q : VK), (∀ a, F a → ∃ o, H a = some o) →
      RepT X.K F as H x d1 → RepT X.K F as H y d2 → h2 d1 d2 = some d → (∀ v H', Same H H' → Rep X.K F as H' v d → Q v H') → r2 x y H Q)
    (q : Ev (E.chain h1 h2 fa fb fc g.ρ g.st) (fun d st' => ∀ as' v H', Grow g.as H as' H' → SRep X.K as' st' H' → Rep X.K (Ff g.B as' O σ) as' H' v d → Q v H') (Zc X.K O g.B g.H0 g.as0 Z)) :
    tChain r1 r2 (tU X.K O Z fa) (tU X.K O Z fb) (tU X.K O Z fc) σ H Q := by
  refine two (k := fun x y => bnd (lift (h1 x y)) fun z => match z with
    | .bl true => bnd (fc g.ρ) fun w => lift (h2 y w)
    | .bl false => ret (.bl false)
    | _ => bad) (ZZ := fun _ _ => True) ok q fun d1 d2 x y as' st' H' g1 s1 r1' r2' q => ?_
  obtain ⟨d, e, q⟩ := (Ev.bnd q).lift
  have ok1 := ok.step g1 s1
  refine hr1 _ as' H' x y d1 d2 d _ (ok1.wf.tr s1) r1' r2' e fun v H2 sm rv => ?_
  have s2 := s1.same sm
  have ok2 := ok1.step (grow_same sm) s2
  cases d with
  | bl k =>
    cases rv
    refine ⟨k, rfl, ?_⟩
    cases k with
    | true =>
      rw [if_pos rfl]
      refine ⟨(g.at as' st').at as' st', ok2, (Ev.bnd q).mono (fun w st3 q as3 wv H3 g3 s3 rw' => ?_) fun _ _ z => z⟩
      obtain ⟨d3, e3, q⟩ := q.lift
      have g13 := (g1.trans (grow_same sm)).trans g3
      exact hr2 _ as3 H3 y wv d2 w d3 _ ((ok2.step g3 s3).wf.tr s3) (r2'.grow s1 ((grow_same sm).trans g3)) rw' e3 fun v H4 sm4 rv => q as3 v H4 (g13.trans (grow_same sm4)) (s3.same sm4) rv
    | false =>
      rw [if_neg Bool.false_ne_true]
      exact q as' _ H2 (g1.trans (grow_same sm)) s2 (.bl false)
  | _ => exact q.elim
theorem de_chain {op op' : CmpOp} {g h : D → D → Option D} (ho : Op2 X (compareOp op) g) (ho' : Op2 X (compareOp op') h) (ha : DU X O Z a fa) (hb : DU X O Z b fb) (hc : DU X O Z c fc) (hm : lastMarks [op, op'] [b, c] = false := by rfl) : DE X O Z (.Compare a [op, op'] [b, c] pos) (E.chain g h fa fb fc) := by
  obtain ⟨r1, ho, hr1⟩ := ho
  obtain ⟨r2, ho', hr2⟩ := ho'
  exact PE.imp (pe_chain ho ho' ha hb hc hm) fun σ H Q ⟨g, ok, q⟩ => chain_fin ok hr1 hr2 q
theorem dt_chain {op op' : CmpOp} {g h : D → D → Option D} (ho : Op2 X (compareOp op) g) (ho' : Op2 X (compareOp op') h) (ha : DU X O Z a fa) (hb : DU X O Z b fb) (hc : DU X O Z c fc) (hm : lastMarks [op, op'] [b, c] = false := by rfl) : DT X O Z (.Compare a [op, op'] [b, c] pos) (T.val (E.chain g h fa fb fc)) := by
  obtain ⟨r1, ho, hr1⟩ := ho
  obtain ⟨r2, ho', hr2⟩ := ho'
  exact PT.imp (pt_chain ho ho' ha hb hc hm) fun σ H Q ⟨g, ok, q⟩ => chain_fin (Q := fun x H' => ∃ k, x = .bl k ∧ Q k H') ok hr1 hr2 (test_fin ok q)
/-! ### -x -/
def negD : D → Option D
  | .int i => some (.int (-i))
  | _ => none
theorem dn_neg (ha : DU X O Z a fa) : DN X O Z (.UnaryOp .USub a pos) (E.op1 negD fa) := PE.imp (pe_un un_neg ha) fun σ H Q ⟨g, ok, q⟩ =>
  ⟨g, ok, (Ev.bnd q).mono (fun d st' q as' v H' gr s r => by
    obtain ⟨d', e, q⟩ := q.lift
    cases d with
    | int i => cases e; exact ⟨i, r.t_int, q as' _ H' gr s (.sca (.int _) fun p z => nomatch z) fun p z => nomatch z⟩
    | _ => cases e) fun _ _ z => z⟩
/-! ### x[i], x[i:j] -/
def ixI (n : Nat) (i : Int) : Option Nat := if 0 ≤ i then (if i < n then some i.toNat else none) else if -(n : Int) ≤ i then some (i + n).toNat else none
def ixD : D → D → Option D
  | .lst ds, .int i => atI ds i
  | .tup ds, .int i => atI ds i
  | .ftup ds, .int i => atI ds i
  | .str z, .int i => (atI z.cps.toList i).map fun c => .str ⟨#[c]⟩
  | _, _ => none
theorem atI_reps {K : PySem.W.Frag} {F : Addr → Prop} {as : List Addr} {H : Hp} {vs : List V} {ds : List D} {i : Int} {d : D} (r : Reps K F as H vs ds) (e : atI ds i = some d) : ∃ v, atI vs i = some v ∧ Rep K F as H v d := by
  unfold atI at e ⊢
  rw [r.length]
  cases q : ixN ds.length i with
  | none => rw [q] at e; cases e
  | some j =>
    rw [q] at e
    obtain ⟨v, h, rv⟩ := r.get' (show ds[j]? = some d from e)
    exact ⟨v, h, rv⟩
theorem ix_fin {F : Addr → Prop} {as : List Addr} {H : Hp} {x y : V} {d1 d2 d : D} {Q : VK} (L : Lens X.K H) (r1 : RepT X.K F as H x d1) (r2 : RepT X.K F as H y d2) (e : ixD d1 d2 = some d) (hz : ∀ z, d1 = .str z → z.length ≤ sizeLine) (q : ∀ v, Rep X.K F as H v d → Q v H) : rIx X.K x y H Q := by
  cases d1 with
  | lst ds =>
    cases d2 with
    | int i =>
      obtain ⟨a, us, rfl, s1, q1⟩ := r1.t_lst
      obtain ⟨v, h, rv⟩ := atI_reps q1 e
      exact .inl ⟨a, us, i, v, rfl, r2.t_int, s1, h, q v rv⟩
    | _ => cases e
  | tup ds =>
    cases d2 with
    | int i =>
      obtain ⟨a, us, rfl, s1, q1⟩ := r1.t_tup
      obtain ⟨v, h, rv⟩ := atI_reps q1 e
      exact .inr (.inl ⟨a, us, i, v, rfl, r2.t_int, SqT.of s1, h, q v rv⟩)
    | _ => cases e
  | ftup ds =>
    cases d2 with
    | int i =>
      obtain ⟨a, us, rfl, s1, q1⟩ := r1.t_ftup
      obtain ⟨v, h, rv⟩ := atI_reps q1 e
      exact .inr (.inl ⟨a, us, i, v, rfl, r2.t_int, s1.sq, h, q v rv⟩)
    | _ => cases e
  | str z =>
    cases d2 with
    | int i =>
      unfold ixD at e
      dsimp only at e
      cases k : atI z.cps.toList i with
      | none => rw [k] at e; cases e
      | some c =>
        rw [k] at e
        cases e
        exact .inr (.inr ⟨z, i, c, r1.t_str, r2.t_int, hz z rfl, k, q _ (.str _)⟩)
    | _ => cases e
  | _ => cases e
def ixD' (a b : D) : Option D := match a with
  | .str z => if z.length < LIM then ixD a b else none
  | _ => ixD a b
def E.ix (fa fb : Env → M D) : Env → M D := E.op2 ixD' fa fb
theorem de_ix (ha : DU X O Z a fa) (hb : DU X O Z b fb) (hs : PlainIx b := by exact fun _ _ => rfl) : DE X O Z (.Subscript a b pos) (E.ix fa fb) := PE.imp (pe_ix (r := fun x y H Q => Lens X.K H → rIx X.K x y H Q) (fun value slice pins s σ H o i ov iv Q I r1 r2 h => ix_seq value slice pins s σ H o i ov iv Q I r1 r2 (h (Inv.lens I))) ha hb hs) fun σ H Q ⟨g, ok, q⟩ => by
  refine two (k := fun x y => lift (ixD' x y)) (ZZ := fun _ _ => True) ok q fun d1 d2 x y as' st' H' g1 s1 r1 r2 q => ?_
  obtain ⟨d, e, q⟩ := q.lift
  have e' : ixD d1 d2 = some d ∧ ∀ z, d1 = .str z → z.length ≤ sizeLine := by
    unfold ixD' at e
    split at e
    · split at e
      · rename_i h
        exact ⟨e, fun z h' => by cases h'; exact Nat.le_of_lt (Nat.lt_trans h lim_line)⟩
      · cases e
    · rename_i h
      exact ⟨e, fun z h' => absurd h' (h z)⟩
  exact fun L => ix_fin L r1 r2 e'.1 e'.2 fun v rv => q as' v H' g1 s1 rv
/-- bounds of a slice -/
def E.oNone : Env → M (Option Int) := fun _ => ret none
def E.oSome (f : Env → M D) : Env → M (Option Int) := fun ρ => bnd (f ρ) fun d => match d with
  | .int i => ret (some i)
  | _ => bad
def cutD (xs : List D) (lo hi : Option Int) : List D := (xs.drop (HT.sIx xs.length 0 lo)).take (HT.sIx xs.length xs.length hi - HT.sIx xs.length 0 lo)
def sliceD (d : D) (lo hi : Option Int) : Option D := match d with
  | .lst xs => some (.lst (cutD xs lo hi))
  | .tup xs => some (.tup (cutD xs lo hi))
  | .ftup xs => if HT.sIx xs.length 0 lo = 0 ∧ HT.sIx xs.length xs.length hi = xs.length then some (.ftup xs) else some (.tup (cutD xs lo hi))
  | _ => none
def E.slice (f : Env → M D) (lo hi : Env → M (Option Int)) : Env → M D := fun ρ => bnd (f ρ) fun d => bnd (lo ρ) fun l => bnd (hi ρ) fun h => lift (sliceD d l h)
def tO (K : PySem.W.Frag) (O : List Nat) (Z : ZT) (f : Env → M (Option Int)) : TO := fun σ H Q => ∃ g : Gh, g.ok K O σ H ∧ Ev (f g.ρ g.st) (fun o st' => ∀ as' H', Grow g.as H as' H' → SRep K as' st' H' → Q o H') (Zc K O g.B g.H0 g.as0 Z)
abbrev DO (X : Cx) (O : List Nat) (Z : ZT) (e : Option Expr) (f : Env → M (Option Int)) : Prop := PO X e (tO X.K O Z f)
theorem PO.imp {X : Cx} {e : Option Expr} {t t' : TO} (h : PO X e t) (k : ∀ σ H Q, t' σ H Q → t σ H Q) : PO X e t' := by
  obtain ⟨h⟩ := h
  refine ⟨fun pins s σ H Q I q => ?_⟩
  exact h pins s σ H Q I (k σ H Q q)
theorem do_none : DO X O Z none E.oNone := PO.imp po_none fun σ H Q ⟨g, ok, q⟩ => q _ H (Grow.refl _ _) ok.sr
theorem do_some (h : DU X O Z e f) : DO X O Z (some e) (E.oSome f) := PO.imp (po_some h) fun σ H Q ⟨g, ok, q⟩ => ⟨g, ok, (Ev.bnd q).mono (fun d st' q as' v H' gr s r => by
  cases d with
  | int i => exact ⟨i, r.t_int, q as' H' gr s⟩
  | _ => exact q.elim) fun _ _ z => z⟩
theorem Reps.take {K : PySem.W.Frag} {F : Addr → Prop} {as : List Addr} {H : Hp} : ∀ (n : Nat) {vs : List V} {ds : List D}, Reps K F as H vs ds → Reps K F as H (vs.take n) (ds.take n)
  | 0, _, _, _ => by simp; exact .nil
  | n + 1, _, _, .nil => by simp; exact .nil
  | n + 1, _, _, .cons h r => by simp only [List.take_succ_cons]; exact .cons h (r.take n)
theorem Reps.drop {K : PySem.W.Frag} {F : Addr → Prop} {as : List Addr} {H : Hp} : ∀ (n : Nat) {vs : List V} {ds : List D}, Reps K F as H vs ds → Reps K F as H (vs.drop n) (ds.drop n)
  | 0, _, _, r => r
  | n + 1, _, _, .nil => .nil
  | n + 1, _, _, .cons h r => r.drop n
theorem Reps.cut {K : PySem.W.Frag} {F : Addr → Prop} {as : List Addr} {H : Hp} {vs : List V} {ds : List D} (lo hi : Option Int) (r : Reps K F as H vs ds) : Reps K F as H (cutV vs lo hi) (cutD ds lo hi) := by
  unfold cutV cutD
  rw [r.length]
  exact (r.drop _).take _
theorem cutD_whole {xs : List D} {lo hi : Option Int} (h : HT.sIx xs.length 0 lo = 0 ∧ HT.sIx xs.length xs.length hi = xs.length) : cutD xs lo hi = xs := by
  unfold cutD
  rw [h.1, h.2, Nat.sub_zero, List.drop_zero, List.take_length]
theorem de_slice {lo hi : Option Expr} {p2 : Pos} {fl fh : Env → M (Option Int)} (ha : DU X O Z a fa) (hl : DO X O Z lo fl) (hh : DO X O Z hi fh) : DE X O Z (.Subscript a (.Slice lo hi none p2) pos) (E.slice fa fl fh) := PE.imp (pe_slice (sl_list.or sl_tupA) ha hl hh) fun σ H Q ⟨g, ok, q⟩ => by
  refine ⟨g, ok, (Ev.bnd q).mono (fun d st1 q as1 v H1 g1 s1 r1 => ?_) fun _ _ z => z⟩
  have ok1 := ok.step g1 s1
  refine ⟨g.at as1 st1, ok1, (Ev.bnd q).mono (fun l st2 q as2 H2 g2 s2 => ?_) fun _ _ z => z⟩
  have ok2 := ok1.step g2 s2
  refine ⟨(g.at as1 st1).at as2 st2, ok2, (Ev.bnd q).mono (fun h st3 q as3 H3 g3 s3 => ?_) fun _ _ z => z⟩
  have ok3 := ok2.step g3 s3
  obtain ⟨d', e, q⟩ := q.lift
  have r3 := r1.grow s1 (g2.trans g3)
  have g13 := g1.trans (g2.trans g3)
  cases d with
  | lst xs =>
    cases e
    obtain ⟨b, us, rfl, sq, rs⟩ := r3.t_lst
    exact .inl ⟨b, us, rfl, sq, fun p np => q as3 _ _ (g13.trans (Grow.new np)) (s3.new np) (.newL (ok3.wf.tr s3) np (rs.cut l h))⟩
  | tup xs =>
    cases e
    obtain ⟨b, us, rfl, sq, rs⟩ := r3.t_tup
    refine .inr ⟨b, us, rfl, SqT.of sq, fun w => ?_, fun _ p np => q as3 _ _ (g13.trans (Grow.new np)) (s3.new np) (.newT np (rs.cut l h))⟩
    rw [rs.length] at w
    rw [cutD_whole w] at q
    exact q as3 _ H3 g13 s3 (.tup sq rs)
  | ftup xs =>
    unfold sliceD at e
    dsimp only at e
    obtain ⟨b, us, rfl, sq, rs⟩ := r3.t_ftup
    by_cases hw : HT.sIx xs.length 0 l = 0 ∧ HT.sIx xs.length xs.length h = xs.length
    · rw [if_pos hw] at e
      cases e
      refine .inr ⟨b, us, rfl, sq.sq, fun w => q as3 _ H3 g13 s3 (.ftup sq rs), fun w p np => absurd ?_ w⟩
      rw [rs.length]; exact hw
    · rw [if_neg hw] at e
      cases e
      refine .inr ⟨b, us, rfl, sq.sq, fun w => absurd ?_ hw, fun _ p np => q as3 _ _ (g13.trans (Grow.new np)) (s3.new np) (.newT np (rs.cut l h))⟩
      rw [rs.length] at w; exact w
  | _ => cases e
end
end G
end L2
end G12_
section G13_
set_option Elab.async false
set_option linter.all false
set_option maxRecDepth 100000
set_option maxHeartbeats 1000000
namespace L2
namespace G
open PySem PySem.Spec PyProof.Rows
section
variable {X : Cx} {O : List Nat} {Z : ZT} {e a b c : Expr} {es : List Expr} {f fa fb fc : Env → M D} {r : Env → M (List D)} {pos p : Pos} {x : Str}
theorem repTs1 {K : PySem.W.Frag} {F : Addr → Prop} {as : List Addr} {H : Hp} {vs : List V} {d : D} (r : RepTs K F as H vs [d]) : ∃ v, vs = [v] ∧ RepT K F as H v d := by
  cases r with
  | cons h r => cases r; exact ⟨_, rfl, h⟩
theorem repTs2 {K : PySem.W.Frag} {F : Addr → Prop} {as : List Addr} {H : Hp} {vs : List V} {d d' : D} (r : RepTs K F as H vs [d, d']) : ∃ v u, vs = [v, u] ∧ RepT K F as H v d ∧ RepT K F as H u d' := by
  cases r with
  | cons h r => cases r with
    | cons h' r => cases r; exact ⟨_, _, rfl, h, h'⟩
/-! ### isinstance -/
def D.ty : D → Option String
  | .non => some "NoneType"
  | .bl _ => some "bool"
  | .int _ => some "int"
  | .str _ => some "str"
  | .tup _ => some "tuple"
  | .ftup _ => some "tuple"
  | .lst _ => some "list"
  | .dct false _ _ => some "dict"
  | .dct true _ _ => none
  | .ref _ => none
def isInt : D → Option D
  | .bl _ => some (.bl true)
  | .int _ => some (.bl true)
  | .ref _ => none
  | .dct true _ _ => none
  | _ => some (.bl false)
def isBool : D → Option D
  | .bl _ => some (.bl true)
  | .ref _ => none
  | .dct true _ _ => none
  | _ => some (.bl false)
def isTup : D → Option D
  | .tup _ => some (.bl true)
  | .ftup _ => some (.bl true)
  | .ref _ => none
  | .dct true _ _ => none
  | _ => some (.bl false)
def isStr : D → Option D
  | .str _ => some (.bl true)
  | .ref _ => none
  | .dct true _ _ => none
  | _ => some (.bl false)
def isLst : D → Option D
  | .lst _ => some (.bl true)
  | .ref _ => none
  | .dct true _ _ => none
  | _ => some (.bl false)
def isDct : D → Option D
  | .dct false _ _ => some (.bl true)
  | .dct true _ _ => none
  | .ref _ => none
  | _ => some (.bl false)
def IsiOk (T : String) (g : D → Option D) : Prop := ∀ d b, g d = some b → ∃ k t, b = .bl k ∧ d.ty = some t ∧ kitB t T = some k
theorem isi_int : IsiOk "int" isInt := fun d b e => by
  cases d with
  | dct t ks vs => cases t <;> cases e <;> exact ⟨_, _, rfl, rfl, by decide +kernel⟩
  | _ => cases e <;> exact ⟨_, _, rfl, rfl, by decide +kernel⟩
theorem isi_bool : IsiOk "bool" isBool := fun d b e => by
  cases d with
  | dct t ks vs => cases t <;> cases e <;> exact ⟨_, _, rfl, rfl, by decide +kernel⟩
  | _ => cases e <;> exact ⟨_, _, rfl, rfl, by decide +kernel⟩
theorem isi_tuple : IsiOk "tuple" isTup := fun d b e => by
  cases d with
  | dct t ks vs => cases t <;> cases e <;> exact ⟨_, _, rfl, rfl, by decide +kernel⟩
  | _ => cases e <;> exact ⟨_, _, rfl, rfl, by decide +kernel⟩
theorem isi_str : IsiOk "str" isStr := fun d b e => by
  cases d with
  | dct t ks vs => cases t <;> cases e <;> exact ⟨_, _, rfl, rfl, by decide +kernel⟩
  | _ => cases e <;> exact ⟨_, _, rfl, rfl, by decide +kernel⟩
theorem isi_list : IsiOk "list" isLst := fun d b e => by
  cases d with
  | dct t ks vs => cases t <;> cases e <;> exact ⟨_, _, rfl, rfl, by decide +kernel⟩
  | _ => cases e <;> exact ⟨_, _, rfl, rfl, by decide +kernel⟩
theorem isi_dict : IsiOk "dict" isDct := fun d b e => by
  cases d with
  | dct t ks vs => cases t <;> cases e <;> exact ⟨_, _, rfl, rfl, by decide +kernel⟩
  | _ => cases e <;> exact ⟨_, _, rfl, rfl, by decide +kernel⟩
theorem DctO.ty {K : PySem.W.Frag} {H : Hp} {a : Addr} {o : HO} {ks : List D} {vs : List V} (h : Rd H a o) (d : DctO o false ks vs) : TyX K H (.ref a) (.type "dict") := by
  rcases d with ⟨_, _, rfl, _⟩ | ⟨_, z, _⟩
  · rcases h with h | ⟨u, h⟩
    · exact .base (.dK h)
    · exact .fDict h
  · cases z
theorem SqL.ty {K : PySem.W.Frag} {H : Hp} {a : Addr} {xs : List V} (h : SqL K H a xs) : TyX K H (.ref a) (.type "list") := by
  rcases h with (h | ⟨o, h⟩) | ⟨o, its, n, h, c, _⟩
  · exact .base (.lst h)
  · exact .base (.frz h)
  · exact .kList h c
theorem SqT.ty {K : PySem.W.Frag} {H : Hp} {a : Addr} {xs : List V} (h : SqT K H a xs) : TyX K H (.ref a) (.type "tuple") := by
  rcases h with (h | ⟨o, h⟩) | ⟨o, its, n, h, c, _⟩
  · exact .base (.tup h)
  · exact .fTuple h
  · exact .kTuple h c
theorem RepT.ty {K : PySem.W.Frag} {F : Addr → Prop} {as : List Addr} {H : Hp} {v : V} {d : D} {t : String} (r : RepT K F as H v d) (e : d.ty = some t) : TyX K H v (.type t) := by
  cases d with
  | non => cases e; rw [r.t_non]; exact .base .non
  | bl b => cases e; rw [r.t_bl]; exact .base (.bl b)
  | int i => cases e; rw [r.t_int]; exact .base (.int i)
  | str z => cases e; rw [r.t_str]; exact .base (.str z)
  | tup ds => cases e; obtain ⟨a, xs, rfl, s, _⟩ := r.t_tup; exact SqT.ty (SqT.of s)
  | ftup ds => cases e; obtain ⟨a, xs, rfl, s, _⟩ := r.t_ftup; exact SqT.ty s.sq
  | lst ds => cases e; obtain ⟨a, xs, rfl, s, _⟩ := r.t_lst; exact SqL.ty s
  | dct t ks ds =>
    cases t with
    | false => cases e; obtain ⟨a, o, xs, rfl, s, d, _⟩ := r.t_dct; exact DctO.ty s d
    | true => cases e
  | ref n => cases e
theorem de_isi {T : String} {y : Str} {p2 p3 : Pos} {g : D → Option D} (hT : IsiOk T g) (hg : Gl X "isinstance") (hm : X.mg "isinstance" = none) (hgy : Gl X y) (hmy : X.mg y = none) (hy : bootBuiltins y = some (.type T)) (he : DU X O Z e f)
    (hn : y ≠ "__name__" := by decide) (hd : (y == ("__debug__" : Str)) = false := by decide)
    (hs : starEach [e, .Name y p3] X.env = (false, eval e X.env) :: starEach [.Name y p3] X.env := by rfl) (hs2 : starEach [.Name y p3] X.env = (false, eval (.Name y p3) X.env) :: starEach [] X.env := by rfl) (hpl : (backTo pos (starEach [.Name y p3] X.env)).any (·.1) = false := by rfl) :
    DE X O Z (.Call (.Name "isinstance" p2) [e, .Name y p3] [] pos) (E.op1 g f) :=
  PE.imp (pe_callB call_isi hg hm (by decide +kernel : bootBuiltins "isinstance" = some (.builtin "isinstance")) (pa_cons he (pa_cons (pe_bltn (v := .ty T) hgy hmy hy rfl hn hd) pa_nil hs2) hs) (by decide) (by decide) hs hpl) fun σ H Q ⟨g, ok, q⟩ => by
    refine ⟨g, ok, (Ev.bnd q).mono (fun d st' q as' v H' gr s r => ?_) fun _ _ z => z⟩
    obtain ⟨b, e, q⟩ := q.lift
    obtain ⟨k, t, rfl, et, ek⟩ := hT d b e
    exact ⟨v, .ty T, _, _, k, rfl, .ty T, r.ty et, kit_ty ek, q as' _ H' gr s (.bl k)⟩
theorem call_lenR : CallR X (.builtin "len") (fun xs H Q => ∃ a kvs, xs = [V.ref a] ∧ Rd H a (.dK kvs) ∧ Q (.int kvs.length) H) := by
  intro pins s σ H xs us Q I r h
  obtain ⟨a, kvs, rfl, ha, q⟩ := h
  obtain ⟨u, rfl, ru⟩ := vals1 r
  cases ru
  exact d_len I ha fun t s' I' => ⟨.int kvs.length, H, I', ⟨t, rfl⟩, q⟩
theorem call_lenRT : CallR X (.builtin "len") (fun xs H Q => ∃ (p : Addr) (kvs : List (List Key × V)), xs = [.ref p] ∧ Rd H p (.dT kvs) ∧ Q (.int ((kvs.length : Nat) : Int)) H) := by
  intro pins s σ H xs us Q I r h
  obtain ⟨p, kvs, rfl, hp, q⟩ := h
  obtain ⟨u, rfl, rx⟩ := vals1 r
  obtain rfl : u = .ref p := rx
  obtain ⟨z, hd, ys, rel, dd⟩ := dt_rd I.hok hp
  have hl : kvs.length = ys.length := Paired.length rel
  refine call_len_dictH hd dd (by rw [← hl]; rw [sizeLine_eq] at z; omega) ?_
  rw [← hl]
  exact ⟨.int ((kvs.length : Nat) : Int), H, I.tok _, ⟨_, rfl⟩, q⟩
/-! ### len, abs, int -/
def lenD : List D → Option D
  | [.lst xs] => some (.int xs.length)
  | [.tup xs] => some (.int xs.length)
  | [.ftup xs] => some (.int xs.length)
  | [.str z] => if z.length < LIM then some (.int z.length) else none
  | [.dct _ ks _] => some (.int ks.length)
  | _ => none
theorem b_len : Bl X (.builtin "len") lenD := ⟨_, call_len.or (call_lenR.or call_lenRT), fun F as H xs ds d Q tr r e q => by
  unfold lenD at e
  split at e
  · cases e
    obtain ⟨v, rfl, rv⟩ := repTs1 r
    obtain ⟨a, us, rfl, s, rs⟩ := rv.t_lst
    exact .inl ⟨_, _, rfl, .inl ⟨us, s, rfl⟩, by rw [rs.length]; exact q _ H (Same.refl _) (.int _)⟩
  · cases e
    obtain ⟨v, rfl, rv⟩ := repTs1 r
    obtain ⟨a, us, rfl, s, rs⟩ := rv.t_tup
    exact .inl ⟨_, _, rfl, .inr ⟨us, SqT.of s, rfl⟩, by rw [rs.length]; exact q _ H (Same.refl _) (.int _)⟩
  · cases e
    obtain ⟨v, rfl, rv⟩ := repTs1 r
    obtain ⟨a, us, rfl, s, rs⟩ := rv.t_ftup
    exact .inl ⟨_, _, rfl, .inr ⟨us, s.sq, rfl⟩, by rw [rs.length]; exact q _ H (Same.refl _) (.int _)⟩
  · split at e
    · rename_i h
      cases e
      obtain ⟨v, rfl, rv⟩ := repTs1 r
      rw [rv.t_str]
      exact .inl ⟨_, _, rfl, ⟨Nat.le_of_lt (Nat.lt_trans h lim_line), rfl⟩, q _ H (Same.refl _) (.int _)⟩
    · cases e
  · cases e
    obtain ⟨v, rfl, rv⟩ := repTs1 r
    obtain ⟨a, o, us, rfl, s, dd, rs⟩ := rv.t_dct
    rcases dd with ⟨kvs, rfl, rfl, rfl, rfl⟩ | ⟨kvs, rfl, rfl, rfl, rfl⟩
    · refine .inr (.inl ⟨a, kvs, rfl, s, ?_⟩)
      rw [List.length_map] at q
      exact q _ H (Same.refl _) (.int _)
    · refine .inr (.inr ⟨a, kvs, rfl, s, ?_⟩)
      rw [List.length_map] at q
      exact q _ H (Same.refl _) (.int _)
  · cases e⟩
def absD : List D → Option D
  | [.int i] => some (.int (if i < 0 then -i else i))
  | _ => none
theorem b_abs : Bl X (.builtin "abs") absD := ⟨_, call_abs, fun F as H xs ds d Q tr r e q => by
  unfold absD at e
  split at e
  · cases e
    obtain ⟨v, rfl, rv⟩ := repTs1 r
    rw [rv.t_int]
    exact ⟨_, rfl, q _ H (Same.refl _) (.int _)⟩
  · cases e⟩
def intD : List D → Option D
  | [.int i] => some (.int i)
  | [.bl k] => some (.int (if k then 1 else 0))
  | _ => none
theorem b_int : Bl X (.type "int") intD := ⟨_, call_int1, fun F as H xs ds d Q tr r e q => by
  unfold intD at e
  split at e
  · cases e
    obtain ⟨v, rfl, rv⟩ := repTs1 r
    rw [rv.t_int]
    exact .inl ⟨_, rfl, q _ H (Same.refl _) (.int _)⟩
  · cases e
    obtain ⟨v, rfl, rv⟩ := repTs1 r
    rw [rv.t_bl]
    exact .inr ⟨_, rfl, q _ H (Same.refl _) (.int _)⟩
  · cases e⟩
/-! ### all, any, sum, min, max -/
def bools : List D → Option (List Bool)
  | [] => some []
  | .bl b :: r => (bools r).map (b :: ·)
  | _ :: _ => none
theorem Reps.bools {K : PySem.W.Frag} {F : Addr → Prop} {as : List Addr} {H : Hp} : ∀ {vs : List V} {ds : List D} {bs : List Bool}, Reps K F as H vs ds → G.bools ds = some bs → vs = bs.map V.bl
  | _, _, _, .nil, e => by cases e; rfl
  | _, _, _, .cons (d := d) h r, e => by
    cases d with
    | bl b =>
      unfold G.bools at e
      rw [Option.map_eq_some_iff] at e
      obtain ⟨bs, e, rfl⟩ := e
      cases h
      rw [r.bools e]
      rfl
    | _ => cases e
def allD : List D → Option D
  | [.lst ds] => (bools ds).map fun bs => .bl (bs.all id)
  | _ => none
def anyD : List D → Option D
  | [.lst ds] => (bools ds).map fun bs => .bl (bs.any id)
  | _ => none
theorem b_all (hc : X.calm = true) : Bl X (.builtin "all") allD := ⟨_, cr_all hc, fun F as H xs ds d Q tr r e q => by
  unfold allD at e
  split at e
  · rw [Option.map_eq_some_iff] at e
    obtain ⟨bs, e, rfl⟩ := e
    obtain ⟨v, rfl, rv⟩ := repTs1 r
    obtain ⟨a, us, rfl, s, rs⟩ := rv.t_lst
    rw [rs.bools e] at s
    exact ⟨a, bs, rfl, s, q _ H (Same.refl _) (.bl _)⟩
  · cases e⟩
theorem b_any (hc : X.calm = true) : Bl X (.builtin "any") anyD := ⟨_, cr_any hc, fun F as H xs ds d Q tr r e q => by
  unfold anyD at e
  split at e
  · rw [Option.map_eq_some_iff] at e
    obtain ⟨bs, e, rfl⟩ := e
    obtain ⟨v, rfl, rv⟩ := repTs1 r
    obtain ⟨a, us, rfl, s, rs⟩ := rv.t_lst
    rw [rs.bools e] at s
    exact ⟨a, bs, rfl, s, q _ H (Same.refl _) (.bl _)⟩
  · cases e⟩
def intsD : List D → Option (List Int)
  | [] => some []
  | .int b :: r => (intsD r).map (b :: ·)
  | _ :: _ => none
theorem Reps.toInts {K : PySem.W.Frag} {F : Addr → Prop} {as : List Addr} {H : Hp} : ∀ {vs : List V} {ds : List D} {bs : List Int}, Reps K F as H vs ds → G.intsD ds = some bs → vs = bs.map V.int
  | _, _, _, .nil, e => by cases e; rfl
  | _, _, _, .cons (d := d) h r, e => by
    cases d with
    | int b =>
      unfold G.intsD at e
      rw [Option.map_eq_some_iff] at e
      obtain ⟨bs, e, rfl⟩ := e
      cases h
      rw [r.toInts e]
      rfl
    | _ => cases e
def sumD : List D → Option D
  | [.lst ds] => (intsD ds).map fun ns => .int ns.sum
  | _ => none
theorem b_sum (hc : X.calm = true) : Bl X (.builtin "sum") sumD := ⟨_, cr_sum hc, fun F as H xs ds d Q tr r e q => by
  unfold sumD at e
  split at e
  · rw [Option.map_eq_some_iff] at e
    obtain ⟨bs, e, rfl⟩ := e
    obtain ⟨v, rfl, rv⟩ := repTs1 r
    obtain ⟨a, us, rfl, s, rs⟩ := rv.t_lst
    rw [rs.toInts e] at s
    exact ⟨a, bs, rfl, s, q _ H (Same.refl _) (.int _)⟩
  · cases e⟩
def maxL : List Int → Option Int
  | [] => none
  | x :: r => some (r.foldl (fun m y => if m < y then y else m) x)
def minL : List Int → Option Int
  | [] => none
  | x :: r => some (r.foldl (fun m y => if y < m then y else m) x)
theorem maxL_spec : ∀ (r : List Int) (x : Int), (r.foldl (fun m y => if m < y then y else m) x) ∈ x :: r ∧ ∀ y ∈ x :: r, y ≤ r.foldl (fun m y => if m < y then y else m) x
  | [], x => ⟨by simp, by simp⟩
  | z :: r, x => by
    simp only [List.foldl_cons]
    by_cases h : x < z
    · rw [if_pos h]
      have q := maxL_spec r z
      refine ⟨List.mem_cons_of_mem _ q.1, fun y hy => ?_⟩
      rcases List.mem_cons.mp hy with e | hy
      · have := q.2 z (List.mem_cons_self ..); omega
      · exact q.2 y hy
    · rw [if_neg h]
      have q := maxL_spec r x
      refine ⟨?_, fun y hy => ?_⟩
      · rcases List.mem_cons.mp q.1 with e | m
        · rw [e]; exact List.mem_cons_self ..
        · exact List.mem_cons_of_mem _ (List.mem_cons_of_mem _ m)
      · rcases List.mem_cons.mp hy with e | hy
        · rw [e]; exact q.2 x (List.mem_cons_self ..)
        · rcases List.mem_cons.mp hy with e | hy
          · have := q.2 x (List.mem_cons_self ..); omega
          · exact q.2 y (List.mem_cons_of_mem _ hy)
theorem minL_spec : ∀ (r : List Int) (x : Int), (r.foldl (fun m y => if y < m then y else m) x) ∈ x :: r ∧ ∀ y ∈ x :: r, r.foldl (fun m y => if y < m then y else m) x ≤ y
  | [], x => ⟨by simp, by simp⟩
  | z :: r, x => by
    simp only [List.foldl_cons]
    by_cases h : z < x
    · rw [if_pos h]
      have q := minL_spec r z
      refine ⟨List.mem_cons_of_mem _ q.1, fun y hy => ?_⟩
      rcases List.mem_cons.mp hy with e | hy
      · have := q.2 z (List.mem_cons_self ..); omega
      · exact q.2 y hy
    · rw [if_neg h]
      have q := minL_spec r x
      refine ⟨?_, fun y hy => ?_⟩
      · rcases List.mem_cons.mp q.1 with e | m
        · rw [e]; exact List.mem_cons_self ..
        · exact List.mem_cons_of_mem _ (List.mem_cons_of_mem _ m)
      · rcases List.mem_cons.mp hy with e | hy
        · rw [e]; exact q.2 x (List.mem_cons_self ..)
        · rcases List.mem_cons.mp hy with e | hy
          · have := q.2 x (List.mem_cons_self ..); omega
          · exact q.2 y (List.mem_cons_of_mem _ hy)
def maxD : List D → Option D
  | [.lst ds] => ((intsD ds).bind maxL).map .int
  | [.int i, .int j] => some (.int (if j > i then j else i))
  | _ => none
def minD : List D → Option D
  | [.lst ds] => ((intsD ds).bind minL).map .int
  | [.int i, .int j] => some (.int (if j < i then j else i))
  | _ => none
theorem b_max (hc : X.calm = true) : Bl X (.builtin "max") maxD := ⟨_, (cr_max hc).or (call_max2 hc), fun F as H xs ds d Q tr r e q => by
  unfold maxD at e
  split at e
  · rw [Option.map_eq_some_iff] at e
    obtain ⟨m, e, rfl⟩ := e
    rw [Option.bind_eq_some_iff] at e
    obtain ⟨ns, e, em⟩ := e
    obtain ⟨v, rfl, rv⟩ := repTs1 r
    obtain ⟨a, us, rfl, s, rs⟩ := rv.t_lst
    rw [rs.toInts e] at s
    cases ns with
    | nil => cases em
    | cons x r =>
      cases em
      refine .inl ⟨a, _, rfl, s, Nat.succ_pos _, fun m hm hl => ?_⟩
      have sp := maxL_spec r x
      have : m = r.foldl (fun m y => if m < y then y else m) x := Int.le_antisymm (sp.2 m hm) (hl _ sp.1)
      rw [this]
      exact q _ H (Same.refl _) (.int _)
  · cases e
    obtain ⟨v, u, rfl, r1, r2⟩ := repTs2 r
    rw [r1.t_int, r2.t_int]
    exact .inr ⟨_, _, rfl, q _ H (Same.refl _) (.int _)⟩
  · cases e⟩
theorem b_min (hc : X.calm = true) : Bl X (.builtin "min") minD := ⟨_, (cr_min hc).or (call_min2 hc), fun F as H xs ds d Q tr r e q => by
  unfold minD at e
  split at e
  · rw [Option.map_eq_some_iff] at e
    obtain ⟨m, e, rfl⟩ := e
    rw [Option.bind_eq_some_iff] at e
    obtain ⟨ns, e, em⟩ := e
    obtain ⟨v, rfl, rv⟩ := repTs1 r
    obtain ⟨a, us, rfl, s, rs⟩ := rv.t_lst
    rw [rs.toInts e] at s
    cases ns with
    | nil => cases em
    | cons x r =>
      cases em
      refine .inl ⟨a, _, rfl, s, Nat.succ_pos _, fun m hm hl => ?_⟩
      have sp := minL_spec r x
      have : m = r.foldl (fun m y => if y < m then y else m) x := Int.le_antisymm (hl _ sp.1) (sp.2 m hm)
      rw [this]
      exact q _ H (Same.refl _) (.int _)
  · cases e
    obtain ⟨v, u, rfl, r1, r2⟩ := repTs2 r
    rw [r1.t_int, r2.t_int]
    exact .inr ⟨_, _, rfl, q _ H (Same.refl _) (.int _)⟩
  · cases e⟩
/-! ### tuple(), list() of sequences -/
def tupleD : List D → Option D
  | [.lst ds] => some (.tup ds)
  | [.tup ds] => some (.tup ds)
  | _ => none
def listD : List D → Option D
  | [.lst ds] => some (.lst ds)
  | [.tup ds] => some (.lst ds)
  | _ => none
theorem b_tuple : Bl X (.type "tuple") tupleD := ⟨_, call_tuple_of, fun F as H xs ds d Q tr r e q => by
  unfold tupleD at e
  split at e
  · cases e
    obtain ⟨v, rfl, rv⟩ := repTs1 r
    obtain ⟨a, us, rfl, s, rs⟩ := rv.t_lst
    exact ⟨a, us, rfl, .inl ⟨s, fun p np => q _ _ (same_new np) (.newT np rs)⟩⟩
  · cases e
    obtain ⟨v, rfl, rv⟩ := repTs1 r
    obtain ⟨a, us, rfl, s, rs⟩ := rv.t_tup
    exact ⟨a, us, rfl, .inr ⟨SqT.of s, q _ H (Same.refl _) (.tup s rs)⟩⟩
  · cases e⟩
theorem Own.newL {K : PySem.W.Frag} {F : Addr → Prop} {as : List Addr} {H : Hp} {vs : List V} {ds : List D} {p : Addr} (n : H p = none) (r : Reps K F as H vs ds) : Own K (fun a => F a ∨ V.ref p = .ref a) as (upd H p (.lst vs)) (.ref p) (.lst ds) :=
  .lst upd_same ((r.weak (F' := fun a => F a ∨ V.ref p = .ref a) fun a o h z => by
    rcases z with z | z
    · exact z
    · cases z; rw [n] at h; cases h).new n)
theorem b_list : BlN X (.type "list") listD := ⟨_, call_list_of, fun F as H xs ds d Q tr r e q => by
  unfold listD at e
  split at e
  · cases e
    obtain ⟨v, rfl, rv⟩ := repTs1 r
    obtain ⟨a, us, rfl, s, rs⟩ := rv.t_lst
    exact ⟨a, us, rfl, .inl s, fun p np => q _ _ (same_new np) (Own.newL np rs) fun p' z => by cases z; exact np⟩
  · cases e
    obtain ⟨v, rfl, rv⟩ := repTs1 r
    obtain ⟨a, us, rfl, s, rs⟩ := rv.t_tup
    exact ⟨a, us, rfl, .inr (SqT.of s), fun p np => q _ _ (same_new np) (Own.newL np rs) fun p' z => by cases z; exact np⟩
  · cases e⟩
end
end G
end L2
end G13_
section G14_
set_option Elab.async false
set_option linter.all false
set_option maxRecDepth 100000
set_option maxHeartbeats 4000000
namespace PySem
open PyProof.Rows
theorem meets_enumerate_newB1 {v : Value} {o : Obj} {H : Heap → Prop} (B : Begins v o H) :
    Meets (Builtin.«enumerate.__new__» ⟨[.type "enumerate", v], []⟩) (fun _ R s => H s.heap ∧
      R (.ok (.ret (.ref (s.heap.push o).objs.size))) { s with heap := (s.heap.push o).push { cls := .type "enumerate", data := .fields #[.none, .bool false, .ref s.heap.objs.size, rawInt 0, .none, .none] } }) :=
  .of_wp fun prog w A R s h => by
    obtain ⟨hp, g, d, tk, os⟩ := s; obtain ⟨h1, h⟩ := h
    have hsub := sub_enumerate
    have q1 : ∀ {A' : Around} {E : Value → Shared → Prop} {Q : Value → Shared → Prop}, Q (.ref hp.objs.size) ⟨hp.push o, g, d, tk, os⟩ → wpAny (model prog w) A' (pyIter v) Q E ⟨hp, g, d, tk, os⟩ :=
      fun q => B.iter prog w _ _ ⟨hp, g, d, tk, os⟩ _ h1 q
    wp_walk using q1
    refine wpAny_stack_any fun st => wpAny_pure ?_
    split
    · rename_i c _ _ _ _ _
      cases (c == Value.type "enumerate")
      · wp_walk using q1
        exact ⟨_, rfl, h⟩
      · wp_walk using q1
        exact ⟨_, rfl, h⟩
    · wp_walk using q1
      exact ⟨_, rfl, h⟩
theorem enum_begins1 {prog : Program} {w : World} {A : Around} {E : Value → Shared → Prop} {s : Shared} {v : Value} {o : Obj} {H : Heap → Prop} {Q : Value → Shared → Prop} (B : Begins v o H) (h1 : H s.heap)
    (h : ∀ h', IsEnum h' (s.heap.objs.size + 1) s.heap.objs.size 0 .none → h'.get? s.heap.objs.size = some o → h'.objs.size = s.heap.objs.size + 2 →
      (∀ b o, s.heap.get? b = some o → h'.get? b = some o) → Q (.ref (s.heap.objs.size + 1)) { s with heap := h' }) :
    wpAny (model prog w) A (call (.type "enumerate") [v]) Q E s := by
  refine callType_new F.called_enumerate (by decide) (F.typeCall_enumerate_1 _) (F.newCall_enumerate_1 _) (fun obj => F.args_object_init_2 obj _) F.entry_enumerate_new
    (meets_enumerate_newB1 B) ⟨h1, ?_⟩
  have hz : (s.heap.push o).objs.size = s.heap.objs.size + 1 := Heap.size_push ..
  show _ ∧ _
  rw [hz]
  have he : IsEnum ((s.heap.push o).push { cls := .type "enumerate", data := .fields #[.none, .bool false, .ref s.heap.objs.size, rawInt 0, .none, .none] }) (s.heap.objs.size + 1) s.heap.objs.size 0 .none := by
    have := Heap.get?_push_size (s.heap.push o) (o := { cls := .type "enumerate", data := .fields #[.none, .bool false, .ref s.heap.objs.size, rawInt 0, .none, .none] }) rfl
    rw [hz] at this; exact this
  exact ⟨⟨_, he, rfl⟩, h _ he (Heap.get?_push_of_some _ (Heap.get?_push_size _ B.free)) (by rw [Heap.size_push, hz]) fun b o x => Heap.get?_push_of_some _ (Heap.get?_push_of_some _ x)⟩
end PySem
namespace L2
open PySem PySem.Spec PyProof.Rows
/-! ### enumerate(tuple) -/
def IteT (K : PySem.W.Frag) (a : Addr) : It :=
  ⟨fun i H => ∃ (xs : List V) (x : V), SqT K H a xs ∧ xs[i]? = some x, fun i H v H' => ∃ T x, v = .ref T ∧ H T = none ∧ H' = upd H T (.tup [.int (i : Nat), x]) ∧ ∀ xs, SqT K H a xs → xs[i]? = some x, fun i H => ∃ xs : List V, SqT K H a xs ∧ xs.length = i⟩
theorem turn_enumT {P : Program} {w : World} {K : PySem.W.Frag} {elts : List Expr} {kk : Nat} {tpos : Pos} (a e it : Addr) (hae : a ≠ e) (hai : a ≠ it) :
    Turn P w K (.Tuple elts kk tpos) (IteT K a) [e, it] e (fun i h => (∃ old, IsEnum h e it ((i : Nat) : Int) old) ∧ h.IsTupleIter it a i ∧ e ≠ it) where
  mem := by simp
  obj := fun i h st b hb => by
    obtain ⟨⟨old, he⟩, ⟨o, ho, hc, hd⟩, _⟩ := st
    have e' : b = e ∨ b = it := by simpa using hb
    rcases e' with z | z
    · rw [z]; exact ⟨_, he, fun v q => nomatch q⟩
    · rw [z]; exact ⟨o, ho, fun v q => by rw [hd] at q; cases q⟩
  keep := fun i h h' st k => let ⟨⟨old, he⟩, hi, hne⟩ := st; ⟨⟨old, k e (by simp) _ he⟩, hi.at fun o q => k it (by simp) o q, hne⟩
  item := by
    intro X hP hw hK hc i pins s σ H E I hf st hg
    subst hP hw hK
    obtain ⟨⟨old, he⟩, hit, hne⟩ := st
    obtain ⟨xs, x, hq, hx⟩ := hg
    obtain ⟨its, rv, p, hz⟩ := I.tuple hq
    obtain ⟨u, hu, ru⟩ := rv.get hx
    have hel : e < s.heap.objs.size := Heap.lt_size he
    have hil : it < s.heap.objs.size := by obtain ⟨_, q, _⟩ := hit; exact Heap.lt_size q
    have hil' : i < its.toArray.size := by
      have := (List.getElem?_eq_some_iff.mp hu).1
      simpa using this
    have hh : X.A.in1.handled = none := I.ok.hd hc
    refine wpAny_pyNext_enum_itemD (Draws.tuple (prog := X.prog) (w := X.w) (A := X.A.in1) hh it a hai its.toArray) he ⟨hit, p⟩ hil' hne (by simp [hne, Ne.symm hae]) fun x' h' tk hx' ho hit' hT hsz hk => ?_
    have ex : x' = u := by
      have h1 : its.toArray[i]? = some x' := hx'
      have h2 : its.toArray[i]? = some u := by simpa using hu
      rw [h2] at h1
      exact (Option.some.inj h1).symm
    subst ex
    refine ⟨_, rfl, wpAny_letOwnedTupleGo_enum (s := { s with heap := h', toks := tk + 1 }) ho fun h'' he' sb => ?_⟩
    have hT2 : h''.get? s.heap.objs.size = some { cls := .type "tuple", data := .seq #[.int i tk, x'] } := (sb.2 _ (Nat.ne_of_gt hel)).trans hT
    have new : ObjOk X.prog X.w (upd H s.heap.objs.size (.tup [.int (i : Nat), x])) h'' s.heap.objs.size (.tup [.int (i : Nat), x]) :=
      ⟨by show 2 ≤ sizeLine; decide, [.int i tk, x'], .cons ⟨_, rfl⟩ (.cons ru .nil), ⟨_, hT2, rfl, _, rfl⟩⟩
    have I1 : Inv X pins σ (upd H s.heap.objs.size (.tup [.int (i : Nat), x])) { s with heap := h'', toks := tk + 1 } :=
      I.turnedNew (ch := [e, it]) (fun b ob hb q => (sb.2 b (fun z => hb (by simp [z]))).trans (hk b ob (fun z => hb (by simp [z])) (fun z => hb (by simp [z])) q)) hf (Nat.le_refl _) new
    refine ⟨.ref s.heap.objs.size, _, I1, rfl, ⟨_, x, rfl, I.hok.fresh (Nat.le_refl _), rfl, fun ys hy => by rw [I.tuple_inj hy hq]; exact hx⟩, ⟨⟨x', ?_⟩, hit'.1.at fun o q => (sb.2 it (Ne.symm hne)).trans q, hne⟩, fun b hb => ?_⟩
    · have e1 : ((i + 1 : Nat) : Int) = (i : Int) + 1 := by omega
      rw [e1]; exact he'
    · have hb' : b < s.heap.objs.size := by
        have e' : b = e ∨ b = it := by simpa using hb
        rcases e' with z | z
        · rw [z]; exact hel
        · rw [z]; exact hil
      rw [upd_ne (Nat.ne_of_lt hb')]
      exact (hf b hb).1
  done := by
    intro X hP hw hK hc i pins s σ H E I hf st hg
    subst hP hw hK
    obtain ⟨⟨old, he⟩, hit, hne⟩ := st
    obtain ⟨xs, hq, hx⟩ := hg
    obtain ⟨its, rv, p, hz⟩ := I.tuple hq
    obtain ⟨f0, f1, f2, f3, f4, f5⟩ := hf it (by simp)
    have hl := rv.length
    have hh : X.A.in1.handled = none := I.ok.hd hc
    have en : its.toArray.size = i := by rw [List.size_toArray]; omega
    refine wpAny_pyNext_enum_endD (Draws.tuple (prog := X.prog) (w := X.w) (A := X.A.in1) hh it a hai its.toArray) he (by rw [en]; exact ⟨hit, p⟩) fun h' eb => ⟨rfl, I.turned (t' := s.toks) (fun b o hb q => eb b o hb q) f0 f1 f3 f4 f5⟩
  self := fun A i s Q E st h => let ⟨⟨_, he⟩, _⟩ := st; wpAny_pyIter_enum he h
/-- enumerate(list or tuple) -/
def iEnumA (K : PySem.W.Frag) (ta : TA) : TI := fun σ H R => ta σ H fun vs H1 => ∃ a xs, vs = [.ref a] ∧ ((SqL K H1 a xs ∧ R (Ite K a) H1) ∨ (SqT K H1 a xs ∧ R (IteT K a) H1))
theorem pi_enumA {X : Cx} {e : Expr} {ta : TA} {p pos tpos : Pos} {elts : List Expr} {kk : Nat} (hg : Gl X "enumerate") (hm : X.mg "enumerate" = none) (ha : PA X [e] ta) (hs : starEach [e] X.env = [(false, eval e X.env)] := by rfl) :
    PI X (.Tuple elts kk tpos) (.Call (.Name "enumerate" p) [e] [] pos) (iEnumA X.K ta) := by
  refine ⟨fun pins s σ H R I h => ?_⟩
  refine Call_ (ld_blt I hg hm boot_enumerate (PyProof.Rows.callWith_type1 (thn (ha.run pos pins s σ H _ I h) fun us s1 ⟨vs, H1, I1, r1, q1⟩ => ?_) hs rfl))
  obtain ⟨a, xs, ex, q1⟩ := q1
  subst ex
  cases r1 with
  | cons r rr =>
    cases rr
    cases r
    rcases q1 with ⟨hq, q⟩ | ⟨hq, q⟩
    · obtain ⟨its, rv, p', hz⟩ := I1.list hq
      refine call_enumerate_list p'.isList fun h' he hit hsz hk => wpAny_pyIter_enum he ?_
      have I2 : Inv X pins σ H1 { s1 with heap := h' } := I1.kept (t' := s1.toks) hk
      refine ⟨s1.heap.objs.size + 1, [s1.heap.objs.size + 1, s1.heap.objs.size], _, _, H1, rfl, I2, turn_enum a (s1.heap.objs.size + 1) s1.heap.objs.size, ⟨⟨.none, he⟩, hit, Nat.succ_ne_self _⟩, fun b hb => ?_, q⟩
      have e' : b = s1.heap.objs.size + 1 ∨ b = s1.heap.objs.size := by simpa using hb
      have hle : s1.heap.objs.size ≤ b := by
        rcases e' with z | z
        · rw [z]; exact Nat.le_add_right _ _
        · rw [z]; exact Nat.le_refl _
      exact I1.fpOk hle (I1.hok.fresh hle)
    · obtain ⟨its, rv, p', hz⟩ := I1.tuple hq
      have hlt : a < s1.heap.objs.size := p'.lt
      refine enum_begins1 (begins_tuple a its.toArray) p' fun h' he hit hsz hk => wpAny_pyIter_enum he ?_
      have I2 : Inv X pins σ H1 { s1 with heap := h' } := I1.kept (t' := s1.toks) hk
      refine ⟨s1.heap.objs.size + 1, [s1.heap.objs.size + 1, s1.heap.objs.size], _, _, H1, rfl, I2, turn_enumT a (s1.heap.objs.size + 1) s1.heap.objs.size (Nat.ne_of_lt (Nat.lt_succ_of_lt hlt)) (Nat.ne_of_lt hlt), ⟨⟨.none, he⟩, ⟨_, hit, rfl, rfl⟩, Nat.succ_ne_self _⟩, fun b hb => ?_, q⟩
      have e' : b = s1.heap.objs.size + 1 ∨ b = s1.heap.objs.size := by simpa using hb
      have hle : s1.heap.objs.size ≤ b := by
        rcases e' with z | z
        · rw [z]; exact Nat.le_add_right _ _
        · rw [z]; exact Nat.le_refl _
      exact I1.fpOk hle (I1.hok.fresh hle)
namespace G
/-! ### enumerate, zip -/
def enumD (k : Int) : List D → List D
  | [] => []
  | d :: ds => .tup [.int k, d] :: enumD (k + 1) ds
theorem enumD_length (k : Int) (ds : List D) : (enumD k ds).length = ds.length := by
  induction ds generalizing k with
  | nil => rfl
  | cons d ds ih => simp [enumD, ih]
theorem enumD_get {ds : List D} {k : Int} {i : Nat} {d : D} (e : (enumD k ds)[i]? = some d) : ∃ d', ds[i]? = some d' ∧ d = .tup [.int (k + i), d'] := by
  induction ds generalizing k i with
  | nil => simp [enumD] at e
  | cons a ds ih =>
    unfold enumD at e
    cases i with
    | zero => simp at e; exact ⟨a, rfl, by rw [← e]; simp⟩
    | succ i =>
      obtain ⟨d', h, q⟩ := ih (k := k + 1) (i := i) (by simpa using e)
      refine ⟨d', by simpa using h, ?_⟩
      rw [q]
      have : k + 1 + (i : Int) = k + ((i + 1 : Nat) : Int) := by omega
      rw [this]
def zipD : List D → List D → List D
  | a :: as, b :: bs => .tup [a, b] :: zipD as bs
  | _, _ => []
theorem zipD_length : ∀ (a b : List D), (zipD a b).length = min a.length b.length
  | [], _ => by simp [zipD]
  | _ :: _, [] => by simp [zipD]
  | a :: as, b :: bs => by simp [zipD, zipD_length as bs]
theorem zipD_get : ∀ {a b : List D} {i : Nat} {d : D}, (zipD a b)[i]? = some d → ∃ x y, a[i]? = some x ∧ b[i]? = some y ∧ d = .tup [x, y]
  | [], _, _, _, e => by simp [zipD] at e
  | _ :: _, [], _, _, e => by simp [zipD] at e
  | a :: as, b :: bs, 0, d, e => by simp [zipD] at e; exact ⟨a, b, rfl, rfl, e.symm⟩
  | a :: as, b :: bs, i + 1, d, e => by
    obtain ⟨x, y, h1, h2, h3⟩ := zipD_get (a := as) (b := bs) (i := i) (d := d) (by simpa [zipD] using e)
    exact ⟨x, y, by simpa using h1, by simpa using h2, h3⟩
def enm (xs : List D) : Option (List D) := match xs with
  | [d] => (seqD d).map (enumD 0)
  | _ => none
def zp (xs : List D) : Option (List D) := match xs with
  | [.lst a, .lst b] => some (zipD a b)
  | [.tup a, .tup b] => some (zipD a b)
  | _ => none
def I.on (h : List D → Option (List D)) (r : Env → M (List D)) : Env → M (List D) := fun ρ => bnd (r ρ) fun xs => lift (h xs)
section
variable {X : Cx} {O : List Nat} {Z : ZT} {e a b c : Expr} {r : Env → M (List D)} {pos p tpos : Pos} {elts : List Expr} {kk : Nat}
theorem walk_enumL {K : PySem.W.Frag} {F : Addr → Prop} {as : List Addr} {H : Hp} {a : Addr} {xs : List V} {ds : List D} (hl : xs.length ≤ sizeLine) (h : LstAt K F H a xs) (r : Reps K F as H xs ds) : Walk K F as H (Ite K a) (enumD 0 ds) where
  len := by rw [enumD_length, ← r.length]; exact hl
  go := fun i H1 st hi => by
    rw [enumD_length] at hi
    exact ⟨xs, xs[i]'(by rw [r.length]; exact hi), (h.frame st.1).sq, by simp⟩
  yl := fun i H1 x H2 d F1 as1 st p k y e => by
    obtain ⟨T, u, rfl, nT, rfl, y⟩ := y
    have y := y xs (h.frame st.1).sq
    obtain ⟨d', e', rv⟩ := r.get y
    obtain ⟨d2, e2, rfl⟩ := enumD_get e
    rw [e'] at e2; cases e2
    rw [Int.zero_add]
    exact ⟨same_new nT, .newT nT (.cons (.int _) (.cons (rep_stay st p k rv) .nil))⟩
  stop := fun i H1 st hi => ⟨xs, (h.frame st.1).sq, by rw [enumD_length] at hi; rw [r.length, hi]; exact Nat.le_refl _⟩
theorem walk_enumT {K : PySem.W.Frag} {F : Addr → Prop} {as : List Addr} {H : Hp} {a : Addr} {xs : List V} {ds : List D} (hl : xs.length ≤ sizeLine) (h : SqT K H a xs) (r : Reps K F as H xs ds) : Walk K F as H (IteT K a) (enumD 0 ds) where
  len := by rw [enumD_length, ← r.length]; exact hl
  go := fun i H1 st hi => by
    rw [enumD_length] at hi
    exact ⟨xs, xs[i]'(by rw [r.length]; exact hi), sqT_frame st.2 h, by simp⟩
  yl := fun i H1 x H2 d F1 as1 st p k y e => by
    obtain ⟨T, u, rfl, nT, rfl, y⟩ := y
    have y := y xs (sqT_frame st.2 h)
    obtain ⟨d', e', rv⟩ := r.get y
    obtain ⟨d2, e2, rfl⟩ := enumD_get e
    rw [e'] at e2; cases e2
    rw [Int.zero_add]
    exact ⟨same_new nT, .newT nT (.cons (.int _) (.cons (rep_stay st p k rv) .nil))⟩
  stop := fun i H1 st hi => ⟨xs, sqT_frame st.2 h, by rw [enumD_length] at hi; rw [r.length, hi]⟩
theorem di_enum (hg : Gl X "enumerate") (hm : X.mg "enumerate" = none) (ha : DA X O Z [e] r) (hs : starEach [e] X.env = [(false, eval e X.env)] := by rfl) : DI X O Z (.Tuple elts kk tpos) (.Call (.Name "enumerate" p) [e] [] pos) (I.on enm r) := PI.imp (pi_len (pi_enumA hg hm ha hs)) fun σ H R ⟨g, ok, q⟩ => by
  refine ⟨g, ok, (Ev.bnd q).mono (fun ds st' q as' vs H' gr s rs => ?_) fun _ _ z => z⟩
  obtain ⟨xs, e, q⟩ := q.lift
  unfold enm at e
  split at e
  · rename_i d
    rw [Option.map_eq_some_iff] at e
    obtain ⟨us, e, rfl⟩ := e
    cases rs with
    | cons r1 rr =>
      cases rr
      cases d with
      | lst ws =>
        cases e
        cases r1 with
        | lst h r => exact ⟨_, _, rfl, .inl ⟨h.sq, fun L => q as' H' _ gr s (walk_enumL (L _ _ (.inl h.sq)) h r)⟩⟩
      | tup ws =>
        cases e
        cases r1 with
        | tup h r => exact ⟨_, _, rfl, .inr ⟨SqT.of h, fun L => q as' H' _ gr s (walk_enumT (L _ _ (.inr (SqT.of h))) (SqT.of h) r)⟩⟩
      | ftup ws =>
        cases e
        cases r1 with
        | ftup h r => exact ⟨_, _, rfl, .inr ⟨h.sq, fun L => q as' H' _ gr s (walk_enumT (L _ _ (.inr h.sq)) h.sq r)⟩⟩
      | _ => cases e
  · cases e
theorem walk_zipL {K : PySem.W.Frag} {F : Addr → Prop} {as : List Addr} {H : Hp} {a b : Addr} {xs ys : List V} {ds es : List D} (hl : xs.length ≤ sizeLine) (h : LstAt K F H a xs) (r : Reps K F as H xs ds) (h' : LstAt K F H b ys) (r' : Reps K F as H ys es) : Walk K F as H (Itz K a b) (zipD ds es) where
  len := by rw [zipD_length, ← r.length]; omega
  go := fun i H1 st hi => by
    rw [zipD_length] at hi
    have h1 : i < xs.length := by rw [r.length]; omega
    have h2 : i < ys.length := by rw [r'.length]; omega
    exact ⟨xs, ys, xs[i], ys[i], (h.frame st.1).sq, (h'.frame st.1).sq, by simp, by simp⟩
  yl := fun i H1 x H2 d F1 as1 st p k y e => by
    obtain ⟨T, u, w, rfl, nT, rfl, y, y'⟩ := y
    obtain ⟨d1, e1, rv⟩ := r.get (y xs (h.frame st.1).sq)
    obtain ⟨d2, e2, rv'⟩ := r'.get (y' ys (h'.frame st.1).sq)
    obtain ⟨c1, c2, f1, f2, rfl⟩ := zipD_get e
    rw [e1] at f1; cases f1
    rw [e2] at f2; cases f2
    exact ⟨same_new nT, .newT nT (.cons (rep_stay st p k rv) (.cons (rep_stay st p k rv') .nil))⟩
  stop := fun i H1 st hi => ⟨xs, ys, (h.frame st.1).sq, (h'.frame st.1).sq, by rw [zipD_length] at hi; rw [r.length, r'.length]; omega⟩
theorem walk_zipT {K : PySem.W.Frag} {F : Addr → Prop} {as : List Addr} {H : Hp} {a b : Addr} {xs ys : List V} {ds es : List D} (hl : xs.length ≤ sizeLine) (h : SqT K H a xs) (r : Reps K F as H xs ds) (h' : SqT K H b ys) (r' : Reps K F as H ys es) : Walk K F as H (RZ.ItzT K a b) (zipD ds es) where
  len := by rw [zipD_length, ← r.length]; omega
  go := fun i H1 st hi => by
    rw [zipD_length] at hi
    have h1 : i < xs.length := by rw [r.length]; omega
    have h2 : i < ys.length := by rw [r'.length]; omega
    exact ⟨xs, ys, xs[i], ys[i], sqT_frame st.2 h, sqT_frame st.2 h', by simp, by simp⟩
  yl := fun i H1 x H2 d F1 as1 st p k y e => by
    obtain ⟨T, u, w, rfl, nT, rfl, y, y'⟩ := y
    obtain ⟨d1, e1, rv⟩ := r.get (y xs (sqT_frame st.2 h))
    obtain ⟨d2, e2, rv'⟩ := r'.get (y' ys (sqT_frame st.2 h'))
    obtain ⟨c1, c2, f1, f2, rfl⟩ := zipD_get e
    rw [e1] at f1; cases f1
    rw [e2] at f2; cases f2
    exact ⟨same_new nT, .newT nT (.cons (rep_stay st p k rv) (.cons (rep_stay st p k rv') .nil))⟩
  stop := fun i H1 st hi => ⟨xs, ys, sqT_frame st.2 h, sqT_frame st.2 h', by rw [zipD_length] at hi; rw [r.length, r'.length]; omega⟩
theorem di_zip (hg : Gl X "zip") (hm : X.mg "zip" = none) (ha : DA X O Z [a, b] r) (hs : starEach [a, b] X.env = (false, eval a X.env) :: starEach [b] X.env := by rfl) (hpl : (backTo pos (starEach [b] X.env)).any (·.1) = false := by rfl) :
    DI X O Z (.Tuple elts kk tpos) (.Call (.Name "zip" p) [a, b] [] pos) (I.on zp r) := PI.imp (pi_len (RZ.pi_zipA hg hm ha hs hpl)) fun σ H R ⟨g, ok, q⟩ => by
  refine ⟨g, ok, (Ev.bnd q).mono (fun ds st' q as' vs H' gr s rs => ?_) fun _ _ z => z⟩
  obtain ⟨xs, e, q⟩ := q.lift
  unfold zp at e
  split at e
  · cases e
    cases rs with
    | cons r1 rr => cases rr with
      | cons r2 rr =>
        cases rr
        cases r1 with
        | lst h r => cases r2 with
          | lst h' r' => exact ⟨_, _, _, _, rfl, .inl ⟨h.sq, h'.sq, fun L => q as' H' _ gr s (walk_zipL (L _ _ (.inl h.sq)) h r h' r')⟩⟩
  · cases e
    cases rs with
    | cons r1 rr => cases rr with
      | cons r2 rr =>
        cases rr
        cases r1 with
        | tup h r => cases r2 with
          | tup h' r' => exact ⟨_, _, _, _, rfl, .inr ⟨SqT.of h, SqT.of h', fun L => q as' H' _ gr s (walk_zipT (L _ _ (.inr (SqT.of h))) (SqT.of h) r (SqT.of h') r')⟩⟩
  · cases e
end
end G
end L2
end G14_
section G15_
set_option Elab.async false
set_option linter.all false
set_option maxRecDepth 100000
set_option maxHeartbeats 1000000
namespace PySem.SeqAt
open PySem PySem.Calls PyProof.Rows
theorem call_tuple_lt {prog : Program} {w : World} {A : Around} {s : Shared} {E : Value → Shared → Prop} {Q : Value → Shared → Prop} {l b : Addr} {items items2 : Array Value} {e r : Nat → Bool} (hl : s.heap.IsTuple l items) (hb : s.heap.IsTuple b items2)
    (he : ∀ j (h1 : j < items.size) (h2 : j < items2.size), EqAt A.in1 s items[j] items2[j] (e j)) (hr : ∀ j (h1 : j < items.size) (h2 : j < items2.size), e j = false → RcLt A.in1 s items[j] items2[j] (r j))
    (h : Q (.bool (firstLt e r (decide (items.size < items2.size)) (List.range (min items.size items2.size)))) s) : wpAny (model prog w) A (call (.builtin "tuple.__lt__") [.ref l, .ref b]) Q E s := by
  obtain ⟨⟨cls, dd, data, sl⟩, ho, hc, n, hd⟩ := id hl
  obtain ⟨⟨cls2, dd2, data2, sl2⟩, ho2, hc2, n2, hd2⟩ := id hb
  simp only at hc hd hc2 hd2
  subst hc hd hc2 hd2
  exact call_meets F.slot_tuple_lt ⟨_, ho, rfl⟩ F.entry_tuple_lt (F.args_tuple_lt_2 _ _) (tuple_ltAt l b items items2 n n2 dd dd2 sl sl2 e r) ⟨ho, ho2, he, hr, h⟩
end PySem.SeqAt
namespace PySem.W
open PySem PySem.Calls PyProof.Rows PySem.SeqAt
theorem oneLt_tuples {prog : Program} {w : World} {A : Around} {E : Value → Shared → Prop} {s : Shared} {xs ys : List PyData} {a b : Value} {as bs : List Addr} {Q : Bool → Shared → Prop} (ra : Reads s.heap a (.tuple xs) as) (rb : Reads s.heap b (.tuple ys) bs) (h : alike (.tuple xs) (.tuple ys) = true)
    (hu : A.units + min (PyData.tuple xs).depth (PyData.tuple ys).depth < cLine) (hq : Q (dataLt (.tuple xs) (.tuple ys)) s) : wpAny (model prog w) A (oneLt' true a b) Q E s := by
  have hal : alikeAll xs ys = true := by simpa [alike] using h
  cases ra with
  | @tuple l o vs n _ as₁ h1 h2 h3 h4 =>
    cases rb with
    | @tuple l' o' vs' n' _ bs₁ k1 k2 k3 k4 =>
      have n1 : vs.size = xs.length := by simpa using ReadsAll.length _ _ _ h4
      have n2 : vs'.size = ys.length := by simpa using ReadsAll.length _ _ _ k4
      rw [dataLt_tuple, ← firstLt_toks xs ys hal, ← n1, ← n2] at hq
      rw [oneLt'_eq]
      simp only [if_true]
      refine wpAny_bind (wpAny_cRoomFor (room_here hu) ?_)
      refine wpAny_bind (wpAny_callSpecialIfBound?_slot (T := "tuple") ⟨_, h1, h2⟩ F.slot_tuple_lt (call_tuple_lt (e := pairEq xs ys) (r := fun j => dataLt (xs.getD j .none) (ys.getD j .none)) ⟨_, h1, h2, _, h3⟩ ⟨_, k1, k2, _, k3⟩ (fun j j1 j2 => ?_) (fun j j1 j2 hj => ?_) ?_))
      · have := eqAt_alikeAll xs ys A.in1 s vs.toList vs'.toList _ _ h4 k4 hal (room_in hu) j (by simpa using j1) (by simpa using j2)
        simpa using this
      · have := rcLt_alikeAll xs ys A.in1 s vs.toList vs'.toList _ _ h4 k4 hal (room_in hu) j (by simpa using j1) (by simpa using j2) hj
        simpa using this
      · exact wpAny_truthy_bool hq
def neT : PyData → Bool
  | .tuple (_ :: _) => true
  | _ => false
theorem firsts_any {M : Model} {A : Around} {E : Value → Shared → Prop} {s : Shared} : ∀ {vs : List Value} {ds : List PyData} {Q : List (Option Value) → Shared → Prop}, EachIs (fun v d => ∃ as, Reads s.heap v d as) vs ds → (∀ d ∈ ds, ∃ xs, d = .tuple xs) →
    (∀ os : List (Option Value), os.map Option.isSome = ds.map neT → Q os s) → wpAny M A (vs.mapM firstOfTuple') Q E s
  | [], [], Q, _, _, h => by rw [List.mapM_nil]; exact wpAny_pure (h [] rfl)
  | [], _ :: _, _, e, _, _ => by cases e
  | _ :: _, [], _, e, _, _ => by cases e
  | v :: vs, d :: ds, Q, e, ht, h => by
    cases e with
    | cons e1 e2 =>
      obtain ⟨as, r⟩ := e1
      obtain ⟨xs, rfl⟩ := ht d (List.mem_cons_self ..)
      cases r with
      | @tuple l o ws n _ _ h1 h2 h3 h4 =>
        rw [List.mapM_cons]
        refine wpAny_bind ?_
        rw [kas_first_eq]
        refine wpAny_bind (Looks.here (show Looks M s.heap (typeOf (.ref l)) o.cls from (Looks.ld h1).andThen .now) ?_)
        rw [h2, if_neg (by first | decide | simp)]
        refine wpAny_bind (listItems_at h1 h3 (wpAny_pure ?_))
        refine wpAny_bind (firsts_any e2 (fun d hd => ht d (List.mem_cons_of_mem _ hd)) fun os ho => wpAny_pure (h _ ?_))
        rw [List.map_cons, List.map_cons, ho]
        congr 1
        have n1 : ws.size = xs.length := by simpa using ReadsAll.length _ _ _ h4
        cases xs with
        | nil =>
          have : ws[0]? = none := Array.getElem?_eq_none (by rw [n1]; exact Nat.le_refl _)
          rw [this]
          rfl
        | cons x r =>
          have hp : 0 < ws.size := by rw [n1]; exact Nat.succ_pos _
          rw [Array.getElem?_eq_getElem hp]
          rfl
theorem neT_of {d : PyData} (h : neT d = true) : ∃ x r, d = .tuple (x :: r) := by
  unfold neT at h
  split at h
  · exact ⟨_, _, rfl⟩
  · cases h
theorem kind_any {M : Model} {A : Around} {E : Value → Shared → Prop} {s : Shared} {vs : List Value} {ds : List PyData} {Q : SortKind → Shared → Prop} (e : EachIs (fun v d => ∃ as, Reads s.heap v d as) vs ds) (ht : ∀ d ∈ ds, ∃ xs, d = .tuple xs) (hn : ds.all neT = false)
    (h : Q (if (ds.head?.map neT).getD false = true then general' else oneType') s) : wpAny M A (keyKind' vs.toArray) Q E s := by
  rw [keyKind'_eq, List.mapM_toArray, map_eq_pure_bind]
  refine wpAny_bind (wpAny_bind (firsts_any e ht fun os ho => wpAny_pure ?_))
  have hall : (os.toArray.all fun x => x.isSome) = false := by
    rw [List.all_toArray]
    have e1 : (os.all fun x => x.isSome) = (os.map Option.isSome).all id := by rw [List.all_map]; rfl
    rw [e1, ho, List.all_map]
    exact hn
  have h0 : ((os.toArray[0]?).bind id).isSome = (ds.head?.map neT).getD false := by
    cases os with
    | nil =>
      cases ds with
      | nil => rfl
      | cons d ds => cases ho
    | cons o os =>
      cases ds with
      | nil => cases ho
      | cons d ds =>
        have e2 : o.isSome = neT d := (List.cons.inj ho).1
        simp [e2]
  rw [if_neg (by rw [hall]; exact Bool.false_ne_true), h0]
  by_cases hh : (ds.head?.map neT).getD false = true
  · rw [if_pos hh] at h ⊢
    exact wpAny_pure h
  · rw [if_neg hh] at h ⊢
    rw [oneTypeOnly'_eq, List.mapM_toArray, map_eq_pure_bind]
    have hT : ∀ v ∈ vs, Looks M s.heap (typeOf v) (.type "tuple") := fun v hv => by
      obtain ⟨d, hd, as, r⟩ := e.left v hv
      obtain ⟨xs, rfl⟩ := ht d hd
      exact looks_reads r
    refine wpAny_bind (wpAny_bind (wpAny_bind (kas_mapM (r := Value.type "tuple") _ (fun v hv Q' hq => (hT v hv).here hq) (wpAny_pure ?_))))
    cases vs with
    | nil =>
      cases ds with
      | nil => cases hn
      | cons d ds => cases e
    | cons v vs =>
      have hall2 : ((List.map (fun _ => Value.type "tuple") (v :: vs)).toArray.all fun x => x == Value.type "tuple") = true := by
        simp only [List.all_toArray, List.all_map, List.all_eq_true]
        intro _ _
        exact beq_self_eq_true _
      have h1 : (List.map (fun _ => Value.type "tuple") (v :: vs)).toArray[0]? = some (Value.type "tuple") := by simp
      rw [h1]
      simp only [hall2, if_true]
      exact wpAny_pure (wpAny_pure h)
theorem SortsAt.dataA {prog : Program} {w : World} {A : Around} {s : Shared} {vs : List Value} {ds : List PyData} (e : EachIs (fun v d => ∃ as, Reads s.heap v d as) vs ds) (hal : AllAlike ds) (hk : (∀ d ∈ ds, ∃ xs, d = .tuple xs) ∨ ∀ d, d ∈ ds → d ≠ .none ∧ ∀ xs, d ≠ .tuple xs) (hu : ∀ d, d ∈ ds → A.units + d.depth < cLine) : SortsAt prog w A s (dataKind s.heap ds) vs := by
  rcases hk with ht | hk
  · by_cases hn : ds.all neT = true
    · exact .data e hal (.inl fun d hd => neT_of (List.all_eq_true.mp hn d hd)) hu
    · have hn : ds.all neT = false := by simpa using hn
      have room : ∀ {d d' : PyData}, d ∈ ds → A.units + min d.depth d'.depth < cLine := fun {d d'} hd => Nat.lt_of_le_of_lt (Nat.add_le_add_left (Nat.min_le_left _ _) _) (hu d hd)
      refine ⟨fun v hv => ?_, if (ds.head?.map neT).getD false = true then general' else oneType', ?_, fun _ E Q hq => kind_any e ht hn hq⟩
      · obtain ⟨d, hd, as, r⟩ := e.left v hv
        exact ⟨_, dataKind_some hal hd r⟩
      · intro E x y a b Q ha hb hq
        obtain ⟨d, as, hd, ra, rfl⟩ := dataKind_inv ha
        obtain ⟨d', as', hd', rb, rfl⟩ := dataKind_inv hb
        have hdd := hal d hd d' hd'
        have hroom := room (d' := d') hd
        obtain ⟨xs, rfl⟩ := ht d hd
        obtain ⟨ys, rfl⟩ := ht d' hd'
        have hq' : Q (dataLt (.tuple xs) (.tuple ys)) s := hq
        split
        · exact oneLt_alike (f := false) (fun z => nomatch z) ra rb hdd (fun z => nomatch z) hroom hq'
        · exact oneLt_tuples ra rb hdd hroom hq'
  · exact .data e hal (.inr hk) hu
end PySem.W
end G15_
section G16_
set_option Elab.async false
set_option linter.all false
set_option maxRecDepth 100000
set_option maxHeartbeats 1000000
namespace PySem.W
open PySem PySem.Calls PyProof.Rows
theorem sorted_dataA {prog : Program} {w : World} {A : Around} {E : Value → Shared → Prop} {s : Shared} {β : Type} {vs : List Value} {bs : List β} {enc : β → PyData} {R : Value → β → Prop} {l : Addr} {Q : Value → Shared → Prop} (hl : s.heap.IsList l vs.toArray) (e : EachIs R vs bs) (er : EachIs (fun v b => ∃ as, Reads s.heap v (enc b) as) vs bs) (hal : AllAlike (bs.map enc))
    (hk : (∀ d ∈ bs.map enc, ∃ xs, d = .tuple xs) ∨ ∀ d, d ∈ bs.map enc → d ≠ .none ∧ ∀ xs, d ≠ .tuple xs) (hL : bs.length ≤ sizeLine)
    (hu : ∀ b, b ∈ bs → A.units + 2 + (enc b).depth < cLine) (h : ∀ out, out.length = bs.length → EachIs R out (bs.mergeSort (dataLe false enc)) → Q (.ref (s.heap.objs.size + 1)) { s with heap := sortedAll s.heap vs (List.toArray out) }) :
    wpAny (model prog w) A (call (.builtin "sorted") [.ref l]) Q E s := by
  have er' : EachIs (fun v b => ∃ as, Reads (sortingHeap (copyHeap s.heap vs) (s.heap.objs.size + 1) vs) v (enc b) as) vs bs := er.mono fun _ _ ⟨as, r⟩ => ⟨as, PyProof.Rows.Reads.keeps (fun _ _ => sorting_copy_old) r⟩
  exact sorted_vals hl (SortsAt.dataA (s := { s with heap := sortingHeap (copyHeap s.heap vs) (s.heap.objs.size + 1) vs }) (each_map (R := fun v d => ∃ as, Reads (sortingHeap (copyHeap s.heap vs) (s.heap.objs.size + 1) vs) v d as) enc er') hal hk (bound_map hu)) (by rw [e.length]; exact hL)
    (h _ (by rw [sortVals_length false rfl]; exact e.length) (sortVals_data false e er' hal))
end PySem.W
namespace L2
open PySem PySem.Spec PyProof.Rows
def AlikeK (ps : List PyData) : Prop := PySem.W.AllAlike ps ∧ ((∀ d ∈ ps, ∃ xs, d = .tuple xs) ∨ ∀ d, d ∈ ps → d ≠ .none ∧ ∀ xs, d ≠ .tuple xs) ∧ ∀ d ∈ ps, d.depth ≤ 60
/-- sorted(list): β the items' data -/
def rSortA (K : PySem.W.Frag) : List V → Hp → VK → Prop := fun vs H Q => ∃ (a : Addr) (bs : List (V × G.D)), vs = [.ref a] ∧ SqL K H a (bs.map (·.1)) ∧ DpAll K H (bs.map (·.1)) (bs.map (fun b => b.2.py)) ∧ AlikeK (bs.map fun b => b.2.py) ∧
  ∀ p, H p = none → Q (.ref p) (upd H p (.lst ((bs.mergeSort (PySem.W.dataLe false fun b => b.2.py)).map (·.1))))
theorem each_of_vals : ∀ {bs : List (V × G.D)} {its : List Value}, Vals (bs.map (·.1)) its → PySem.W.EachIs (fun v (b : V × G.D) => RelV b.1 v) its bs
  | [], _, r => by cases r; exact .nil
  | b :: bs, _, r => by cases r with | cons h t => exact .cons h (each_of_vals t)
theorem vals_of_each : ∀ {bs : List (V × G.D)} {its : List Value}, PySem.W.EachIs (fun v (b : V × G.D) => RelV b.1 v) its bs → Vals (bs.map (·.1)) its
  | [], _, r => by cases r; exact .nil
  | b :: bs, _, r => by cases r with | cons h t => exact .cons h (vals_of_each t)
theorem each_reads {X : Cx} {pins : List (Addr × Obj)} {σ : St} {H : Hp} {s : Shared} (I : Inv X pins σ H s) : ∀ {bs : List (V × G.D)} {its : List Value}, DpAll X.K H (bs.map (·.1)) (bs.map fun b => b.2.py) → Vals (bs.map (·.1)) its → PySem.W.EachIs (fun v (b : V × G.D) => ∃ as, Reads s.heap v b.2.py as) its bs
  | [], _, _, r => by cases r; exact .nil
  | b :: bs, _, d, r => by
    cases r with
    | cons h t =>
      cases d with
      | cons d1 d2 => exact .cons (Dp.reads I _ _ _ d1 h) (each_reads I d2 t)
theorem cr_sortA {X : Cx} (hu : X.A.units + 65 < cLine) : CallR X (.builtin "sorted") (rSortA X.K) := by
  intro pins s σ H vs us Q I r h
  obtain ⟨a, bs, rfl, hs, hd, ⟨hal, hk, hdp⟩, q⟩ := h
  obtain ⟨its, rv, hl, hz⟩ := I.list hs
  obtain ⟨u, rfl, ru⟩ := vals1 r
  obtain rfl : u = Value.ref a := ru
  rw [List.length_map] at hz
  refine PySem.W.sorted_dataA (R := fun v (b : V × G.D) => RelV b.1 v) (enc := fun b => b.2.py) hl.isList (each_of_vals rv) (each_reads I hd rv) hal hk hz (fun b hb => ?_) fun out ho eo => ?_
  · have := hdp _ (List.mem_map.mpr ⟨b, hb, rfl⟩)
    omega
  · obtain ⟨n, hn⟩ := sortedAll_at s.heap its out.toArray
    have vo := vals_of_each eo
    refine ⟨.ref (s.heap.objs.size + 1), _, I.laid (t' := s.toks) (o := .lst ((bs.mergeSort (PySem.W.dataLe false fun b => b.2.py)).map (·.1))) (fun b o e => sortedAll_old e) (Nat.le_succ _) ⟨?_, out, n, vo, hn⟩, rfl, q _ (I.hok.fresh (Nat.le_succ _))⟩
    rw [List.length_map, List.length_mergeSort]
    exact hz
namespace G
/-! ### shapes of data that compare -/
inductive Sh where
  | i | s | t (a : Sh) | p (a b : Sh)
def D.is : Sh → D → Bool
  | .i, .int _ => true
  | .s, .str _ => true
  | .t a, .tup xs => xs.all (D.is a)
  | .p a b, .tup [x, y] => x.is a && y.is b
  | _, _ => false
theorem is_alike : ∀ {sh : Sh} {a b : D}, a.is sh = true → b.is sh = true → PySem.W.alike a.py b.py = true := by
  intro sh
  induction sh with
  | i => intro a b ha hb; cases a <;> simp [D.is] at ha <;> cases b <;> simp [D.is] at hb <;> simp [D.py, PySem.W.alike]
  | s => intro a b ha hb; cases a <;> simp [D.is] at ha <;> cases b <;> simp [D.is] at hb <;> simp [D.py, PySem.W.alike]
  | t sh ih =>
    intro a b ha hb
    cases a with
    | tup xs =>
      cases b with
      | tup ys =>
        simp only [D.py, PySem.W.alike]
        have hx : ∀ x ∈ xs, x.is sh = true := by simpa [D.is] using ha
        have hy : ∀ x ∈ ys, x.is sh = true := by simpa [D.is] using hb
        clear ha hb
        induction xs generalizing ys with
        | nil => simp [D.pys, PySem.W.alikeAll]
        | cons x xs ihx =>
          cases ys with
          | nil => simp [D.pys, PySem.W.alikeAll]
          | cons y ys =>
            simp only [D.pys, PySem.W.alikeAll, Bool.and_eq_true]
            exact ⟨ih (hx x (List.mem_cons_self ..)) (hy y (List.mem_cons_self ..)), ihx ys (fun z hz => hx z (List.mem_cons_of_mem _ hz)) fun z hz => hy z (List.mem_cons_of_mem _ hz)⟩
      | _ => simp [D.is] at hb
    | _ => simp [D.is] at ha
  | p sa sb iha ihb =>
    intro a b ha hb
    cases a with
    | tup xs =>
      cases b with
      | tup ys =>
        match xs, ys, ha, hb with
        | [x1, x2], [y1, y2], ha, hb =>
          simp only [D.is, Bool.and_eq_true] at ha hb
          simp only [D.py, D.pys, PySem.W.alike, PySem.W.alikeAll, Bool.and_eq_true]
          exact ⟨iha ha.1 hb.1, ihb ha.2 hb.2, trivial⟩
        | [], _, ha, _ => simp [D.is] at ha
        | [_], _, ha, _ => simp [D.is] at ha
        | _ :: _ :: _ :: _, _, ha, _ => simp [D.is] at ha
        | [_, _], [], _, hb => simp [D.is] at hb
        | [_, _], [_], _, hb => simp [D.is] at hb
        | [_, _], _ :: _ :: _ :: _, _, hb => simp [D.is] at hb
      | _ => simp [D.is] at hb
    | _ => simp [D.is] at ha
/-- the order of data -/
def leD' (a b : D) : Bool := PySem.W.dataLe false D.py a b
def shapes : List Sh := [.i, .t .i, .s, .p .i (.t .i), .p .i .s, .p .i (.p .i .i), .t .s]
def sortL (ds : List D) : Option (List D) := if (shapes.any fun sh => ds.all (D.is sh)) && D.okds 59 ds then some (ds.mergeSort leD') else none
theorem is_kind {sh : Sh} {ds : List D} (h : ds.all (D.is sh) = true) : (∀ d ∈ ds.map D.py, ∃ xs, d = .tuple xs) ∨ ∀ d, d ∈ ds.map D.py → d ≠ .none ∧ ∀ xs, d ≠ .tuple xs := by
  have h' : ∀ d ∈ ds, d.is sh = true := by simpa using h
  cases sh with
  | i =>
    refine .inr fun d hd => ?_
    obtain ⟨x, hx, rfl⟩ := List.mem_map.mp hd
    have := h' x hx
    cases x <;> simp [D.is] at this <;> simp [D.py]
  | s =>
    refine .inr fun d hd => ?_
    obtain ⟨x, hx, rfl⟩ := List.mem_map.mp hd
    have := h' x hx
    cases x <;> simp [D.is] at this <;> simp [D.py]
  | t a =>
    refine .inl fun d hd => ?_
    obtain ⟨x, hx, rfl⟩ := List.mem_map.mp hd
    have := h' x hx
    cases x <;> simp [D.is] at this <;> simp [D.py]
  | p a b =>
    refine .inl fun d hd => ?_
    obtain ⟨x, hx, rfl⟩ := List.mem_map.mp hd
    have := h' x hx
    cases x with
    | tup xs => exact ⟨D.pys xs, by simp only [D.py]⟩
    | _ => simp [D.is] at this
theorem okds_mem {n : Nat} : ∀ {ds : List D}, D.okds n ds = true → ∀ d ∈ ds, d.okd n = true
  | [], _, _, h => by cases h
  | d :: ds, o, x, h => by
    simp only [D.okds, Bool.and_eq_true] at o
    rcases List.mem_cons.mp h with e | h
    · rw [e]; exact o.1
    · exact okds_mem o.2 x h
theorem sort_alike {ds : List D} (h : ((shapes.any fun sh => ds.all (D.is sh)) && D.okds 59 ds) = true) : AlikeK (ds.map D.py) := by
  simp only [Bool.and_eq_true, List.any_eq_true] at h
  obtain ⟨⟨sh, _, hs⟩, ho⟩ := h
  refine ⟨fun d hd d' hd' => ?_, is_kind hs, fun d hd => ?_⟩
  · obtain ⟨x, hx, rfl⟩ := List.mem_map.mp hd
    obtain ⟨y, hy, rfl⟩ := List.mem_map.mp hd'
    exact is_alike (List.all_eq_true.mp hs x hx) (List.all_eq_true.mp hs y hy)
  · obtain ⟨x, hx, rfl⟩ := List.mem_map.mp hd
    have := (D.okd_lay (okds_mem ho x hx)).2
    omega
theorem Reps.zip {K : PySem.W.Frag} {F : Addr → Prop} {as : List Addr} {H : Hp} : ∀ {vs : List V} {ds : List D}, Reps K F as H vs ds → (vs.zip ds).map (·.1) = vs ∧ (vs.zip ds).map (·.2) = ds ∧ ∀ b ∈ vs.zip ds, Rep K F as H b.1 b.2
  | _, _, .nil => ⟨rfl, rfl, fun b h => by cases h⟩
  | _, _, .cons h r => by
    obtain ⟨e1, e2, e3⟩ := r.zip
    refine ⟨by simp [e1], by simp [e2], fun b hb => ?_⟩
    rcases List.mem_cons.mp hb with e | hb
    · rw [e]; exact h
    · exact e3 b hb
theorem reps_of {K : PySem.W.Frag} {F : Addr → Prop} {as : List Addr} {H : Hp} : ∀ {bs : List (V × D)}, (∀ b ∈ bs, Rep K F as H b.1 b.2) → Reps K F as H (bs.map (·.1)) (bs.map (·.2))
  | [], _ => .nil
  | b :: bs, h => .cons (h b (List.mem_cons_self ..)) (reps_of fun c hc => h c (List.mem_cons_of_mem _ hc))
def sortedD : List D → Option D
  | [.lst ds] => (sortL ds).map .lst
  | _ => none
theorem b_sorted {X : Cx} (hu : X.A.units + 65 < cLine) : BlN X (.builtin "sorted") sortedD := ⟨_, cr_sortA hu, fun F as H xs ds d Q tr r e q => by
  unfold sortedD at e
  split at e
  · rename_i ds
    rw [Option.map_eq_some_iff] at e
    obtain ⟨ys, e, rfl⟩ := e
    unfold sortL at e
    split at e
    · rename_i h
      cases e
      obtain ⟨v, rfl, rv⟩ := repTs1 r
      obtain ⟨a, us, rfl, s, rs⟩ := rv.t_lst
      obtain ⟨e1, e2, e3⟩ := rs.zip
      have ho : D.okds 59 ds = true := by simp only [Bool.and_eq_true] at h; exact h.2
      have em : (us.zip ds).map (fun b => b.2.py) = ds.map D.py := by
        have : (us.zip ds).map (fun b => b.2.py) = ((us.zip ds).map (·.2)).map D.py := by rw [List.map_map]; rfl
        rw [this, e2]
      have hp : ∀ l : List D, D.pys l = l.map D.py := fun l => by
        induction l with
        | nil => rfl
        | cons x l ih => simp [D.pys, ih]
      refine ⟨a, us.zip ds, rfl, by rw [e1]; exact s, by rw [e1, em, ← hp]; exact rs.dp ho, by rw [em]; exact sort_alike h, fun p np => ?_⟩
      have es : ((us.zip ds).mergeSort (PySem.W.dataLe false fun b => b.2.py)).map (·.2) = ds.mergeSort leD' := by
        have := List.map_mergeSort (r := PySem.W.dataLe false fun b : V × D => b.2.py) (s := leD') (f := fun b : V × D => b.2) (l := us.zip ds) fun _ _ _ _ => rfl
        rw [this, e2]
      have rr : Reps X.K F as H (((us.zip ds).mergeSort (PySem.W.dataLe false fun b => b.2.py)).map (·.1)) (ds.mergeSort leD') := by
        rw [← es]
        exact reps_of fun b hb => e3 b (List.mem_mergeSort.mp hb)
      exact q _ _ (same_new np) (Own.newL np rr) fun p' z => by cases z; exact np
    · cases e
  · cases e⟩
end G
end L2
end G16_
section G17_
set_option Elab.async false
set_option linter.all false
set_option maxRecDepth 100000
set_option maxHeartbeats 1000000
namespace L2
open PySem PySem.Spec PyProof.Rows
open G (D tkD kD)
/-- sorted(dict with tuple keys) -/
def rSortDT : List V → Hp → VK → Prop := fun vs H Q => ∃ (a : Addr) (kvs : List (List Key × V)), vs = [.ref a] ∧ Rd H a (.dT kvs) ∧ AlikeK (kvs.map fun p => (tkD p.1).py) ∧ D.okds 59 (kvs.map fun p => tkD p.1) = true ∧
  ∀ (bs : List (V × D)) (p : Addr), bs.map (·.2) = kvs.map (fun p => tkD p.1) → (∀ b ∈ bs, ∃ q k, b = (.ref q, tkD k) ∧ H q = some (.tup (k.map kV))) → H p = none → Q (.ref p) (upd H p (.lst ((bs.mergeSort (PySem.W.dataLe false fun b => b.2.py)).map (·.1))))
theorem rep_key {K : PySem.W.Frag} {F : Addr → Prop} {as : List Addr} {H : Hp} (k : Key) : G.Rep K F as H (kV k) (kD k) := by
  cases k with
  | inl i => exact .int i
  | inr x => exact .str x
theorem reps_keys {K : PySem.W.Frag} {F : Addr → Prop} {as : List Addr} {H : Hp} : ∀ ks : List Key, G.Reps K F as H (ks.map kV) (ks.map kD)
  | [] => .nil
  | k :: ks => .cons (rep_key k) (reps_keys ks)
theorem pys_map : ∀ l : List D, D.pys l = l.map D.py
  | [] => rfl
  | x :: l => by simp [D.pys, pys_map l]
theorem KT.bs {H : Hp} : ∀ {kvs : List (List Key × V)} {xs : List (List Key × Addr × Value)}, KT H kvs xs →
    (xs.map fun x => ((V.ref x.2.1, tkD x.1) : V × D)).map (·.2) = kvs.map (fun p => tkD p.1) ∧ ∀ b ∈ (xs.map fun x => ((V.ref x.2.1, tkD x.1) : V × D)), ∃ q k, b = (.ref q, tkD k) ∧ H q = some (.tup (k.map kV))
  | _, _, .nil => ⟨rfl, fun b h => by cases h⟩
  | _, _, .cons (a := p) (b := x) h t => by
    obtain ⟨e1, e2⟩ := KT.bs t
    refine ⟨by rw [List.map_cons, List.map_cons, List.map_cons, e1, h.1], fun b hb => ?_⟩
    rcases List.mem_cons.mp hb with z | z
    · exact ⟨x.2.1, x.1, z, by rw [← h.1]; exact h.2.1⟩
    · exact e2 b z
theorem cr_sortDT {X : Cx} (hcalm : X.calm = true) (hu : X.A.units + 65 < cLine) : CallR X (.builtin "sorted") rSortDT := by
  intro pins s σ H vs us Q I r q
  obtain ⟨a, kvs, rfl, hd, hal, ho, q⟩ := q
  obtain ⟨u, rfl, rx⟩ := vals1 r
  cases rx
  obtain ⟨z, lo, xs, rel, o, es, ep, h1, h2, h3, h4, h5⟩ := hd.ok I.hok
  have hraw : s.heap.DictRaw a es ep := ⟨o, h1, h2, h3⟩
  have hxs : xs.length = kvs.length := (Paired.length rel).symm
  have hes : es.size = xs.length := by rw [← Array.length_toList, h4, List.length_map]
  have hsz : es.size ≤ sizeLine := by rw [hes, hxs]; exact z
  obtain ⟨eb, mb⟩ := KT.bs rel
  refine Calls.call_function_entry PyProof.Rows.kind_sorted PyProof.Rows.plain_sorted PyProof.Rows.entry_sorted (PyProof.Rows.args_sorted1 _) ?_
  unfold Builtin.«sorted»
  refine wpAny_bind (m := checkCount "sorted" 1 1 _) (wpAny_pure ?_)
  refine wpAny_bind (PySem.W.kdu_collect (A := X.A.in1) (KdlSrc.rawDict (prog := X.prog) (w := X.w) (es := es) (ep := ep) lo) (I.ok.hd hcalm) hraw hsz fun h' tk acc hk hacc => ?_)
  have I1 : Inv X pins σ H { s with heap := h', toks := tk } := I.kept hk
  -- what was collected
  have hac : acc.toList = xs.map fun x => Value.ref x.2.1 := by
    apply List.ext_getElem?
    intro j
    rw [Array.getElem?_toList, List.getElem?_map]
    by_cases hj : j < es.size
    · have hj2 : j < acc.size := by rw [hacc.1]; exact hj
      obtain ⟨hi, ev⟩ := hacc.2 j acc[j] (Array.getElem?_eq_getElem hj2)
      rw [Array.getElem?_eq_getElem hj2, ev]
      have hx : j < xs.length := by rw [← hes]; exact hj
      rw [List.getElem?_eq_getElem hx]
      have e2 : es[j] = (entryOfKey (tupleKind (mixKind X.prog X.w))) xs[j] := by
        have : es.toList[j]'(by simpa using hj) = (xs.map (entryOfKey (tupleKind (mixKind X.prog X.w))))[j]'(by simpa using hx) := by simp only [h4]
        simpa using this
      rw [e2]
      rfl
    · have hj2 : ¬ j < acc.size := by rw [hacc.1]; exact hj
      rw [Array.getElem?_eq_none (by omega), List.getElem?_eq_none (by omega)]
      rfl
  have hal2 : acc.toList.length = kvs.length := by rw [hac, List.length_map, hxs]
  refine wpAny_bind (wpAny_newList ?_ (by rw [hal2]; exact z))
  have hoL : (h'.push (seqObj "list" acc.toList.toArray 0)).get? h'.objs.size = some (seqObj "list" acc.toList.toArray 0) := Heap.get?_push_size _ rfl
  show wpAny _ _ _ _ _ { s with heap := h'.push (seqObj "list" acc.toList.toArray 0), toks := tk }
  -- the items as data
  have vb : Vals ((xs.map fun x => ((V.ref x.2.1, tkD x.1) : V × D)).map (·.1)) acc.toList := by
    rw [hac, List.map_map]
    clear hac hal2 hoL eb mb rel h4 h5 hxs hes
    induction xs with
    | nil => exact .nil
    | cons x xs ih => exact .cons rfl ih
  have dpb : DpAll X.K H ((xs.map fun x => ((V.ref x.2.1, tkD x.1) : V × D)).map (·.1)) ((xs.map fun x => ((V.ref x.2.1, tkD x.1) : V × D)).map fun b => b.2.py) := by
    have key : ∀ bs : List (V × D), D.okds 59 (bs.map (·.2)) = true → (∀ b ∈ bs, ∃ q k, b = (V.ref q, tkD k) ∧ H q = some (.tup (k.map kV))) → DpAll X.K H (bs.map (·.1)) (bs.map fun b => b.2.py) := by
      intro bs ob hb
      induction bs with
      | nil => exact .nil
      | cons b bs ih =>
        simp only [List.map_cons, D.okds, Bool.and_eq_true] at ob
        obtain ⟨q', k, rfl, hq⟩ := hb b (List.mem_cons_self ..)
        refine .cons ?_ (ih ob.2 fun c hc => hb c (List.mem_cons_of_mem _ hc))
        exact G.Rep.dp (F := fun _ => False) (as := []) ob.1 (.tup hq (reps_keys k))
    exact key _ (by rw [eb]; exact ho) mb
  have er := each_reads I1 dpb vb
  have er2 : PySem.W.EachIs (fun v (b : V × D) => ∃ as, Reads (PySem.W.sortingHeap (h'.push (seqObj "list" acc.toList.toArray 0)) h'.objs.size acc.toList) v b.2.py as) acc.toList (xs.map fun x => ((V.ref x.2.1, tkD x.1) : V × D)) :=
    er.mono fun _ _ ⟨as, r⟩ => ⟨as, PyProof.Rows.Reads.keeps (fun b o e => PySem.W.sortingHeap_old (Nat.ne_of_lt (Heap.lt_size e)) (Heap.get?_push_of_some _ e)) r⟩
  have em : (xs.map fun x => ((V.ref x.2.1, tkD x.1) : V × D)).map (fun b => b.2.py) = kvs.map fun p => (tkD p.1).py := by
    have this := congrArg (List.map D.py) eb
    simp only [List.map_map] at this ⊢
    exact this
  obtain ⟨hal1, hk1, hdp⟩ := hal
  rw [← em] at hal1 hk1 hdp
  have S := PySem.W.SortsAt.dataA (prog := X.prog) (w := X.w) (A := X.A.in1.in1) (s := { s with heap := PySem.W.sortingHeap (h'.push (seqObj "list" acc.toList.toArray 0)) h'.objs.size acc.toList, toks := tk })
    (PySem.W.each_map (R := fun v d => ∃ as, Reads (PySem.W.sortingHeap (h'.push (seqObj "list" acc.toList.toArray 0)) h'.objs.size acc.toList) v d as) (fun b : V × D => b.2.py) er2) hal1 hk1 (fun d hd => by
      have := hdp d hd
      have e2 : X.A.in1.in1.units = X.A.units + 2 := rfl
      omega)
  refine wpAny_bind (wpAny_holding (wpAny_call_entry PyProof.Rows.slot_list_sort ⟨_, hoL, rfl⟩ PyProof.Rows.entry_list_sort
    (PySem.W.list_sort_vals (s := { s with heap := h'.push (seqObj "list" acc.toList.toArray 0), toks := tk }) hoL S (by rw [hal2]; exact z) ⟨_, rfl, ?_⟩) (PyProof.Rows.args_list_sort _)))
  have eo := PySem.W.sortVals_data false (each_of_vals vb) er2 hal1
  generalize PySem.W.sortVals _ false acc.toList acc.toList = out at eo ⊢
  obtain ⟨e', he'⟩ := PyProof.Rows.sortedHeap_at (vs := acc.toList) (out := out.toArray) hoL
  have vo := vals_of_each eo
  refine wpAny_pure ⟨_, rfl, .ref h'.objs.size, _, I1.laid (t' := tk) (o := .lst (((xs.map fun x => ((V.ref x.2.1, tkD x.1) : V × D)).mergeSort (PySem.W.dataLe false fun b => b.2.py)).map (·.1))) (fun b u e => ?_) (Nat.le_refl _)
    ⟨?_, out, e', vo, he'⟩, rfl, q _ _ eb mb (I1.hok.fresh (Nat.le_refl _))⟩
  · have hb : b < h'.objs.size := Heap.lt_size e
    rw [PyProof.Rows.sortedHeap_old (Nat.ne_of_lt hb) (by rw [size_push']; exact Nat.lt_succ_of_lt hb)]
    exact Heap.get?_push_of_some _ e
  · rw [List.length_map, List.length_mergeSort, List.length_map, hxs]
    exact z
end L2
end G17_
section G18_
set_option Elab.async false
set_option linter.all false
set_option maxRecDepth 100000
set_option maxHeartbeats 1000000
namespace L2
namespace G
open PySem PySem.Spec PyProof.Rows
/-! ### keys -/
def toKey : D → Option Key
  | .int i => some (.inl i)
  | .str x => some (.inr x)
  | _ => none
def toKeys : List D → Option (List Key)
  | [] => some []
  | d :: ds => (toKey d).bind fun k => (toKeys ds).map (k :: ·)
def toTKey : D → Option (List Key)
  | .tup ds => toKeys ds
  | _ => none
theorem toKey_eq {d : D} {k : Key} (h : toKey d = some k) : d = kD k := by
  cases d <;> simp [toKey] at h <;> subst h <;> rfl
theorem toKeys_eq : ∀ {ds : List D} {ks : List Key}, toKeys ds = some ks → ds = ks.map kD
  | [], _, h => by cases h; rfl
  | d :: ds, ks, h => by
    simp only [toKeys, Option.bind_eq_some_iff, Option.map_eq_some_iff] at h
    obtain ⟨k, h1, ks', h2, rfl⟩ := h
    rw [toKey_eq h1, toKeys_eq h2]
    rfl
theorem toTKey_eq {d : D} {k : List Key} (h : toTKey d = some k) : d = tkD k := by
  cases d with
  | tup ds => unfold tkD; rw [toKeys_eq h]
  | _ => cases h
theorem toKey_kD (k : Key) : toKey (kD k) = some k := by cases k <;> rfl
theorem toKeys_kD : ∀ ks : List Key, toKeys (ks.map kD) = some ks
  | [] => rfl
  | k :: ks => by simp [toKeys, toKey_kD, toKeys_kD ks]
theorem toTKey_tkD (k : List Key) : toTKey (tkD k) = some k := toKeys_kD k
theorem kD_inj {a b : Key} (h : kD a = kD b) : a = b := by
  have := toKey_kD a
  rw [h, toKey_kD] at this
  exact (Option.some.inj this).symm
theorem tkD_inj {a b : List Key} (h : tkD a = tkD b) : a = b := by
  have := toTKey_tkD a
  rw [h, toTKey_tkD] at this
  exact (Option.some.inj this).symm
/-- whether a datum is this key -/
def keyEq (t : Bool) (a b : D) : Bool := if t then decide (toTKey a = toTKey b) else decide (toKey a = toKey b)
def setV (t : Bool) (k v : D) : List D → List D → List D
  | a :: ks, b :: vs => (if keyEq t a k = true then v else b) :: setV t k v ks vs
  | _, _ => []
def putL (t : Bool) (k v : D) (ks vs : List D) : List D × List D := if (ks.any fun a => keyEq t a k) = true then (ks, setV t k v ks vs) else (ks ++ [k], vs ++ [v])
def getL (t : Bool) (k : D) : List D → List D → Option D
  | a :: ks, b :: vs => if keyEq t a k = true then some b else getL t k ks vs
  | _, _ => none
def okKey (t : Bool) (k : D) : Bool := if t then (toTKey k).isSome else (toKey k).isSome
theorem keyEq_k {a b : Key} : keyEq false (kD a) (kD b) = decide (a = b) := by
  unfold keyEq
  rw [if_neg Bool.false_ne_true, toKey_kD, toKey_kD]
  by_cases h : a = b
  · rw [h]; simp
  · rw [decide_eq_false h]
    exact decide_eq_false fun z => h (Option.some.inj z)
theorem keyEq_t {a b : List Key} : keyEq true (tkD a) (tkD b) = decide (a = b) := by
  unfold keyEq
  rw [if_pos rfl, toTKey_tkD, toTKey_tkD]
  by_cases h : a = b
  · rw [h]; simp
  · rw [decide_eq_false h]
    exact decide_eq_false fun z => h (Option.some.inj z)
section
variable {κ : Type} [DecidableEq κ] {K : PySem.W.Frag} {F : Addr → Prop} {as : List Addr} {H : Hp} {t : Bool} {e : κ → D}
theorem put_reps (he : ∀ a b, keyEq t (e a) (e b) = decide (a = b)) {kvs : List (κ × V)} {ds : List D} {k : κ} {v : V} {d : D} (r : Reps K F as H (kvs.map (·.2)) ds) (rv : Rep K F as H v d) :
    (putL t (e k) d (kvs.map fun p => e p.1) ds).1 = (putK kvs k v).map (fun p => e p.1) ∧ Reps K F as H ((putK kvs k v).map (·.2)) (putL t (e k) d (kvs.map fun p => e p.1) ds).2 := by
  have ha : ((kvs.map fun p => e p.1).any fun a => keyEq t a (e k)) = kvs.any fun kv => decide (kv.1 = k) := by
    rw [List.any_map]
    congr 1
    funext p
    exact he _ _
  unfold putL putK
  rw [ha]
  by_cases h : (kvs.any fun kv => decide (kv.1 = k)) = true
  · rw [if_pos h, if_pos h]
    refine ⟨?_, ?_⟩
    · show (kvs.map fun p => e p.1) = _
      rw [List.map_map]
      apply List.map_congr_left
      intro p _
      show e p.1 = e (if p.1 = k then (p.1, v) else p).1
      split <;> rfl
    · show Reps K F as H _ (setV t (e k) d (kvs.map fun p => e p.1) ds)
      clear h ha
      induction kvs generalizing ds with
      | nil => cases r; exact .nil
      | cons p kvs ih =>
        cases r with
        | cons h1 h2 =>
          simp only [List.map_cons, setV, he]
          refine .cons ?_ (ih h2)
          by_cases z : p.1 = k
          · rw [if_pos z, if_pos (decide_eq_true z)]; exact rv
          · rw [if_neg z, if_neg (by simpa using z)]; exact h1
  · rw [if_neg h, if_neg h]
    refine ⟨by simp, ?_⟩
    rw [List.map_append]
    exact r.append (.cons rv .nil)
theorem get_reps (he : ∀ a b, keyEq t (e a) (e b) = decide (a = b)) : ∀ {kvs : List (κ × V)} {ds : List D} {k : κ}, Reps K F as H (kvs.map (·.2)) ds →
    (∀ d, getL t (e k) (kvs.map fun p => e p.1) ds = some d → ∃ v, valV kvs k = some v ∧ Rep K F as H v d) ∧ (getL t (e k) (kvs.map fun p => e p.1) ds).isSome = (valV kvs k).isSome
  | [], ds, k, r => by
    cases r
    exact ⟨fun d h => (by cases h), rfl⟩
  | p :: kvs, ds, k, r => by
    cases r with
    | cons h1 h2 =>
      obtain ⟨i1, i2⟩ := get_reps he (kvs := kvs) (k := k) h2
      simp only [List.map_cons, getL, he]
      by_cases z : p.1 = k
      · rw [if_pos (decide_eq_true z), valV_pos z]
        exact ⟨fun d h => by cases h; exact ⟨_, rfl, h1⟩, rfl⟩
      · rw [if_neg (by simpa using z), valV_neg z]
        exact ⟨i1, i2⟩
end
/-! ### d[k] = v, d an owned dict -/
theorem slot_dct {ρ : Env} {i : Nat} {k : Bool → List D → List D → M (Fl × Env)} {st : Store} {P : (Fl × Env) → Store → Prop} {ZZ : Ex → Store → Prop} (q : Ev ((match ρ[i]? with
  | some (some (.dct t ks vs)) => k t ks vs
  | _ => G.bad) st) P ZZ) : ∃ t ks vs, ρ[i]? = some (some (.dct t ks vs)) ∧ Ev (k t ks vs st) P ZZ := by
  cases e : ρ[i]? with
  | none => rw [e] at q; exact q.elim
  | some o =>
    rw [e] at q
    cases o with
    | none => exact q.elim
    | some d =>
      cases d with
      | dct t ks vs => exact ⟨t, ks, vs, rfl, q⟩
      | _ => exact q.elim
theorem Wf.dct_at {K : PySem.W.Frag} {O : List Nat} {B : Addr → Prop} {H0 : Hp} {as0 as : List Addr} {ρ : Env} {σ : L2.St} {H : Hp} {i : Nat} {t : Bool} {ks ds : List D} (w : Wf K O B H0 as0 as ρ σ H) (hO : i ∈ O) (e : ρ[i]? = some (some (.dct t ks ds))) :
    ∃ p o vs, σ[i]? = some (some (.ref p)) ∧ H p = some o ∧ DctO o t ks vs ∧ Reps K (Ff B as O σ) as H vs ds := by
  obtain ⟨v, h, r⟩ := w.own i _ e hO
  cases r with
  | dct hh o r => exact ⟨_, _, _, h, hh, o, r⟩
  | sca r z => cases r; exact absurd rfl (z _)
def S.dput (i : Nat) (fk fv : Env → M D) : SD := fun ρ => bnd (fv ρ) fun v => match ρ[i]? with
  | some (some (.dct t ks vs)) => bnd (fk ρ) fun k => if okKey t k = true ∧ ks.length < LIM then G.ret (.next, List.set ρ i (some (.dct t (putL t k v ks vs).1 (putL t k v ks vs).2))) else G.bad
  | _ => G.bad
theorem Rep.tkey {K : PySem.W.Frag} {F : Addr → Prop} {as : List Addr} {H : Hp} {v : V} {k : List Key} (r : Rep K F as H v (tkD k)) : ∃ b, v = .ref b ∧ H b = some (.tup (k.map kV)) := by
  unfold tkD at r
  cases r with
  | tup h r =>
    refine ⟨_, rfl, ?_⟩
    rw [h]
    have : ∀ {xs : List V} {ks : List Key}, Reps K F as H xs (ks.map kD) → xs = ks.map kV := by
      intro xs ks r
      induction ks generalizing xs with
      | nil => cases r; rfl
      | cons k ks ih =>
        cases r with
        | cons h1 h2 =>
          rw [ih h2]
          cases k <;> cases h1 <;> rfl
    rw [this r]
theorem Rep.key {K : PySem.W.Frag} {F : Addr → Prop} {as : List Addr} {H : Hp} {v : V} {k : Key} (r : Rep K F as H v (kD k)) : v = kV k := by
  cases k <;> cases r <;> rfl
section
variable {X : Cx} {O : List Nat} {Z : ZT} {e a b c ke ve : Expr} {fk fv : Env → M D} {pos p pos' : Pos} {x : Str}
theorem ds_dput (i : Nat) {x : Str} {p : Pos} (hu : X.A.units + 1 < cLine) (hO : i ∈ O) (hN : X.N[i]? = some x) (hv : Vis X.env.scope x) (hk : DE X O Z ke fk) (he : DE X O Z ve fv)
    (hs : swapsWith ve (some (.Subscript (.Name x p) ke pos')) pos.line X.env = pure false := by rfl) (hd : (x == ("__debug__" : Str)) = false := by decide) (hcd : (x == ("__classdict__" : Str)) = false := by decide) :
    DS X O Z (.Assign [.Subscript (.Name x p) ke pos'] ve pos) (S.dput i fk fv) := by
  refine PS.imp (ps_dput hu (pe_var (i := i) hN hv hd hcd) hk he hs) fun D σ H ⟨g, ok, q⟩ => ?_
  refine ⟨g, ok, (Ev.bnd q).mono (fun d st1 q as1 v H1 g1 s1 rv => ?_) fun _ _ z => z⟩
  have ok1 := ok.step g1 s1
  obtain ⟨t, ks, ds, er, q⟩ := slot_dct q
  obtain ⟨p0, o, vs, hσ, hp, dd, rs⟩ := ok1.wf.dct_at hO er
  refine ⟨.ref p0, hσ, g.at as1 st1, ok1, (Ev.bnd q).mono (fun kd st2 q as2 kv H2 g2 s2 rk => ?_) fun _ _ z => z⟩
  have ok2 := ok1.step g2 s2
  obtain ⟨p', o2, vs2, hσ2, hp2, dd2, rs2⟩ := ok2.wf.dct_at hO er
  cases (hσ.symm.trans hσ2)
  have rv2 := rv.grow s1 g2
  by_cases hc : okKey t kd = true ∧ ks.length < LIM
  · rw [if_pos hc] at q
    have fin : ∀ {o' : HO} {vs' : List V}, DctO o' t (putL t kd d ks ds).1 vs' → Reps X.K (Ff g.B as2 O σ) as2 H2 vs' (putL t kd d ks ds).2 → D.nx σ (upd H2 p0 o') := fun {o' vs'} do' rs' => by
      obtain ⟨w, s, sp⟩ := ok2.wf.write (d := .dct t (putL t kd d ks ds).1 (putL t kd d ks ds).2) (o := o') ok2.sr hO hσ do'.notTup (.inr ⟨_, _, _, _, do', rfl, rs'⟩)
      exact q as2 σ _ (((g1.trans g2).step s2).trans sp) w s
    rcases dd2 with ⟨kvs, rfl, rfl, rfl, rfl⟩ | ⟨kvs, rfl, rfl, rfl, rfl⟩
    · unfold okKey at hc
      rw [if_neg Bool.false_ne_true] at hc
      obtain ⟨k, ek⟩ := Option.isSome_iff_exists.mp hc.1
      have ek := toKey_eq ek
      subst ek
      obtain ⟨p1, p2⟩ := put_reps (t := false) (e := kD) (fun _ _ => keyEq_k) (k := k) rs2 rv2
      refine ⟨p0, _, rfl, .inl ⟨kvs, k, hp2, rk.key, ?_, rfl⟩, fin (.inl ⟨_, rfl, rfl, p1, rfl⟩) p2⟩
      have := hc.2
      rw [List.length_map] at this
      exact Nat.lt_trans this lim_line
    · unfold okKey at hc
      rw [if_pos rfl] at hc
      obtain ⟨k, ek⟩ := Option.isSome_iff_exists.mp hc.1
      have ek := toTKey_eq ek
      subst ek
      obtain ⟨p1, p2⟩ := put_reps (t := true) (e := tkD) (fun _ _ => keyEq_t) (k := k) rs2 rv2
      obtain ⟨b, rfl, hb⟩ := rk.tkey
      refine ⟨p0, _, rfl, .inr ⟨kvs, k, b, hp2, rfl, hb, ?_, rfl⟩, fin (.inr ⟨_, rfl, rfl, p1, rfl⟩) p2⟩
      have := hc.2
      rw [List.length_map] at this
      exact Nat.lt_trans this lim_line
  · rw [if_neg hc] at q
    exact q.elim
theorem dn_dictK : DN X O Z (.Dict [] [] pos) (E.cst (.dct false [] [])) := PE.imp pe_dnewK fun σ H Q ⟨g, ok, q⟩ => fun p np => q _ _ _ (Grow.new np) (ok.sr.new np) (.dct upd_same (.inl ⟨[], rfl, rfl, rfl, rfl⟩) .nil) fun p' z => by
  cases z
  exact ⟨np, not_as ok np⟩
theorem dn_dictT : DN X O Z (.Dict [] [] pos) (E.cst (.dct true [] [])) := PE.imp pe_dnewT fun σ H Q ⟨g, ok, q⟩ => fun p np => q _ _ _ (Grow.new np) (ok.sr.new np) (.dct upd_same (.inr ⟨[], rfl, rfl, rfl, rfl⟩) .nil) fun p' z => by
  cases z
  exact ⟨np, not_as ok np⟩
/-! ### sorted of a dict with tuple keys -/
def sortedDD : List D → Option D
  | [.lst ds] => (sortL ds).map .lst
  | [.dct true ks _] => (sortL ks).map .lst
  | _ => none
theorem b_sortedD (hcalm : X.calm = true) (hu : X.A.units + 65 < cLine) : BlN X (.builtin "sorted") sortedDD := by
  obtain ⟨r1, c1, h1⟩ := b_sorted (X := X) hu
  refine ⟨_, c1.or (cr_sortDT hcalm hu), fun F as H xs ds d Q tr r e q => ?_⟩
  unfold sortedDD at e
  split at e
  · exact .inl (h1 F as H xs _ d Q tr r e q)
  · rw [Option.map_eq_some_iff] at e
    obtain ⟨ys, e, rfl⟩ := e
    unfold sortL at e
    split at e
    · rename_i ks _ h
      cases e
      obtain ⟨v, rfl, rv⟩ := repTs1 r
      obtain ⟨a, o, us, rfl, hs, dd, rs⟩ := rv.t_dct
      have ho : D.okds 59 ks = true := by simp only [Bool.and_eq_true] at h; exact h.2
      have ha := sort_alike h
      rcases dd with ⟨_, z, _⟩ | ⟨kvs, _, rfl, rfl, rfl⟩
      · cases z
      · rw [List.map_map] at ha
        refine .inr ⟨a, kvs, rfl, hs, ha, ho, fun bs p eb mb np => ?_⟩
        have es : (bs.mergeSort (PySem.W.dataLe false fun b => b.2.py)).map (·.2) = (kvs.map fun p => tkD p.1).mergeSort leD' := by
          have := List.map_mergeSort (r := PySem.W.dataLe false fun b : V × D => b.2.py) (s := leD') (f := fun b : V × D => b.2) (l := bs) fun _ _ _ _ => rfl
          rw [this, eb]
        have rr : Reps X.K F as H ((bs.mergeSort (PySem.W.dataLe false fun b => b.2.py)).map (·.1)) ((kvs.map fun p => tkD p.1).mergeSort leD') := by
          rw [← es]
          refine reps_of fun b hb => ?_
          obtain ⟨q', k, rfl, hq⟩ := mb b (List.mem_mergeSort.mp hb)
          exact .tup hq (reps_keys k)
        exact q _ _ (same_new np) (Own.newL np rr) fun p' z => by cases z; exact np
    · cases e
  · cases e
end
end G
end L2
end G18_
section G19_
set_option Elab.async false
set_option linter.all false
set_option maxRecDepth 100000
set_option maxHeartbeats 1000000
namespace L2
namespace G
open PySem PySem.Spec PyProof.Rows
section
variable {X : Cx} {O : List Nat} {Z : ZT} {e a b c tg : Expr} {es : List Expr} {f fa fb fc : Env → M D} {r : Env → M (List D)} {pos p : Pos} {x : Str} {vs : List Nat} {t : D → Env → Option Env}
/-! ### x, y = e -/
def S.asg (f : Env → M D) (t : D → Env → Option Env) : SD := fun ρ => bnd (f ρ) fun d => bnd (lift (t d ρ)) fun ρ' => G.ret (.next, ρ')
theorem step_tgt {as : List Addr} {σ σ' : L2.St} {H : Hp} (o : ∀ a, ownA O σ' a ↔ ownA O σ a) : Step O as σ H as σ' H := ⟨fun _ _ h => h, fun _ _ h _ _ => h, fun _ h n => absurd h n, fun a h => .inl ((o a).mp h), fun _ o h => ⟨o, h⟩⟩
theorem ds_asg (he : DE X O Z e f) (hg : DG X O vs tg t) (hs : swapsWithSole [tg] e pos.line X.env = pure false := by rfl) (hw : swappedStores [tg] e X.env = pure none := by rfl)
    (h1 : (assignEach [tg] X.env).map (·.2) = [assign tg X.env] := by rfl) : DS X O Z (.Assign [tg] e pos) (S.asg f t) := PS.imp (ps_asg he hg hs hw h1) fun D σ H ⟨g, ok, q⟩ =>
  ⟨g, ok, (Ev.bnd q).mono (fun d st' q as' v H' gr s r => by
    obtain ⟨ρ', e, q⟩ := (Ev.bnd q).lift
    exact ⟨g.at as' st', d, ρ', ok.step gr s, r, e, fun σ' w o l j => q as' σ' H' ((gr.step s).trans (step_tgt o)) w s⟩) fun _ _ z => z⟩
/-! ### a, b = x, y -/
def S.par (i j : Nat) (fa fb : Env → M D) : SD := fun ρ => bnd (fa ρ) fun x => bnd (fb ρ) fun y => G.ret (.next, List.set (List.set ρ i (some x)) j (some y))
theorem fresh_back {K : PySem.W.Frag} {g : Gh} {σ : L2.St} {H H1 : Hp} {as1 : List Addr} {st1 : Store} {p : Addr} (gr : Grow g.as H as1 H1) (n : H1 p = none) (na : p ∉ as1) : H p = none := by
  cases z : H p with
  | none => rfl
  | some o =>
    by_cases m : p ∈ g.as
    · exact absurd (gr.sub m) na
    · have := gr.keep p o z m
      rw [n] at this; cases this
section
variable {i j : Nat} {y : Str} {px py pt : Pos} {kt k2 : Nat} {pt2 : Pos}
theorem ds_parEE (i j : Nat) {x y : Str} (hiO : i ∉ O) (hjO : j ∉ O) (hc : X.calm = true) (hN : X.N.Nodup) (hi : X.N[i]? = some x) (hj : X.N[j]? = some y) (hij : i ≠ j)
    (hx : X.env.scope.names.lookup x = some .local) (hy : X.env.scope.names.lookup y = some .local) (ha : DE X O Z a fa) (hb : DE X O Z b fb)
    (hw : swappedStores [.Tuple [.Name x px, .Name y py] kt pt] (.Tuple [a, b] k2 pt2) X.env = pure (some [x, y]))
    (hs : swapsWithSole [.Tuple [.Name x px, .Name y py] kt pt] (.Tuple [a, b] k2 pt2) pos.line X.env = pure false := by rfl) 
    (hs1 : starEach [a, b] X.env = (false, eval a X.env) :: starEach [b] X.env := by rfl) (hs2 : starEach [b] X.env = (false, eval b X.env) :: starEach [] X.env := by rfl) :
    DS X O Z (.Assign [.Tuple [.Name x px, .Name y py] kt pt] (.Tuple [a, b] k2 pt2) pos) (S.par i j fa fb) := PS.imp (ps_par hc hN hi hj hij hx hy (pa_cons ha (pa_cons hb pa_nil hs2) hs1) hw hs) fun D σ H ⟨g, ok, q⟩ =>
  ⟨g, ok, (Ev.bnd q).mono (fun d1 st1 q as1 v1 H1 g1 s1 r1 => ⟨g.at as1 st1, ok.step g1 s1, (Ev.bnd q).mono (fun d2 st2 q as2 v2 H2 g2 s2 r2 => ⟨v1, v2, rfl, by
    have w2 := ((ok.step g1 s1).step g2 s2).wf
    have w3 := w2.set hiO (r1.grow s1 g2)
    have r2' : Rep X.K (Ff g.B as2 O (σ.set i (some v1))) as2 H2 v2 d2 := by rw [ff_set hiO]; exact r2
    exact q as2 _ H2 (((g1.trans g2).step s2).trans ((Step.set hiO _).trans (Step.set hjO _))) (w3.set hjO r2') s2⟩) fun _ _ z => z⟩) fun _ _ z => z⟩
theorem ds_parEN (i j : Nat) {x y : Str} (hiO : i ∉ O) (hjO : j ∈ O) (hc : X.calm = true) (hN : X.N.Nodup) (hi : X.N[i]? = some x) (hj : X.N[j]? = some y) (hij : i ≠ j)
    (hx : X.env.scope.names.lookup x = some .local) (hy : X.env.scope.names.lookup y = some .local) (ha : DE X O Z a fa) (hb : DN X O Z b fb)
    (hw : swappedStores [.Tuple [.Name x px, .Name y py] kt pt] (.Tuple [a, b] k2 pt2) X.env = pure (some [x, y]))
    (hs : swapsWithSole [.Tuple [.Name x px, .Name y py] kt pt] (.Tuple [a, b] k2 pt2) pos.line X.env = pure false := by rfl) 
    (hs1 : starEach [a, b] X.env = (false, eval a X.env) :: starEach [b] X.env := by rfl) (hs2 : starEach [b] X.env = (false, eval b X.env) :: starEach [] X.env := by rfl) :
    DS X O Z (.Assign [.Tuple [.Name x px, .Name y py] kt pt] (.Tuple [a, b] k2 pt2) pos) (S.par i j fa fb) := PS.imp (ps_par hc hN hi hj hij hx hy (pa_cons ha (pa_cons hb pa_nil hs2) hs1) hw hs) fun D σ H ⟨g, ok, q⟩ =>
  ⟨g, ok, (Ev.bnd q).mono (fun d1 st1 q as1 v1 H1 g1 s1 r1 => ⟨g.at as1 st1, ok.step g1 s1, (Ev.bnd q).mono (fun d2 st2 q as2 v2 H2 g2 s2 r2 n2 => ⟨v1, v2, rfl, by
    have w1 := (ok.step g1 s1).wf.set hiO r1
    have r2' : Own X.K (fun a => Ff g.B as2 O (σ.set i (some v1)) a ∨ v2 = .ref a) as2 H2 v2 d2 := by rw [ff_set hiO]; exact r2
    obtain ⟨w3, sp⟩ := w1.setN s1 g2 s2 hjO r2' n2
    exact q as2 _ H2 (((g1.step s1).trans (Step.set hiO _)).trans sp) w3 s2⟩) fun _ _ z => z⟩) fun _ _ z => z⟩
theorem Own.wk {K : PySem.W.Frag} {F F' : Addr → Prop} {as : List Addr} {H : Hp} {v : V} {d : D} (r : Own K F as H v d) (k : ∀ a o, H a = some o → F' a → F a) : Own K F' as H v d := by
  cases r with
  | lst hh r => exact .lst hh (r.weak k)
  | dct hh o r => exact .dct hh o (r.weak k)
  | sca r q => exact .sca (r.weak k) q
theorem ff_setN {B : Addr → Prop} {as : List Addr} {σ : L2.St} {v : V} {a : Addr} (z : Ff B as O (σ.set i (some v)) a) : Ff (fun a => B a ∨ v = .ref a) as O σ a := by
  rcases z with z | z | ⟨k, hk, z⟩
  · exact .inl (.inl z)
  · exact .inr (.inl z)
  · rcases get_set_some z with ⟨_, e, _⟩ | ⟨_, e⟩
    · cases e; exact .inl (.inr rfl)
    · exact .inr (.inr ⟨k, hk, e⟩)
/-- a new value, not yet stored, while another is made -/
theorem hold_new {K : PySem.W.Frag} {g : Gh} {σ : L2.St} {H H1 : Hp} {as1 : List Addr} {st1 : Store} {v : V} {d : D} (ok : g.ok K O σ H) (g1 : Grow g.as H as1 H1) (s1 : SRep K as1 st1 H1) (r : Own K (fun a => Ff g.B as1 O σ a ∨ v = .ref a) as1 H1 v d)
    (n : ∀ p, v = .ref p → H p = none ∧ p ∉ as1) : Wf K O (fun a => g.B a ∨ v = .ref a) g.H0 g.as0 as1 g.ρ σ H1 := by
  cases v with
  | ref p =>
    have n' := n p rfl
    have hD : ∃ o, H1 p = some o := by
      cases r with
      | lst h _ => exact ⟨_, h⟩
      | dct h _ _ => exact ⟨_, h⟩
      | sca _ z => exact absurd rfl (z p)
    have w := ok.wf.growB (D0 := p) ok.sr n'.1 g1 s1 hD
    refine w.mono fun a z => ?_
    rcases z with z | z
    · exact .inl z
    · cases z; exact .inr rfl
  | _ => exact (ok.step g1 s1).wf.mono (B' := g.B) fun a z => z.elim id fun z => nomatch z
theorem ds_parNE (i j : Nat) {x y : Str} (hiO : i ∈ O) (hjO : j ∉ O) (hc : X.calm = true) (hN : X.N.Nodup) (hi : X.N[i]? = some x) (hj : X.N[j]? = some y) (hij : i ≠ j)
    (hx : X.env.scope.names.lookup x = some .local) (hy : X.env.scope.names.lookup y = some .local) (ha : DN X O Z a fa) (hb : DE X O Z b fb)
    (hw : swappedStores [.Tuple [.Name x px, .Name y py] kt pt] (.Tuple [a, b] k2 pt2) X.env = pure (some [x, y]))
    (hs : swapsWithSole [.Tuple [.Name x px, .Name y py] kt pt] (.Tuple [a, b] k2 pt2) pos.line X.env = pure false := by rfl) 
    (hs1 : starEach [a, b] X.env = (false, eval a X.env) :: starEach [b] X.env := by rfl) (hs2 : starEach [b] X.env = (false, eval b X.env) :: starEach [] X.env := by rfl) :
    DS X O Z (.Assign [.Tuple [.Name x px, .Name y py] kt pt] (.Tuple [a, b] k2 pt2) pos) (S.par i j fa fb) := PS.imp (ps_par hc hN hi hj hij hx hy (pa_cons ha (pa_cons hb pa_nil hs2) hs1) hw hs) fun D σ H ⟨g, ok, q⟩ => by
  refine ⟨g, ok, (Ev.bnd q).mono (fun d1 st1 q as1 v1 H1 g1 s1 r1 n1 => ?_) fun _ _ z => z⟩
  have w1 := hold_new ok g1 s1 r1 n1
  refine ⟨⟨fun a => g.B a ∨ v1 = .ref a, g.H0, g.as0, as1, g.ρ, st1⟩, ⟨w1, s1⟩, (Ev.bnd q).mono (fun d2 st2 q as2 v2 H2 g2 s2 r2 => ⟨v1, v2, rfl, ?_⟩) fun _ _ z => z.mono fun _ z => .inl z⟩
  obtain ⟨w2, sp⟩ := ok.wf.setN ok.sr g1 s1 hiO r1 n1
  have w3 := w2.grow s1 g2 s2
  exact q as2 _ H2 (sp.trans ((g2.step s2).trans (Step.set hjO _))) (w3.set hjO (r2.weak fun a o _ z => ff_setN z)) s2
theorem ds_parNN (i j : Nat) {x y : Str} (hiO : i ∈ O) (hjO : j ∈ O) (hc : X.calm = true) (hN : X.N.Nodup) (hi : X.N[i]? = some x) (hj : X.N[j]? = some y) (hij : i ≠ j)
    (hx : X.env.scope.names.lookup x = some .local) (hy : X.env.scope.names.lookup y = some .local) (ha : DN X O Z a fa) (hb : DN X O Z b fb)
    (hw : swappedStores [.Tuple [.Name x px, .Name y py] kt pt] (.Tuple [a, b] k2 pt2) X.env = pure (some [x, y]))
    (hs : swapsWithSole [.Tuple [.Name x px, .Name y py] kt pt] (.Tuple [a, b] k2 pt2) pos.line X.env = pure false := by rfl) 
    (hs1 : starEach [a, b] X.env = (false, eval a X.env) :: starEach [b] X.env := by rfl) (hs2 : starEach [b] X.env = (false, eval b X.env) :: starEach [] X.env := by rfl) :
    DS X O Z (.Assign [.Tuple [.Name x px, .Name y py] kt pt] (.Tuple [a, b] k2 pt2) pos) (S.par i j fa fb) := PS.imp (ps_par hc hN hi hj hij hx hy (pa_cons ha (pa_cons hb pa_nil hs2) hs1) hw hs) fun D σ H ⟨g, ok, q⟩ => by
  refine ⟨g, ok, (Ev.bnd q).mono (fun d1 st1 q as1 v1 H1 g1 s1 r1 n1 => ?_) fun _ _ z => z⟩
  have w1 := hold_new ok g1 s1 r1 n1
  refine ⟨⟨fun a => g.B a ∨ v1 = .ref a, g.H0, g.as0, as1, g.ρ, st1⟩, ⟨w1, s1⟩, (Ev.bnd q).mono (fun d2 st2 q as2 v2 H2 g2 s2 r2 n2 => ⟨v1, v2, rfl, ?_⟩) fun _ _ z => z.mono fun _ z => .inl z⟩
  obtain ⟨w2, sp⟩ := ok.wf.setN ok.sr g1 s1 hiO r1 n1
  obtain ⟨w3, sp3⟩ := w2.setN s1 g2 s2 hjO (r2.wk fun a o _ z => z.elim (fun z => .inl (ff_setN z)) .inr) n2
  exact q as2 _ H2 (sp.trans sp3) w3 s2
end
/-! ### y = x.pop(), y = x.pop(e), also with a tuple as target -/
def S.popG (i : Nat) (t : D → Env → Option Env) : SD := fun ρ => match ρ[i]? with
  | some (some (.lst ds)) => (match ds[ds.length - 1]? with
    | some d => bnd (lift (t d (List.set ρ i (some (.lst ds.dropLast))))) fun ρ' => G.ret (.next, ρ')
    | none => G.bad)
  | _ => G.bad
def S.popAtG (i : Nat) (e : Env → M D) (t : D → Env → Option Env) : SD := fun ρ => match ρ[i]? with
  | some (some (.lst ds)) => bnd (e ρ) fun k => (match k with
    | .int k => if 0 ≤ k ∧ k < 1000000 then (match ds[k.toNat]? with
      | some d => bnd (lift (t d (List.set ρ i (some (.lst (ds.eraseIdx k.toNat)))))) fun ρ' => G.ret (.next, ρ')
      | none => G.bad) else G.bad
    | _ => G.bad)
  | _ => G.bad
theorem Reps.erase {K : PySem.W.Frag} {F : Addr → Prop} {as : List Addr} {H : Hp} : ∀ (n : Nat) {vs : List V} {ds : List D}, Reps K F as H vs ds → Reps K F as H (vs.eraseIdx n) (ds.eraseIdx n)
  | _, _, _, .nil => by simp; exact .nil
  | 0, _, _, .cons h r => r
  | n + 1, _, _, .cons h r => .cons h (r.erase n)
theorem Reps.dropLast {K : PySem.W.Frag} {F : Addr → Prop} {as : List Addr} {H : Hp} {vs : List V} {ds : List D} (r : Reps K F as H vs ds) : Reps K F as H vs.dropLast ds.dropLast := by
  rw [List.dropLast_eq_take, List.dropLast_eq_take, r.length]
  exact r.take _
theorem own_write {K : PySem.W.Frag} {g : Gh} {σ : L2.St} {H : Hp} {i : Nat} {p : Addr} {vs vs' : List V} {d d' : D} {v : V} (ok : g.ok K O σ H) (hO : i ∈ O) (hσ : σ[i]? = some (some (.ref p))) (hp : H p = some (.lst vs)) (r : Rep K (Ff g.B g.as O σ) g.as H v d) :
    Rep K (Ff g.B g.as O σ) g.as (upd H p (.lst vs')) v d :=
  r.frame (fun b o e n => by rw [upd_ne (fun (z : b = p) => n (by rw [z]; exact .inr (.inr ⟨i, hO, hσ⟩)))]; exact e) (fun b o e t => by rw [upd_ne (fun (z : b = p) => by rw [z, hp] at e; cases e; exact t)]; exact e) fun _ _ h => h
theorem ds_popAt (i j : Nat) {x y : Str} {p apos cpos py : Pos} (hO : i ∈ O) (hjO : j ∉ O) (hN : X.N.Nodup) (hx : X.N[i]? = some x) (hv : Vis X.env.scope x) (hy : X.N[j]? = some y) (hyl : Loc X.env.scope y) (he : DE X O Z e f)
    (hs : swapsWith (.Call (.Attribute (.Name x p) "pop" apos) [e] [] cpos) (some (.Name y py)) pos.line X.env = pure false := by rfl)
    (hf : X.fn y = true ∨ X.env.scope.names.lookup y = some .local := by first | exact .inl rfl | exact .inr rfl | assumption)
    (hd : (x == ("__debug__" : Str)) = false := by decide) (hcd : (x == ("__classdict__" : Str)) = false := by decide)
    (hbase : attributeBase (.Name x p) "pop" X.env (eval (.Name x p) X.env) = eval (.Name x p) X.env := by rfl) (hline : (apos.endLine == cpos.line) = true := by rfl) (hs1 : starEach [e] X.env = (false, eval e X.env) :: starEach [] X.env := by rfl)
    (hfew : ((backTo cpos (starEach [e] X.env)).all (fun x => !x.1) && (backToKw cpos (keywordEach [] X.env)).all (fun x => x.1.isSome)
      && decide (([e] : List Expr).length + ([] : List Keyword).length + (if ([] : List Keyword).isEmpty then 0 else 1) < 30)) = true := by rfl) :
    DS X O Z (.Assign [.Name y py] (.Call (.Attribute (.Name x p) "pop" apos) [e] [] cpos) pos) (S.popAtG i f (Gt.name j)) := by
  refine PS.imp (ps_set hN hy hyl (pe_bm PySem.F.plainAttrs_list PySem.F.slot_list_pop PySem.F.type_list_pop mt_popAt (pe_var (i := i) hx hv hd hcd) (pa_cons he pa_nil hs1) hbase hfew hline hs1) hs hf) fun D σ H ⟨g, ok, q⟩ => ?_
  unfold S.popAtG at q
  obtain ⟨ds, er, q⟩ := slot_lst q
  obtain ⟨p, vs, hσ, hp, rs⟩ := ok.wf.lst_at hO er
  refine ⟨.ref p, hσ, .inl ⟨rfl, _, .inl (.inl hp)⟩, g, ok, (Ev.bnd q).mono (fun d st1 q as1 v H1 g1 s1 rv => ?_) fun _ _ z => z⟩
  have ok1 := ok.step g1 s1
  obtain ⟨p', vs1, hσ1, hp1, rs1⟩ := ok1.wf.lst_at hO er
  cases (hσ.symm.trans hσ1)
  cases d with
  | int k =>
    cases rv
    dsimp only at q
    split at q
    · rename_i hk
      cases hd : ds[k.toNat]? with
      | none => rw [hd] at q; exact q.elim
      | some d =>
        rw [hd] at q
        obtain ⟨ρ', e, q⟩ := (Ev.bnd q).lift
        cases e
        obtain ⟨y, hy, ry⟩ := rs1.get' hd
        have hlt : k.toNat < vs1.length := by
          rw [rs1.length]
          exact (List.getElem?_eq_some_iff.mp hd).1
        refine ⟨p, vs1, k, k.toNat, y, rfl, rfl, hp1, by omega, by omega, seqIndex_of hk.1 (by omega), hy, ?_⟩
        obtain ⟨w, s, sp⟩ := ok1.wf.write (d := .lst (ds.eraseIdx k.toNat)) (o := .lst (vs1.eraseIdx k.toNat)) ok1.sr hO hσ (fun z => z) (.inl ⟨_, _, rfl, rfl, rs1.erase _⟩)
        exact q as1 _ _ (((g1.step s1).trans sp).trans (Step.set hjO _)) (w.set hjO (own_write (d' := d) ok1 hO hσ hp1 ry)) s
    · exact q.elim
  | _ => exact q.elim
theorem ds_pop (i j : Nat) {x y : Str} {p apos cpos py : Pos} (hO : i ∈ O) (hjO : j ∉ O) (hN : X.N.Nodup) (hx : X.N[i]? = some x) (hv : Vis X.env.scope x) (hy : X.N[j]? = some y) (hyl : Loc X.env.scope y)
    (hs : swapsWith (.Call (.Attribute (.Name x p) "pop" apos) [] [] cpos) (some (.Name y py)) pos.line X.env = pure false := by rfl)
    (hf : X.fn y = true ∨ X.env.scope.names.lookup y = some .local := by first | exact .inl rfl | exact .inr rfl | assumption)
    (hd : (x == ("__debug__" : Str)) = false := by decide) (hcd : (x == ("__classdict__" : Str)) = false := by decide)
    (hbase : attributeBase (.Name x p) "pop" X.env (eval (.Name x p) X.env) = eval (.Name x p) X.env := by rfl) (hline : (apos.endLine == cpos.line) = true := by rfl) :
    DS X O Z (.Assign [.Name y py] (.Call (.Attribute (.Name x p) "pop" apos) [] [] cpos) pos) (S.popG i (Gt.name j)) := by
  refine PS.imp (ps_set hN hy hyl (pe_bm0 PySem.F.plainAttrs_list PySem.F.slot_list_pop PySem.F.type_list_pop mt_pop (pe_var (i := i) hx hv hd hcd) hbase hline) hs hf) fun D σ H ⟨g, ok, q⟩ => ?_
  unfold S.popG at q
  obtain ⟨ds, er, q⟩ := slot_lst q
  obtain ⟨p, vs, hσ, hp, rs⟩ := ok.wf.lst_at hO er
  cases hd : ds[ds.length - 1]? with
  | none => rw [hd] at q; exact q.elim
  | some d =>
    rw [hd] at q
    obtain ⟨ρ', e, q⟩ := (Ev.bnd q).lift
    cases e
    obtain ⟨y, hy, ry⟩ := rs.get' hd
    refine ⟨.ref p, hσ, .inl ⟨rfl, _, .inl (.inl hp)⟩, p, vs, y, rfl, rfl, hp, by rw [rs.length]; exact hy, ?_⟩
    obtain ⟨w, s, sp⟩ := ok.wf.write (d := .lst ds.dropLast) (o := .lst vs.dropLast) ok.sr hO hσ (fun z => z) (.inl ⟨_, _, rfl, rfl, rs.dropLast⟩)
    exact q g.as _ _ (sp.trans (Step.set hjO _)) (w.set hjO (own_write (d' := d) ok hO hσ hp ry)) s
end
end G
end L2
end G19_
section G20_
set_option Elab.async false
set_option linter.all false
set_option maxRecDepth 100000
set_option maxHeartbeats 1000000
namespace L2
namespace G
open PySem PySem.Spec PyProof.Rows
/-! ### dict comprehensions with tuples as keys (after the rule for plain keys) -/
theorem d_dictSetT {X : Cx} {pins : List (Addr × Obj)} {σ : L2.St} {H : Hp} {s : Shared} {E : Value → Shared → Prop} {D b : Addr} {kvs : List (List Key × V)} {k : List Key} {v : V} {u r : Value} {Q : Unit → Shared → Prop} (hu : X.A.units + 1 < cLine) (I : Inv X pins σ H s) (hD : H D = some (.dT kvs)) (hb : H b = some (.tup (k.map kV))) (hz : kvs.length < sizeLine)
    (ry : RelV (.ref b) u) (rv : RelV v r) (h : ∀ s', Inv X pins σ (upd H D (.dT (putK kvs k v))) s' → Q () s') : wpAny (model X.prog X.w) X.A (dictSet D u r) Q E s := by
  cases (show u = Value.ref b from ry)
  obtain ⟨z, hd, xs, rel, dd⟩ := dt_of I.hok hD
  have hz : xs.length ≤ sizeLine := by rw [← Paired.length rel]; exact z
  have hl : (putK kvs k v).length ≤ sizeLine := by have := length_putK kvs k v; omega
  refine wpAny_dictSet_heap (hsz := hz) (show X.A.units < cLine by omega) (key_of I.hok hb) dd fun h' dd' hs => h _ ?_
  obtain ⟨q, es, ep, hq, h2, h3, h4, _, h5⟩ := dd'
  refine d_write I (by rw [hD]; exact True.intro) hs ⟨q, hq⟩ ⟨hl, hd, _, (rel.put k hb rv).keeps fun c ys ec => ?_, q, es, ep, hq, h2, h3, h4, h5⟩
  rw [upd_ne (ne_of ec hD (fun z => nomatch z))]
  exact ec
section
variable {X : Cx}
def tDcT (wi : TI) (g : TG) (tt : TT) (tk tv : TE) (vs : List Nat) : TE := fun σ H Q => wi σ H fun J H1 => ∀ D, H1 D = none → ∃ W : Nat → Nat → Hp → Prop, (∃ m, W 0 m (upd H1 D (.dT []))) ∧ ∀ i m H, W i m H →
  (J.stop i H ∧ Q (.ref D) H) ∨ (J.go i H ∧ ∃ Nx : Hp → Prop, (∀ H', Nx H' → ∃ m', m' < m ∧ W (i + 1) m' H') ∧ ∀ x H', J.yld i H x H' → g x (wipe σ vs) H' fun σ2 H2 => wipe σ2 vs = wipe σ vs ∧ tt σ2 H2 fun b H3 =>
    if b = true then tk σ2 H3 fun y H4 => tv σ2 H4 fun z H5 => ∃ kvs k b, y = .ref b ∧ H5 b = some (.tup (k.map kV)) ∧ H5 D = some (.dT kvs) ∧ kvs.length < sizeLine ∧ Nx (upd H5 D (.dT (putK kvs k z))) else Nx H3)
theorem dc_coreT {pins : List (Addr × Obj)} {s : Shared} {σ : St} {H : Hp} {Q : VK} {kx vx tg iter : Expr} {ifs : List Expr} {scope : Scope} {own : List (Str × Nat)} {pos pos' : Pos} {wi : TI} {g : TG} {tt : TT} {tk tv : TE} {use : Option (Value → Sem Unit)} {Qf : Value → Shared → Prop}
    (hu : X.A.units + 1 < cLine) (hc : X.calm = true) (hN : X.N.Nodup) (I : Inv X pins σ H s) (hi : PI X tg iter wi) (ok : BlkOk X.N X.env.scope scope own)
    (hg : ∀ (s : Shared) (H : Hp) (C : Addr) (cl : List (Str × Addr)) (fp : List Addr), PG (X.blk s H scope (compEnvC scope cl C X.env) fp) tg g) (ht : ∀ (s : Shared) (H : Hp) (C : Addr) (cl : List (Str × Addr)) (fp : List Addr), PTs (X.blk s H scope (compEnvC scope cl C X.env) fp) ifs tt)
    (hk : ∀ (s : Shared) (H : Hp) (C : Addr) (cl : List (Str × Addr)) (fp : List Addr), PE (X.blk s H scope (compEnvC scope cl C X.env) fp) kx tk)
    (he : ∀ (s : Shared) (H : Hp) (C : Addr) (cl : List (Str × Addr)) (fp : List Addr), PE (X.blk s H scope (compEnvC scope cl C X.env) fp) vx tv) (hs : ∀ x, foldedSetIterable iter X.env x = pure x)
    (h : tDcT wi g tt tk tv (own.map (·.2)) σ H Q)
    (hRR : ∀ D C s' m H', Inv X pins σ H' s' → Q (.ref D) H' → s'.heap.Ns C m → FpOk X pins H' C → compPost (model X.prog X.w) X.A X.xe use Qf (.ref D) C (.ok .next) s') :
    wpAny (model X.prog X.w) X.A (comprehension (.DictComp kx vx [⟨tg, iter, ifs, 0⟩] scope pos) scope X.env pos' newDict false (eval iter X.env) use) Qf X.xe s := by
  have hfree : ∀ y ∈ scope.names, y.2 = .free → ∃ c, X.env.cells.lookup y.1 = some c := fun y hy e => by
    rcases ok.free y hy e with k | k
    · exact I.ok.has _ (.inl k)
    · exact I.ok.has _ (.inr k)
  refine wpAny_comprehension_free (use := use) rfl hs (closure_ok hfree) ok.kind (fun y hy e => by rw [ok.uniq y hy, e])
    (thn (hi.run pins s σ H _ I h) fun xv s1 hx => thn hx fun itv s2 h2 => ?_)
  obtain ⟨it, fp, tn, J, H2, e, I2, T, st2, f2, q⟩ := h2
  subst e
  refine wpAny_newObj_type (newEnv_comp ?_)
  generalize hD : s2.heap.objs.size = D
  have hDn : H2 D = none := I2.hok.fresh (Nat.le_of_eq hD)
  obtain ⟨W, ⟨m0, w0⟩, turn⟩ := q D hDn
  -- the new list
  generalize hs3 : ({ s2 with heap := s2.heap.push { cls := .type "dict", data := .dict #[] } } : Shared) = s3
  have I3 : Inv X pins σ (upd H2 D (.dT [])) s3 := by
    rw [← hs3]
    refine I2.laid (t' := s2.toks) (fun b o e => Heap.get?_push_of_some _ e) (Nat.le_of_eq hD) ?_
    rw [← hD]
    exact dt_empty s2.heap I2.big
  have h3 : s3.heap = s2.heap.push { cls := .type "dict", data := .dict #[] } := by rw [← hs3]
  have sz : ∀ b ∈ fp, b < s2.heap.objs.size := fun b hb => by
    obtain ⟨o, e, _⟩ := T.obj _ _ st2 b hb
    exact Heap.lt_size e
  have f3 : ∀ b ∈ fp, FpOk X pins (upd H2 D (.dT [])) b ∧ b < s3.heap.objs.size := fun b hb => by
    have hlt := sz b hb
    refine ⟨⟨?_, (f2 b hb).2⟩, by rw [h3, Heap.size_push]; exact Nat.lt_succ_of_lt hlt⟩
    rw [upd_ne (by rw [← hD]; exact Nat.ne_of_lt hlt)]
    exact (f2 b hb).1
  have st3 : tn 0 s3.heap := T.keep _ _ _ st2 fun b _ o e => by rw [h3]; exact Heap.get?_push_of_some _ e
  have I4 := block_start I3 ok hN f3
  have pg := hg s3 (upd H2 D (.dT [])) s3.heap.objs.size (cellsFrom (s3.heap.objs.size + 1) scope.names (cloFrom X.env.cells scope.names [])) fp
  have pt := ht s3 (upd H2 D (.dT [])) s3.heap.objs.size (cellsFrom (s3.heap.objs.size + 1) scope.names (cloFrom X.env.cells scope.names [])) fp
  have pk := hk s3 (upd H2 D (.dT [])) s3.heap.objs.size (cellsFrom (s3.heap.objs.size + 1) scope.names (cloFrom X.env.cells scope.names [])) fp
  have pe := he s3 (upd H2 D (.dT [])) s3.heap.objs.size (cellsFrom (s3.heap.objs.size + 1) scope.names (cloFrom X.env.cells scope.names [])) fp
  show codeAny _ _ (.compStart (.DictComp kx vx [⟨tg, iter, ifs, 0⟩] scope pos) 0 (.ref it) (.ref D) (compEnvC scope (cellsFrom (s3.heap.objs.size + 1) scope.names (cloFrom X.env.cells scope.names [])) s3.heap.objs.size X.env)) (compPost (model X.prog X.w) X.A X.xe use Qf (.ref D) s3.heap.objs.size) { s3 with heap := pushCells (s3.heap.push { cls := .type "dict", data := .dict #[] }) scope.names }
  have nfp : ∀ b ∈ fp, (upd H2 D (.dT [])) b = none := fun b hb => (f3 b hb).1.1
  generalize hce : compEnvC scope (cellsFrom (s3.heap.objs.size + 1) scope.names (cloFrom X.env.cells scope.names [])) s3.heap.objs.size X.env = ce at I4 pg pt pk pe ⊢
  have cL : ce.locals = s3.heap.objs.size := by subst hce; rfl
  generalize hH3 : upd H2 D (.dT []) = H3 at I3 I4 pg pt pk pe w0 nfp f3
  generalize hs4 : ({ s3 with heap := pushCells (s3.heap.push { cls := .type "dict", data := .dict #[] }) scope.names } : Shared) = s4 at I4 ⊢
  have st4 : tn 0 s4.heap := T.keep _ _ _ st3 fun b _ o e => by rw [← hs4]; exact pushCells_keeps _ _ _ _ (Heap.get?_push_of_some _ e)
  have stat : ∀ {σ' : St} {H' : Hp} {s' : Shared}, Inv (X.blk s3 H3 scope ce fp) [] σ' H' s' → (∀ b ∈ fp, H' b = none) → ∀ b ∈ fp, FpOk (X.blk s3 H3 scope ce fp) [] H' b := fun {σ' H' s'} I' hn b hb =>
    ⟨hn b hb, (I'.ok.exf b hb).1, I'.ok.exfs b hb, .inl hb, fun x c e => (I'.ok.exf b hb).2 x c e, fun p hp => absurd (show p ∈ ([] : List (Addr × Obj)) ++ [] from hp) (by simp)⟩
  have loop : codeAny (model X.prog X.w) X.A (.compLoop (.DictComp kx vx [⟨tg, iter, ifs, 0⟩] scope pos) 0 (.ref it) (.ref D) ce) (compPost (model X.prog X.w) X.A X.xe use Qf (.ref D) s3.heap.objs.size) s4 := by
    refine compLoop_anyD (fun n s' => ∃ i H', Inv (X.blk s3 H3 scope ce fp) [] (wipe σ (own.map (·.2))) H' s' ∧ tn i s'.heap ∧ (∀ b ∈ fp, H' b = none) ∧ W i n H') ?_ m0 ⟨0, H3, I4, st4, nfp, w0⟩
    rintro n s5 ⟨i, H5, I5, st5, n5, w5⟩
    rcases turn i n H5 w5 with ⟨stop, qq⟩ | ⟨go, Nx, hNx, step⟩
    · have td := T.done (X.blk s3 H3 scope ce fp) rfl rfl rfl hc i [] s5 _ H5 (fun _ _ => False) I5 (stat I5 n5) st5 stop
      refine thnF td fun r s6 ⟨hr, I6⟩ => ?_
      subst hr
      -- back in the def's context
      have I7 : Inv X pins σ H5 s6 := I3.call' (ch := fp) I6.os I6.base I6.hok I6.bare fun b hb => ⟨(f3 b hb).1.2.2.2.1, (f3 b hb).1.2.1, (f3 b hb).1.2.2.2.2.1, (f3 b hb).1.2.2.2.2.2⟩
      have nC : H5 s3.heap.objs.size = none := by
        have z : H5 ce.locals = none := I6.free
        rw [cL] at z
        exact z
      obtain ⟨m, hn, _⟩ := I6.loc
      have hn : s6.heap.Ns ce.locals m := hn
      rw [cL] at hn
      exact hRR D s3.heap.objs.size s6 m H5 I7 qq hn (I3.fpOk (Nat.le_refl _) nC)
    · have ti := T.item (X.blk s3 H3 scope ce fp) rfl rfl rfl hc i [] s5 _ H5 (fun _ _ => False) I5 (stat I5 n5) st5 go
      refine thnF ti fun r s6 ⟨u, hr, h6⟩ => ?_
      subst hr
      refine thnF h6 fun _ s7 ⟨x, H7, I7, r7, y7, st7, n7⟩ => ?_
      have I7' := I7.pinned (stat I7 n7) (T.obj _ _ st7)
      refine thnF (pg.run _ s7 _ H7 x u _ I7' r7 (step x H7 y7)) fun _ s8 ⟨σ8, H8, I8, hw8, q8⟩ => ?_
      refine thnF (pt.run _ s8 σ8 H8 _ I8 q8) fun b s9 ⟨H9, I9, q9⟩ => ?_
      -- the turn's end
      have fin : ∀ {s' : Shared} {H' : Hp}, Inv (X.blk s3 H3 scope ce fp) ([] ++ pinsAt fp s7.heap) σ8 H' s' → Nx H' → ∃ m, m < n ∧ ∃ i H', Inv (X.blk s3 H3 scope ce fp) [] (wipe σ (own.map (·.2))) H' s' ∧ tn i s'.heap ∧ (∀ b ∈ fp, H' b = none) ∧ W i m H' := fun {s' H'} I' nx => by
        obtain ⟨m', hm, w'⟩ := hNx H' nx
        have pin' : ∀ b ∈ fp, ∀ o, s7.heap.get? b = some o → s'.heap.get? b = some o ∧ H' b = none := fun b hb o e =>
          let z := I'.pin (b, o) (List.mem_append_right _ (List.mem_append_right _ (mem_pinsAt hb e)))
          ⟨z.1, z.2.1⟩
        have hl : (wipe σ (own.map (·.2))).length = σ8.length := by rw [← hw8, wipe_length]
        refine ⟨m', hm, i + 1, H', (I'.unpinned (pins := [])).weak hl (fun j v e => ?_), T.keep _ _ _ st7 fun b hb o e => (pin' b hb o e).1, fun b hb => ?_, w'⟩
        · rw [← hw8] at e
          exact (wipe_some e).1
        · obtain ⟨o, e, _⟩ := T.obj _ _ st7 b hb
          exact (pin' b hb o e).2
      cases b with
      | false =>
        simp only [Bool.false_eq_true, if_false] at q9 ⊢
        exact fin I9 q9
      | true =>
        simp only [if_true] at q9 ⊢
        refine thnF (pk.run _ s9 σ8 H9 _ I9 q9) fun z s10 ⟨yk, H10, I10, r10, q10⟩ => ?_
        refine thnF (pe.run _ s10 σ8 H10 _ I10 q10) fun z2 s11 ⟨yv, H11, I11, r11, kvs, k, kb, ek, hb11, hD11, hz11, nx⟩ => ?_
        subst ek
        exact d_dictSetT (X := X.blk s3 H3 scope ce fp) hu I11 hD11 hb11 hz11 r10 r11 fun s12 I12 => fin I12 nx
  exact codeAny_compStart_dict loop (T.self X.A 0 _ _ _ st4 loop)
/-- as a value -/
theorem pe_dcT {kx vx tg iter : Expr} {ifs : List Expr} {scope : Scope} {own : List (Str × Nat)} {pos : Pos} {wi : TI} {g : TG} {tt : TT} {tk tv : TE} (hu : X.A.units + 1 < cLine) (hc : X.calm = true) (hN : X.N.Nodup) (hi : PI X tg iter wi) (ok : BlkOk X.N X.env.scope scope own)
    (hg : ∀ (s : Shared) (H : Hp) (C : Addr) (cl : List (Str × Addr)) (fp : List Addr), PG (X.blk s H scope (compEnvC scope cl C X.env) fp) tg g) (ht : ∀ (s : Shared) (H : Hp) (C : Addr) (cl : List (Str × Addr)) (fp : List Addr), PTs (X.blk s H scope (compEnvC scope cl C X.env) fp) ifs tt)
    (hk : ∀ (s : Shared) (H : Hp) (C : Addr) (cl : List (Str × Addr)) (fp : List Addr), PE (X.blk s H scope (compEnvC scope cl C X.env) fp) kx tk)
    (he : ∀ (s : Shared) (H : Hp) (C : Addr) (cl : List (Str × Addr)) (fp : List Addr), PE (X.blk s H scope (compEnvC scope cl C X.env) fp) vx tv) (hs : ∀ x, foldedSetIterable iter X.env x = pure x := by intro _; rfl) :
    PE X (.DictComp kx vx [⟨tg, iter, ifs, 0⟩] scope pos) (tDcT wi g tt tk tv (own.map (·.2))) := by
  refine ⟨fun pins s σ H Q I h => ?_⟩
  rw [arm_eval_DictComp]
  refine dc_coreT hu hc hN I hi ok hg ht hk he hs h fun D C s' m H' I' q hn f => ⟨m, hn, fun h'' sb => ?_⟩
  obtain ⟨f0, f1, f2, f3, f4, f5⟩ := f
  exact ⟨.ref D, H', I'.turned (t' := s'.toks) (fun b o hb e => (sb.2 b hb).trans e) f0 f1 f3 f4 f5, rfl, q⟩
end
end G
end L2
end G20_
section G21_
set_option Elab.async false
set_option linter.all false
set_option maxRecDepth 100000
set_option maxHeartbeats 1000000
namespace L2
namespace G
open PySem PySem.Spec PyProof.Rows
/-! ### {k: v for target in iter if ..} -/
def dcompL (tt : Bool) (ρ0 : Env) (t : D → Env → Option Env) (fc : Env → M Bool) (fk fv : Env → M D) : List D → List D → List D → M (List D × List D)
  | [], ks, vs => ret (ks, vs)
  | d :: ds, ks, vs => bnd (lift (t d ρ0)) fun ρ1 => bnd (fc ρ1) fun b => if b = true then bnd (fk ρ1) fun k => bnd (fv ρ1) fun v => if okKey tt k = true ∧ ks.length < LIM then dcompL tt ρ0 t fc fk fv ds (putL tt k v ks vs).1 (putL tt k v ks vs).2 else bad
    else dcompL tt ρ0 t fc fk fv ds ks vs
def E.dcomp (tt : Bool) (fi : Env → M (List D)) (vs : List Nat) (t : D → Env → Option Env) (fc : Env → M Bool) (fk fv : Env → M D) : Env → M D := fun ρ => bnd (fi ρ) fun ds => bnd (dcompL tt (wipeD ρ vs) t fc fk fv ds [] []) fun r => ret (.dct tt r.1 r.2)
section
variable {X : Cx} {O : List Nat} {Z : ZT} {e a b c tg iter kx vx : Expr} {es ifs : List Expr} {f fa fb fk fv : Env → M D} {fi r : Env → M (List D)} {fc : Env → M Bool} {t : D → Env → Option Env} {pos p : Pos} {x : Str} {scope : Scope} {own : List (Str × Nat)}
theorem dcomp_finT {vs : List Nat} {σ : L2.St} {H : Hp} {g : Gh} {Q : VK} (hO : ∀ i ∈ vs, i ∉ O) (ok : g.ok X.K O σ H)
    (q : Ev (E.dcomp true fi vs t fc fk fv g.ρ g.st) (fun d st' => ∀ as' v H', Grow g.as H as' H' → SRep X.K as' st' H' → Own X.K (fun a => Ff g.B as' O σ a ∨ v = .ref a) as' H' v d → (∀ p, v = .ref p → H p = none ∧ p ∉ as') → Q v H') (Zc X.K O g.B g.H0 g.as0 Z)) :
    tDcT (tIc X.K O Z fi) (tG X.K O vs t) (tT X.K O Z fc) (tE X.K O Z fk) (tE X.K O Z fv) vs σ H Q := by
  refine ⟨g, ok, (Ev.bnd q).mono (fun ds st1 q as1 H1 J g1 s1 wk D nD => ?_) fun _ _ z => z⟩
  have q := Ev.bnd q
  have ok1 := ok.step g1 s1
  have w1 : Wf X.K O g.B g.H0 g.as0 as1 (wipeD g.ρ vs) (L2.wipe σ vs) H1 := ok1.wf.wipe hO
  have own1 := ownA_wipe (σ := σ) hO
  have nDH : H D = none := by
    cases z : H D with
    | none => rfl
    | some o =>
      by_cases m : D ∈ g.as
      · exact absurd (g1.sub m) (not_as ok1 nD)
      · have := g1.keep D o z m
        rw [nD] at this; cases this
  have wD : ∀ {as2 : List Addr} {H2 : Hp} {st2 : Store} {acc : List (List Key × V)}, Grow as1 H1 as2 H2 → SRep X.K as2 st2 H2 → H2 D = some (.dT acc) → Wf X.K O (fun a => g.B a ∨ a = D) g.H0 g.as0 as2 (wipeD g.ρ vs) (L2.wipe σ vs) H2 := fun g2 s2 hD => w1.growB s1 nD g2 s2 ⟨_, hD⟩
  let PP : List G.D → Store → List G.D → List G.D → Prop := fun rest st2 ks vsD => Ev (dcompL true (wipeD g.ρ vs) t fc fk fv rest ks vsD st2) (fun r st' => ∀ as' v H', Grow g.as H as' H' → SRep X.K as' st' H' → Own X.K (fun a => Ff g.B as' O σ a ∨ v = .ref a) as' H' v (.dct true r.1 r.2) → (∀ p, v = .ref p → H p = none ∧ p ∉ as') → Q v H') (Zc X.K O g.B g.H0 g.as0 Z)
  let ST : Nat → Hp → Prop := fun i H2 => ∃ as2 st2 acc accD, SRep X.K as2 st2 H2 ∧ Grow as1 H1 as2 H2 ∧ H2 D = some (.dT acc) ∧ D ∉ as2 ∧
    Reps X.K (Ff (fun a => g.B a ∨ a = D) as2 O (L2.wipe σ vs)) as2 H2 (acc.map (·.2)) accD ∧ PP (ds.drop i) st2 (acc.map fun p => tkD p.1) accD
  refine ⟨fun i m H2 => m = ds.length - i ∧ i ≤ ds.length ∧ ST i H2,
    ⟨_, rfl, Nat.zero_le _, as1, st1, [], [], s1.new nD, Grow.new nD, upd_same, not_as ok1 nD, .nil, ?_⟩, ?_⟩
  · exact Ev.mono q (fun ys st' q as' v H' a b c d => q as' v H' a b c d) fun _ _ z => z
  · rintro i m H2 ⟨rfl, hi, as2, st2, acc, accD, s2, g2, hD, nA, rs, q2⟩
    have w2 := wD g2 s2 hD
    obtain ⟨_, ffs0⟩ := Step.stay (σ1 := σ) ok1.wf s1 (g2.step s2)
    have stay0 : Stay (· ∈ as1) H1 H2 := ⟨fun b o h n => g2.keep b o h n, grow_t s1 g2⟩
    have ffs : ∀ a o, H1 a = some o → Ff (fun a => g.B a ∨ a = D) as2 O (L2.wipe σ vs) a → Ff g.B as1 O σ a := fun a o h z => by
      rcases z with (z | z) | z | z
      · exact .inl z
      · rw [z, nD] at h; cases h
      · exact ffs0 a o h (.inr (.inl z))
      · exact .inr (.inr ((own1 a).mp z))
    by_cases hlt : i < ds.length
    · refine .inr ⟨wk.go i H2 stay0 hlt, ?_⟩
      have q2 : PP (ds[i] :: ds.drop (i + 1)) st2 (acc.map fun p => tkD p.1) accD := by rw [← List.drop_eq_getElem_cons hlt]; exact q2
      obtain ⟨ρ3, e3, q3⟩ := (Ev.bnd q2).lift
      have q3 := Ev.bnd q3
      refine ⟨ST (i + 1), fun H' n => ⟨ds.length - (i + 1), by omega, rfl, hlt, n⟩, fun x H3 y => ?_⟩
      obtain ⟨sm, rx⟩ := wk.yl i H2 x H3 _ (Ff (fun a => g.B a ∨ a = D) as2 O (L2.wipe σ vs)) as2 stay0 g2.pre ffs y (List.getElem?_eq_getElem hlt)
      have s3 := s2.same sm
      have w3 := w2.grow s2 (grow_same sm) s3
      refine ⟨⟨fun a => g.B a ∨ a = D, g.H0, g.as0, as2, wipeD g.ρ vs, st2⟩, _, ρ3, ⟨w3, s3⟩, rx, e3, fun σ4 w4 o4 l4 j4 => ⟨?_, ?_⟩⟩
      · rw [wipe_same l4 j4, wipe_wipe]
      have ff4 : ∀ (as : List Addr) a, Ff (fun a => g.B a ∨ a = D) as O σ4 a ↔ Ff (fun a => g.B a ∨ a = D) as O (L2.wipe σ vs) a := fun as a => or_congr Iff.rfl (or_congr Iff.rfl (o4 a))
      have hD3 := sm D _ hD
      have g3 := g2.trans (grow_same (as := as2) sm)
      have rs3 : Reps X.K (Ff (fun a => g.B a ∨ a = D) as2 O (L2.wipe σ vs)) as2 H3 (acc.map (·.2)) accD := rs.grow s2 (grow_same sm)
      have grows : ∀ {as5 : List Addr} {H5 : Hp} {st5 : Store}, Grow as2 H3 as5 H5 → SRep X.K as5 st5 H5 → H5 D = some (.dT acc) ∧ D ∉ as5 ∧ Reps X.K (Ff (fun a => g.B a ∨ a = D) as5 O (L2.wipe σ vs)) as5 H5 (acc.map (·.2)) accD := by
        intro as5 H5 st5 g5 s5
        refine ⟨g5.keep D _ hD3 nA, fun z => ?_, rs3.grow s3 g5⟩
        have := g5.fre D z nA
        rw [hD3] at this; cases this
      refine ⟨⟨fun a => g.B a ∨ a = D, g.H0, g.as0, as2, ρ3, st2⟩, ⟨w4, s3⟩, Ev.mono q3 (fun k st5 q5 as5 H5 g5 s5 => ?_) fun _ _ z => z.mono fun _ z => .inl z⟩
      obtain ⟨d5, n5, r5⟩ := grows g5 s5
      cases k with
      | false =>
        exact ⟨as5, st5, acc, accD, s5, g3.trans g5, d5, n5, r5, q5⟩
      | true =>
        have w5 := w4.grow s3 g5 s5
        refine ⟨⟨fun a => g.B a ∨ a = D, g.H0, g.as0, as5, ρ3, st5⟩, ⟨w5, s5⟩, (Ev.bnd q5).mono (fun kd st6 q6 as6 kv H6 g6 s6 rk => ?_) fun _ _ z => z.mono fun _ z => .inl z⟩
        have w6 := w5.grow s5 g6 s6
        refine ⟨⟨fun a => g.B a ∨ a = D, g.H0, g.as0, as6, ρ3, st6⟩, ⟨w6, s6⟩, (Ev.bnd q6).mono (fun y st7 q7 as7 yv H7 g7 s7 ry => ?_) fun _ _ z => z.mono fun _ z => .inl z⟩
        have g37 := (g5.trans g6).trans g7
        obtain ⟨d7, n7, r7⟩ := grows g37 s7
        by_cases hc : okKey true kd = true ∧ (acc.map fun p => tkD p.1).length < LIM
        · rw [if_pos hc] at q7
          have hc1 := hc.1
          unfold okKey at hc1
          rw [if_pos rfl] at hc1
          obtain ⟨k, ek⟩ := Option.isSome_iff_exists.mp hc1
          have ek := toTKey_eq ek
          subst ek
          obtain ⟨b, rfl, hb⟩ := rk.tkey
          have rk7 := rk.grow s6 g7
          obtain ⟨b', eb, hb7⟩ := rk7.tkey
          cases eb
          have ry' : Rep X.K (Ff (fun a => g.B a ∨ a = D) as7 O (L2.wipe σ vs)) as7 H7 yv y := ry.weak fun a o _ z => (ff4 as7 a).mpr z
          have kD : ∀ b o, H7 b = some o → ¬ Ff (fun a => g.B a ∨ a = D) as7 O (L2.wipe σ vs) b → upd H7 D (.dT (putK acc k yv)) b = some o := fun b o h n => by rw [upd_ne (fun (z : b = D) => n (.inl (.inr z)))]; exact h
          have kT : ∀ b o, H7 b = some o → TupO o → upd H7 D (.dT (putK acc k yv)) b = some o := fun b o h t => by
            rw [upd_ne (fun (z : b = D) => by rw [z, d7] at h; cases h; exact t)]; exact h
          obtain ⟨p1, p2⟩ := put_reps (t := true) (e := tkD) (fun _ _ => keyEq_t) (k := k) r7 ry'
          have sl : acc.length < sizeLine := by
            have := hc.2
            rw [List.length_map] at this
            exact Nat.lt_trans this lim_line
          refine ⟨acc, k, b, rfl, hb7, d7, sl, as7, st7, putK acc k yv, _, ?_, ?_, upd_same, n7, p2.frame kD kT fun _ _ h => h, by rw [← p1]; exact q7⟩
          · refine s7.frame fun b o h z => ?_
            rcases z with z | z
            · rw [upd_ne (fun (y : b = D) => n7 (by rw [← y]; exact z))]; exact h
            · exact kT b o h z
          · have gg := g3.trans g37
            exact ⟨gg.pre, fun b o h n => by rw [upd_ne (ne_of_none h nD)]; exact gg.keep b o h n, gg.fre⟩
        · rw [if_neg hc] at q7
          exact q7.elim
    · have e : i = ds.length := by omega
      subst e
      rw [List.drop_length] at q2
      refine .inl ⟨wk.stop _ H2 stay0 rfl, ?_⟩
      have q2 : ∀ as' v H', Grow g.as H as' H' → SRep X.K as' st2 H' → Own X.K (fun a => Ff g.B as' O σ a ∨ v = .ref a) as' H' v (.dct true (acc.map fun p => tkD p.1) accD) → (∀ p, v = .ref p → H p = none ∧ p ∉ as') → Q v H' := q2
      refine q2 as2 (.ref D) H2 (g1.trans g2) s2 ?_ fun p e => ?_
      · refine .dct hD (.inr ⟨acc, rfl, rfl, rfl, rfl⟩) (rs.weak fun a o _ z => ?_)
        rcases z with (z | z | z) | z
        · exact .inl (.inl z)
        · exact .inr (.inl z)
        · exact .inr (.inr ((own1 a).mpr z))
        · cases z; exact .inl (.inr rfl)
      · cases e
        exact ⟨nDH, nA⟩
theorem dn_dcompT (hu : X.A.units + 1 < cLine) (hc : X.calm = true) (hN : X.N.Nodup) (hi : DIc X O Z tg iter fi) (ok : BlkOk X.N X.env.scope scope own) (hO : ∀ i ∈ own.map (·.2), i ∉ O)
    (hg : ∀ (s : Shared) (H : Hp) (C : Addr) (cl : List (Str × Addr)) (fp : List Addr), DG (X.blk s H scope (compEnvC scope cl C X.env) fp) O (own.map (·.2)) tg t) (ht : ∀ (s : Shared) (H : Hp) (C : Addr) (cl : List (Str × Addr)) (fp : List Addr), DTs (X.blk s H scope (compEnvC scope cl C X.env) fp) O Z ifs fc)
    (hk : ∀ (s : Shared) (H : Hp) (C : Addr) (cl : List (Str × Addr)) (fp : List Addr), DE (X.blk s H scope (compEnvC scope cl C X.env) fp) O Z kx fk)
    (he : ∀ (s : Shared) (H : Hp) (C : Addr) (cl : List (Str × Addr)) (fp : List Addr), DE (X.blk s H scope (compEnvC scope cl C X.env) fp) O Z vx fv) (hs : ∀ x, foldedSetIterable iter X.env x = pure x := by intro _; rfl) :
    DN X O Z (.DictComp kx vx [⟨tg, iter, ifs, 0⟩] scope pos) (E.dcomp true fi (own.map (·.2)) t fc fk fv) :=
  PE.imp (pe_dcT hu hc hN hi ok hg ht hk he hs) fun σ H Q ⟨g, ok, q⟩ => dcomp_finT hO ok q
theorem dcomp_finK {vs : List Nat} {σ : L2.St} {H : Hp} {g : Gh} {Q : VK} (hO : ∀ i ∈ vs, i ∉ O) (ok : g.ok X.K O σ H)
    (q : Ev (E.dcomp false fi vs t fc fk fv g.ρ g.st) (fun d st' => ∀ as' v H', Grow g.as H as' H' → SRep X.K as' st' H' → Own X.K (fun a => Ff g.B as' O σ a ∨ v = .ref a) as' H' v d → (∀ p, v = .ref p → H p = none ∧ p ∉ as') → Q v H') (Zc X.K O g.B g.H0 g.as0 Z)) :
    tDc (tIc X.K O Z fi) (tG X.K O vs t) (tT X.K O Z fc) (tE X.K O Z fk) (tE X.K O Z fv) vs σ H Q := by
  refine ⟨g, ok, (Ev.bnd q).mono (fun ds st1 q as1 H1 J g1 s1 wk D nD => ?_) fun _ _ z => z⟩
  have q := Ev.bnd q
  have ok1 := ok.step g1 s1
  have w1 : Wf X.K O g.B g.H0 g.as0 as1 (wipeD g.ρ vs) (L2.wipe σ vs) H1 := ok1.wf.wipe hO
  have own1 := ownA_wipe (σ := σ) hO
  have nDH : H D = none := by
    cases z : H D with
    | none => rfl
    | some o =>
      by_cases m : D ∈ g.as
      · exact absurd (g1.sub m) (not_as ok1 nD)
      · have := g1.keep D o z m
        rw [nD] at this; cases this
  have wD : ∀ {as2 : List Addr} {H2 : Hp} {st2 : Store} {acc : List (Key × V)}, Grow as1 H1 as2 H2 → SRep X.K as2 st2 H2 → H2 D = some (.dK acc) → Wf X.K O (fun a => g.B a ∨ a = D) g.H0 g.as0 as2 (wipeD g.ρ vs) (L2.wipe σ vs) H2 := fun g2 s2 hD => w1.growB s1 nD g2 s2 ⟨_, hD⟩
  let PP : List G.D → Store → List G.D → List G.D → Prop := fun rest st2 ks vsD => Ev (dcompL false (wipeD g.ρ vs) t fc fk fv rest ks vsD st2) (fun r st' => ∀ as' v H', Grow g.as H as' H' → SRep X.K as' st' H' → Own X.K (fun a => Ff g.B as' O σ a ∨ v = .ref a) as' H' v (.dct false r.1 r.2) → (∀ p, v = .ref p → H p = none ∧ p ∉ as') → Q v H') (Zc X.K O g.B g.H0 g.as0 Z)
  let ST : Nat → Hp → Prop := fun i H2 => ∃ as2 st2 acc accD, SRep X.K as2 st2 H2 ∧ Grow as1 H1 as2 H2 ∧ H2 D = some (.dK acc) ∧ D ∉ as2 ∧
    Reps X.K (Ff (fun a => g.B a ∨ a = D) as2 O (L2.wipe σ vs)) as2 H2 (acc.map (·.2)) accD ∧ PP (ds.drop i) st2 (acc.map fun p => kD p.1) accD
  refine ⟨fun i m H2 => m = ds.length - i ∧ i ≤ ds.length ∧ ST i H2,
    ⟨_, rfl, Nat.zero_le _, as1, st1, [], [], s1.new nD, Grow.new nD, upd_same, not_as ok1 nD, .nil, ?_⟩, ?_⟩
  · exact Ev.mono q (fun ys st' q as' v H' a b c d => q as' v H' a b c d) fun _ _ z => z
  · rintro i m H2 ⟨rfl, hi, as2, st2, acc, accD, s2, g2, hD, nA, rs, q2⟩
    have w2 := wD g2 s2 hD
    obtain ⟨_, ffs0⟩ := Step.stay (σ1 := σ) ok1.wf s1 (g2.step s2)
    have stay0 : Stay (· ∈ as1) H1 H2 := ⟨fun b o h n => g2.keep b o h n, grow_t s1 g2⟩
    have ffs : ∀ a o, H1 a = some o → Ff (fun a => g.B a ∨ a = D) as2 O (L2.wipe σ vs) a → Ff g.B as1 O σ a := fun a o h z => by
      rcases z with (z | z) | z | z
      · exact .inl z
      · rw [z, nD] at h; cases h
      · exact ffs0 a o h (.inr (.inl z))
      · exact .inr (.inr ((own1 a).mp z))
    by_cases hlt : i < ds.length
    · refine .inr ⟨wk.go i H2 stay0 hlt, ?_⟩
      have q2 : PP (ds[i] :: ds.drop (i + 1)) st2 (acc.map fun p => kD p.1) accD := by rw [← List.drop_eq_getElem_cons hlt]; exact q2
      obtain ⟨ρ3, e3, q3⟩ := (Ev.bnd q2).lift
      have q3 := Ev.bnd q3
      refine ⟨ST (i + 1), fun H' n => ⟨ds.length - (i + 1), by omega, rfl, hlt, n⟩, fun x H3 y => ?_⟩
      obtain ⟨sm, rx⟩ := wk.yl i H2 x H3 _ (Ff (fun a => g.B a ∨ a = D) as2 O (L2.wipe σ vs)) as2 stay0 g2.pre ffs y (List.getElem?_eq_getElem hlt)
      have s3 := s2.same sm
      have w3 := w2.grow s2 (grow_same sm) s3
      refine ⟨⟨fun a => g.B a ∨ a = D, g.H0, g.as0, as2, wipeD g.ρ vs, st2⟩, _, ρ3, ⟨w3, s3⟩, rx, e3, fun σ4 w4 o4 l4 j4 => ⟨?_, ?_⟩⟩
      · rw [wipe_same l4 j4, wipe_wipe]
      have ff4 : ∀ (as : List Addr) a, Ff (fun a => g.B a ∨ a = D) as O σ4 a ↔ Ff (fun a => g.B a ∨ a = D) as O (L2.wipe σ vs) a := fun as a => or_congr Iff.rfl (or_congr Iff.rfl (o4 a))
      have hD3 := sm D _ hD
      have g3 := g2.trans (grow_same (as := as2) sm)
      have rs3 : Reps X.K (Ff (fun a => g.B a ∨ a = D) as2 O (L2.wipe σ vs)) as2 H3 (acc.map (·.2)) accD := rs.grow s2 (grow_same sm)
      have grows : ∀ {as5 : List Addr} {H5 : Hp} {st5 : Store}, Grow as2 H3 as5 H5 → SRep X.K as5 st5 H5 → H5 D = some (.dK acc) ∧ D ∉ as5 ∧ Reps X.K (Ff (fun a => g.B a ∨ a = D) as5 O (L2.wipe σ vs)) as5 H5 (acc.map (·.2)) accD := by
        intro as5 H5 st5 g5 s5
        refine ⟨g5.keep D _ hD3 nA, fun z => ?_, rs3.grow s3 g5⟩
        have := g5.fre D z nA
        rw [hD3] at this; cases this
      refine ⟨⟨fun a => g.B a ∨ a = D, g.H0, g.as0, as2, ρ3, st2⟩, ⟨w4, s3⟩, Ev.mono q3 (fun k st5 q5 as5 H5 g5 s5 => ?_) fun _ _ z => z.mono fun _ z => .inl z⟩
      obtain ⟨d5, n5, r5⟩ := grows g5 s5
      cases k with
      | false =>
        exact ⟨as5, st5, acc, accD, s5, g3.trans g5, d5, n5, r5, q5⟩
      | true =>
        have w5 := w4.grow s3 g5 s5
        refine ⟨⟨fun a => g.B a ∨ a = D, g.H0, g.as0, as5, ρ3, st5⟩, ⟨w5, s5⟩, (Ev.bnd q5).mono (fun kd st6 q6 as6 kv H6 g6 s6 rk => ?_) fun _ _ z => z.mono fun _ z => .inl z⟩
        have w6 := w5.grow s5 g6 s6
        refine ⟨⟨fun a => g.B a ∨ a = D, g.H0, g.as0, as6, ρ3, st6⟩, ⟨w6, s6⟩, (Ev.bnd q6).mono (fun y st7 q7 as7 yv H7 g7 s7 ry => ?_) fun _ _ z => z.mono fun _ z => .inl z⟩
        have g37 := (g5.trans g6).trans g7
        obtain ⟨d7, n7, r7⟩ := grows g37 s7
        by_cases hc : okKey false kd = true ∧ (acc.map fun p => kD p.1).length < LIM
        · rw [if_pos hc] at q7
          have hc1 := hc.1
          unfold okKey at hc1
          rw [if_neg Bool.false_ne_true] at hc1
          obtain ⟨k, ek⟩ := Option.isSome_iff_exists.mp hc1
          have ek := toKey_eq ek
          subst ek
          have ekv := rk.key
          subst ekv
          have ry' : Rep X.K (Ff (fun a => g.B a ∨ a = D) as7 O (L2.wipe σ vs)) as7 H7 yv y := ry.weak fun a o _ z => (ff4 as7 a).mpr z
          have kDD : ∀ b o, H7 b = some o → ¬ Ff (fun a => g.B a ∨ a = D) as7 O (L2.wipe σ vs) b → upd H7 D (.dK (putK acc k yv)) b = some o := fun b o h n => by rw [upd_ne (fun (z : b = D) => n (.inl (.inr z)))]; exact h
          have kT : ∀ b o, H7 b = some o → TupO o → upd H7 D (.dK (putK acc k yv)) b = some o := fun b o h t => by
            rw [upd_ne (fun (z : b = D) => by rw [z, d7] at h; cases h; exact t)]; exact h
          obtain ⟨p1, p2⟩ := put_reps (t := false) (e := kD) (fun _ _ => keyEq_k) (k := k) r7 ry'
          have sl : acc.length < sizeLine := by
            have := hc.2
            rw [List.length_map] at this
            exact Nat.lt_trans this lim_line
          refine ⟨acc, k, rfl, d7, sl, as7, st7, putK acc k yv, _, ?_, ?_, upd_same, n7, p2.frame kDD kT fun _ _ h => h, by rw [← p1]; exact q7⟩
          · refine s7.frame fun b o h z => ?_
            rcases z with z | z
            · rw [upd_ne (fun (y : b = D) => n7 (by rw [← y]; exact z))]; exact h
            · exact kT b o h z
          · have gg := g3.trans g37
            exact ⟨gg.pre, fun b o h n => by rw [upd_ne (ne_of_none h nD)]; exact gg.keep b o h n, gg.fre⟩
        · rw [if_neg hc] at q7
          exact q7.elim
    · have e : i = ds.length := by omega
      subst e
      rw [List.drop_length] at q2
      refine .inl ⟨wk.stop _ H2 stay0 rfl, ?_⟩
      have q2 : ∀ as' v H', Grow g.as H as' H' → SRep X.K as' st2 H' → Own X.K (fun a => Ff g.B as' O σ a ∨ v = .ref a) as' H' v (.dct false (acc.map fun p => kD p.1) accD) → (∀ p, v = .ref p → H p = none ∧ p ∉ as') → Q v H' := q2
      refine q2 as2 (.ref D) H2 (g1.trans g2) s2 ?_ fun p e => ?_
      · refine .dct hD (.inl ⟨acc, rfl, rfl, rfl, rfl⟩) (rs.weak fun a o _ z => ?_)
        rcases z with (z | z | z) | z
        · exact .inl (.inl z)
        · exact .inr (.inl z)
        · exact .inr (.inr ((own1 a).mpr z))
        · cases z; exact .inl (.inr rfl)
      · cases e
        exact ⟨nDH, nA⟩
theorem dn_dcompK (hc : X.calm = true) (hN : X.N.Nodup) (hi : DIc X O Z tg iter fi) (ok : BlkOk X.N X.env.scope scope own) (hO : ∀ i ∈ own.map (·.2), i ∉ O)
    (hg : ∀ (s : Shared) (H : Hp) (C : Addr) (cl : List (Str × Addr)) (fp : List Addr), DG (X.blk s H scope (compEnvC scope cl C X.env) fp) O (own.map (·.2)) tg t) (ht : ∀ (s : Shared) (H : Hp) (C : Addr) (cl : List (Str × Addr)) (fp : List Addr), DTs (X.blk s H scope (compEnvC scope cl C X.env) fp) O Z ifs fc)
    (hk : ∀ (s : Shared) (H : Hp) (C : Addr) (cl : List (Str × Addr)) (fp : List Addr), DE (X.blk s H scope (compEnvC scope cl C X.env) fp) O Z kx fk)
    (he : ∀ (s : Shared) (H : Hp) (C : Addr) (cl : List (Str × Addr)) (fp : List Addr), DE (X.blk s H scope (compEnvC scope cl C X.env) fp) O Z vx fv) (hs : ∀ x, foldedSetIterable iter X.env x = pure x := by intro _; rfl) :
    DN X O Z (.DictComp kx vx [⟨tg, iter, ifs, 0⟩] scope pos) (E.dcomp false fi (own.map (·.2)) t fc fk fv) :=
  PE.imp (pe_dc hc hN hi ok hg ht hk he hs) fun σ H Q ⟨g, ok, q⟩ => dcomp_finK hO ok q
end
end G
end L2
end G21_
section G22_
set_option Elab.async false
set_option linter.all false
set_option maxRecDepth 100000
set_option maxHeartbeats 1000000
namespace L2
namespace G
open PySem PySem.Spec PyProof.Rows
section
variable {X : Cx} {O : List Nat} {Z : ZT} {e a b c tg : Expr} {es : List Expr} {f fa fb fc : Env → M D} {r : Env → M (List D)} {pos p : Pos} {x : Str} {vs : List Nat} {t : D → Env → Option Env}
/-! ### *e in displays -/
def A.star (f : Env → M D) (r : Env → M (List D)) : Env → M (List D) := fun ρ => bnd (f ρ) fun d => bnd (lift (seqD d)) fun xs => bnd (r ρ) fun ys => if xs.length + ys.length < LIM then ret (xs ++ ys) else bad
theorem seq_sq {K : PySem.W.Frag} {F : Addr → Prop} {as : List Addr} {H : Hp} {v : V} {d : D} {ds : List D} (e : seqD d = some ds) (r : RepT K F as H v d) : ∃ a xs, v = .ref a ∧ (SqT K H a xs ∨ SqL K H a xs) ∧ Reps K F as H xs ds := by
  cases d with
  | lst xs => cases e; obtain ⟨a, us, h1, h2, h3⟩ := r.t_lst; exact ⟨a, us, h1, .inr h2, h3⟩
  | tup xs => cases e; obtain ⟨a, us, h1, h2, h3⟩ := r.t_tup; exact ⟨a, us, h1, .inl (SqT.of h2), h3⟩
  | ftup xs => cases e; obtain ⟨a, us, h1, h2, h3⟩ := r.t_ftup; exact ⟨a, us, h1, .inl h2.sq, h3⟩
  | _ => cases e
theorem da_star (he : DU X O Z e f) (hr : DA X O Z es r) (hs : starEach (.Starred e p :: es) X.env = (true, eval e X.env) :: starEach es X.env := by rfl) : DA X O Z (.Starred e p :: es) (A.star f r) := PA.imp (StX.pa_star he hr hs) fun σ H Q ⟨g, ok, q⟩ => by
  refine ⟨g, ok, (Ev.bnd q).mono (fun d st1 q as1 v H1 g1 s1 r1 => ?_) fun _ _ z => z⟩
  obtain ⟨xs, e, q⟩ := (Ev.bnd q).lift
  obtain ⟨a, us, rfl, sq, rs⟩ := seq_sq e r1
  refine ⟨a, us, rfl, sq, g.at as1 st1, ok.step g1 s1, (Ev.bnd q).mono (fun ys st2 q as2 ws H2 g2 s2 r2 => ?_) fun _ _ z => z⟩
  split at q
  · exact q as2 _ H2 (g1.trans g2) s2 ((rs.grow s1 g2).append r2)
  · exact q.elim
def Len (r : Env → M (List D)) (n : Nat) : Prop := ∀ ρ s ds s', r ρ s = .ok ds s' → ds.length ≤ n
theorem len_nil : Len A.nil 0 := fun ρ s ds s' h => by cases h; exact Nat.le_refl _
theorem len_cons {n : Nat} (h : Len r n) : Len (A.cons f r) (n + 1) := fun ρ s ds s' z => by
  unfold A.cons bnd at z
  cases e : f ρ s with
  | ok d s1 =>
    rw [e] at z
    dsimp only at z
    cases e2 : r ρ s1 with
    | ok d2 s2 =>
      rw [e2] at z
      cases z
      have := h _ _ _ _ e2
      simp; omega
    | exc x s2 => rw [e2] at z; cases z
    | bad => rw [e2] at z; cases z
  | exc x s2 => rw [e] at z; cases z
  | bad => rw [e] at z; cases z
theorem len_star : Len (A.star f r) LIM := fun ρ s ds s' z => by
  unfold A.star bnd at z
  cases e : f ρ s with
  | ok d s1 =>
    rw [e] at z
    dsimp only at z
    cases e2 : seqD d with
    | none => rw [e2] at z; cases z
    | some xs =>
      rw [e2] at z
      simp only [lift, ret] at z
      cases e3 : r ρ s1 with
      | ok d2 s2 =>
        rw [e3] at z
        dsimp only at z
        split at z
        · cases z
          rw [List.length_append]
          omega
        · cases z
      | exc x s2 => rw [e3] at z; cases z
      | bad => rw [e3] at z; cases z
  | exc x s2 => rw [e] at z; cases z
  | bad => rw [e] at z; cases z
theorem Len.ok {n : Nat} (h : Len r n) (hn : n ≤ LIM + 1000 := by decide) : ∀ ρ s ds s', r ρ s = .ok ds s' → ds.length ≤ sizeLine := fun ρ s ds s' z => by
  have := h ρ s ds s' z
  have := line_million
  unfold LIM at hn
  omega
/-! ### names of the module -/
theorem dn_globI {x : Str} {u : Value} {i : Int} {pos : Pos} (hg : Gl X x) (hm : X.mg x = some u) (r : RelV (.int i) u) (hd : (x == ("__debug__" : Str)) = false := by decide) : DN X O Z (.Name x pos) (E.cst (.int i)) :=
  PE.imp (pe_glob hg hm r hd) fun σ H Q ⟨g, ok, q⟩ => q _ _ H (Grow.refl _ _) ok.sr (.sca (.int i) fun p z => nomatch z) fun p z => nomatch z
theorem dn_globS {x : Str} {u : Value} {i : Str} {pos : Pos} (hg : Gl X x) (hm : X.mg x = some u) (r : RelV (.str i) u) (hd : (x == ("__debug__" : Str)) = false := by decide) : DN X O Z (.Name x pos) (E.cst (.str i)) :=
  PE.imp (pe_glob hg hm r hd) fun σ H Q ⟨g, ok, q⟩ => q _ _ H (Grow.refl _ _) ok.sr (.sca (.str i) fun p z => nomatch z) fun p z => nomatch z
/-! ### ** -/
def powD : D → D → Option D
  | .int i, .int j => if 0 ≤ j ∧ j ≤ 1000000 ∧ i.natAbs < 2 ^ 64 then some (.int (i ^ j.toNat)) else none
  | _, _ => none
theorem o_pow : Op2 X (binaryOp .Pow) powD := ⟨_, op_pow, fun F as H x y d1 d2 d Q tr r1 r2 e q => by
  unfold powD at e
  split at e
  · split at e
    · rename_i h
      cases e
      rw [r1.t_int, r2.t_int]
      exact ⟨_, _, rfl, rfl, h, q _ H (Same.refl _) (.int _)⟩
    · cases e
  · cases e⟩
/-! ### is, of booleans and None -/
def isD2 : D → D → Option D
  | a, .non => some (.bl a.isNon)
  | .bl a, .bl b => some (.bl (decide (a = b)))
  | _, _ => none
def isNotD2 : D → D → Option D
  | a, .non => some (.bl (!a.isNon))
  | .bl a, .bl b => some (.bl (!decide (a = b)))
  | _, _ => none
theorem o_is2 : Op2 X (compareOp .Is) isD2 := ⟨_, op_isN.or op_is_bl, fun F as H x y d1 d2 d Q tr r1 r2 e q => by
  unfold isD2 at e
  split at e
  · cases e
    rw [r2.t_non]
    exact .inl ⟨rfl, by rw [r1.isNon]; exact q _ H (Same.refl _) (.bl _)⟩
  · cases e
    rw [r1.t_bl, r2.t_bl]
    exact .inr ⟨_, _, rfl, rfl, q _ H (Same.refl _) (.bl _)⟩
  · cases e⟩
theorem o_isNot2 : Op2 X (compareOp .IsNot) isNotD2 := ⟨_, op_notN.or op_isnot_bl, fun F as H x y d1 d2 d Q tr r1 r2 e q => by
  unfold isNotD2 at e
  split at e
  · cases e
    rw [r2.t_non]
    exact .inl ⟨rfl, by rw [r1.isNon]; exact q _ H (Same.refl _) (.bl _)⟩
  · cases e
    rw [r1.t_bl, r2.t_bl]
    exact .inr ⟨_, _, rfl, rfl, q _ H (Same.refl _) (.bl _)⟩
  · cases e⟩
/-! ### >= of tuples of ints -/
def lexGe : List Int → List Int → Bool
  | _, [] => true
  | [], _ :: _ => false
  | x :: xs, y :: ys => if x = y then lexGe xs ys else decide (y ≤ x)
theorem lexAt_shift {e r : Nat → Bool} {z : Bool} : ∀ (k i : Nat), Ob.lexAt e r z (i + 1) k = Ob.lexAt (fun j => e (j + 1)) (fun j => r (j + 1)) z i k
  | 0, _ => rfl
  | k + 1, i => by rw [Ob.lexAt_succ, Ob.lexAt_succ, lexAt_shift k (i + 1)]
theorem lexAt_ge : ∀ (ns ms : List Int), Ob.lexAt (fun j => decide (ns.getD j 0 = ms.getD j 0)) (fun j => decide (ns.getD j 0 ≥ ms.getD j 0)) (decide (ns.length ≥ ms.length)) 0 (min ns.length ms.length) = lexGe ns ms
  | ns, [] => by
    have : min ns.length ([] : List Int).length = 0 := by simp
    rw [this, Ob.lexAt_zero]
    cases ns <;> simp [lexGe]
  | [], y :: ys => by
    have : min ([] : List Int).length (y :: ys).length = 0 := by simp
    rw [this, Ob.lexAt_zero]
    simp [lexGe]
  | x :: xs, y :: ys => by
    have : min (x :: xs).length (y :: ys).length = min xs.length ys.length + 1 := by simp only [List.length_cons]; omega
    rw [this, Ob.lexAt_succ, lexAt_shift]
    have ih := lexAt_ge xs ys
    have e2 : decide ((x :: xs).length ≥ (y :: ys).length) = decide (xs.length ≥ ys.length) := by simp
    rw [e2]
    unfold lexGe
    by_cases h : x = y
    · rw [if_pos h, if_pos (by simpa using h)]
      exact ih
    · rw [if_neg h, if_neg (by simpa using h)]
      simp
theorem op_geT (hu : X.A.units < cLine) : OpR X (compareOp .GtE) (fun x y H Q => ∃ (a b : Addr) (ns ms : List Int), x = .ref a ∧ y = .ref b ∧ SqT X.K H a (ns.map V.int) ∧ SqT X.K H b (ms.map V.int) ∧ Q (.bl (lexGe ns ms)) H) := by
  intro pins s σ H x y v u Q I rx ry h
  obtain ⟨a, b, ns, ms, rfl, rfl, ha, hb, q⟩ := h
  cases rx
  cases ry
  obtain ⟨its, r1, p1, _⟩ := I.tuple ha
  obtain ⟨its2, r2, p2, _⟩ := I.tuple hb
  have i1 : IntsAre its ns := Vals.ints r1
  have i2 : IntsAre its2 ms := Vals.ints r2
  have e1 : its.toArray.size = ns.length := by rw [List.size_toArray]; exact i1.length
  have e2 : its2.toArray.size = ms.length := by rw [List.size_toArray]; exact i2.length
  have at1 : ∀ j (h1 : j < its.toArray.size), ∃ t, its.toArray[j] = .int (ns.getD j 0) t := fun j h1 => PyProof.Rows.IntsAre.int_at i1 _ _ (by simp at h1; simp [h1])
  have at2 : ∀ j (h1 : j < its2.toArray.size), ∃ t, its2.toArray[j] = .int (ms.getD j 0) t := fun j h1 => PyProof.Rows.IntsAre.int_at i2 _ _ (by simp at h1; simp [h1])
  have R := Ob.RcOp.tuples_ge (A := X.A) (s := s) (e := fun j => decide (ns.getD j 0 = ms.getD j 0)) (r := fun j => decide (ns.getD j 0 ≥ ms.getD j 0)) p1 p2 hu (fun j h1 h2 => by
    obtain ⟨t, et⟩ := at1 j h1
    obtain ⟨t', et'⟩ := at2 j h2
    rw [et, et']
    have z : (ns.getD j 0 == ms.getD j 0) = decide (ns.getD j 0 = ms.getD j 0) := by
      by_cases q : ns.getD j 0 = ms.getD j 0
      · rw [decide_eq_true q]; exact beq_iff_eq.mpr q
      · rw [decide_eq_false q]; exact beq_eq_false_iff_ne.mpr q
    rw [← z]
    exact SeqAt.EqAt.int_int _ _ _ _) (fun j h1 h2 _ => by
    obtain ⟨t, et⟩ := at1 j h1
    obtain ⟨t', et'⟩ := at2 j h2
    rw [et, et']
    exact Ob.RcOp.ge_int _ _ _ _)
  rw [e1, e2, lexAt_ge] at R
  have z : wpAny (model X.prog X.w) X.A (compareOp .GtE (.ref a) (.ref b)) (EP X pins σ Q) X.xe s := R X.prog X.w X.xe (EP X pins σ Q) ⟨.bl _, H, I, rfl, q⟩
  exact z
def geD2 : D → D → Option D
  | .int i, .int j => some (.bl (decide (j ≤ i)))
  | .tup xs, .tup ys => (intsD xs).bind fun ns => (intsD ys).map fun ms => .bl (lexGe ns ms)
  | _, _ => none
theorem o_ge2 (hu : X.A.units < cLine) : Op2 X (compareOp .GtE) geD2 := by
  obtain ⟨r0, h0, k0⟩ := o_ge (X := X)
  refine ⟨_, h0.or (op_geT hu), fun F as H x y d1 d2 d Q tr r1 r2 e q => ?_⟩
  unfold geD2 at e
  split at e
  · exact .inl (k0 F as H x y _ _ d Q tr r1 r2 e q)
  · rw [Option.bind_eq_some_iff] at e
    obtain ⟨ns, e1, e⟩ := e
    rw [Option.map_eq_some_iff] at e
    obtain ⟨ms, e2, rfl⟩ := e
    obtain ⟨a, us, rfl, s1, q1⟩ := r1.t_tup
    obtain ⟨b, ws, rfl, s2, q2⟩ := r2.t_tup
    rw [q1.toInts e1] at s1
    rw [q2.toInts e2] at s2
    exact .inr ⟨a, b, ns, ms, rfl, rfl, SqT.of s1, SqT.of s2, q _ H (Same.refl _) (.bl _)⟩
  · cases e
/-! ### list(range(..)) -/
def rgL1 : List D → Option D
  | [.int j] => if -1000000 ≤ j ∧ j ≤ 1000000 then some (.lst (rangeD 0 j)) else none
  | _ => none
def rgL2 : List D → Option D
  | [.int i, .int j] => if -1000000 ≤ i ∧ i ≤ 1000000 ∧ -1000000 ≤ j ∧ j ≤ 1000000 then some (.lst (rangeD i j)) else none
  | _ => none
theorem reps_rg {K : PySem.W.Frag} {F : Addr → Prop} {as : List Addr} {H : Hp} (a b : Int) : Reps K F as H (rgV a b) (rangeD a b) := by
  unfold rgV rangeD
  generalize List.range (b - a).toNat = l
  induction l with
  | nil => exact .nil
  | cons k l ih => exact .cons (.int _) ih
theorem dn_listRange2 {p p2 pos2 : Pos} (hc : X.calm = true) (hg : Gl X "list") (hm : X.mg "list" = none) (hg2 : Gl X "range") (hm2 : X.mg "range" = none) (ha : DU X O Z a fa) (hb : DU X O Z b fb) (hs1 : starEach [.Call (.Name "range" p2) [a, b] [] pos2] X.env = (false, eval (.Call (.Name "range" p2) [a, b] [] pos2) X.env) :: starEach [] X.env := by rfl)
    (na : starEach [a, b] X.env = (false, eval a X.env) :: starEach [b] X.env := by rfl) (nb : starEach [b] X.env = (false, eval b X.env) :: starEach [] X.env := by rfl) (hp : (backTo pos2 (starEach [b] X.env)).any (·.1) = false := by rfl) :
    DN X O Z (.Call (.Name "list" p) [.Call (.Name "range" p2) [a, b] [] pos2] [] pos) (E.blt rgL2 (A.cons fa (A.cons fb A.nil))) := PE.imp (pe_listRg hc hg hm (prg_2 hg2 hm2 ha hb na nb hp) hs1) fun σ H Q ⟨g, ok, q⟩ => by
  have q := Ev.bnd q
  refine ⟨g, ok, (Ev.bnd q).mono (fun d1 st1 q as1 v1 H1 g1 s1 r1 => ⟨g.at as1 st1, ok.step g1 s1, (Ev.bnd (Ev.bnd q)).mono (fun d2 st2 q as2 v2 H2 g2 s2 r2 => ?_) fun _ _ z => z⟩) fun _ _ z => z⟩
  obtain ⟨d, e, q⟩ := Ev.lift (o := rgL2 [d1, d2]) (s := st2) q
  unfold rgL2 at e
  split at e
  · rename_i i j h
    cases h
    split at e
    · rename_i h
      cases e
      have ok2 := (ok.step g1 s1).step g2 s2
      refine ⟨i, j, r1.t_int, r2.t_int, ⟨by omega, by omega, by omega, by omega, by omega⟩, fun p np => ?_⟩
      have g12 := g1.trans g2
      refine q as2 _ _ (g12.trans (Grow.new np)) (s2.new np) (Own.newL np (reps_rg i j)) fun p' z => ?_
      cases z
      have na := not_as ok2 np
      exact ⟨fresh_back (K := X.K) (σ := σ) (st1 := st2) g12 np na, na⟩
    · cases e
  · cases e
end
end G
end L2
end G22_
section G23_
set_option Elab.async false
set_option linter.all false
set_option maxRecDepth 100000
set_option maxHeartbeats 1000000
namespace L2
namespace G
open PySem PySem.Spec PyProof.Rows
/-! ### a dict is locked while it is walked -/
theorem notTup_frz {o : HO} {od : Obj} (nt : ¬ TupO o) : ¬ TupO (.frz od o) := fun z => by
  cases o with
  | tup xs => exact nt trivial
  | _ => exact z
def NoFrz (o : HO) : Prop := ∀ x y, o ≠ .frz x y
section
variable {K : PySem.W.Frag} {F F' : Addr → Prop} {as as' : List Addr} {H H' : Hp}
theorem LstAt.frameR {a : Addr} {xs : List V} (k : ∀ b o, NoFrz o → Rd H b o → ¬ F b → Rd H' b o) (h : LstAt K F H a xs) : LstAt K F H' a xs := by
  rcases h with ⟨n, h⟩ | h
  · exact .inl ⟨n, k _ _ (fun _ _ z => nomatch z) h n⟩
  · exact .inr h
theorem DctO.noFrz {o : HO} {t : Bool} {ks : List D} {vs : List V} (h : DctO o t ks vs) : NoFrz o := by
  rcases h with ⟨_, _, rfl, _⟩ | ⟨_, _, rfl, _⟩ <;> exact fun _ _ z => nomatch z
mutual
theorem Rep.frameR {v : V} {d : D} (k : ∀ b o, NoFrz o → Rd H b o → ¬ F b → Rd H' b o) (kt : ∀ b o, H b = some o → TupO o → H' b = some o) : Rep K F as H v d → Rep K F as H' v d
  | .non => .non
  | .bl b => .bl b
  | .int i => .int i
  | .str x => .str x
  | .tup h r => .tup (kt _ _ h trivial) (r.frameR k kt)
  | .ftup h r => .ftup (h.frame kt) (r.frameR k kt)
  | .lst h r => .lst (h.frameR k) (r.frameR k kt)
  | .dct n h o r => .dct n (k _ _ o.noFrz h n) o (r.frameR k kt)
  | .ref h => .ref h
theorem Reps.frameR {vs : List V} {ds : List D} (k : ∀ b o, NoFrz o → Rd H b o → ¬ F b → Rd H' b o) (kt : ∀ b o, H b = some o → TupO o → H' b = some o) : Reps K F as H vs ds → Reps K F as H' vs ds
  | .nil => .nil
  | .cons h r => .cons (h.frameR k kt) (r.frameR k kt)
end
end
section
variable {K : PySem.W.Frag} {F : Addr → Prop} {O : List Nat} {B : Addr → Prop} {H0 : Hp} {as0 as as' : List Addr} {ρ : Env} {σ : L2.St} {H H' : Hp} {st : Store} {d : Addr} {u : HO} {od : Obj}
theorem lock_k (hd : H d = some u) (nf : NoFrz u) : ∀ b o, NoFrz o → Rd H b o → ¬ F b → Rd (upd H d (.frz od u)) b o := fun b o no r n => by
  by_cases e : b = d
  · subst e
    rcases r with r | ⟨x, r⟩
    · rw [hd] at r; cases r; exact .inr ⟨od, upd_same⟩
    · rw [hd] at r; cases r; exact absurd rfl (nf _ _)
  · rcases r with r | ⟨x, r⟩
    · exact .inl (by rw [upd_ne e]; exact r)
    · exact .inr ⟨x, by rw [upd_ne e]; exact r⟩
theorem unlock_k (hd : H d = some (.frz od u)) : ∀ b o, NoFrz o → Rd H b o → ¬ F b → Rd (upd H d u) b o := fun b o no r n => by
  by_cases e : b = d
  · subst e
    rcases r with r | ⟨x, r⟩
    · rw [hd] at r; cases r; exact absurd rfl (no _ _)
    · rw [hd] at r; cases r; exact .inl upd_same
  · rcases r with r | ⟨x, r⟩
    · exact .inl (by rw [upd_ne e]; exact r)
    · exact .inr ⟨x, by rw [upd_ne e]; exact r⟩
theorem upd_t {o : HO} (hd : ∃ w, H d = some w ∧ ¬ TupO w) : ∀ b u, H b = some u → TupO u → upd H d o b = some u := fun b xs e t => by
  obtain ⟨w, hd, n⟩ := hd
  rw [upd_ne (fun (z : b = d) => by rw [z, hd] at e; cases e; exact n t)]
  exact e
theorem SRep.lockd (h : SRep K as st H) (nd : d ∉ as) {o : HO} (hd : ∃ w, H d = some w ∧ ¬ TupO w) (hx : ∀ φ, H d ≠ some (.ext φ)) : SRep K as st (upd H d o) where
  nd := h.nd
  len := h.len
  at_ := fun i a c ha hc => by
    have q := h.at_ i a c ha hc
    have hm : a ≠ d := fun e => nd (by rw [← e]; exact List.mem_of_getElem? ha)
    cases c with
    | lst xs =>
      obtain ⟨vs, e, r⟩ := q
      exact ⟨vs, by rw [upd_ne hm]; exact e, r.frameR (fun _ _ _ _ n => absurd trivial n) (upd_t hd)⟩
    | dct t ks xs =>
      obtain ⟨o, vs, e, dd, r⟩ := q
      exact ⟨o, vs, by rw [upd_ne hm]; exact e, dd, r.frameR (fun _ _ _ _ n => absurd trivial n) (upd_t hd)⟩
    | tbl y =>
      obtain ⟨hy, ps, e, t, c⟩ := q
      refine ⟨hy, ps, by rw [upd_ne hm]; exact e, t, fun pos cv hcv => ?_⟩
      obtain ⟨c, e1, e2⟩ := c pos cv hcv
      exact ⟨c, e1, by rw [upd_ne (fun z => by rw [z] at e2; exact hx _ e2)]; exact e2⟩
/-- what stands while d is locked; of what was at first, d is forgotten -/
theorem Wf.lock (w : Wf K O B H0 as0 as ρ σ H) (hd : H d = some u) (nf : NoFrz u) (nt : ¬ TupO u) (nF : ¬ Ff B as O σ d) : Wf K O B (fun b => if b = d then none else H0 b) as0 as ρ σ (upd H d (.frz od u)) := by
  have ut : ∀ b o, H b = some o → TupO o → upd H d (.frz od u) b = some o := upd_t ⟨u, hd, nt⟩
  have ntf : ¬ TupO (.frz od u) := fun z => by
    cases u with
    | tup _ => exact nt trivial
    | _ => exact z
  have kF : ∀ b o, NoFrz o → Rd H b o → ¬ Ff B as O σ b → Rd (upd H d (.frz od u)) b o := lock_k hd nf
  refine ⟨w.len, fun i dd e n => ?_, fun i dd e m => ?_, fun i a m e => ?_, w.dis, fun a b => ?_, ⟨w.gr.pre, fun b o h n => ?_, fun a h n => ?_⟩⟩
  · obtain ⟨v, h, r⟩ := w.var i dd e n
    exact ⟨v, h, r.frameR kF ut⟩
  · obtain ⟨v, h, r⟩ := w.own i dd e m
    have hp : ∀ p, v = .ref p → p ≠ d := fun p z y => nF (.inr (.inr ⟨i, m, by rw [← y, ← z]; exact h⟩))
    refine ⟨v, h, ?_⟩
    cases r with
    | lst hh r => exact .lst (by rw [upd_ne (hp _ rfl)]; exact hh) (r.frameR kF ut)
    | dct hh o r => exact .dct (by rw [upd_ne (hp _ rfl)]; exact hh) o (r.frameR kF ut)
    | sca r q => exact .sca (r.frameR kF ut) q
  · obtain ⟨h1, h2, h3, o, h4, h5⟩ := w.slot i a m e
    have hp : a ≠ d := fun y => nF (.inr (.inr ⟨i, m, by rw [← y]; exact e⟩))
    exact ⟨by show (if a = d then none else H0 a) = none; rw [if_neg hp]; exact h1, h2, h3, o, by rw [upd_ne hp]; exact h4, h5⟩
  · obtain ⟨o, h⟩ := w.trB a b
    by_cases e : a = d
    · exact ⟨_, by rw [e]; exact upd_same⟩
    · exact ⟨o, by rw [upd_ne e]; exact h⟩
  · have h : (if b = d then none else H0 b) = some o := h
    by_cases e : b = d
    · rw [if_pos e] at h; cases h
    · rw [if_neg e] at h
      rw [upd_ne e]
      exact w.gr.keep b o h n
  · show (if a = d then none else H0 a) = none
    by_cases e : a = d
    · rw [if_pos e]
    · rw [if_neg e]; exact w.gr.fre a h n
end
/-! ### the keys of a dict, in a list comprehension -/
theorem noexc_ok {α : Type} {m : M α} {s : Store} {P : α → Store → Prop} {Z : Ex → Store → Prop} (h : Ev (noexc m s) P Z) (Z' : Ex → Store → Prop) : Ev (m s) P Z' := by
  unfold noexc at h
  cases e : m s with
  | ok a s' => rw [e] at h; exact h
  | exc x s' => rw [e] at h; exact h.elim
  | bad => rw [e] at h; exact h
theorem walk_keysT {K : PySem.W.Frag} {F : Addr → Prop} {as : List Addr} {H : Hp} {d : Addr} {o : Obj} {kvs : List (List Key × V)} (hd : H d = some (.frz o (.dT kvs))) (n : ¬ F d) (hl : kvs.length ≤ sizeLine) : Walk K F as H (Itkt d o kvs) (kvs.map fun p => tkD p.1) where
  len := by rw [List.length_map]; exact hl
  go := fun i H1 st hi => ⟨st.1 _ _ hd n, by rw [List.length_map] at hi; exact hi⟩
  yl := fun i H1 x H2 dd F1 as1 st p k y e => by
    obtain ⟨rfl, kk, v, q, h1, rfl, h2⟩ := y
    rw [List.getElem?_map, h1] at e
    cases e
    exact ⟨Same.refl _, .tup h2 (reps_keys kk)⟩
  stop := fun i H1 st hi => ⟨st.1 _ _ hd n, by rw [List.length_map] at hi; exact Nat.le_of_eq hi⟩
theorem walk_keysK {K : PySem.W.Frag} {F : Addr → Prop} {as : List Addr} {H : Hp} {d : Addr} {o : Obj} {kvs : List (Key × V)} (hd : H d = some (.frz o (.dK kvs))) (n : ¬ F d) (hl : kvs.length ≤ sizeLine) : Walk K F as H (Itk d o kvs) (kvs.map fun p => kD p.1) where
  len := by rw [List.length_map]; exact hl
  go := fun i H1 st hi => ⟨st.1 _ _ hd n, by rw [List.length_map] at hi; exact hi⟩
  yl := fun i H1 x H2 dd F1 as1 st p k y e => by
    obtain ⟨rfl, kk, v, h1, rfl⟩ := y
    rw [List.getElem?_map, h1] at e
    cases e
    exact ⟨Same.refl _, rep_key kk⟩
  stop := fun i H1 st hi => ⟨st.1 _ _ hd n, by rw [List.length_map] at hi; exact Nat.le_of_eq hi⟩
theorem PE.or {X : Cx} {e : Expr} {t t' : TE} (h : PE X e t) (k : PE X e t') : PE X e (fun σ H Q => t σ H Q ∨ t' σ H Q) := ⟨fun pins s σ H Q I q => q.elim (h.run pins s σ H Q I) (k.run pins s σ H Q I)⟩
/-- lengths of dicts -/
theorem pe_dlen {X : Cx} {e : Expr} {t : TE} (h : PE X e t) : PE X e (fun σ H Q => ((∀ a kvs, Rd H a (.dK kvs) → kvs.length ≤ sizeLine) → (∀ a kvs, Rd H a (.dT kvs) → kvs.length ≤ sizeLine) → t σ H Q)) := ⟨fun pins s σ H Q I q => h.run pins s σ H Q I (q (fun a kvs r => (r.ok I.hok).1) fun a kvs r => (r.ok I.hok).1)⟩
def E.compK (i : Nat) (vs : List Nat) (t : D → Env → Option Env) (c : Env → M Bool) (e : Env → M D) : Env → M D := fun ρ => match ρ[i]? with
  | some (some (.dct _ ks _)) => noexc (bnd (compL (wipeD ρ vs) t c e ks) fun rs => ret (.lst rs))
  | _ => bad
section
variable {X : Cx} {O : List Nat} {Z : ZT} {e a b c tg elt : Expr} {es ifs : List Expr} {f fa fb fe : Env → M D} {fi r : Env → M (List D)} {fc : Env → M Bool} {t : D → Env → Option Env} {pos p : Pos} {x : Str} {scope : Scope} {own : List (Str × Nat)}
theorem slot_dctE {ρ : Env} {i : Nat} {k : Bool → List D → List D → M D} {st : Store} {P : D → Store → Prop} {ZZ : Ex → Store → Prop} (q : Ev ((match ρ[i]? with
  | some (some (.dct t ks vs)) => k t ks vs
  | _ => G.bad) st) P ZZ) : ∃ t ks vs, ρ[i]? = some (some (.dct t ks vs)) ∧ Ev (k t ks vs st) P ZZ := by
  cases e : ρ[i]? with
  | none => rw [e] at q; exact q.elim
  | some o =>
    rw [e] at q
    cases o with
    | none => exact q.elim
    | some d =>
      cases d with
      | dct t ks vs => exact ⟨t, ks, vs, rfl, q⟩
      | _ => exact q.elim
theorem compK_fin {i : Nat} {vs : List Nat} {σ : L2.St} {H : Hp} {g : Gh} {Q : VK} (hiO : i ∉ O) (hO : ∀ i ∈ vs, i ∉ O) (ok : g.ok X.K O σ H) (L1 : ∀ a kvs, Rd H a (.dK kvs) → kvs.length ≤ sizeLine) (L2' : ∀ a kvs, Rd H a (.dT kvs) → kvs.length ≤ sizeLine)
    (q : Ev (E.compK i vs t fc fe g.ρ g.st) (fun d st' => ∀ as' v H', Grow g.as H as' H' → SRep X.K as' st' H' → Own X.K (fun a => Ff g.B as' O σ a ∨ v = .ref a) as' H' v d → (∀ p, v = .ref p → H p = none ∧ p ∉ as') → Q v H') (Zc X.K O g.B g.H0 g.as0 Z)) :
    tLockE (tLc (iKeys (tVar i)) (tG X.K O vs t) (tT X.K O Z0 fc) (tE X.K O Z0 fe) vs) σ H Q ∨ tLc (iKeys (tVar i)) (tG X.K O vs t) (tT X.K O Z0 fc) (tE X.K O Z0 fe) vs σ H Q := by
  unfold E.compK at q
  obtain ⟨tt, ks, ds, er, q⟩ := slot_dctE q
  have q := noexc_ok q (fun _ _ => False)
  obtain ⟨v, hv, r⟩ := ok.wf.var i _ er hiO
  cases r with
  | dct nF rd dd rs =>
    rename_i a o xs
    have nt := dd.notTup
    have nfz := dd.noFrz
    have nas : a ∉ g.as := fun z => nF (.inr (.inl z))
    rcases rd with hd | ⟨od, hd⟩
    · -- not yet locked
      left
      have mu : Mut (some o) := by rcases dd with ⟨_, _, rfl, _⟩ | ⟨_, _, rfl, _⟩ <;> trivial
      refine ⟨a, o, hd, mu, fun od => ⟨_, hv, a, od, rfl, ?_⟩⟩
      have hw : ∃ w, H a = some w ∧ ¬ TupO w := ⟨o, hd, nt⟩
      have w1 := ok.wf.lock (od := od) hd nfz nt nF
      have s1 := ok.sr.lockd nas (o := .frz od o) hw (fun φ z => by rw [hd] at z; cases z; exact nt trivial)
      have hb : ∀ {J : It}, WalkC X.K (Ff g.B g.as O σ) (· ∈ g.as) g.as (upd H a (.frz od o)) J ks → lcB (tG X.K O vs t) (tT X.K O Z0 fc) (tE X.K O Z0 fe) vs σ (fun v H' => H' a = some (.frz od o) ∧ Q v (upd H' a o)) J (upd H a (.frz od o)) := fun wk => by
        refine comp_core (g := ⟨g.B, fun b => if b = a then none else g.H0 b, g.as0, g.as, g.ρ, g.st⟩) (st1 := g.st) hO ⟨w1, s1⟩ (Grow.refl _ _) s1 wk (q.mono (fun d st' q as' v H' gr s r n => ?_) fun _ _ z => z.elim)
        have ha : H' a = some (.frz od o) := gr.keep a _ upd_same nas
        have ha' : ∃ w, H' a = some w ∧ ¬ TupO w := ⟨_, ha, notTup_frz nt⟩
        have na' : a ∉ as' := fun z => by
          have := gr.fre a z nas
          rw [upd_same] at this; cases this
        have vn : ∀ p, v = .ref p → p ≠ a := fun p z y => by
          have := (n p z).1
          rw [y, upd_same] at this; cases this
        refine ⟨ha, q as' v _ ⟨gr.pre, fun b u h n => ?_, fun b h n => ?_⟩ (s.lockd na' ha' (fun φ z => by rw [ha] at z; cases z)) ?_ fun p z => ?_⟩
        · by_cases e : b = a
          · rw [e, upd_same]; rw [e, hd] at h; exact h
          · rw [upd_ne e]
            exact gr.keep b u (by rw [upd_ne e]; exact h) n
        · have := gr.fre b h n
          by_cases e : b = a
          · rw [e, upd_same] at this; cases this
          · rw [upd_ne e] at this; exact this
        · have kF : ∀ b u, NoFrz u → Rd H' b u → ¬ (Ff g.B as' O σ b ∨ v = .ref b) → Rd (upd H' a o) b u := unlock_k ha
          have kT := upd_t (o := o) ha'
          cases r with
          | lst hh r => exact .lst (by rw [upd_ne (vn _ rfl)]; exact hh) (r.frameR kF kT)
          | dct hh o r => exact .dct (by rw [upd_ne (vn _ rfl)]; exact hh) o (r.frameR kF kT)
          | sca r q => exact .sca (r.frameR kF kT) q
        · obtain ⟨n1, n2⟩ := n p z
          rw [upd_ne (vn p z)] at n1
          exact ⟨n1, n2⟩
      rcases dd with ⟨kvs, rfl, rfl, rfl, rfl⟩ | ⟨kvs, rfl, rfl, rfl, rfl⟩
      · exact .inl ⟨kvs, upd_same, hb ((walk_keysK upd_same nF (L1 a kvs (.inl hd))).c fun a z => .inr (.inl z))⟩
      · exact .inr ⟨kvs, upd_same, hb ((walk_keysT upd_same nF (L2' a kvs (.inl hd))).c fun a z => .inr (.inl z))⟩
    · right
      refine ⟨_, hv, a, od, rfl, ?_⟩
      have hb : ∀ {J : It}, WalkC X.K (Ff g.B g.as O σ) (· ∈ g.as) g.as H J ks → lcB (tG X.K O vs t) (tT X.K O Z0 fc) (tE X.K O Z0 fe) vs σ Q J H := fun wk =>
        comp_core (st1 := g.st) hO ok (Grow.refl _ _) ok.sr wk (q.mono (fun d st' q as' v H' gr s r n => q as' v H' gr s r n) fun _ _ z => z.elim)
      rcases dd with ⟨kvs, rfl, rfl, rfl, rfl⟩ | ⟨kvs, rfl, rfl, rfl, rfl⟩
      · exact .inl ⟨kvs, hd, hb ((walk_keysK hd nF (L1 a kvs (.inr ⟨od, hd⟩))).c fun a z => .inr (.inl z))⟩
      · exact .inr ⟨kvs, hd, hb ((walk_keysT hd nF (L2' a kvs (.inr ⟨od, hd⟩))).c fun a z => .inr (.inl z))⟩
theorem dn_compK (i : Nat) {y : Str} {py : Pos} (hiO : i ∉ O) (hy : X.N[i]? = some y) (hv : Vis X.env.scope y) (hc : X.calm = true) (hN : X.N.Nodup) (ok : BlkOk X.N X.env.scope scope own) (hO : ∀ i ∈ own.map (·.2), i ∉ O)
    (hg : ∀ (s : Shared) (H : Hp) (C : Addr) (cl : List (Str × Addr)) (fp : List Addr), DG (X.blk s H scope (compEnvC scope cl C X.env) fp) O (own.map (·.2)) tg t) (ht : ∀ (s : Shared) (H : Hp) (C : Addr) (cl : List (Str × Addr)) (fp : List Addr), DTs (X.blk s H scope (compEnvC scope cl C X.env) fp) O Z0 ifs fc)
    (he : ∀ (s : Shared) (H : Hp) (C : Addr) (cl : List (Str × Addr)) (fp : List Addr), DE (X.blk s H scope (compEnvC scope cl C X.env) fp) O Z0 elt fe) (hs : ∀ x, foldedSetIterable (.Name y py) X.env x = pure x := by intro _; rfl)
    (hd : (y == ("__debug__" : Str)) = false := by decide) (hcd : (y == ("__classdict__" : Str)) = false := by decide) :
    DN X O Z (.ListComp elt [⟨tg, .Name y py, ifs, 0⟩] scope pos) (E.compK i (own.map (·.2)) t fc fe) :=
  PE.imp (pe_dlen (PE.or (pe_lock (pe_lc hc hN (pi_keys (pe_var (i := i) hy hv hd hcd)) ok hg ht he hs)) (pe_lc hc hN (pi_keys (pe_var (i := i) hy hv hd hcd)) ok hg ht he hs))) fun σ H Q ⟨g, ok, q⟩ => fun L1 L2' => compK_fin hiO hO ok L1 L2' q
end
end G
end L2
end G23_
section G24_
set_option Elab.async false
set_option linter.all false
set_option maxRecDepth 100000
set_option maxHeartbeats 1000000
namespace L2
namespace G
open PySem PySem.Spec PyProof.Rows
/-! ### dict(pairs) with tuples as keys -/
def mergeG {κ : Type} [DecidableEq κ] (kvs more : List (κ × V)) : List (κ × V) := more.foldl (fun acc kv => putK acc kv.1 kv.2) kvs
theorem KT.merge {H : Hp} : ∀ {more : List (List Key × V)} {rs : List (List Key × Addr × Value)} {kvs : List (List Key × V)} {xs : List (List Key × Addr × Value)}, KT H more rs → KT H kvs xs → KT H (mergeG kvs more) (storedAllH xs rs)
  | _, _, _, _, .nil, r => r
  | _, _, _, _, .cons (a := p) (b := x) h t, r => by
    show KT H (mergeG (putK _ p.1 p.2) _) (storedAllH (storedH _ x.1 x.2.1 x.2.2) _)
    refine KT.merge t ?_
    have := r.put p.1 (b := x.2.1) (y := p.2) (u := x.2.2) h.2.1 h.2.2
    rw [h.1] at this ⊢
    exact this
theorem length_mergeG {κ : Type} [DecidableEq κ] : ∀ (more kvs : List (κ × V)), (mergeG kvs more).length ≤ kvs.length + more.length
  | [], kvs => by show kvs.length ≤ kvs.length + 0; omega
  | p :: r, kvs => by
    have h1 := length_mergeG r (putK kvs p.1 p.2)
    have h2 := length_putK kvs p.1 p.2
    show (mergeG (putK kvs p.1 p.2) r).length ≤ _
    rw [List.length_cons]; omega
section
variable {X : Cx}
def PrT (K : PySem.W.Frag) (H : Hp) (p : Addr) (kv : List Key × V) : Prop := ∃ b, SqT K H p [.ref b, kv.2] ∧ H b = some (.tup (kv.1.map kV))
theorem pairsT_of {pins : List (Addr × Obj)} {σ : L2.St} {H : Hp} {s : Shared} (I : Inv X pins σ H s) : ∀ {ps : List Addr} {kvs : List (List Key × V)}, Paired (PrT X.K H) ps kvs →
    ∃ prs : List (List Key × Addr × Value), KT H kvs prs ∧ prs.length = ps.length ∧ ∀ (j : Nat) (q : List Key × Addr × Value), prs[j]? = some q → ∃ b, ps[j]? = some b ∧ IsTup s.heap b #[.ref q.2.1, q.2.2]
  | _, _, .nil => ⟨[], .nil, rfl, fun j q e => by simp at e⟩
  | _, _, .cons (a := p) (b := kv) h t => by
    obtain ⟨prs, r, hl, hp⟩ := pairsT_of I t
    obtain ⟨b, sq, hb⟩ := h
    obtain ⟨its, rv, pt, _⟩ := I.tuple sq
    obtain ⟨u1, u2, rfl, r1, r2⟩ : ∃ u1 u2, its = [u1, u2] ∧ RelV (.ref b) u1 ∧ RelV kv.2 u2 := by
      cases rv with
      | cons a1 q1 =>
        cases q1 with
        | cons a2 q2 =>
          cases q2
          exact ⟨_, _, rfl, a1, a2⟩
    cases (show u1 = Value.ref b from r1)
    refine ⟨(kv.1, b, u2) :: prs, .cons ⟨rfl, hb, r2⟩ r, by simp [hl], fun j q e => ?_⟩
    cases j with
    | zero =>
      simp at e
      subst e
      exact ⟨p, rfl, pt⟩
    | succ j =>
      obtain ⟨b', e1, e2⟩ := hp j q (by simpa using e)
      exact ⟨b', by simpa using e1, e2⟩
theorem call_dictPT (hcalm : X.calm = true) (hu : X.A.units + 65 < cLine) : CallR X (.type "dict") (fun xs H Q => ∃ (a : Addr) (ps : List Addr) (kvs : List (List Key × V)), xs = [.ref a] ∧ SqL X.K H a (ps.map V.ref) ∧ Paired (PrT X.K H) ps kvs ∧
    ∀ p, H p = none → Q (.ref p) (upd H p (.dT (mergeG [] kvs)))) := by
  intro pins s σ H xs us Q I r q
  obtain ⟨a, ps, kvs, ex, hq, hp, q⟩ := q
  subst ex
  obtain ⟨u, eu, rx⟩ := vals1 r
  subst eu
  cases rx
  obtain ⟨its, rv, pl, hz⟩ := I.list hq
  have ei := refs_at rv
  subst ei
  rw [List.length_map] at hz
  obtain ⟨prs, rel, hl, hpr⟩ := pairsT_of I hp
  have hlk : kvs.length = prs.length := Paired.length rel
  refine PySem.call_dict_pairsH (knd := tupleKind (mixKind X.prog X.w)) (ps := prs) (PairArg.list a (ps.map Value.ref).toArray (fun j => ps.getD j 0) (prs.map fun q => (Value.ref q.2.1, q.2.2))) (I.ok.hd hcalm) (show X.A.units + 1 + 1 < cLine by omega) ⟨pl, by simp [hl], fun j k v e => ?_⟩ ⟨by simp, fun i key v e => ?_⟩ (fun h' hk x hx => ?_) (by rw [List.length_map, hl]; exact hz) fun h' tk hd' k => ?_
  · rw [List.getElem?_map] at e
    cases e2 : prs[j]? with
    | none => rw [e2] at e; cases e
    | some x =>
      rw [e2] at e
      cases e
      obtain ⟨b, e3, e4⟩ := hpr j x e2
      have : ps.getD j 0 = b := by rw [List.getD_eq_getElem?_getD, e3]; rfl
      refine ⟨?_, .inl ?_⟩
      · show _ = some (Value.ref (ps.getD j 0))
        rw [this]; simp [e3]
      · show s.heap.IsTuple (ps.getD j 0) _
        rw [this]; exact e4
  · have e : (prs.map fun q => (Value.ref q.2.1, q.2.2))[i]? = some (key, v) := e
    rw [List.getElem?_map] at e
    cases e2 : prs[i]? with
    | none => rw [e2] at e; cases e
    | some x =>
      rw [e2] at e
      cases e
      exact ⟨x.1, x.2.1, rfl, rfl⟩
  · have I1 : Inv X pins σ H { s with heap := h', toks := s.toks } := I.kept fun b o e => hk b o (Nat.ne_of_lt (Heap.lt_size e)) (by simp) e
    have all : ∀ {kvs : List (List Key × V)} {prs : List (List Key × Addr × Value)}, KT H kvs prs → ∀ x ∈ prs, H x.2.1 = some (.tup (x.1.map kV)) := by
      intro kvs prs rel
      induction rel with
      | nil => intro x hx; cases hx
      | cons h t ih =>
        intro x hx
        rcases List.mem_cons.mp hx with z | z
        · subst z
          rw [← h.1]; exact h.2.1
        · exact ih x z
    exact key_of I1.hok (all rel x hx)
  · have hm : (s.heap.objs.size == sysModules) = false := beq_eq_false_iff_ne.mpr (Nat.ne_of_gt I.big)
    have hlen : (mergeG [] kvs).length ≤ sizeLine := by
      refine Nat.le_trans (length_mergeG kvs []) ?_
      rw [List.length_nil, Nat.zero_add, hlk, hl]
      exact hz
    obtain ⟨o, es, ep, hq', h2, h3, h4, _, h5⟩ := hd'
    have n0 := I.hok.fresh (Nat.le_refl s.heap.objs.size)
    refine ⟨.ref s.heap.objs.size, upd H s.heap.objs.size (.dT (mergeG [] kvs)), I.laid (t' := tk) (fun b o e => k b o (by simp) e) (Nat.le_refl _) (show ObjOk X.prog X.w _ _ _ (.dT (mergeG [] kvs)) from ⟨hlen, hm, storedAllH [] prs, (KT.merge rel .nil).keeps fun c ys ec => ?_, o, es, ep, hq', h2, h3, h4, h5⟩), rfl, q _ n0⟩
    rw [upd_ne (ne_of_none ec n0)]
    exact ec
/-! ### dict(l), by data -/
def pairD : D → Option (D × D)
  | .tup [k, v] => some (k, v)
  | _ => none
def pairsD : List D → Option (List (D × D))
  | [] => some []
  | d :: ds => (pairD d).bind fun p => (pairsD ds).map (p :: ·)
def dictL (t : Bool) (ps : List (D × D)) : List D × List D := ps.foldl (fun acc p => putL t p.1 p.2 acc.1 acc.2) ([], [])
def dictD (t : Bool) : List D → Option D
  | [.lst ds] => (pairsD ds).bind fun ps => if (ps.all fun p => okKey t p.1) = true then some (.dct t (dictL t ps).1 (dictL t ps).2) else none
  | _ => none
theorem pairD_eq {d k v : D} (h : pairD d = some (k, v)) : d = .tup [k, v] := by
  unfold pairD at h
  split at h
  · cases h; rfl
  · cases h
section
variable {K : PySem.W.Frag} {F : Addr → Prop} {as : List Addr} {H : Hp}
theorem fold_reps {κ : Type} [DecidableEq κ] {t : Bool} {e : κ → D} (he : ∀ a b, keyEq t (e a) (e b) = decide (a = b)) : ∀ {more : List (κ × V)} {ds : List D} {acc : List (κ × V)} {accD : List D}, Reps K F as H (more.map (·.2)) ds → Reps K F as H (acc.map (·.2)) accD →
    ((((more.map fun p => e p.1).zip ds).foldl (fun a p => putL t p.1 p.2 a.1 a.2) (acc.map (fun p => e p.1), accD)).1 = (mergeG acc more).map (fun p => e p.1)) ∧
    Reps K F as H ((mergeG acc more).map (·.2)) (((more.map fun p => e p.1).zip ds).foldl (fun a p => putL t p.1 p.2 a.1 a.2) (acc.map (fun p => e p.1), accD)).2
  | [], ds, acc, accD, r, ra => by cases r; exact ⟨rfl, ra⟩
  | p :: more, ds, acc, accD, r, ra => by
    cases r with
    | cons h1 h2 =>
      rename_i d ds
      obtain ⟨p1, p2⟩ := put_reps he (k := p.1) ra h1
      have ih := fold_reps he (acc := putK acc p.1 p.2) h2 p2
      simp only [List.map_cons, List.zip_cons_cons, List.foldl_cons]
      have e : putL t (e p.1) d (acc.map fun p => e p.1) accD = ((putK acc p.1 p.2).map (fun p => e p.1), (putL t (e p.1) d (acc.map fun p => e p.1) accD).2) := by rw [← p1]
      rw [e]
      exact ih
theorem pairs_T : ∀ {vs : List V} {ds : List D} {ps : List (D × D)}, Reps K F as H vs ds → pairsD ds = some ps → (ps.all fun p => okKey true p.1) = true →
    ∃ (bs : List Addr) (kvs : List (List Key × V)), vs = bs.map V.ref ∧ Paired (PrT K H) bs kvs ∧ ps.map (·.1) = kvs.map (fun p => tkD p.1) ∧ Reps K F as H (kvs.map (·.2)) (ps.map (·.2))
  | _, _, _, .nil, e, _ => by cases e; exact ⟨[], [], rfl, .nil, rfl, .nil⟩
  | _, _, _, .cons (d := d) (ds := ds) h r, e, ok => by
    simp only [pairsD, Option.bind_eq_some_iff, Option.map_eq_some_iff] at e
    obtain ⟨⟨k, v⟩, e1, ps', e2, rfl⟩ := e
    have e1 := pairD_eq e1
    subst e1
    simp only [List.all_cons, Bool.and_eq_true] at ok
    obtain ⟨bs, kvs, i1, i2, i3, i4⟩ := pairs_T r e2 ok.2
    have ok1 := ok.1
    unfold okKey at ok1
    rw [if_pos rfl] at ok1
    obtain ⟨kk, ek⟩ := Option.isSome_iff_exists.mp ok1
    have ek := toTKey_eq ek
    subst ek
    cases h with
    | tup ht hr =>
      cases hr with
      | cons r1 hr =>
        cases hr with
        | cons r2 hr =>
          cases hr
          obtain ⟨b, rfl, hb⟩ := r1.tkey
          exact ⟨_ :: bs, (kk, _) :: kvs, by rw [i1]; rfl, .cons ⟨b, SqT.of ht, hb⟩ i2, by simp [i3], .cons r2 i4⟩
theorem pairs_K : ∀ {vs : List V} {ds : List D} {ps : List (D × D)}, Reps K F as H vs ds → pairsD ds = some ps → (ps.all fun p => okKey false p.1) = true →
    ∃ (bs : List Addr) (kvs : List (Key × V)), vs = bs.map V.ref ∧ Paired (fun p kv => SqT K H p [kV kv.1, kv.2]) bs kvs ∧ ps.map (·.1) = kvs.map (fun p => kD p.1) ∧ Reps K F as H (kvs.map (·.2)) (ps.map (·.2))
  | _, _, _, .nil, e, _ => by cases e; exact ⟨[], [], rfl, .nil, rfl, .nil⟩
  | _, _, _, .cons (d := d) (ds := ds) h r, e, ok => by
    simp only [pairsD, Option.bind_eq_some_iff, Option.map_eq_some_iff] at e
    obtain ⟨⟨k, v⟩, e1, ps', e2, rfl⟩ := e
    have e1 := pairD_eq e1
    subst e1
    simp only [List.all_cons, Bool.and_eq_true] at ok
    obtain ⟨bs, kvs, i1, i2, i3, i4⟩ := pairs_K r e2 ok.2
    have ok1 := ok.1
    unfold okKey at ok1
    rw [if_neg Bool.false_ne_true] at ok1
    obtain ⟨kk, ek⟩ := Option.isSome_iff_exists.mp ok1
    have ek := toKey_eq ek
    subst ek
    cases h with
    | tup ht hr =>
      cases hr with
      | cons r1 hr =>
        cases hr with
        | cons r2 hr =>
          cases hr
          have := r1.key
          subst this
          exact ⟨_ :: bs, (kk, _) :: kvs, by rw [i1]; rfl, .cons (SqT.of ht) i2, by simp [i3], .cons r2 i4⟩
end
theorem zip_fs (ps : List (D × D)) : ((ps.map (·.1)).zip (ps.map (·.2))) = ps := by
  induction ps with
  | nil => rfl
  | cons p ps ih => simp [ih]
theorem b_dictT (hcalm : X.calm = true) (hu : X.A.units + 65 < cLine) : BlN X (.type "dict") (dictD true) := ⟨_, call_dictPT hcalm hu, fun F as H xs ds d Q tr r e q => by
  unfold dictD at e
  split at e
  · rw [Option.bind_eq_some_iff] at e
    obtain ⟨ps, e1, e⟩ := e
    split at e
    · rename_i hok
      cases e
      obtain ⟨v, rfl, rv⟩ := repTs1 r
      obtain ⟨a, us, rfl, s, rs⟩ := rv.t_lst
      obtain ⟨bs, kvs, i1, i2, i3, i4⟩ := pairs_T rs e1 hok
      rw [i1] at s
      obtain ⟨f1, f2⟩ := fold_reps (t := true) (e := tkD) (fun _ _ => keyEq_t) (acc := []) i4 .nil
      rw [← i3, zip_fs] at f1 f2
      refine ⟨a, bs, kvs, rfl, s, i2, fun p np => q _ _ (same_new np) (.dct upd_same (.inr ⟨mergeG [] kvs, rfl, rfl, f1, rfl⟩) ?_) fun p' z => by cases z; exact np⟩
      exact (f2.weak fun a o ha z => by
        rcases z with z | z
        · exact z
        · cases z; rw [np] at ha; cases ha).new np
    · cases e
  · cases e⟩
theorem b_dictK (hcalm : X.calm = true) : BlN X (.type "dict") (dictD false) := ⟨_, call_dictP hcalm, fun F as H xs ds d Q tr r e q => by
  unfold dictD at e
  split at e
  · rw [Option.bind_eq_some_iff] at e
    obtain ⟨ps, e1, e⟩ := e
    split at e
    · rename_i hok
      cases e
      obtain ⟨v, rfl, rv⟩ := repTs1 r
      obtain ⟨a, us, rfl, s, rs⟩ := rv.t_lst
      obtain ⟨bs, kvs, i1, i2, i3, i4⟩ := pairs_K rs e1 hok
      rw [i1] at s
      obtain ⟨f1, f2⟩ := fold_reps (t := false) (e := kD) (fun _ _ => keyEq_k) (acc := []) i4 .nil
      rw [← i3, zip_fs] at f1 f2
      refine ⟨a, bs, kvs, rfl, s, i2, fun p np => q _ _ (same_new np) (.dct upd_same (.inl ⟨mergeG [] kvs, rfl, rfl, f1, rfl⟩) ?_) fun p' z => by cases z; exact np⟩
      exact (f2.weak fun a o ha z => by
        rcases z with z | z
        · exact z
        · cases z; rw [np] at ha; cases ha).new np
    · cases e
  · cases e⟩
end
end G
end L2
end G24_
section G25_
set_option Elab.async false
set_option linter.all false
set_option maxRecDepth 100000
set_option maxHeartbeats 1000000
namespace L2
namespace G
open PySem PySem.Spec PyProof.Rows
theorem leD'_int (a b : Int) : leD' (.int a) (.int b) = decide (a ≤ b) := by
  have e : leD' (.int a) (.int b) = !(decide (b < a) || (!decide (a < b) && false)) := by
    unfold leD' PySem.W.dataLe PySem.W.sortLe
    simp only [D.py, PySem.W.keyToks]
    rfl
  rw [e]
  by_cases h : a ≤ b
  · simp [h, Int.not_lt.mpr h]
  · simp [h, Int.not_le.mp h]
/-! ### sorted of a dict with ints as keys -/
theorem intsD_map : ∀ {ds : List D} {ns : List Int}, intsD ds = some ns → ds = ns.map D.int
  | [], _, h => by cases h; rfl
  | d :: ds, ns, h => by
    cases d with
    | int i =>
      unfold intsD at h
      rw [Option.map_eq_some_iff] at h
      obtain ⟨r, h, rfl⟩ := h
      rw [intsD_map h]; rfl
    | _ => cases h
theorem sort_ints (ns ys : List Int) (h : ys.Perm ns) (hp : ys.Pairwise (· ≤ ·)) : ys.map D.int = (ns.map D.int).mergeSort leD' := by
  have e := List.map_mergeSort (r := fun a b : Int => decide (a ≤ b)) (s := leD') (f := D.int) (l := ns) fun a _ b _ => (leD'_int a b).symm
  rw [← e]
  congr 1
  refine List.Perm.eq_of_pairwise (le := fun a b => a ≤ b) (fun a b _ _ h1 h2 => Int.le_antisymm h1 h2) hp ?_ (h.trans (List.mergeSort_perm _ _).symm)
  exact (List.pairwise_mergeSort (le := fun a b : Int => decide (a ≤ b)) (by intro a b c; simp; omega) (by intro a b; simp; omega) ns).imp (by intro a b; simp)
def sortedD3 : List D → Option D
  | [.lst ds] => (sortL ds).map .lst
  | [.dct true ks _] => (sortL ks).map .lst
  | [.dct false ks _] => if ks.length < 64 ∧ (intsD ks).isSome = true then some (.lst (ks.mergeSort leD')) else none
  | _ => none
section
variable {X : Cx} {O : List Nat} {Z : ZT} {e a b c tg : Expr} {es : List Expr} {f fa fb fc : Env → M D} {r : Env → M (List D)} {pos p : Pos} {x : Str}
theorem b_sorted3 (hcalm : X.calm = true) (hu : X.A.units + 65 < cLine) : BlN X (.builtin "sorted") sortedD3 := by
  obtain ⟨r1, c1, h1⟩ := b_sortedD (X := X) hcalm hu
  refine ⟨_, c1.or (call_sortedDI hcalm), fun F as H xs ds d Q tr r e q => ?_⟩
  unfold sortedD3 at e
  split at e
  · exact .inl (h1 F as H xs _ d Q tr r e q)
  · exact .inl (h1 F as H xs _ d Q tr r e q)
  · split at e
    · rename_i ks _ h
      cases e
      obtain ⟨ns, en⟩ := Option.isSome_iff_exists.mp h.2
      obtain ⟨v, rfl, rv⟩ := repTs1 r
      obtain ⟨a, o, us, rfl, hs, dd, rs⟩ := rv.t_dct
      have em := intsD_map en
      rcases dd with ⟨kvs, _, rfl, rfl, rfl⟩ | ⟨_, z, _⟩
      · have hk : kvs.map (·.1) = ns.map Sum.inl := by
          have e2 : (kvs.map (·.1)).map kD = (ns.map Sum.inl).map kD := by rw [List.map_map, List.map_map]; exact em
          have inj : ∀ {l m : List Key}, l.map kD = m.map kD → l = m := by
            intro l
            induction l with
            | nil => intro m h; cases m with
              | nil => rfl
              | cons => cases h
            | cons x l ih => intro m h; cases m with
              | nil => cases h
              | cons y m =>
                simp only [List.map_cons, List.cons.injEq] at h
                rw [kD_inj h.1, ih h.2]
          exact inj e2
        have hl : ns.length < 64 := by
          have := congrArg List.length em
          rw [List.length_map, List.length_map] at this
          have h1 := h.1
          rw [List.length_map] at h1
          omega
        refine .inr ⟨a, kvs, ns, rfl, hs, hk, hl, fun ys p hp1 hp2 np => ?_⟩
        rw [em, ← sort_ints ns ys hp1 hp2] at q
        refine q _ _ (same_new np) (Own.newL np ?_) fun p' z => by cases z; exact np
        clear hp1 hp2 q
        induction ys with
        | nil => exact .nil
        | cons y ys ih => exact .cons (.int y) ih
      · cases z
    · cases e
  · cases e
end
end G
end L2
end G25_
section G26_
set_option Elab.async false
set_option linter.all false
set_option maxRecDepth 100000
set_option maxHeartbeats 1000000
namespace L2
namespace G
open PySem PySem.Spec PyProof.Rows
/-! ### what stands in the store -/
theorem SRep.cell {K : PySem.W.Frag} {as : List Addr} {st : Store} {H : Hp} (s : SRep K as st H) {n : Nat} {a : Addr} (h : as[n]? = some a) : ∃ c, st[n]? = some c ∧ CellAt K as H a c := by
  have hl : n < as.length := (List.getElem?_eq_some_iff.mp h).1
  have hl' : n < st.length := by rw [← s.len]; exact hl
  exact ⟨st[n], List.getElem?_eq_getElem hl', s.at_ n a _ h (List.getElem?_eq_getElem hl')⟩
theorem CellAt.obj {K : PySem.W.Frag} {as : List Addr} {H : Hp} {a : Addr} {c : Cell} (h : CellAt K as H a c) : ∃ o, H a = some o ∧ ¬ TupO o := by
  cases c with
  | lst xs => obtain ⟨vs, q, _⟩ := h; exact ⟨_, q, fun z => z⟩
  | dct t ks xs => obtain ⟨o, vs, q, r, _⟩ := h; exact ⟨_, q, r.notTup⟩
  | tbl y => obtain ⟨_, ps, q, _⟩ := h; exact ⟨_, q, fun z => z⟩
theorem SRep.put {K : PySem.W.Frag} {as : List Addr} {st : Store} {H : Hp} (s : SRep K as st H) {n : Nat} {a : Addr} {o : HO} {c : Cell} (h : as[n]? = some a) (hc : CellAt K as (upd H a o) a c) : SRep K as (st.set n c) (upd H a o) := by
  obtain ⟨c0, e0, h0⟩ := s.cell h
  obtain ⟨o0, ho0, nt⟩ := h0.obj
  have kt : ∀ b u, H b = some u → TupO u → upd H a o b = some u := fun b u e t => by rw [upd_ne (fun (z : b = a) => by rw [z, ho0] at e; cases e; exact nt t)]; exact e
  refine ⟨s.nd, by rw [List.length_set]; exact s.len, fun i b c' hb hc' => ?_⟩
  by_cases e : n = i
  · subst e
    rw [h] at hb; cases hb
    rw [List.getElem?_set_self (List.getElem?_eq_some_iff.mp e0).1] at hc'
    cases hc'
    exact hc
  · rw [List.getElem?_set_ne e] at hc'
    have q := s.at_ i b c' hb hc'
    have hne : b ≠ a := fun z => by
      subst z
      have h1 := List.getElem?_eq_some_iff.mp h
      have h2 := List.getElem?_eq_some_iff.mp hb
      obtain ⟨l1, e1⟩ := h1
      obtain ⟨l2, e2⟩ := h2
      have nd : ∀ i j (hi : i < as.length) (hj : j < as.length), i < j → as[i] ≠ as[j] := fun i j hi hj hij => List.pairwise_iff_getElem.mp s.nd i j hi hj hij
      rcases Nat.lt_trichotomy n i with z | z | z
      · exact nd n i l1 l2 z (by rw [e1, e2])
      · exact e z
      · exact nd i n l2 l1 z (by rw [e1, e2])
    cases c' with
    | lst xs =>
      obtain ⟨vs, e, r⟩ := q
      exact ⟨vs, by rw [upd_ne hne]; exact e, r.frame (fun _ _ _ n => absurd trivial n) kt fun _ _ h => h⟩
    | dct t ks xs =>
      obtain ⟨o', vs, e, d, r⟩ := q
      exact ⟨o', vs, by rw [upd_ne hne]; exact e, d, r.frame (fun _ _ _ n => absurd trivial n) kt fun _ _ h => h⟩
    | tbl y =>
      obtain ⟨hy, ps, e, t, c⟩ := q
      refine ⟨hy, ps, by rw [upd_ne hne]; exact e, t, fun pos cv hcv => ?_⟩
      obtain ⟨c, e1, e2⟩ := c pos cv hcv
      exact ⟨c, e1, kt _ _ e2 trivial⟩
theorem Grow.cell {as : List Addr} {H : Hp} {a : Addr} {o : HO} (h : a ∈ as) : Grow as H as (upd H a o) := ⟨fun _ _ h => h, fun b u e n => by rw [upd_ne (fun (z : b = a) => n (by rw [z]; exact h))]; exact e, fun _ h n => absurd h n⟩
theorem Rep.all {K : PySem.W.Frag} {F : Addr → Prop} {as : List Addr} {H : Hp} {v : V} {d : D} (r : Rep K (fun _ => True) as H v d) : Rep K F as H v d := r.weak fun _ _ _ _ => trivial
theorem Reps.all {K : PySem.W.Frag} {F : Addr → Prop} {as : List Addr} {H : Hp} {v : List V} {d : List D} (r : Reps K (fun _ => True) as H v d) : Reps K F as H v d := r.weak fun _ _ _ _ => trivial
def cellOf (x : D) (st : Store) : Option Cell := match x with
  | .ref n => st[n]?
  | _ => none
theorem ref_cell {K : PySem.W.Frag} {F : Addr → Prop} {as : List Addr} {H : Hp} {v : V} {x : D} {st : Store} {c : Cell} (s : SRep K as st H) (r : RepT K F as H v x) (e : cellOf x st = some c) : ∃ n a, x = .ref n ∧ v = .ref a ∧ as[n]? = some a ∧ st[n]? = some c ∧ CellAt K as H a c := by
  cases x with
  | ref n =>
    obtain ⟨a, rfl, ha⟩ := r.t_ref
    exact ⟨n, a, rfl, rfl, ha, e, s.at_ n a c ha e⟩
  | _ => cases e
/-- x[k] of a dict in the store -/
def E.sget (fa fb : Env → M D) : Env → M D := fun ρ => bnd (fa ρ) fun x => bnd (fb ρ) fun y st => match cellOf x st with
  | some (.dct false ks vs) => lift ((toKey y).bind fun _ => getL false y ks vs) st
  | _ => .bad
/-- x[i] of a list in the store -/
def E.six (fa fb : Env → M D) : Env → M D := fun ρ => bnd (fa ρ) fun x => bnd (fb ρ) fun y st => match cellOf x st with
  | some (.lst ds) => lift (ixD (.lst ds) y) st
  | _ => .bad
def E.slen (fa : Env → M D) : Env → M D := fun ρ => bnd (fa ρ) fun x st => match cellOf x st with
  | some (.lst ds) => .ok (.int ds.length) st
  | _ => .bad
def S.sputD (fo fi fv : Env → M D) : SD := fun ρ => bnd (fv ρ) fun v => bnd (fo ρ) fun x => bnd (fi ρ) fun y st => match x, cellOf x st with
  | .ref n, some (.dct false ks vs) => if okKey false y = true ∧ v.imm = true ∧ ks.length < LIM then .ok (.next, ρ) (st.set n (.dct false (putL false y v ks vs).1 (putL false y v ks vs).2)) else .bad
  | _, _ => .bad
def S.sputL (fo fi fv : Env → M D) : SD := fun ρ => bnd (fv ρ) fun v => bnd (fo ρ) fun x => bnd (fi ρ) fun y st => match x, cellOf x st, y with
  | .ref n, some (.lst ds), .int i => (match ixN ds.length i with
    | some j => if v.imm = true then .ok (.next, ρ) (st.set n (.lst (ds.set j v))) else .bad
    | none => .bad)
  | _, _, _ => .bad
theorem Reps.set {K : PySem.W.Frag} {F : Addr → Prop} {as : List Addr} {H : Hp} {v : V} {d : D} (rv : Rep K F as H v d) : ∀ (j : Nat) {vs : List V} {ds : List D}, Reps K F as H vs ds → Reps K F as H (vs.set j v) (ds.set j d)
  | _, _, _, .nil => by simp; exact .nil
  | 0, _, _, .cons h r => .cons rv r
  | j + 1, _, _, .cons h r => .cons h (r.set rv j)
section
variable {X : Cx} {O : List Nat} {Z : ZT} {e a b c tg i o value : Expr} {es : List Expr} {f fa fb fc fo fi fv : Env → M D} {r : Env → M (List D)} {pos p pos' : Pos} {x : Str}
theorem de_sget (hu : X.A.units + 1 < cLine) (ha : DU X O Z a fa) (hb : DU X O Z b fb) (hs : NoSl b := by exact fun _ _ => rfl) : DE X O Z (.Subscript a b pos) (E.sget fa fb) := PE.imp (pe_dget hu ha hb hs) fun σ H Q ⟨g, ok, q⟩ => by
  refine two (k := fun x y st => match cellOf x st with
    | some (.dct false ks vs) => lift ((toKey y).bind fun _ => getL false y ks vs) st
    | _ => .bad) (ZZ := fun _ _ => True) ok q fun d1 d2 x y as' st' H' g1 s1 r1 r2 q => ?_
  cases hc : cellOf d1 st' with
  | none => rw [hc] at q; exact q.elim
  | some c =>
    rw [hc] at q
    cases c with
    | lst _ => exact q.elim
    | tbl _ => exact q.elim
    | dct t ks vs =>
      cases t with
      | true => exact q.elim
      | false =>
        obtain ⟨d, e, q'⟩ := Ev.lift (o := (toKey d2).bind fun _ => getL false d2 ks vs) (s := st') q
        rw [Option.bind_eq_some_iff] at e
        obtain ⟨k, ek, e⟩ := e
        have ek := toKey_eq ek
        subst ek
        obtain ⟨n, p, rfl, rfl, hp, hst, ob, ws, h1, h2, h3⟩ := ref_cell s1 r1 hc
        rcases h2 with ⟨kvs, _, rfl, rfl, rfl⟩ | ⟨_, z, _⟩
        · have q : ∀ as' v H', Grow g.as H as' H' → SRep X.K as' st' H' → Rep X.K (Ff g.B as' O σ) as' H' v d → Q v H' := q'
          obtain ⟨v, ev, rv⟩ := (get_reps (t := false) (e := kD) (fun _ _ => keyEq_k) h3).1 d e
          have ey : y = kV k := by
            cases k with
            | inl i => exact r2.t_int
            | inr z => exact r2.t_str
          exact ⟨p, v, rfl, .inl ⟨kvs, k, .inl h1, ey, ev.symm⟩, q as' v H' g1 s1 rv.all⟩
        · cases z
theorem de_six (ha : DU X O Z a fa) (hb : DU X O Z b fb) (hs : PlainIx b := by exact fun _ _ => rfl) : DE X O Z (.Subscript a b pos) (E.six fa fb) := PE.imp (pe_ix ix_seq ha hb hs) fun σ H Q ⟨g, ok, q⟩ => by
  refine two (k := fun x y st => match cellOf x st with
    | some (.lst ds) => lift (ixD (.lst ds) y) st
    | _ => .bad) (ZZ := fun _ _ => True) ok q fun d1 d2 x y as' st' H' g1 s1 r1 r2 q => ?_
  cases hc : cellOf d1 st' with
  | none => rw [hc] at q; exact q.elim
  | some c =>
    rw [hc] at q
    cases c with
    | dct _ _ _ => exact q.elim
    | tbl _ => exact q.elim
    | lst ds =>
      obtain ⟨d, e, q'⟩ := Ev.lift (o := ixD (.lst ds) d2) (s := st') q
      obtain ⟨n, p, rfl, rfl, hp, hst, ws, h1, h3⟩ := ref_cell s1 r1 hc
      cases d2 with
      | int j =>
        obtain ⟨v, h, rv⟩ := atI_reps h3 e
        exact .inl ⟨p, ws, j, v, rfl, r2.t_int, .inl (.inl h1), h, q' as' v H' g1 s1 rv.all⟩
      | _ => cases e
theorem de_slen (hg : Gl X "len") (hm : X.mg "len" = none) (ha : DU X O Z a fa) (hs : starEach [a] X.env = (false, eval a X.env) :: starEach [] X.env := by rfl) (hpl : (backTo pos (starEach [] X.env)).any (·.1) = false := by rfl) :
    DE X O Z (.Call (.Name "len" p) [a] [] pos) (E.slen fa) := PE.imp (pe_callB call_len hg hm boot_len (pa_cons ha pa_nil hs) (by decide) (by decide) hs hpl) fun σ H Q ⟨g, ok, q⟩ =>
  ⟨g, ok, (Ev.bnd q).mono (fun d st' q as' v H' gr s r => by
    cases hc : cellOf d st' with
    | none => rw [hc] at q; exact q.elim
    | some c =>
      rw [hc] at q
      cases c with
      | dct _ _ _ => exact q.elim
      | tbl _ => exact q.elim
      | lst ds =>
        obtain ⟨n, p, rfl, rfl, hp, hst, ws, h1, h3⟩ := ref_cell s r hc
        exact ⟨_, _, rfl, .inl ⟨ws, .inl (.inl h1), rfl⟩, by rw [h3.length]; exact q as' _ H' gr s (.int _)⟩) fun _ _ z => z⟩
theorem three {σ : L2.St} {H : Hp} {g : Gh} {P : (Fl × Env) → Store → Prop} {k : D → D → D → M (Fl × Env)} {R : V → V → V → Hp → Prop} (ok : g.ok X.K O σ H)
    (q : Ev (bnd (fv g.ρ) (fun v => bnd (fo g.ρ) fun x => bnd (fi g.ρ) fun y => k v x y) g.st) P (Zc X.K O g.B g.H0 g.as0 Z))
    (hR : ∀ d1 dx d2 v x y as' st' H', Grow g.as H as' H' → SRep X.K as' st' H' → Rep X.K (Ff g.B as' O σ) as' H' v d1 → RepT X.K (Ff g.B as' O σ) as' H' x dx → RepT X.K (Ff g.B as' O σ) as' H' y d2 → Ev (k d1 dx d2 st') P (Zc X.K O g.B g.H0 g.as0 Z) → R v x y H') :
    tE X.K O Z fv σ H fun v H1 => tU X.K O Z fo σ H1 fun x H2 => tU X.K O Z fi σ H2 fun y H3 => R v x y H3 := by
  refine ⟨g, ok, (Ev.bnd q).mono (fun d1 st1 q as1 v H1 g1 s1 rv => ?_) fun _ _ z => z⟩
  refine ⟨g.at as1 st1, ok.step g1 s1, (Ev.bnd q).mono (fun dx st2 q as2 x H2 g2 s2 rx => ?_) fun _ _ z => z⟩
  have ok2 := (ok.step g1 s1).step g2 s2
  refine ⟨(g.at as1 st1).at as2 st2, ok2, (Ev.bnd q).mono (fun d2 st3 q as3 y H3 g3 s3 ry => ?_) fun _ _ z => z⟩
  exact hR d1 dx d2 v x y as3 st3 H3 (g1.trans (g2.trans g3)) s3 (rv.grow s1 (g2.trans g3)) (rx.grow s2 g3) ry q
theorem cell_fin {σ : L2.St} {H H' : Hp} {g : Gh} {as' : List Addr} {st' : Store} {n : Nat} {a : Addr} {o : HO} {c : Cell} (ok : g.ok X.K O σ H) (g1 : Grow g.as H as' H') (s1 : SRep X.K as' st' H') (ha : as'[n]? = some a) (hc : CellAt X.K as' (upd H' a o) a c) :
    Step O g.as σ H as' σ (upd H' a o) ∧ Wf X.K O g.B g.H0 g.as0 as' g.ρ σ (upd H' a o) ∧ SRep X.K as' (st'.set n c) (upd H' a o) := by
  have s4 := s1.put ha hc
  have g4 : Grow as' H' as' (upd H' a o) := Grow.cell (List.mem_of_getElem? ha)
  exact ⟨(g1.trans g4).step s4, (ok.step g1 s1).wf.grow s1 g4 s4, s4⟩
theorem ds_sputD (hu : X.A.units + 1 < cLine) (ho : DU X O Z o fo) (hi : DU X O Z i fi) (hv : DE X O Z value fv) (hs : swapsWith value (some (.Subscript o i pos')) pos.line X.env = pure false := by rfl) : DS X O Z (.Assign [.Subscript o i pos'] value pos) (S.sputD fo fi fv) :=
  PS.imp (ps_dput hu ho hi hv hs) fun D σ H ⟨g, ok, q⟩ => by
    refine three (k := fun v x y st => match x, cellOf x st with
      | .ref n, some (.dct false ks vs) => if okKey false y = true ∧ v.imm = true ∧ ks.length < LIM then .ok (.next, g.ρ) (st.set n (.dct false (putL false y v ks vs).1 (putL false y v ks vs).2)) else .bad
      | _, _ => .bad) ok q fun d1 dx d2 v x y as' st' H' g1 s1 rv rx ry q => ?_
    cases hc : cellOf dx st' with
    | none =>
      rw [hc] at q
      cases dx <;> exact q.elim
    | some c =>
      obtain ⟨n, p, rfl, rfl, hp, hst, cc⟩ := ref_cell s1 rx hc
      rw [hc] at q
      cases c with
      | lst _ => exact q.elim
      | tbl _ => exact q.elim
      | dct t ks vs =>
        cases t with
        | true => exact q.elim
        | false =>
          dsimp only at q
          split at q
          · rename_i hok
            obtain ⟨ob, ws, h1, h2, h3⟩ := cc
            rcases h2 with ⟨kvs, _, rfl, rfl, rfl⟩ | ⟨_, z, _⟩
            · have hk := hok.1
              unfold okKey at hk
              rw [if_neg Bool.false_ne_true] at hk
              obtain ⟨k, ek⟩ := Option.isSome_iff_exists.mp hk
              have ek := toKey_eq ek
              subst ek
              have ey : y = kV k := by
                cases k with
                | inl i => exact ry.t_int
                | inr z => exact ry.t_str
              have rv' : Rep X.K (fun _ => True) as' H' v d1 := rv.of_imm hok.2.1
              obtain ⟨p1, p2⟩ := put_reps (t := false) (e := kD) (fun _ _ => keyEq_k) (k := k) h3 rv'
              have kt : ∀ b u, H' b = some u → TupO u → upd H' p (.dK (putK kvs k v)) b = some u := fun b u e t => by rw [upd_ne (fun (z : b = p) => by rw [z, h1] at e; cases e; exact t)]; exact e
              obtain ⟨sp, w, s4⟩ := cell_fin (c := .dct false _ _) (o := .dK (putK kvs k v)) ok g1 s1 hp ⟨_, _, upd_same, .inl ⟨putK kvs k v, rfl, rfl, p1, rfl⟩, p2.frame (fun _ _ _ n => absurd trivial n) kt fun _ _ h => h⟩
              refine ⟨p, _, rfl, .inl ⟨kvs, k, h1, ey, ?_, rfl⟩, q as' σ _ sp w s4⟩
              have := hok.2.2
              rw [List.length_map] at this
              exact Nat.lt_trans this lim_line
            · cases z
          · exact q.elim
theorem ds_sputL (ho : DU X O Z o fo) (hi : DU X O Z i fi) (hv : DE X O Z value fv) (hs : swapsWithSole [.Subscript o i pos'] value pos.line X.env = pure false := by rfl) (hw : swappedStores [.Subscript o i pos'] value X.env = pure none := by rfl)
    (h1 : (assignEach [.Subscript o i pos'] X.env).map (·.2) = [assign (.Subscript o i pos') X.env] := by rfl)
    (ha : ∀ v, assign (.Subscript o i pos') X.env v = (do
      let ov ← holding [v] (eval o X.env)
      let iv ← holding [v, ov] (eval i X.env)
      standAt pos'
      holding [v, ov, iv] (setItem ov iv v)
      release [v, ov, iv] []) := by intro _; rfl) : DS X O Z (.Assign [.Subscript o i pos'] value pos) (S.sputL fo fi fv) :=
  PS.imp (ps_asg hv (pg_sub ho hi set_list ha) hs hw h1) fun D σ H ⟨g, ok, q⟩ => by
    refine three (k := fun v x y st => match x, cellOf x st, y with
      | .ref n, some (.lst ds), .int i => (match ixN ds.length i with
        | some j => if v.imm = true then .ok (.next, g.ρ) (st.set n (.lst (ds.set j v))) else .bad
        | none => .bad)
      | _, _, _ => .bad) ok q fun d1 dx d2 v x y as' st' H' g1 s1 rv rx ry q => ?_
    cases hc : cellOf dx st' with
    | none =>
      rw [hc] at q
      cases dx <;> exact q.elim
    | some c =>
      obtain ⟨n, p, rfl, rfl, hp, hst, cc⟩ := ref_cell s1 rx hc
      rw [hc] at q
      cases c with
      | dct _ _ _ => exact q.elim
      | tbl _ => exact q.elim
      | lst ds =>
        cases d2 with
        | int k =>
          dsimp only at q
          cases hj : ixN ds.length k with
          | none => rw [hj] at q; exact q.elim
          | some j =>
            rw [hj] at q
            dsimp only at q
            split at q
            · rename_i him
              obtain ⟨ws, h1, h3⟩ := cc
              have rv' : Rep X.K (fun _ => True) as' H' v d1 := rv.of_imm him
              have kt : ∀ b u, H' b = some u → TupO u → upd H' p (.lst (ws.set j v)) b = some u := fun b u e t => by rw [upd_ne (fun (z : b = p) => by rw [z, h1] at e; cases e; exact t)]; exact e
              obtain ⟨sp, w, s4⟩ := cell_fin (c := .lst (ds.set j d1)) (o := .lst (ws.set j v)) ok g1 s1 hp ⟨_, upd_same, (h3.set rv' j).frame (fun _ _ _ n => absurd trivial n) kt fun _ _ h => h⟩
              exact ⟨p, ws, k, j, rfl, ry.t_int, h1, by rw [h3.length]; exact hj, q as' σ _ sp w s4⟩
            · exact q.elim
        | _ => exact q.elim
end
end G
end L2
end G26_
section G27_
set_option Elab.async false
set_option linter.all false
set_option maxRecDepth 100000
set_option maxHeartbeats 1000000
namespace L2
namespace G
open PySem PySem.Spec PyProof.Rows
/-! ### a new list goes into the store -/
theorem get_app {α : Type} {l m : List α} {n : Nat} {a : α} (h : l[n]? = some a) : (l ++ m)[n]? = some a := by
  rw [List.getElem?_append_left (List.getElem?_eq_some_iff.mp h).1]; exact h
theorem CellAt.more {K : PySem.W.Frag} {as : List Addr} {H : Hp} {a : Addr} {c : Cell} (ms : List Addr) (h : CellAt K as H a c) : CellAt K (as ++ ms) H a c := by
  cases c with
  | lst xs => obtain ⟨vs, e, r⟩ := h; exact ⟨vs, e, r.frame (fun _ _ h _ => h) (fun _ _ h _ => h) fun _ _ h => get_app h⟩
  | dct t ks xs => obtain ⟨o, vs, e, d, r⟩ := h; exact ⟨o, vs, e, d, r.frame (fun _ _ h _ => h) (fun _ _ h _ => h) fun _ _ h => get_app h⟩
  | tbl y => exact h
theorem SRep.snoc {K : PySem.W.Frag} {as : List Addr} {st : Store} {H : Hp} {p : Addr} {c : Cell} (s : SRep K as st H) (n : p ∉ as) (hc : CellAt K (as ++ [p]) H p c) : SRep K (as ++ [p]) (st ++ [c]) H where
  nd := by
    rw [List.nodup_append]
    exact ⟨s.nd, by simp, by intro a ha b hb; simp at hb; subst hb; exact fun z => n (by rw [← z]; exact ha)⟩
  len := by rw [List.length_append, List.length_append, s.len]; rfl
  at_ := fun i a c' ha hc' => by
    by_cases h : i < as.length
    · rw [List.getElem?_append_left h] at ha
      rw [List.getElem?_append_left (by rw [← s.len]; exact h)] at hc'
      exact (s.at_ i a c' ha hc').more [p]
    · rw [List.getElem?_append_right (by omega)] at ha
      rw [List.getElem?_append_right (by rw [← s.len]; omega), ← s.len] at hc'
      cases k : i - as.length with
      | zero => rw [k] at ha hc'; cases ha; cases hc'; exact hc
      | succ m => rw [k] at ha; cases ha
def E.alloc (f : Env → M D) : Env → M D := fun ρ => bnd (f ρ) fun d st => match d with
  | .lst ds => if D.imms ds = true then .ok (.ref st.length) (st ++ [.lst ds]) else .bad
  | _ => .bad
section
variable {X : Cx} {O : List Nat} {Z : ZT} {e a b c tg i o value e1 e2 : Expr} {es : List Expr} {f fa fb f1 f2 : Env → M D} {r : Env → M (List D)} {pos p pos' : Pos} {x : Str}
theorem de_alloc (h : DN X O Z e f) : DE X O Z e (E.alloc f) := PE.imp h fun σ H Q ⟨g, ok, q⟩ => ⟨g, ok, (Ev.bnd q).mono (fun d st' q as' v H' gr s r n => by
  cases d with
  | lst ds =>
    dsimp only at q
    split at q
    · rename_i him
      cases r with
      | lst hh r =>
        rename_i p vs
        obtain ⟨n1, n2⟩ := n p rfl
        have s2 := s.snoc (c := .lst ds) n2 ⟨vs, hh, (r.of_imm him).frame (fun _ _ h _ => h) (fun _ _ h _ => h) fun _ _ h => get_app h⟩
        refine q (as' ++ [p]) _ H' ⟨fun n a h => get_app (gr.pre n a h), gr.keep, fun a h m => ?_⟩ s2 (.ref ?_)
        · rcases List.mem_append.mp h with h | h
          · exact gr.fre a h m
          · simp at h; rw [h]; exact n1
        · rw [← s.len, List.getElem?_append_right (Nat.le_refl _), Nat.sub_self]; rfl
      | sca r z => cases r; exact absurd rfl (z _)
    · exact q.elim
  | _ => exact q.elim) fun _ _ z => z⟩
theorem dn_ifx {t : Env → M Bool} (h : DT X O Z c t) (ha : DN X O Z a fa) (hb : DN X O Z b fb) : DN X O Z (.IfExp c a b pos) (E.ifx t fa fb) := PE.imp (pe_ifExp h ha hb) fun σ H Q ⟨g, ok, q⟩ =>
  ⟨g, ok, (Ev.bnd q).mono (fun x st' q as' H' gr s => by
    have fr : ∀ {p : Addr} {as2 : List Addr}, H' p = none → p ∉ as2 → (∀ a ∈ as', a ∈ as2) → H p = none := fun {p as2} n1 n2 sub => by
      cases z : H p with
      | none => rfl
      | some o =>
        by_cases m : p ∈ g.as
        · exact absurd (sub p (gr.sub m)) n2
        · have := gr.keep p o z m
          rw [n1] at this; cases this
    cases x with
    | true => exact ⟨g.at as' st', ok.step gr s, q.mono (fun y st2 q as2 v H2 g2 s2 r n => q as2 v H2 (gr.trans g2) s2 r fun p z => ⟨fr (n p z).1 (n p z).2 fun a h => g2.sub h, (n p z).2⟩) fun _ _ z => z⟩
    | false => exact ⟨g.at as' st', ok.step gr s, q.mono (fun y st2 q as2 v H2 g2 s2 r n => q as2 v H2 (gr.trans g2) s2 r fun p z => ⟨fr (n p z).1 (n p z).2 fun a h => g2.sub h, (n p z).2⟩) fun _ _ z => z⟩) fun _ _ z => z⟩
/-! ### a comprehension over an owned list -/
def I.own (i : Nat) : Env → M (List D) := fun ρ => match ρ[i]? with
  | some (some (.lst ds)) => ret ds
  | _ => bad
theorem walk_own {K : PySem.W.Frag} {F S : Addr → Prop} {as : List Addr} {H : Hp} {a : Addr} {xs : List V} {ds : List D} (hl : xs.length ≤ sizeLine) (h : H a = some (.lst xs)) (nS : ¬ S a) (hS : ∀ a, S a → F a) (r : Reps K F as H xs ds) : WalkC K F S as H (Itl K a) ds where
  len := by rw [← r.length]; exact hl
  go := fun i H1 st hi => ⟨xs, xs[i]'(by rw [r.length]; exact hi), .inl (.inl (st.1 _ _ h nS)), by simp⟩
  yl := fun i H1 x H2 d F1 as1 st p k y e => by
    obtain ⟨rfl, y⟩ := y
    have y := y xs (.inl (.inl (st.1 _ _ h nS)))
    obtain ⟨d', e', rv⟩ := r.get y
    rw [e] at e'; cases e'
    exact ⟨Same.refl _, rep_stay (st.up hS) p k rv⟩
  stop := fun i H1 st hi => ⟨xs, .inl (.inl (st.1 _ _ h nS)), by rw [r.length, hi]; exact Nat.le_refl _⟩
theorem dic_own (i : Nat) {y : Str} {py : Pos} {tg : Expr} (hO : i ∈ O) (hy : X.N[i]? = some y) (hv : Vis X.env.scope y) (hd : (y == ("__debug__" : Str)) = false := by decide) (hcd : (y == ("__classdict__" : Str)) = false := by decide) : DIc X O Z tg (.Name y py) (I.own i) :=
  PI.imp (pi_len (pi_seq (pe_var (i := i) hy hv hd hcd))) fun σ H R ⟨g, ok, q⟩ => by
    unfold I.own at q
    cases e : g.ρ[i]? with
    | none => rw [e] at q; exact q.elim
    | some o =>
      rw [e] at q
      cases o with
      | none => exact q.elim
      | some d =>
        cases d with
        | lst ds =>
          obtain ⟨p, vs, hσ, hp, rs⟩ := ok.wf.lst_at hO e
          obtain ⟨_, n2, _⟩ := ok.wf.slot i p hO hσ
          exact ⟨.ref p, hσ, p, vs, rfl, .inl ⟨.inl (.inl hp), fun L => q g.as H _ (Grow.refl _ _) ok.sr (walk_own (L _ _ (.inl (.inl (.inl hp)))) hp n2 (fun a z => .inr (.inl z)) rs)⟩⟩
        | _ => exact q.elim
end
end G
end L2
end G27_
section G28_
set_option Elab.async false
set_option linter.all false
set_option maxRecDepth 100000
set_option maxHeartbeats 1000000
namespace L2
namespace G
open PySem PySem.Spec PyProof.Rows
/-! ### the two statements of _law_begin -/
def kCells : D := .str "cells"
def kLefts : D := .str "lefts"
def kAt : D := .str "at"
def kRoom : D := .str "room"
def S.begin (f1 f2 : Env → M D) : SD := fun ρ => bnd (f1 ρ) fun d1 => match d1 with
  | .lst ds => if 1 < ρ.length ∧ D.imms ds = true then bnd (f2 (List.set ρ 1 (some (.lst ds)))) fun d2 st => if d2.imm = true then .ok (.ret (.ref (st.length + 1)), List.set (List.set ρ 1 (some (.lst ds))) 1 none) (st ++ [.lst ds] ++ [.dct false [kCells, kLefts, kAt, kRoom] [.ref st.length, d2, .int 0, .int 0]]) else .bad else G.bad
  | _ => G.bad
/-- an owned slot is dropped; what it held goes into the store -/
theorem Wf.leave {K : PySem.W.Frag} {O : List Nat} {B : Addr → Prop} {H0 : Hp} {as0 as : List Addr} {ρ : Env} {σ : L2.St} {H : Hp} {i : Nat} {c : Addr} (w : Wf K O B H0 as0 as ρ σ H) (hO : i ∈ O) (hc : σ[i]? = some (some (.ref c))) :
    Wf K O B H0 as0 (as ++ [c]) (List.set ρ i none) (σ.set i none) H := by
  have own' : ∀ a, ownA O (σ.set i none) a → ownA O σ a ∧ a ≠ c := by
    rintro a ⟨j, hj, e⟩
    rcases get_set_some e with ⟨_, e, _⟩ | ⟨ne, e⟩
    · cases e
    · exact ⟨⟨j, hj, e⟩, fun z => ne (by subst z; exact (w.dis i j _ hO hj hc e).symm)⟩
  have ff : ∀ a o, H a = some o → Ff B (as ++ [c]) O (σ.set i none) a → Ff B as O σ a := fun a o _ z => by
    rcases z with z | z | z
    · exact .inl z
    · rcases List.mem_append.mp z with z | z
      · exact .inr (.inl z)
      · simp at z; exact .inr (.inr ⟨i, hO, by rw [z]; exact hc⟩)
    · exact .inr (.inr (own' a z).1)
  have pr : ∀ (n : Nat) (a : Addr), as[n]? = some a → (as ++ [c])[n]? = some a := fun n a h => get_app h
  obtain ⟨c0, c1, c2, _⟩ := w.slot i c hO hc
  refine ⟨by rw [List.length_set, List.length_set]; exact w.len, fun j d e n => ?_, fun j d e m => ?_, fun j a m e => ?_, fun j k a hj hk e1 e2 => ?_, w.trB, ⟨fun n a h => pr n a (w.gr.pre n a h), w.gr.keep, fun a h n => ?_⟩⟩
  · rcases get_set_some e with ⟨_, e, _⟩ | ⟨ne, e⟩
    · cases e
    · obtain ⟨v, h, r⟩ := w.var j d e n
      exact ⟨v, by rw [List.getElem?_set_ne (Ne.symm ne)]; exact h, (r.weak ff).frame (fun _ _ h _ => h) (fun _ _ h _ => h) pr⟩
  · rcases get_set_some e with ⟨_, e, _⟩ | ⟨ne, e⟩
    · cases e
    · obtain ⟨v, h, r⟩ := w.own j d e m
      refine ⟨v, by rw [List.getElem?_set_ne (Ne.symm ne)]; exact h, ?_⟩
      cases r with
      | lst hh r => exact .lst hh ((r.weak ff).frame (fun _ _ h _ => h) (fun _ _ h _ => h) pr)
      | dct hh o r => exact .dct hh o ((r.weak ff).frame (fun _ _ h _ => h) (fun _ _ h _ => h) pr)
      | sca r q => exact .sca ((r.weak ff).frame (fun _ _ h _ => h) (fun _ _ h _ => h) pr) q
  · rcases get_set_some e with ⟨_, e, _⟩ | ⟨ne, e⟩
    · cases e
    · obtain ⟨h1, h2, h3, h4⟩ := w.slot j a m e
      refine ⟨h1, fun z => ?_, h3, h4⟩
      rcases List.mem_append.mp z with z | z
      · exact h2 z
      · simp at z; exact ne (by subst z; exact (w.dis i j _ hO m hc e).symm)
  · rcases get_set_some e1 with ⟨_, e, _⟩ | ⟨ne1, e1⟩
    · cases e
    · rcases get_set_some e2 with ⟨_, e, _⟩ | ⟨ne2, e2⟩
      · cases e
      · exact w.dis j k a hj hk e1 e2
  · rcases List.mem_append.mp h with h | h
    · exact w.gr.fre a h n
    · simp at h; rw [h]; exact c0
theorem Wf.toStore {K : PySem.W.Frag} {O : List Nat} {B : Addr → Prop} {H0 : Hp} {as0 as : List Addr} {ρ : Env} {σ : L2.St} {H : Hp} {p : Addr} {o o0 : HO} (w : Wf K O (fun a => B a ∨ a = p) H0 as0 as ρ σ H) (h0 : H0 p = none) (hp : H p = some o0) (nt : ¬ TupO o0) :
    Wf K O B H0 as0 (as ++ [p]) ρ σ (upd H p o) := by
  have ff : ∀ a u, H a = some u → Ff B (as ++ [p]) O σ a → Ff (fun a => B a ∨ a = p) as O σ a := fun a u _ z => by
    rcases z with z | z | z
    · exact .inl (.inl z)
    · rcases List.mem_append.mp z with z | z
      · exact .inr (.inl z)
      · simp at z; exact .inl (.inr z)
    · exact .inr (.inr z)
  have pr : ∀ (n : Nat) (a : Addr), as[n]? = some a → (as ++ [p])[n]? = some a := fun n a h => get_app h
  have fp : Ff B (as ++ [p]) O σ p := .inr (.inl (by simp))
  have kk : ∀ b u, H b = some u → ¬ Ff B (as ++ [p]) O σ b → upd H p o b = some u := fun b u h n => by rw [upd_ne (fun (z : b = p) => n (by rw [z]; exact fp))]; exact h
  have kt : ∀ b u, H b = some u → TupO u → upd H p o b = some u := fun b u h t => by rw [upd_ne (fun (z : b = p) => by rw [z, hp] at h; cases h; exact nt t)]; exact h
  refine ⟨w.len, fun j d e n => ?_, fun j d e m => ?_, fun j a m e => ?_, w.dis, fun a b => ?_, ⟨fun n a h => pr n a (w.gr.pre n a h), fun b u h n => ?_, fun a h n => ?_⟩⟩
  · obtain ⟨v, h, r⟩ := w.var j d e n
    exact ⟨v, h, (r.weak ff).frame kk kt pr⟩
  · obtain ⟨v, h, r⟩ := w.own j d e m
    have hne : ∀ q, v = .ref q → q ≠ p := fun q z y => by
      subst z y
      exact (w.slot j _ m h).2.2.1 (.inr rfl)
    refine ⟨v, h, ?_⟩
    cases r with
    | lst hh r => exact .lst (by rw [upd_ne (hne _ rfl)]; exact hh) ((r.weak ff).frame kk kt pr)
    | dct hh o r => exact .dct (by rw [upd_ne (hne _ rfl)]; exact hh) o ((r.weak ff).frame kk kt pr)
    | sca r q => exact .sca ((r.weak ff).frame kk kt pr) q
  · obtain ⟨h1, h2, h3, u, h4, h5⟩ := w.slot j a m e
    have hne : a ≠ p := fun y => h3 (.inr y)
    refine ⟨h1, fun z => ?_, fun z => h3 (.inl z), u, by rw [upd_ne hne]; exact h4, h5⟩
    rcases List.mem_append.mp z with z | z
    · exact h2 z
    · simp at z; exact hne z
  · obtain ⟨u, h⟩ := w.trB a (.inl b)
    by_cases e : a = p
    · exact ⟨o, by rw [e]; exact upd_same⟩
    · exact ⟨u, by rw [upd_ne e]; exact h⟩
  · rw [upd_ne (fun (z : b = p) => by rw [z, h0] at h; cases h)]
    exact w.gr.keep b u h n
  · rcases List.mem_append.mp h with h | h
    · exact w.gr.fre a h n
    · simp at h; rw [h]; exact h0
section
variable {X : Cx} {Z : ZT} {e1 e2 : Expr} {f1 f2 : Env → M D} {pos p pos' : Pos}
theorem dss_begin {p1 p2 q1 q2 q3 q4 q5 q6 pd pos1 pos2 : Pos} {j1 j2 j3 j4 j5 j6 : Nat} (hN : X.N.Nodup) (hi : X.N[1]? = some ("cells" : Str)) (hx : Loc X.env.scope "cells") (hv : Vis X.env.scope "cells") (h1 : DN X [1] Z e1 f1) (h2 : DE X [1] Z e2 f2)
    (hs : swapsWith e1 (some (.Name "cells" p1)) pos1.line X.env = pure false := by rfl) (hf : X.fn "cells" = true ∨ X.env.scope.names.lookup ("cells" : Str) = some .local := by first | exact .inl rfl | exact .inr rfl | assumption) :
    DSs X [1] Z [.Assign [.Name "cells" p1] e1 pos1, .Return (some (.Dict [some (.Constant (.str "cells") j1 q1), some (.Constant (.str "lefts") j2 q2), some (.Constant (.str "at") j3 q3), some (.Constant (.str "room") j4 q4)]
      [.Name "cells" p2, e2, .Constant (.int 0) j5 q5, .Constant (.int 0) j6 q6] pd)) pos2] (S.begin f1 f2) := by
  refine PSs.imp (pss_cons (ps_set hN hi hx h1 hs hf) (pss_one (ps_ret (pe_disp (pps_cons pe_str (pe_var (i := 1) hi hv (by decide) (by decide)) (pps_cons pe_str h2 (pps_cons pe_str pe_int (pps_cons pe_str pe_int pps_nil)))) rfl rfl (by simp) (by simp))))) fun DD σ H ⟨g, ok, q⟩ => ?_
  refine ⟨g, ok, (Ev.bnd q).mono (fun d1 st1 q as1 v1 H1 g1 s1 r1 n1 => ?_) fun _ _ z => z⟩
  have hO : (1 : Nat) ∈ [1] := by simp
  cases d1 with
  | lst ds =>
    dsimp only at q
    split at q
    · rename_i him
      obtain ⟨w1, sp1⟩ := ok.wf.setN ok.sr g1 s1 hO r1 n1
      cases r1 with
      | sca r z => cases r; exact absurd rfl (z _)
      | lst hh r =>
        rename_i c vs
        obtain ⟨c1, c2⟩ := n1 c rfl
        intro p np
        have np1 : H1 p = none := np
        have npc : c ≠ p := fun z => by rw [z, np1] at hh; cases hh
        have npas : p ∉ as1 := fun z => by obtain ⟨o, z, _⟩ := s1.mem z; rw [np1] at z; cases z
        have g2 : Grow as1 H1 as1 (upd H1 p (.dK [])) := Grow.new np1
        have s2 := s1.new (o := .dK []) np1
        have w2 := w1.growB (D0 := p) s1 np1 g2 s2 ⟨_, upd_same⟩
        have hl : 1 < σ.length := by rw [ok.wf.len]; exact him.1
        have hρ : (List.set g.ρ 1 (some (D.lst ds)))[1]? = some (some (.lst ds)) := by rw [List.getElem?_set_self him.1]
        refine ⟨.ref c, by rw [List.getElem?_set_self hl], ⟨fun a => g.B a ∨ a = p, g.H0, g.as0, as1, List.set g.ρ 1 (some (.lst ds)), st1⟩, ⟨w2, s2⟩, (Ev.bnd q).mono (fun d2 st3 q as3 v2 H3 g3 s3 r2 => ?_) fun _ _ z => z.mono fun _ z => .inl z⟩
        have hp3 : H3 p = some (.dK []) := g3.keep p _ upd_same npas
        have np3 : p ∉ as3 := fun z => by
          have := g3.fre p z npas
          rw [upd_same] at this; cases this
        have w3 := w2.grow s2 g3 s3
        obtain ⟨c', vs3, hc3, hcc, rs3⟩ := w3.lst_at hO hρ
        rw [List.getElem?_set_self hl] at hc3
        cases hc3
        have hσc : (σ.set 1 (some (V.ref c)))[1]? = some (some (.ref c)) := List.getElem?_set_self hl
        obtain ⟨_, nc3, _, _⟩ := w3.slot 1 c hO hσc
        have q : Ev (if d2.imm = true then Res.ok (Fl.ret (.ref (st3.length + 1)), List.set (List.set g.ρ 1 (some (.lst ds))) 1 none) (st3 ++ [.lst ds] ++ [.dct false [kCells, kLefts, kAt, kRoom] [.ref st3.length, d2, .int 0, .int 0]]) else Res.bad) _ _ := q
        split at q
        · rename_i him2
          have w4 := w3.leave hO hσc
          have np4 : p ∉ as3 ++ [c] := fun z => by
            rcases List.mem_append.mp z with z | z
            · exact np3 z
            · simp at z; exact npc z.symm
          have h0p : g.H0 p = none := by
            cases z : g.H0 p with
            | none => rfl
            | some o =>
              by_cases m : p ∈ g.as0
              · exact absurd (w1.gr.sub m) npas
              · have := w1.gr.keep p o z m
                rw [np1] at this; cases this
          let kvs : List (Key × V) := [(.inr "cells", .ref c), (.inr "lefts", v2), (.inr "at", .int 0), (.inr "room", .int 0)]
          have w5 := w4.toStore (o := .dK kvs) h0p hp3 (fun z => z)
          have nt3 : ∃ w, H3 p = some w ∧ ¬ TupO w := ⟨_, hp3, fun z => z⟩
          have kt : ∀ b u, H3 b = some u → TupO u → upd H3 p (.dK kvs) b = some u := fun b u h t => by rw [upd_ne (fun (z : b = p) => by rw [z, hp3] at h; cases h; exact t)]; exact h
          have s4 := s3.snoc (c := .lst ds) nc3 ⟨vs3, hcc, (rs3.of_imm him.2).frame (fun _ _ h _ => h) (fun _ _ h _ => h) fun _ _ h => get_app h⟩
          have s4' := s4.lockd np4 (o := .dK kvs) nt3 (fun φ z => by rw [hp3] at z; cases z)
          have ic : (as3 ++ [c] ++ [p])[st3.length]? = some c := by rw [← s3.len]; simp
          have ip : (as3 ++ [c] ++ [p])[st3.length + 1]? = some p := by rw [← s3.len]; simp
          have pr5 : ∀ (n : Nat) (a : Addr), as3[n]? = some a → (as3 ++ [c] ++ [p])[n]? = some a := fun n a h => get_app (get_app h)
          have s5 := s4'.snoc (c := .dct false [kCells, kLefts, kAt, kRoom] [.ref st3.length, d2, .int 0, .int 0]) np4 ⟨.dK kvs, [.ref c, v2, .int 0, .int 0], upd_same, .inl ⟨kvs, rfl, rfl, rfl, rfl⟩,
            .cons (.ref ic) (.cons ((r2.of_imm (F' := fun _ => True) him2).frame (fun _ _ _ n => absurd trivial n) kt pr5) (.cons (.int 0) (.cons (.int 0) .nil)))⟩
          have back : ∀ {a : Addr}, (upd H1 p (.dK [])) a = none → a ∉ as1 → a ∉ g.as → H a = none := fun {a} h n m => by
            by_cases e : a = p
            · rw [e, upd_same] at h; cases h
            · rw [upd_ne e] at h
              cases z : H a with
              | none => rfl
              | some o => rw [g1.keep a o z m] at h; cases h
          have hHp : H p = none := by
            cases z : H p with
            | none => rfl
            | some o =>
              by_cases m : p ∈ g.as
              · exact absurd (g1.sub m) npas
              · have := g1.keep p o z m
                rw [np1] at this; cases this
          have kp : ∀ b o, H b = some o → b ∉ g.as → upd H3 p (.dK kvs) b = some o := fun b o h n => by
            have nb : b ≠ p := fun z => by rw [z, hHp] at h; cases h
            have n1 : b ∉ as1 := fun z => by have := g1.fre b z n; rw [h] at this; cases this
            rw [upd_ne nb]
            exact g3.keep b o (by rw [upd_ne nb]; exact g1.keep b o h n) n1
          have stp : Step [1] g.as σ H (as3 ++ [c] ++ [p]) ((σ.set 1 (some (.ref c))).set 1 none) (upd H3 p (.dK kvs)) := by
            refine ⟨fun n a h => pr5 n a (g3.pre n a (g1.pre n a h)), fun b o h n _ => kp b o h n, fun a h n => ?_, fun a h => ?_, fun b o h => ?_⟩
            · rcases List.mem_append.mp h with h | h
              · rcases List.mem_append.mp h with h | h
                · by_cases m : a ∈ as1
                  · exact g1.fre a m n
                  · exact back (g3.fre a h m) m n
                · simp at h; rw [h]; exact c1
              · simp at h; rw [h]; exact hHp
            · exfalso
              obtain ⟨j, hj, e⟩ := h
              simp at hj
              subst hj
              rcases get_set_some e with ⟨_, e, _⟩ | ⟨ne, e⟩
              · cases e
              · exact ne rfl
            · by_cases m : b ∈ g.as
              · have : b ∈ as3 ++ [c] ++ [p] := by
                  have := g3.sub (g1.sub m)
                  simp [this]
                obtain ⟨o', h', _⟩ := s5.mem this
                exact ⟨o', h'⟩
              · exact ⟨o, kp b o h m⟩
          have fin := q _ _ _ stp w5 s5 (.ref p) (.ref ip)
          exact ⟨hp3, kvs, rfl, (show 4 ≤ 15 by decide), fin⟩
        · exact q.elim
    · exact q.elim
  | _ => exact q.elim
end
end G
end L2
end G28_
section G29_
set_option Elab.async false
set_option linter.all false
set_option maxRecDepth 100000
set_option maxHeartbeats 1000000
namespace L2
namespace G
open PySem PySem.Spec PyProof.Rows
/-! ### defs by name -/
structure Fc (P : Program) (w : World) (K : PySem.W.Frag) (mg : Str → Option Value) (base : Heap) (x : Str) (n k : Nat) (φ : List D → M D) : Prop where
  ex : ∃ f fd ps, FnG P w K mg base k f fd ps (spD K n φ) ∧ mg x = some (.ref f) ∧ PySem.W.keepIn K (.ref f) = true ∧ Binds K fd ps []
theorem Fc.dn {X : Cx} {x : Str} {n k : Nat} {φ : List D → M D} (h : Fc X.prog X.w X.K X.mg X.base x n k φ) : Dn X x n k φ := ⟨h.ex⟩
/-- a def of the top: its function object, known by name -/
def Fnc1 (K : PySem.W.Frag) (mg : Str → Option Value) (x : Str) (st : Stmt) : Prop := ∃ fd, FunD K x x (defArgs st) (defBody st) (defScope st) [] [] (He.fAd K (x, none)) fd ∧ mg x = some (.ref (He.fAd K (x, none)))
theorem code_of {K : PySem.W.Frag} {x : Str} {ar : Arguments} {bd : List Stmt} {sc : Scope} {fd : FuncData} (F : FunD K x x ar bd sc [] [] (He.fAd K (x, none)) fd) : fd.code = .ref (He.cT K (x, none)).1 := by
  obtain ⟨oc, od, dV, kV, doc, pm, an, cdv, ct, osl, rfl, lk, hcd, hD, hK⟩ := F.ex
  obtain ⟨c, rfl⟩ := He.codeIn_ref hcd
  exact congrArg Value.ref (He.codeOf_eq lk rfl).symm
theorem Fnc1.fc {P : Program} {w : World} {K : PySem.W.Frag} {mg : Str → Option Value} {base : Heap} {x : Str} {st : Stmt} {N ps : List Str} {k : Nat} {O : List Nat} {b : SD}
    (F : Fnc1 K mg x st) (S : FnScope N ps (defScope st)) (hO : ∀ i ∈ O, ps.length ≤ i)
    (hb : ∀ {f : Addr} (cdv : Value) (A : Around) (outer : List PySem.Env) (s : Shared) (H : Hp) (E : XK) {Z : ZT}, cdv = .ref (He.cT K (x, none)).1 → Rm k (A.deeper (envOfC x (defScope st) s.heap.objs.size f cdv)) →
      Takes (cxOf (L2.CX P w) P w K mg base N x (defScope st) f cdv A outer s H E) (WZ K Z) → DSs (cxOf (L2.CX P w) P w K mg base N x (defScope st) f cdv A outer s H E) O Z (defBody st) b)
    (h : ∀ (kV doc pm : Value) (an : Option Addr) (cdv ct : Value) (us : List Value), us.length = ps.length → bindArgs (PySem.W.fnOf x x (defArgs st) (defBody st) (defScope st) .none kV doc pm an cdv ct) ⟨us, []⟩ = pure (ps.zip us)) :
    Fc P w K mg base x ps.length (k + 1) (fnD N.length b) := by
  obtain ⟨fd, F, hm⟩ := F
  exact ⟨_, fd, ps, G.fn_ok F S hO fun cdv A outer s H E Z hcd hr tk => hb cdv A outer s H E (hcd.symm.trans (code_of F)) hr tk, hm, F.kp, F.bindsN h⟩
theorem r65 {k : Nat} {A : Around} (r : Rm k A) : A.units + 65 < cLine := by have := r.rm.un; omega
theorem r1 {k : Nat} {A : Around} (r : Rm k A) : A.units + 1 < cLine := by have := r.rm.un; omega
theorem r0 {k : Nat} {A : Around} (r : Rm k A) : A.units < cLine := by have := r.rm.un; omega
section
variable {X : Cx} {O : List Nat} {Z : ZT}
theorem dn_gI {x : Str} {i : Int} {pos : Pos} (hg : Gl X x) (hm : ∃ t, X.mg x = some (.int i t)) (hd : (x == ("__debug__" : Str)) = false := by decide) : DN X O Z (.Name x pos) (E.cst (.int i)) := by
  obtain ⟨t, hm⟩ := hm
  exact dn_globI hg hm ⟨t, rfl⟩ hd
theorem dn_gS {x : Str} {i : Str} {pos : Pos} (hg : Gl X x) (hm : ∃ t, X.mg x = some (.str i t)) (hd : (x == ("__debug__" : Str)) = false := by decide) : DN X O Z (.Name x pos) (E.cst (.str i)) := by
  obtain ⟨t, hm⟩ := hm
  exact dn_globS hg hm ⟨t, rfl⟩ hd
end
end G
end L2
end G29_
section G30_
set_option Elab.async false
set_option linter.all false
set_option maxRecDepth 100000
set_option maxHeartbeats 2000000
namespace L2
namespace G
open PySem PySem.Spec PyProof.Rows
/-! ### a lambda is made: what becomes of the heap -/
section
variable {X : Cx} {pins : List (Addr × Obj)} {σ : L2.St} {H : Hp} {s : Shared}
/-- the heap behind the making of a lambda -/
inductive Made (H : Hp) (P : Addr) (q : Str) : Hp → Addr → Prop
  | hit {c : Addr} : H c = some (LamX.CodeO c q) → Made H P q H c
  | new {c : Addr} {ps more : Array Value} : H P = some (.tbl ps) → H c = none → Made H P q (upd (upd H P (.tbl (ps ++ more))) c (LamX.CodeO c q)) c
theorem lam_make3 {c P : Addr} {q : Str} {params : Arguments} {body : Expr} {scope : Scope} {pos : Pos} {E : Value → Shared → Prop} {Q : Value → Shared → Prop}
    (I : Inv X pins σ H s) (TB : LamX.TabB X.base X.mg c P) (hcode : X.env.code = .ref c) (hq : X.env.qual ++ "<lambda>" = q) (hT : LamX.TabS H P q)
    (hdef : defaultsOf params X.env = ([], [])) (hfree : ∀ y ∈ scope.names, y.2 = .free → ∃ c, X.env.cells.lookup y.1 = some c)
    (h : ∀ (f c' : Addr) (pm ctv : Value) (H1 : Hp) (s' : Shared), Inv X pins σ H1 s' → Made H P q H1 c' → LamX.TabS H1 P q →
      s'.heap.get? f = some (PySem.W.kla_obj "<lambda>" q params body scope (cloFrom X.env.cells scope.names []) pm c' ctv) →
      H1 f = none → f ∉ frs X.stack → s.heap.objs.size ≤ f → Q (.ref f) s') :
    wpAny (model X.prog X.w) X.A (eval (.Lambda params body scope pos) X.env) Q E s := by
  subst hq
  obtain ⟨ps, hP, ht, ha⟩ := hT
  refine PySem.W.kla_eval hdef ?_
  have tabAt : s.heap.get? P = some { cls := .none, data := .fields ps } := I.hok P _ hP
  have notFrame : ∀ f, s.heap.objs.size ≤ f → f ∉ frs X.stack := fun f hf z => by
    rcases List.mem_cons.mp (I.stkSub _ z) with e | e
    · exact Nat.lt_irrefl _ (Nat.lt_of_lt_of_le (show f < _ by rw [e]; exact I.lt) hf)
    · exact I.nofs hf e
  cases among : codeAmong pos ps.toList with
  | some cv =>
    obtain ⟨c', e, known⟩ := ha pos cv among
    subst e
    refine PySem.W.kla_makeFunctionHit (mg := X.mg) (c := c) (P := P) (ps := ps) (closure_ok hfree) I.ok.glob (I.mod.glob.keeps I.bk) hcode (TB.code.keeps I.bk) tabAt ht among (TB.bm.keeps I.bk)
      fun ctv h' tk hx hsz => ?_
    refine h h'.objs.size c' ((X.mg "__name__").getD .none) ctv H _ (I.kept fun b o e => Heap.get?_push_of_some _ (hx b o e)) (.hit known) ⟨ps, hP, ht, ha⟩ (Heap.get?_push_size _ rfl) (I.hok.fresh hsz) (notFrame _ hsz) hsz
  | none =>
    refine PySem.W.kla_makeFunction (mg := X.mg) (c := c) (P := P) (ps := ps) (closure_ok hfree) I.ok.glob (I.mod.glob.keeps I.bk) hcode (TB.code.keeps I.bk) tabAt ht among TB.gP (TB.bm.keeps I.bk)
      fun c' ctv h' tk hx hge hlt hrec htb => ?_
    obtain ⟨c2, oc, vs, t, e2, hoc, hd, hv⟩ := hrec
    cases e2
    have grown : s.heap.objs.size ≤ h'.objs.size := Nat.le_trans hge (Nat.le_of_lt hlt)
    have isNew : H c' = none := I.hok.fresh hge
    let fo : Obj := PySem.W.kla_obj "<lambda>" (X.env.qual ++ "<lambda>") params body scope (cloFrom X.env.cells scope.names []) ((X.mg "__name__").getD .none) c' ctv
    let row : Array Value := #[rawInt pos.line, rawInt pos.col, .ref c']
    have J := LamX.inv_table (t' := tk) (more := row) (h' := h'.push fo) I hP (fun b o hb e => Heap.get?_push_of_some _ (hx b o hb e)) (Heap.get?_push_of_some _ htb) hge
      ⟨oc, vs, t, Heap.get?_push_of_some _ hoc, hd, hv⟩
    have listed : (ps ++ row).toList = ps.toList ++ [rawInt pos.line, rawInt pos.col, .ref c'] := by simp [row]
    refine h h'.objs.size c' ((X.mg "__name__").getD .none) ctv _ _ J (.new hP isNew) ⟨ps ++ row, by rw [upd_ne (ne_of_none hP isNew), upd_same], by rw [listed]; exact PySem.TriplesOk_snoc _ _ _ _ ht, fun p' cv hcv => ?_⟩ (Heap.get?_push_size _ rfl) ?_ (notFrame _ grown) grown
    · rw [listed] at hcv
      rcases LamX.among_app _ ht hcv with z | z
      · obtain ⟨c0, e1, e2⟩ := ha p' cv z
        refine ⟨c0, e1, ?_⟩
        rw [upd_ne (ne_of_none e2 isNew), upd_ne (fun z => by rw [z, hP] at e2; exact LamX.codeO_ne ps (Option.some.inj e2).symm)]
        exact e2
      · exact ⟨c', z, upd_same⟩
    · rw [upd_ne (Nat.ne_of_gt hlt), upd_ne (Nat.ne_of_gt (Nat.lt_of_lt_of_le (Heap.lt_size tabAt) grown))]
      exact I.hok.fresh grown
end
theorem Made.code {H H1 : Hp} {P c : Addr} {q : Str} (m : Made H P q H1 c) : H1 c = some (LamX.CodeO c q) := by
  cases m with
  | hit h => exact h
  | new h n => exact upd_same
theorem Made.keep {H H1 : Hp} {P c : Addr} {q : Str} (m : Made H P q H1 c) : ∀ b o, H b = some o → b ≠ P → H1 b = some o := fun b o e n => by
  cases m with
  | hit h => exact e
  | new h nn => rw [upd_ne (ne_of_none e nn), upd_ne n]; exact e
theorem Made.back {H H1 : Hp} {P c : Addr} {q : Str} (m : Made H P q H1 c) : ∀ b, H1 b = none → H b = none := fun b e => by
  cases m with
  | hit h => exact e
  | new h nn =>
    cases z : H b with
    | none => rfl
    | some o =>
      rw [upd_ne (ne_of_none z nn)] at e
      by_cases hb : b = P
      · rw [hb, upd_same] at e; cases e
      · rw [upd_ne hb, z] at e; cases e
/-! ### a lambda with one parameter -/
structure LamS1 (sc scope : Scope) (a : Str) : Prop where
  kind : scope.kind = .function
  co : scope.isCoroutine = false
  gen : scope.isGenerator = false
  par : scope.names.lookup a = some .local
  own : ∀ y ∈ scope.names, (y.2 = .local → y.1 = a) ∧ y.2 ≠ .cell
  free : ∀ y ∈ scope.names, y.2 = .free → sc.names.lookup y.1 = some .cell ∨ sc.names.lookup y.1 = some .free
def lamS1B (sc scope : Scope) (a : Str) : Bool :=
  decide (scope.kind = .function) && !scope.isCoroutine && !scope.isGenerator && decide (scope.names.lookup a = some .local) &&
    scope.names.all fun y => (!decide (y.2 = .local) || decide (y.1 = a)) && !decide (y.2 = .cell) && (!decide (y.2 = .free) || decide (sc.names.lookup y.1 = some .cell) || decide (sc.names.lookup y.1 = some .free))
theorem lamS1_by {sc scope : Scope} {a : Str} (h : lamS1B sc scope a = true) : LamS1 sc scope a := by
  unfold lamS1B at h
  simp only [Bool.and_eq_true, Bool.or_eq_true, Bool.not_eq_true', decide_eq_true_eq, decide_eq_false_iff_not, List.all_eq_true] at h
  obtain ⟨⟨⟨⟨h1, h2⟩, h3⟩, h5⟩, h4⟩ := h
  refine ⟨h1, h2, h3, h5, fun y hy => ⟨fun e => ?_, (h4 y hy).1.2⟩, fun y hy e => ?_⟩
  · rcases (h4 y hy).1.1 with z | z
    · exact absurd e z
    · exact z
  · rcases (h4 y hy).2 with (z | z) | z
    · exact absurd e z
    · exact .inl z
    · exact .inr z
section
variable {X : Cx} {pins : List (Addr × Obj)} {σ : L2.St} {H : Hp} {s : Shared} {scope : Scope} {a : Str}
theorem LamS1.has (L : LamS1 X.env.scope scope a) (ok : X.Ok) : ∀ y ∈ scope.names, y.2 = .free → ∃ c, X.env.cells.lookup y.1 = some c := fun y hy e =>
  (L.free y hy e).elim (fun k => ok.has _ (.inl k)) fun k => ok.has _ (.inr k)
theorem lam_start1 {A : Around} {outer : List PySem.Env} {E : XK} {f c' : Addr} {h₁ : Heap} {tk i : Nat} {v : V} {u : Value} (I : Inv X pins σ H s) (L : LamS1 X.env.scope scope a)
    (e0 : Env0 X.prog X.w X.K X.mg X.base A outer s H) (hd : A.handled = none) (hns : h₁.Ns s.heap.objs.size fun y => [(a, u)].reverse.lookup y) (kp : ∀ b o, s.heap.get? b = some o → h₁.get? b = some o)
    (hN : X.N.Nodup) (hi : X.N[i]? = some a) (rv : RelV v u) :
    Inv (LamX.lamCx X A outer s H E scope f c') [] (σ.set i (some v)) H { s with heap := h₁, toks := tk } := by
  have hfree := L.has I.ok
  let cl := cloFrom X.env.cells scope.names []
  have outerCell : ∀ {y c}, cl.lookup y = some c → X.env.cells.lookup y = some c := fun {y c} e => by
    rcases cloFrom_mem (PySem.mem_of_lookup e) with hm | ⟨h1, h2⟩
    · cases hm
    · obtain ⟨c1, hc⟩ := hfree _ h1 rfl
      have hc : X.env.cells.lookup y = some c1 := hc
      have e2 : c = c1 := by rw [h2, hc]; rfl
      rw [e2]; exact hc
  have found : ∀ {y}, scope.names.lookup y = some .free → ∃ c, cl.lookup y = some c := fun {y} hl =>
    mem_lookup (cloFrom_has (cells := X.env.cells) (acc := []) (PySem.mem_of_lookup hl : (y, NameKind.free) ∈ scope.names))
  have still : ∀ {c : Addr} {v : Option Value}, s.heap.IsCell c v → h₁.IsCell c v := fun {c v} ⟨o, ho, hd⟩ => ⟨o, kp _ _ ho, hd⟩
  have none_ex : ∀ b : Addr, b ∉ (LamX.lamCx X A outer s H E scope f c').ex := fun b z => absurd (show b ∈ ([] : List Addr) from z) (by simp)
  have hiσ : i < σ.length := by rw [I.len]; exact (List.getElem?_eq_some_iff.mp hi).1
  refine ⟨⟨e0.mod, L.kind, rfl, rfl, Nat.le_refl _, fun y z c e1 e2 => I.ok.inj y z c (outerCell e1) (outerCell e2), fun y hy => ?_, fun y c z _ => ?_, fun _ => hd, Around.frames_deeper e0.frames, .inr ⟨rfl, rfl⟩,
      fun b z => absurd z (none_ex b), e0.bs, e0.bsz, fun b _ _ => none_ex b, fun b z => absurd z (none_ex b), e0.funs, e0.frf⟩,
    rfl, e0.bare, Un.kept kp, ⟨_, hns, fun j y v' e1 e2 e3 => ?_⟩, fun y c e => ?_, e0.hok.fresh (Nat.le_refl _), fun y c e => ?_, fun q hq => absurd (show q ∈ ([] : List (Addr × Obj)) ++ [] from hq) (by simp), e0.hok.kept kp,
    by rw [List.length_set]; exact I.len⟩
  · rcases (show scope.names.lookup y = some .cell ∨ scope.names.lookup y = some .free from hy) with hy | hy
    · exact absurd rfl (L.own _ (PySem.mem_of_lookup hy)).2
    · exact found hy
  · exact absurd (show false = true from z) Bool.false_ne_true
  · rcases (show Vis scope y from e3) with k | k | k
    · have ey : y = a := (L.own _ (PySem.mem_of_lookup k)).1 rfl
      subst ey
      cases nodup_ix hN e1 hi
      rw [List.getElem?_set_self hiσ] at e2
      cases e2
      exact ⟨u, rv, .inl ⟨k, by simp⟩⟩
    · exact absurd rfl (L.own _ (PySem.mem_of_lookup k)).2
    · have ne : i ≠ j := fun z => by
        subst z
        have : X.N[i]? = some y := e1
        rw [hi] at this
        cases this
        rw [L.par] at k; cases k
      rw [List.getElem?_set_ne ne] at e2
      obtain ⟨m, hn, hl⟩ := I.loc
      have seen : Vis X.env.scope y := (L.free _ (PySem.mem_of_lookup k) rfl).elim (fun k => .inr (.inl k)) (fun k => .inr (.inr k))
      obtain ⟨w', r, q⟩ := hl j y v' e1 e2 seen
      obtain ⟨c2, h2⟩ := found k
      refine ⟨w', r, .inr ⟨.inr k, c2, h2, ?_⟩⟩
      have c1 := outerCell h2
      rcases q with ⟨k', _⟩ | ⟨_, c3, e', z⟩
      · have k' : X.env.scope.names.lookup y = some .local := k'
        rcases L.free _ (PySem.mem_of_lookup k) rfl with k2 | k2
        · rw [show X.env.scope.names.lookup y = _ from k2] at k'; cases k'
        · rw [show X.env.scope.names.lookup y = _ from k2] at k'; cases k'
      · rw [c1] at e'
        cases e'
        exact still z
  · obtain ⟨w', z⟩ := I.cell y c (outerCell e)
    exact ⟨w', still z⟩
  · exact I.freeC y c (outerCell e)
/-- the lambda is called, from a built-in function that this context called -/
theorem lam_call1 {f c' : Addr} {pm ctv : Value} {params : Arguments} {body : Expr} {k i : Nat} {q : Str} {tb : TE} {v : V} {u : Value} {Q : VK} (I : Inv X pins σ H s) (hq : X.env.qual ++ "<lambda>" = q) (L : LamS1 X.env.scope scope a)
    (hf : s.heap.get? f = some (PySem.W.kla_obj "<lambda>" q params body scope (cloFrom X.env.cells scope.names []) pm c' ctv)) (hc : H c' = some (LamX.CodeO c' q))
    (hbind : ∀ u, bindArgs (PySem.W.kla_fn "<lambda>" q params body scope (cloFrom X.env.cells scope.names []) pm (.ref c') ctv) ⟨[u], []⟩ = pure [(a, u)])
    (hr : Rm (k + 2) X.A) (hN : X.N.Nodup) (hi : X.N[i]? = some a) (rv : RelV v u)
    (hbody : ∀ (A : Around) (outer : List PySem.Env) (s : Shared) (H : Hp), Rm k (A.deeper (LamX.lamEnv X scope s.heap.objs.size f c')) → PE (LamX.lamCx X A outer s H C8.E0 scope f c').nox body tb) (ht : tb (σ.set i (some v)) H Q) :
    wpAny (model X.prog X.w) X.A.in1 (call (.ref f) [u]) (EP X pins σ Q) (fun _ _ => False) s := by
  subst hq
  have hr1 : Rm (k + 1) X.A.in1 := hr.in1
  obtain ⟨⟨oc, vs, t, hoc, hdc, hvc⟩, _, _⟩ := I.hok c' _ hc
  have e0 : Env0 X.prog X.w X.K X.mg X.base X.A.in1 X.stack s H := by
    have e := I.env0
    exact ⟨e.frames, e.mod, e.bs, e.bsz, e.funs, e.frf, e.hok, e.bare⟩
  have rc : codeAny (model X.prog X.w) X.A.in1 (.call (.ref f) ⟨[u], []⟩) (CR C8.CX0 X.stack X.prog X.w H s Q C8.E0) s := by
    refine PySem.W.kla_callFunE hr1.rm.depth hf rfl L.co L.gen rfl ⟨c', oc, vs, t, rfl, hoc, hdc, hvc⟩ ?_
    rw [hbind]
    refine wpAny_pure (wpAny_newFunctionEnv (fun y hy => (L.own y hy).2) (fun y hy => ?_) (fun h₁ hns hsb => ⟨I.nolimit.fresh _ hsb, ?_⟩) L.kind)
    · rw [List.mem_singleton.mp hy]; exact L.par
    show codeAny _ _ (.expr body (LamX.lamEnv X scope s.heap.objs.size f c')) _ _
    have kp : ∀ b o, s.heap.get? b = some o → h₁.get? b = some o := fun b o e => hsb.extBut b o (Nat.ne_of_lt (Heap.lt_size e)) (Heap.get?_push_of_some _ e)
    have J : Inv (LamX.lamCx X X.A.in1 X.stack s H C8.E0 scope f c').nox [] (σ.set i (some v)) H { s with heap := h₁, toks := s.toks + [(a, u)].length } :=
      (lam_start1 (E := C8.E0) (f := f) (c' := c') (tk := s.toks + [(a, u)].length) I L e0 hr1.rm.hd hns kp hN hi rv).wish _
    refine PySem.W.kla_codeExpr (wpAny_mono ((hbody _ _ s H (hr1.deeper _)).run [] _ _ H Q J ht) (fun v s' hq => ?_) fun e s' hq => (show False from hq).elim)
    obtain ⟨w', H', J', rv, q⟩ := hq
    exact ⟨w', H', J'.os, J'.bare, J'.base, J'.hok, rv, q⟩
  refine wpAny_call (codeAny_mono rc fun r s' hq => ?_)
  cases r with
  | error e => exact (show False from hq).elim
  | ok fl =>
    cases fl with
    | ret u => exact I.after hq
    | _ => exact False.elim hq
end
end G
end L2
end G30_
section G31_
set_option Elab.async false
set_option linter.all false
set_option maxRecDepth 100000
set_option maxHeartbeats 2000000
namespace L2
namespace G
open PySem PySem.Spec PyProof.Rows
/-! ### min(xs, key=f): the turns -/
section
variable {X : Cx} {pins : List (Addr × Obj)} {σ : L2.St}
theorem FpOk.heap {H H' : Hp} {b : Addr} (h : FpOk X pins H b) (n : H' b = none) : FpOk X pins H' b := ⟨n, h.2⟩
theorem Inv.turn {H : Hp} {s : Shared} {it : Addr} {h' : Heap} {t' : Nat} (I : Inv X pins σ H s) (f : FpOk X pins H it) (k : ∀ b o, b ≠ it → s.heap.get? b = some o → h'.get? b = some o) : Inv X pins σ H { s with heap := h', toks := t' } :=
  I.turned k f.1 f.2.1 f.2.2.2.1 f.2.2.2.2.1 f.2.2.2.2.2
/-- two objects of our own held beside the pins -/
theorem Inv.two {H : Hp} {s : Shared} {a b : Addr} {oa ob : Obj} (I : Inv X pins σ H s) (fa : FpOk X pins H a) (fb : FpOk X pins H b) (ha : s.heap.get? a = some oa) (hb : s.heap.get? b = some ob)
    (na : ∀ v, oa.data ≠ .cell v) (nb : ∀ v, ob.data ≠ .cell v) : Inv X ((a, oa) :: (b, ob) :: pins) σ H s := I.pins_of fun p hp => by
  rcases List.mem_cons.mp hp with rfl | hp
  · exact ⟨ha, fa.1, fa.2.1, fa.2.2.1, na⟩
  · rcases List.mem_cons.mp hp with rfl | hp
    · exact ⟨hb, fb.1, fb.2.1, fb.2.2.1, nb⟩
    · exact I.pin p (List.mem_append_right _ hp)
theorem Inv.untwo {H : Hp} {s : Shared} {a b : Addr} {oa ob : Obj} (I : Inv X ((a, oa) :: (b, ob) :: pins) σ H s) : Inv X pins σ H s ∧ (s.heap.get? a = some oa ∧ H a = none) ∧ (s.heap.get? b = some ob ∧ H b = none) := by
  refine ⟨I.pins_of fun p hp => I.pin p (List.mem_append_right _ (.tail _ (.tail _ hp))), ?_, ?_⟩
  · obtain ⟨h1, h2, _⟩ := I.pin (a, oa) (List.mem_append_right _ (.head _)); exact ⟨h1, h2⟩
  · obtain ⟨h1, h2, _⟩ := I.pin (b, ob) (List.mem_append_right _ (.tail _ (.head _))); exact ⟨h1, h2⟩
def MinR (X : Cx) (pins : List (Addr × Obj)) (σ : L2.St) (E : Value → Shared → Prop) (Q : VK) (r : Result) (s' : Shared) : Prop := match r with
  | .ok (.ret v) => EP X pins σ Q v s'
  | .ok _ => False
  | .error e => E e s'
theorem min_turns {l fq S It : Addr} {fo : Obj} {xs : List V} {E : Value → Shared → Prop} {Q : VK} (kf : Nat → Int) (Pv : Nat → Hp → Prop) (hh : X.A.handled = none)
    (hl : ∀ j H, Pv j H → SqL X.K H l xs) (hSI : S ≠ It) (hlI : l ≠ It) (hpf : (fq, fo) ∈ pins)
    (turn : ∀ (j : Nat) (x : V) (u : Value) (H : Hp) (s : Shared) (more : List (Addr × Obj)), xs[j]? = some x → Pv j H → Inv X (more ++ pins) σ H s → RelV x u →
      wpAny (model X.prog X.w) X.A.in1 (call (.ref fq) [u]) (EP X (more ++ pins) σ fun y H' => y = .int (kf j) ∧ Pv (j + 1) H') (fun _ _ => False) s)
    (hQ : ∀ i x H', xs[i]? = some x → (∀ j, j < xs.length → kf i ≤ kf j ∧ (j < i → kf i < kf j)) → Pv xs.length H' → Q x H') :
    ∀ (r j i : Nat) (s : Shared) (H : Hp) (xb : V) (vb : Value) (tb : Tok) (c : Nat), xs.length - (j + 1) = r → j + 1 ≤ xs.length → Inv X pins σ H s → Pv (j + 1) H → FpOk X pins H S → FpOk X pins H It →
      s.heap.get? S = some (seqObj "list" #[vb, .int (kf i) tb] c) → s.heap.IsListIter It l (j + 1) → xs[i]? = some xb → RelV xb vb → i ≤ j → (∀ j', j' ≤ j → kf i ≤ kf j' ∧ (j' < i → kf i < kf j')) →
      codeAny (model X.prog X.w) X.A (.builtin "min.loop" ⟨[.ref It, .ref fq, .ref S], []⟩) (MinR X pins σ E Q) s := by
  have loopName : (toString "min" ++ toString ".loop" : String) = "min.loop" := by decide
  intro r
  induction r with
  | zero =>
    intro j i s H xb vb tb c hr hj I pv fS fI gS hit hxb rb hij best
    obtain ⟨its, rvs, plain, hz⟩ := I.list (hl _ H pv)
    have ln : xs.length = its.length := rvs.length
    have W := Walks.list (prog := X.prog) (w := X.w) (A := X.A.in1) hh It l hlI its.toArray
    refine codeAny_builtin PySem.F.entry_min_loop ?_
    rw [Around.under_plainId PySem.F.plain_min_loop _]
    show wpAny _ X.A.in1 (seqItems? (.ref S) >>= _) _ _ _
    refine wpAny_bind (wpAny_seqItems gS rfl ?_)
    show wpAny _ X.A.in1 (tryCatch (pyNext (.ref It)) _ >>= _) _ _ _
    have at_end : its.toArray.size = j + 1 := by rw [List.size_toArray]; omega
    refine wpAny_bind (wpAny_tryCatch (W.done _ _ _ ⟨by rw [at_end]; exact hit, plain.isList⟩ fun h' tk' keep => ?_))
    have I1 : Inv X pins σ H { s with heap := h', toks := tk' } := Inv.turn I fI fun b o hb e => keep b o (by simpa using hb) e
    have gS1 := keep S _ (by simpa using hSI) gS
    have ch := Heap.SameBut.update h' S (Obj.mapSeq fun _ => (#[] : Array Value))
    show wpAny _ X.A.in1 (updateSeq S (fun _ => #[]) >>= _) _ _ _
    refine wpAny_bind (wpAny_updateSeq gS1 rfl (wpAny_bind (wpAny_letGo (wpAny_pure ?_))))
    have I2 := Inv.turn (h' := h'.update S (Obj.mapSeq fun _ => (#[] : Array Value))) (t' := tk') I1 fS fun b o hb e => (ch.2 b hb).trans e
    have done : j + 1 = xs.length := by omega
    rw [done] at pv
    exact ⟨xb, H, I2, rb, hQ i xb H hxb (fun j' hj' => best j' (by omega)) pv⟩
  | succ r ih =>
    intro j i s H xb vb tb c hr hj I pv fS fI gS hit hxb rb hij best
    have more : j + 1 < xs.length := by omega
    obtain ⟨its, rvs, plain, hz⟩ := I.list (hl _ H pv)
    have ln : xs.length = its.length := rvs.length
    have W := Walks.list (prog := X.prog) (w := X.w) (A := X.A.in1) hh It l hlI its.toArray
    refine codeAny_builtin PySem.F.entry_min_loop ?_
    rw [Around.under_plainId PySem.F.plain_min_loop _]
    show wpAny _ X.A.in1 (seqItems? (.ref S) >>= _) _ _ _
    refine wpAny_bind (wpAny_seqItems gS rfl ?_)
    show wpAny _ X.A.in1 (tryCatch (pyNext (.ref It)) _ >>= _) _ _ _
    refine wpAny_bind (wpAny_tryCatch (W.item (j + 1) _ _ _ (by rw [List.size_toArray, ← ln]; exact more) ⟨hit, plain.isList⟩ fun u h' tk' hu hst keep => ?_))
    have hu : its[j + 1]? = some u := by simpa using hu
    obtain ⟨x, hx, rx⟩ : ∃ x, xs[j + 1]? = some x ∧ RelV x u := by
      have hx : xs[j + 1]? = some xs[j + 1] := List.getElem?_eq_getElem more
      obtain ⟨u', hu', r'⟩ := rvs.get hx
      rw [hu] at hu'; cases hu'
      exact ⟨_, hx, r'⟩
    obtain ⟨oI, gI, hoc, hod⟩ := id hst.1
    have I1 : Inv X pins σ H { s with heap := h', toks := tk' } := Inv.turn I fI fun b o hb e => keep b o (by simpa using hb) e
    have gS1 := keep S _ (by simpa using hSI) gS
    have I2 := Inv.two I1 fS fI gS1 gI (fun v z => by cases z) (fun v z => by rw [hod] at z; cases z)
    show wpAny _ X.A.in1 (tryCatch (holding [u] (call (.ref fq) [u])) _ >>= _) _ _ _
    refine wpAny_bind (wpAny_tryCatch (wpAny_holding (wpAny_mono (turn (j + 1) x u H _ [(S, _), (It, oI)] hx pv I2 rx) (fun y s2 he => ?_) fun _ _ hF => hF.elim)))
    obtain ⟨y', H2, I3, ry, rfl, pv2⟩ := he
    obtain ⟨t2, rfl⟩ := ry
    obtain ⟨I4, ⟨gS2, nS2⟩, gI2, nI2⟩ := Inv.untwo I3
    have fS2 : FpOk X pins H2 S := FpOk.heap fS nS2
    have fI2 : FpOk X pins H2 It := FpOk.heap fI nI2
    have hit2 : s2.heap.IsListIter It l (j + 1 + 1) := ⟨oI, gI2, hoc, hod⟩
    show wpAny _ X.A.in1 (tryCatch (holding [u, .int (kf (j + 1)) t2] (richCompare .Lt (.int (kf (j + 1)) t2) (.int (kf i) tb) >>= _)) _ >>= _) _ _ _
    refine wpAny_bind (wpAny_tryCatch (wpAny_holding (wpAny_bind (CmpOf.ints_lt (prog := X.prog) (w := X.w) (A := X.A.in1) (P := fun i v => ∃ t, v = .int (kf i) t) kf (fun i v h => h) (j + 1) i _ _ _ _ _ ⟨t2, rfl⟩ ⟨tb, rfl⟩ ?_))))
    refine wpAny_bind (wpAny_holding (wpAny_truthy_bool ?_))
    refine wpAny_bind (wpAny_letGo (wpAny_pure ?_))
    by_cases less : kf (j + 1) < kf i
    · have ch := Heap.SameBut.update s2.heap S (Obj.mapSeq fun _ => #[u, .int (kf (j + 1)) t2])
      obtain ⟨c2, gS3⟩ : ∃ c2, (s2.heap.update S (Obj.mapSeq fun _ => #[u, .int (kf (j + 1)) t2])).get? S = some (seqObj "list" #[u, .int (kf (j + 1)) t2] c2) := ⟨_, get?_update_seq gS2 fun _ => #[u, .int (kf (j + 1)) t2]⟩
      simp only [less, decide_true, if_true]
      refine wpAny_bind (wpAny_updateSeq gS2 rfl (wpAny_bind (wpAny_letGo ?_)))
      rw [loopName]
      have I5 := Inv.turn (h' := s2.heap.update S (Obj.mapSeq fun _ => #[u, .int (kf (j + 1)) t2])) (t' := s2.toks) I4 fS2 fun b o hb e => (ch.2 b hb).trans e
      refine wpAny_pure ⟨plainId_quiet PySem.F.plain_min_loop _, ih (j + 1) (j + 1) _ H2 x u t2 c2 (by omega) more I5 pv2 fS2 fI2 gS3 ⟨oI, (ch.2 It hSI.symm).trans gI2, hoc, hod⟩ hx rx (Nat.le_refl _) fun j' hj' => ?_⟩
      by_cases e : j' = j + 1
      · subst e; exact ⟨by omega, fun _ => by omega⟩
      · have b1 := (best j' (by omega)).1
        exact ⟨by omega, fun _ => by omega⟩
    · simp only [less, decide_false, Bool.false_eq_true, if_false]
      refine wpAny_bind (wpAny_letGo ?_)
      rw [loopName]
      refine wpAny_pure ⟨plainId_quiet PySem.F.plain_min_loop _, ih (j + 1) i _ H2 xb vb tb c (by omega) more I4 pv2 fS2 fI2 gS2 hit2 hxb rb (by omega) fun j' hj' => ?_⟩
      by_cases e : j' = j + 1
      · subst e; exact ⟨by omega, fun _ => by omega⟩
      · exact best j' (by omega)
theorem min_key {l fq : Addr} {fo : Obj} {xs : List V} {H : Hp} {s : Shared} {Q : VK} (kf : Nat → Int) (Pv : Nat → Hp → Prop) (hh : X.A.handled = none) (I : Inv X pins σ H s) (pv : Pv 0 H) (hne : 0 < xs.length)
    (hl : ∀ j H, Pv j H → SqL X.K H l xs) (hpf : (fq, fo) ∈ pins)
    (turn : ∀ (j : Nat) (x : V) (u : Value) (H : Hp) (s : Shared) (more : List (Addr × Obj)), xs[j]? = some x → Pv j H → Inv X (more ++ pins) σ H s → RelV x u →
      wpAny (model X.prog X.w) X.A.in1 (call (.ref fq) [u]) (EP X (more ++ pins) σ fun y H' => y = .int (kf j) ∧ Pv (j + 1) H') (fun _ _ => False) s)
    (hQ : ∀ i x H', xs[i]? = some x → (∀ j, j < xs.length → kf i ≤ kf j ∧ (j < i → kf i < kf j)) → Pv xs.length H' → Q x H') :
    wpAny (model X.prog X.w) X.A (call (.builtin "min") [.ref l] [(Str.ofString "key", .ref fq)]) (EP X pins σ Q) X.xe s := by
  have loopName : (toString "min" ++ toString ".loop" : String) = "min.loop" := by decide
  obtain ⟨its, rvs, plain, hz⟩ := I.list (hl _ H pv)
  have ln : xs.length = its.length := rvs.length
  have hll : l < s.heap.objs.size := by
    obtain ⟨ol, hol, _⟩ := id plain.isList
    exact Heap.lt_size hol
  refine kmk_tree PySem.F.kind_min PySem.F.plain_min PySem.F.entry_min (kmk_min_key _ _) ?_
  show wpAny _ X.A.in1 (Builtin.Builtins.bindParams "min" ["key", "default"] 0 ⟨[], [(Str.ofString "key", .ref fq)]⟩ >>= _) _ _ s
  refine wpAny_bind (wpAny_of_eq (show Builtin.Builtins.bindParams "min" ["key", "default"] 0 ⟨[], [(Str.ofString "key", .ref fq)]⟩ = pure [some (.ref fq), none] from rfl) ?_)
  refine wpAny_bind (wpAny_pure ?_)
  refine wpAny_bind (wpAny_pyIter_list plain.isList ?_)
  refine wpAny_bind (wpAny_newList ?_ (Nat.zero_le _))
  rw [loopName]
  let it : Obj := { cls := .type "list_iterator", data := .fields #[.ref l, .int 0 0] }
  let h1 : Heap := s.heap.push it
  let h2 : Heap := h1.push (seqObj "list" #[] 0)
  have sz1 : h1.objs.size = s.heap.objs.size + 1 := size_push' ..
  have kp : ∀ b o, s.heap.get? b = some o → h2.get? b = some o := fun b o e => Heap.get?_push_of_some _ (Heap.get?_push_of_some _ e)
  have gI : h2.get? s.heap.objs.size = some it := Heap.get?_push_of_some _ (Heap.get?_push_size _ rfl)
  have gS : h2.get? h1.objs.size = some (seqObj "list" #[] 0) := Heap.get?_push_size _ rfl
  have I0 : Inv X pins σ H { s with heap := h2 } := I.kept (t' := s.toks) kp
  have fI : FpOk X pins H s.heap.objs.size := I.fpOk (Nat.le_refl _) (I.hok.fresh (Nat.le_refl _))
  have fS : FpOk X pins H h1.objs.size := I.fpOk (by omega) (I.hok.fresh (by omega))
  have hSI : h1.objs.size ≠ s.heap.objs.size := by omega
  have hlI : l ≠ s.heap.objs.size := Nat.ne_of_lt hll
  refine wpAny_pure ⟨plainId_quiet PySem.F.plain_min_loop _, ?_⟩
  have W := Walks.list (prog := X.prog) (w := X.w) (A := X.A.in1) hh s.heap.objs.size l hlI its.toArray
  obtain ⟨its0, rvs0, plain0, _⟩ := I0.list (hl _ H pv)
  have W := Walks.list (prog := X.prog) (w := X.w) (A := X.A.in1) hh s.heap.objs.size l hlI its0.toArray
  refine codeAny_builtin PySem.F.entry_min_loop ?_
  rw [Around.under_plainId PySem.F.plain_min_loop _]
  show wpAny _ X.A.in1 (seqItems? (.ref _) >>= _) _ _ _
  refine wpAny_bind (wpAny_seqItems gS rfl ?_)
  show wpAny _ X.A.in1 (tryCatch (pyNext (.ref s.heap.objs.size)) _ >>= _) _ _ _
  refine wpAny_bind (wpAny_tryCatch (W.item 0 _ _ _ (by rw [List.size_toArray, ← rvs0.length]; exact hne) ⟨⟨_, gI, rfl, rfl⟩, plain0.isList⟩ fun u h' tk' hu hst keep => ?_))
  have hu : its0[0]? = some u := by simpa using hu
  obtain ⟨x, hx, rx⟩ : ∃ x, xs[0]? = some x ∧ RelV x u := by
    have hx : xs[0]? = some xs[0] := List.getElem?_eq_getElem hne
    obtain ⟨u', hu', r'⟩ := rvs0.get hx
    rw [hu] at hu'; cases hu'
    exact ⟨_, hx, r'⟩
  obtain ⟨oI, gI1, hoc, hod⟩ := id hst.1
  have I1 : Inv X pins σ H { s with heap := h', toks := tk' } := Inv.turn (s := { s with heap := h2 }) (h' := h') (t' := tk') I0 fI fun b o hb e => keep b o (by simpa using hb) e
  have gS1 := keep h1.objs.size _ (by simpa using hSI) gS
  have I2 := Inv.two I1 fS fI gS1 gI1 (fun v z => by cases z) (fun v z => by rw [hod] at z; cases z)
  show wpAny _ X.A.in1 (tryCatch (holding [u] (call (.ref fq) [u])) _ >>= _) _ _ _
  refine wpAny_bind (wpAny_tryCatch (wpAny_holding (wpAny_mono (turn 0 x u H _ [(h1.objs.size, _), (s.heap.objs.size, oI)] hx pv I2 rx) (fun y s2 he => ?_) fun _ _ hF => hF.elim)))
  obtain ⟨y', H2, I3, ry, rfl, pv2⟩ := he
  obtain ⟨t2, rfl⟩ := ry
  obtain ⟨I4, ⟨gS2, nS2⟩, gI2, nI2⟩ := Inv.untwo I3
  have ch := Heap.SameBut.update s2.heap h1.objs.size (Obj.mapSeq fun _ => #[u, .int (kf 0) t2])
  obtain ⟨c2, gS3⟩ : ∃ c2, (s2.heap.update h1.objs.size (Obj.mapSeq fun _ => #[u, .int (kf 0) t2])).get? h1.objs.size = some (seqObj "list" #[u, .int (kf 0) t2] c2) := ⟨_, get?_update_seq gS2 fun _ => #[u, .int (kf 0) t2]⟩
  show wpAny _ X.A.in1 (updateSeq h1.objs.size (fun _ => #[u, .int (kf 0) t2]) >>= _) _ _ _
  refine wpAny_bind (wpAny_updateSeq gS2 rfl ?_)
  rw [loopName]
  have I5 := Inv.turn (h' := s2.heap.update h1.objs.size (Obj.mapSeq fun _ => #[u, .int (kf 0) t2])) (t' := s2.toks) I4 (FpOk.heap fS nS2) fun b o hb e => (ch.2 b hb).trans e
  refine wpAny_pure ⟨plainId_quiet PySem.F.plain_min_loop _, codeAny_mono (min_turns (E := X.xe) (Q := Q) kf Pv hh hl hSI hlI hpf turn hQ _ 0 0 _ H2 x u t2 c2 rfl hne I5 pv2 (FpOk.heap fS nS2) (FpOk.heap fI nI2) gS3 ⟨oI, (ch.2 _ hSI.symm).trans gI2, hoc, hod⟩ hx rx (Nat.le_refl _) fun j' hj' => ?_) fun r s' h => ?_⟩
  · have e : j' = 0 := by omega
    subst e
    exact ⟨Int.le_refl _, fun h => absurd h (Nat.lt_irrefl _)⟩
  · exact h
end
end G
end L2
end G31_
section G32_
set_option Elab.async false
set_option linter.all false
set_option maxRecDepth 100000
set_option maxHeartbeats 2000000
namespace L2
namespace G
open PySem PySem.Spec PyProof.Rows
/-! ### min(e, key=lambda a: b) -/
def keysL (ρ : Env) (i : Nat) (g : Env → M D) : List D → M (List Int)
  | [] => ret []
  | d :: ds => bnd (g (List.set ρ i (some d))) fun k => match k with
    | .int k => bnd (keysL ρ i g ds) fun ks => ret (k :: ks)
    | _ => bad
/-- the first item of the least key -/
def minK : List Int → List D → Option (Int × D)
  | k :: ks, d :: ds => (match minK ks ds with
    | none => some (k, d)
    | some p => if p.1 < k then some p else some (k, d))
  | _, _ => none
def isTab (x : Str) : Cell → Bool
  | .tbl y => decide (y = x)
  | _ => false
def hasTab (x : Str) (st : Store) : Bool := st.any (isTab x)
def E.minKey (x : Str) (i : Nat) (f g : Env → M D) : Env → M D := fun ρ => bnd (f ρ) fun d => match d with
  | .lst ds => fun st => if hasTab x st = true ∧ ds ≠ [] then bnd (noexc (keysL ρ i g ds)) (fun ks => lift ((minK ks ds).map (·.2))) st else .bad
  | _ => bad
theorem minK_spec : ∀ (ks : List Int) (ds : List D) (i : Nat) (k : Int) (d : D), ks.length = ds.length → ks[i]? = some k → ds[i]? = some d → (∀ j k', ks[j]? = some k' → k ≤ k' ∧ (j < i → k < k')) → minK ks ds = some (k, d) := by
  intro ks
  induction ks with
  | nil => intro ds i k d _ h; simp at h
  | cons a ks ih =>
    intro ds i k d hl hk hd hb
    cases ds with
    | nil => simp at hl
    | cons e ds =>
      have hl : ks.length = ds.length := by simpa using hl
      unfold minK
      cases i with
      | zero =>
        simp at hk hd
        subst hk; subst hd
        cases m : minK ks ds with
        | none => rfl
        | some p =>
          have key : ∀ (ks : List Int) (ds : List D) (p : Int × D), minK ks ds = some p → p.1 ∈ ks := by
            intro ks
            induction ks with
            | nil => intro ds p h; cases ds <;> cases h
            | cons b ks ih =>
              intro ds p h
              cases ds with
              | nil => cases h
              | cons f ds =>
                unfold minK at h
                cases q : minK ks ds with
                | none => rw [q] at h; cases h; exact .head _
                | some p' =>
                  rw [q] at h
                  dsimp only at h
                  split at h
                  · cases h; exact .tail _ (ih ds _ q)
                  · cases h; exact .head _
          obtain ⟨n, hn, en⟩ := List.getElem_of_mem (key ks ds p m)
          have := (hb (n + 1) p.1 (by simp [en, hn])).1
          dsimp only
          rw [if_neg (by omega)]
      | succ i =>
        have hk : ks[i]? = some k := by simpa using hk
        have hd : ds[i]? = some d := by simpa using hd
        have h0 := (hb 0 a (by simp)).2 (Nat.succ_pos _)
        rw [ih ds i k d hl hk hd fun j k' hj => ⟨(hb (j + 1) k' (by simpa using hj)).1, fun q => (hb (j + 1) k' (by simpa using hj)).2 (by omega)⟩]
        dsimp only
        rw [if_pos h0]
theorem keysL_len {ρ : Env} {i : Nat} {g : Env → M D} : ∀ (ds : List D) (st : Store) (ks : List Int) (st' : Store), keysL ρ i g ds st = .ok ks st' → ks.length = ds.length
  | [], st, ks, st', h => by cases h; rfl
  | d :: ds, st, ks, st', h => by
    unfold keysL bnd at h
    cases e : g (List.set ρ i (some d)) st with
    | ok k s1 =>
      rw [e] at h
      dsimp only at h
      cases k with
      | int k =>
        dsimp only at h
        cases e2 : keysL ρ i g ds s1 with
        | ok ks2 s2 => rw [e2] at h; cases h; rw [List.length_cons, List.length_cons, keysL_len ds s1 ks2 _ e2]
        | exc x s2 => rw [e2] at h; cases h
        | bad => rw [e2] at h; cases h
      | _ => cases h
    | exc x s1 => rw [e] at h; cases h
    | bad => rw [e] at h; cases h
/-- the table's cell -/
theorem SRep.tab {K : PySem.W.Frag} {as : List Addr} {st : Store} {H : Hp} (s : SRep K as st H) {x : Str} (h : hasTab x st = true) :
    ∃ n : Nat, as[n]? = some (He.cT K (x, none)).2 ∧ st[n]? = some (Cell.tbl x) ∧ LamX.TabS H (He.cT K (x, none)).2 (x ++ (".<locals>." : Str) ++ ("<lambda>" : Str)) := by
  unfold hasTab at h
  obtain ⟨c, hc, hx⟩ := List.any_eq_true.mp h
  obtain ⟨n, hn, e⟩ := List.getElem_of_mem hc
  cases c with
  | tbl y =>
    have ey : y = x := of_decide_eq_true hx
    subst ey
    have hn' : n < as.length := by rw [s.len]; exact hn
    have hst : st[n]? = some (.tbl y) := by rw [List.getElem?_eq_getElem hn, e]
    obtain ⟨h1, h2⟩ := s.at_ n as[n] _ (List.getElem?_eq_getElem hn') hst
    refine ⟨n, ?_, hst, ?_⟩
    · rw [List.getElem?_eq_getElem hn', h1]
    · rw [h1] at h2; exact h2
  | _ => cases hx
theorem set_self {α : Type} {l : List α} {n : Nat} {a : α} (h : l[n]? = some a) : l.set n a = l := by
  apply List.ext_getElem?
  intro m
  by_cases e : n = m
  · subst e; rw [List.getElem?_set_self (List.getElem?_eq_some_iff.mp h).1, h]
  · rw [List.getElem?_set_ne e]
theorem SRep.made {K : PySem.W.Frag} {as : List Addr} {st : Store} {H H1 : Hp} {n : Nat} {x : Str} {c : Addr} {q : Str} (s : SRep K as st H) (hn : as[n]? = some (He.cT K (x, none)).2) (hst : st[n]? = some (.tbl x))
    (m : Made H (He.cT K (x, none)).2 q H1 c) (hT : LamX.TabS H1 (He.cT K (x, none)).2 (x ++ (".<locals>." : Str) ++ ("<lambda>" : Str))) : SRep K as st H1 ∧ Grow as H as H1 := by
  have hm : (He.cT K (x, none)).2 ∈ as := List.mem_of_getElem? hn
  refine ⟨?_, ⟨fun _ _ h => h, fun b o e nb => m.keep b o e fun z => nb (by rw [z]; exact hm), fun _ h n => absurd h n⟩⟩
  cases m with
  | hit h => exact s
  | new hP hc =>
    rename_i ps more
    have ne : (He.cT K (x, none)).2 ≠ c := ne_of_none hP hc
    have comm : upd (upd H (He.cT K (x, none)).2 (.tbl (ps ++ more))) c (LamX.CodeO c q) = upd (upd H c (LamX.CodeO c q)) (He.cT K (x, none)).2 (.tbl (ps ++ more)) := by
      funext b
      by_cases e1 : b = c
      · rw [e1, upd_same, upd_ne (fun z => ne z.symm), upd_same]
      · by_cases e2 : b = (He.cT K (x, none)).2
        · rw [e2, upd_ne ne, upd_same, upd_same]
        · rw [upd_ne e1, upd_ne e2, upd_ne e2, upd_ne e1]
    rw [comm] at hT ⊢
    have s1 : SRep K as st (upd H c (LamX.CodeO c q)) := s.new hc
    have := s1.put (o := .tbl (ps ++ more)) (c := .tbl x) hn ⟨rfl, hT⟩
    rw [set_self hst] at this
    exact this
theorem RepT.lst_at {K : PySem.W.Frag} {O : List Nat} {B : Addr → Prop} {as : List Addr} {σ : L2.St} {H : Hp} {st : Store} {v : V} {ds : List D} (s : SRep K as st H) (r : RepT K (Ff B as O σ) as H v (.lst ds)) :
    ∃ a xs, v = .ref a ∧ Reps K (Ff B as O σ) as H xs ds ∧ ∀ as' H', Grow as H as' H' → SqL K H' a xs := by
  cases r with
  | rep r =>
    cases r with
    | lst h r => exact ⟨_, _, rfl, r, fun as' H' g => ((h.weak (ff_grow g)).frame (grow_k g)).sq⟩
  | own r n =>
    cases r with
    | lst h r => exact ⟨_, _, rfl, r, fun as' H' g => .inl (.inl (g.keep _ _ h (n _ rfl)))⟩
    | sca r z => cases r; exact absurd rfl (z _)
section
variable {X : Cx} {O : List Nat} {Z : ZT} {e : Expr} {f g : Env → M D} {p pos lpos kpos : Pos}
theorem de_minKey {x a : Str} (i : Nat) {k : Nat} {params : Arguments} {body : Expr} {scope : Scope} (hqual : X.env.qual = x ++ (".<locals>." : Str)) (hcode : X.env.code = .ref (He.cT X.K (x, none)).1)
    (TB : LamX.TabB X.base X.mg (He.cT X.K (x, none)).1 (He.cT X.K (x, none)).2) (hg : Gl X "min") (hm : X.mg "min" = none) (hO : i ∉ O) (hi : X.N[i]? = some a) (hN : X.N.Nodup) (hh : X.calm = true)
    (L : LamS1 X.env.scope scope a) (hdef : defaultsOf params X.env = ([], []))
    (hbind : ∀ (q : Str) (cl : List (Str × Addr)) (pm cv ctv : Value) (u : Value), bindArgs (PySem.W.kla_fn "<lambda>" q params body scope cl pm cv ctv) ⟨[u], []⟩ = pure [(a, u)])
    (hr : Rm (k + 2) X.A) (he : DU X O Z e f)
    (hbody : ∀ (A : Around) (outer : List PySem.Env) (s : Shared) (H : Hp) (fa c' : Addr), Rm k (A.deeper (LamX.lamEnv X scope s.heap.objs.size fa c')) → DE (LamX.lamCx X A outer s H C8.E0 scope fa c').nox O Z0 body g)
    (hs : starEach [e] X.env = (false, eval e X.env) :: starEach [] X.env := by rfl) :
    DE X O Z (.Call (.Name "min" p) [e] [⟨some "key", .Lambda params body scope lpos, kpos⟩] pos) (E.minKey x i f g) := by
  refine ⟨fun pins s σ H Q I ⟨gh, ok, q⟩ => ?_⟩
  refine wpAny_Call_Name_kw (ld_blt I hg hm (by rfl) ?_)
  refine PyProof.Rows.callWith_kw ?_ (by rw [hs]; rfl) (by rw [hs]; rfl) rfl rfl
  have hargs : PA X [e] (tCons (tU X.K O Z f) tNil) := pa_cons he pa_nil hs
  refine thn (hargs.run pos pins s σ H (fun vs H' => ∃ d st' as' v, vs = [v] ∧ Grow gh.as H as' H' ∧ SRep X.K as' st' H' ∧ RepT X.K (Ff gh.B as' O σ) as' H' v d ∧ Ev ((match d with
    | .lst ds => fun st => if hasTab x st = true ∧ ds ≠ [] then bnd (noexc (keysL gh.ρ i g ds)) (fun ks => lift ((minK ks ds).map (·.2))) st else .bad
    | _ => bad : M D) st') (fun d st' => ∀ as' v H', Grow gh.as H as' H' → SRep X.K as' st' H' → Rep X.K (Ff gh.B as' O σ) as' H' v d → Q v H') (Zc X.K O gh.B gh.H0 gh.as0 Z)) I
    ⟨gh, ok, (Ev.bnd q).mono (fun d st' q as' v H' gr s r => ⟨d, st', as', v, rfl, gr, s, r, q⟩) fun _ _ z => z⟩) fun us s1 ⟨vs, H1, I1, r1, q1⟩ => ?_
  obtain ⟨d, st1, as1, v, rfl, gr1, sr1, rv, q⟩ := q1
  cases d with
  | lst ds =>
    dsimp only at q
    by_cases hc : hasTab x st1 = true ∧ ds ≠ []
    · rw [if_pos hc] at q
      obtain ⟨n, hn, hst, hT⟩ := sr1.tab hc.1
      show wpAny _ _ (evalAll [do let v ← eval (.Lambda params body scope lpos) X.env; standAt pos; pure v]) _ _ s1
      have hq' : X.env.qual ++ ("<lambda>" : Str) = x ++ (".<locals>." : Str) ++ ("<lambda>" : Str) := by rw [hqual]
      refine wpAny_evalAll_cons (wpAny_bind (lam_make3 I1 TB hcode hq' hT hdef (L.has I1.ok) fun fq c' pm ctv H2 s2 I2 md hT2 hf hfn hfr hsz => wpAny_bind (wpAny_standAt (wpAny_pure (wpAny_evalAll_nil ?_)))))
      obtain ⟨sr2, gr2⟩ := sr1.made hn hst md hT2
      have rv2 := rv.grow sr1 gr2
      obtain ⟨l, xs, rfl, rxs, sq⟩ := rv2.lst_at sr2
      have eu : us = [.ref l] := by
        cases r1 with
        | cons r1 rest => cases rest; cases r1; rfl
      subst eu
      let fo : Obj := PySem.W.kla_obj "<lambda>" (x ++ (".<locals>." : Str) ++ ("<lambda>" : Str)) params body scope (cloFrom X.env.cells scope.names []) pm c' ctv
      have fp : FpOk X pins H2 fq := I1.fpOk hsz hfn
      have I3 : Inv X ((fq, fo) :: pins) σ H2 s2 := I2.pins_of fun p hp => by
        rcases List.mem_cons.mp hp with rfl | hp
        · exact ⟨hf, hfn, fp.2.1, fp.2.2.1, fun v z => by cases z⟩
        · exact I2.pin p (List.mem_append_right _ hp)
      show wpAny _ _ (call (.builtin "min") [.ref l] [(Str.ofString "key", .ref fq)]) _ _ s2
      -- the keys
      have q := Ev.bnd q
      unfold noexc at q
      cases ek : keysL gh.ρ i g ds st1 with
      | ok ks stF =>
        rw [ek] at q
        have q : Ev (lift ((minK ks ds).map (·.2)) stF) _ _ := q
        obtain ⟨dm, em, qm⟩ := q.lift
        have lk := keysL_len ds st1 ks stF ek
        let kf : Nat → Int := fun j => ks.getD j 0
        let Pv : Nat → Hp → Prop := fun j H => ∃ as' st', Grow as1 H2 as' H ∧ SRep X.K as' st' H ∧ keysL gh.ρ i g (ds.drop j) st' = .ok (ks.drop j) stF ∧ H c' = some (LamX.CodeO c' (x ++ (".<locals>." : Str) ++ ("<lambda>" : Str)))
        have lx : xs.length = ds.length := rxs.length
        have c'n : c' ∉ as1 := fun z => by
          obtain ⟨o, ho, nt⟩ := sr2.mem z
          rw [md.code] at ho; cases ho
          exact nt trivial
        refine wpAny_mono (min_key (fo := fo) (l := l) (fq := fq) (xs := xs) (Q := Q) kf Pv (I3.ok.hd hh) I3 ⟨as1, st1, Grow.refl _ _, sr2, ek, md.code⟩ ?_ (fun j H ⟨as', st', g', s', _, _⟩ => sq as' H g') (.head _) ?_ ?_) (fun v s' h => ?_) fun _ _ z => z
        · cases ds with
          | nil => exact absurd rfl hc.2
          | cons _ _ => rw [lx]; exact Nat.succ_pos _
        · intro j y u H s more hy ⟨as', st', g', s', ek', hcode'⟩ I ry
          have hj : j < ds.length := by rw [← lx]; exact (List.getElem?_eq_some_iff.mp hy).1
          have hfm : s.heap.get? fq = some fo := (I.pin (fq, fo) (List.mem_append_right _ (List.mem_append_right _ (.head _)))).1
          have ok2 := ((ok.step gr1 sr1).step gr2 sr2).step g' s'
          obtain ⟨d, hd, rd⟩ := (rxs.grow sr2 g').get hy
          refine lam_call1 (i := i) (v := y) (tb := tE X.K O Z0 g) I hq' L hfm hcode' (hbind _ _ _ _ _) hr hN hi ry (fun A outer s H hr' => hbody A outer s H fq c' hr') ?_
          refine ⟨⟨gh.B, gh.H0, gh.as0, as', List.set gh.ρ i (some d), st'⟩, ⟨ok2.wf.set hO rd, s'⟩, ?_⟩
          rw [List.drop_eq_getElem_cons hj] at ek'
          have ed : ds[j] = d := by rw [List.getElem?_eq_getElem hj] at hd; exact Option.some.inj hd
          rw [ed] at ek'
          have hjk : j < ks.length := by rw [lk]; exact hj
          rw [List.drop_eq_getElem_cons hjk] at ek'
          unfold keysL bnd at ek'
          cases e1 : g (List.set gh.ρ i (some d)) st' with
          | ok kk s1' =>
            rw [e1] at ek'
            dsimp only at ek'
            cases kk with
            | int kk =>
              dsimp only at ek'
              cases e2 : keysL gh.ρ i g (ds.drop (j + 1)) s1' with
              | ok ks2 s2' =>
                rw [e2] at ek'
                have ek' : Res.ok (kk :: ks2) s2' = Res.ok (ks[j] :: ks.drop (j + 1)) stF := ek'
                injection ek' with e3 e4
                injection e3 with e5 e6
                subst e4
                intro as2 w H' g2 s2 rw'
                cases rw'
                refine ⟨?_, as2, s1', g'.trans g2, s2, by rw [e2, e6], g2.keep _ _ hcode' fun z => ?_⟩
                · show V.int kk = V.int (ks.getD j 0)
                  rw [e5, List.getD_eq_getElem?_getD, List.getElem?_eq_getElem hjk]; rfl
                · obtain ⟨o, ho, nt⟩ := s'.mem z
                  rw [hcode'] at ho; cases ho
                  exact nt trivial
              | exc _ _ => rw [e2] at ek'; cases ek'
              | bad => rw [e2] at ek'; cases ek'
            | _ => cases ek'
          | exc _ _ => rw [e1] at ek'; cases ek'
          | bad => rw [e1] at ek'; cases ek'
        · intro j y H' hy best ⟨as', st', g', s', ek', _⟩
          have hj : j < ds.length := by rw [← lx]; exact (List.getElem?_eq_some_iff.mp hy).1
          have hjk : j < ks.length := by rw [lk]; exact hj
          have e1 : ds.drop xs.length = [] := List.drop_eq_nil_of_le (by omega)
          have e2 : ks.drop xs.length = [] := List.drop_eq_nil_of_le (by omega)
          rw [e1, e2] at ek'
          cases ek'
          obtain ⟨d, hd, rd⟩ := (rxs.grow sr2 g').get hy
          have gd : ∀ m (h : m < ks.length), ks.getD m 0 = ks[m] := fun m h => by rw [List.getD_eq_getElem?_getD, List.getElem?_eq_getElem h]; rfl
          have := minK_spec ks ds j ks[j] d lk (List.getElem?_eq_getElem hjk) hd fun m k' hm => by
            obtain ⟨hmk, em⟩ := List.getElem?_eq_some_iff.mp hm
            have b := best m (by omega)
            simp only [kf, gd j hjk, gd m hmk, em] at b
            exact b
          rw [this] at em
          cases em
          exact qm as' y H' ((gr1.trans gr2).trans g') s' rd
        · obtain ⟨w, H', I', rw', qw⟩ := h
          exact ⟨w, H', I'.pins_of fun p hp => I'.pin p (List.mem_append_right _ (.tail _ hp)), rw', qw⟩
      | exc _ _ => rw [ek] at q; exact q.elim
      | bad => rw [ek] at q; exact q.elim
    · rw [if_neg hc] at q; exact q.elim
  | _ => exact q.elim
end
end G
end L2
end G32_
section G33_
set_option Elab.async false
set_option linter.all false
set_option maxRecDepth 100000
set_option maxHeartbeats 1000000
namespace L2
namespace G
open PySem PySem.Spec PyProof.Rows
/-! ### the law is called -/
section
variable {P : Program} {w : World} {K : PySem.W.Frag} {mg mb : Str → Option Value} {k : Nat} {f a : Addr} {tabs : List (Addr × Addr)} {fd : FuncData} {x : Str} {sp : Sp} {s : Shared} {vs : List Value} {ns : List Int}
/-- what is tracked when the law begins: the script (if the written part does not have it), the tables -/
def H0of (K : PySem.W.Frag) (a : Addr) (scr : Obj) (ns : List Int) (T : List Addr) : Hp := fun b =>
  if b = a then (match K.lookup a with
    | none => some (.frz scr (.lst (ns.map V.int)))
    | some _ => none)
  else if b ∈ T then some (.tbl #[]) else none
theorem H0of_tab {scr : Obj} {T : List Addr} {b : Addr} (hb : b ∈ T) (na : b ≠ a) : H0of K a scr ns T b = some (.tbl #[]) := by
  unfold H0of; rw [if_neg na, if_pos hb]
theorem H0of_cases {scr : Obj} {T : List Addr} {b : Addr} {u : HO} (h : H0of K a scr ns T b = some u) : (b = a ∧ K.lookup a = none ∧ u = .frz scr (.lst (ns.map V.int))) ∨ (b ≠ a ∧ b ∈ T ∧ u = .tbl #[]) := by
  unfold H0of at h
  by_cases e : b = a
  · rw [if_pos e] at h
    cases q : K.lookup a with
    | none => rw [q] at h; exact .inl ⟨e, rfl, (Option.some.inj h).symm⟩
    | some o => rw [q] at h; cases h
  · rw [if_neg e] at h
    by_cases m : b ∈ T
    · rw [if_pos m] at h; exact .inr ⟨e, m, (Option.some.inj h).symm⟩
    · rw [if_neg m] at h; cases h
theorem law_callG (KX : K.In s.heap) (hns : s.heap.Ns mainGlobals mg) (hb : s.heap.Ns builtinsNs mb) (hbb : ∀ x : Str, x ≠ "__name__" → mb x = bootBuiltins x) (hlim : s.heap.NoLimit) (hg : s.gens = #[])
    (hT : ∀ p ∈ tabs, s.heap.get? p.2 = some { cls := .none, data := .fields #[] }) (nT : ∀ p ∈ tabs, K.lookup p.2 = none) (cH : ∀ p ∈ tabs, PySem.W.CodeHd s.heap p.1 p.2)
    (hbm : ∃ (bm : Addr) (ob : Obj), mg "__builtins__" = some (.ref bm) ∧ bm ≠ builtinsNs ∧ s.heap.get? bm = some ob ∧ ob.cls = .type "module" ∧ ob.dict = some builtinsNs ∧ ob.data = .plain)
    (ha : s.heap.get? a = some { cls := .type "list", data := .seq vs.toArray }) (hi : IntsAre vs ns) (hl : ns.length ≤ sizeLine) (hr : Rm k callerA)
    (F : ∀ base : Heap, K.In base → base.Ns mainGlobals mg → (∀ p ∈ tabs, LamX.TabB base mg p.1 p.2) → FnG P w K mg base k f fd [x] sp) (hbind : ∀ (s : Shared) (u : Value), BindsTo s fd ⟨[u], []⟩ [(x, u)])
    (hsp : ∀ H : Hp, (∀ p ∈ tabs, H p.2 = some (.tbl #[])) → SqL K H a (ns.map V.int) → sp [.ref a] H (fun v _ => v = .bl true) XE0) :
    codeAny (model P w) callerA (.call (.ref f) ⟨[.ref a], []⟩) (fun r s' => r = .ok (.ret (.bool true)) ∧ OldK s.heap s'.heap ∧ s'.os = s.os ∧ AllBare s'.gens) s := by
  let T : List Addr := tabs.map (·.2)
  let scr : Obj := { cls := .type "list", data := .seq vs.toArray }
  let H : Hp := H0of K a scr ns T
  have inT : ∀ {b : Addr}, b ∈ T → ∃ p ∈ tabs, p.2 = b := fun h => by
    obtain ⟨p, hp, e⟩ := List.mem_map.mp h; exact ⟨p, hp, e⟩
  have tabO : ∀ {b : Addr}, b ∈ T → s.heap.get? b = some { cls := .none, data := .fields #[] } := fun h => by
    obtain ⟨p, hp, rfl⟩ := inT h; exact hT p hp
  have apart : ∀ {b : Addr}, b ∈ T → b ≠ a := fun h e => by
    have q := tabO h
    rw [e, ha] at q
    have q := congrArg Obj.data (Option.some.inj q)
    cases q
  have atTab : ∀ p ∈ tabs, H p.2 = some (.tbl #[]) := fun p hp => H0of_tab (List.mem_map.mpr ⟨p, hp, rfl⟩) (apart (List.mem_map.mpr ⟨p, hp, rfl⟩))
  have rv : Vals (ns.map V.int) vs := vals_ints hi
  -- what is tracked is the script or a table
  have free : ∀ {b : Addr} {o : Obj}, s.heap.get? b = some o → (∀ its n, o.data ≠ .seq its n) → o.data ≠ .fields #[] → H b = none := fun {b o} e h1 h2 => by
    cases q : H b with
    | none => rfl
    | some u =>
      rcases H0of_cases q with ⟨rfl, _, _⟩ | ⟨_, m, _⟩
      · rw [ha] at e; cases e; exact (h1 _ _ rfl).elim
      · rw [tabO m] at e; cases e; exact (h2 rfl).elim
  have freeD : ∀ {b : Addr} {o : Obj} {es : Array DictEntry} {ep : Nat}, s.heap.get? b = some o → o.data = .dict es ep → H b = none := fun e d => free e (fun _ _ z => by rw [d] at z; cases z) fun z => by rw [d] at z; cases z
  let base : Heap := hidT s.heap H
  have nsIn : ∀ {b : Addr} {m : Str → Option Value}, s.heap.Ns b m → base.Ns b m := fun ⟨o, es, ep, e, d, r⟩ => ⟨o, es, ep, hidT_get e (freeD e d), d, r⟩
  have kIn : K.In base := fun b o e => hidT_get (KX b o e) (by
    cases q : H b with
    | none => rfl
    | some u =>
      rcases H0of_cases q with ⟨rfl, z, _⟩ | ⟨_, m, _⟩
      · rw [z] at e; cases e
      · obtain ⟨p, hp, rfl⟩ := inT m
        rw [nT p hp] at e; cases e)
  have md : L2.Mod K mg base := ⟨kIn, nsIn hns, ⟨mb, nsIn hb, hbb⟩, let ⟨mc, h1, h2⟩ := hlim; ⟨mc, nsIn h1, h2⟩⟩
  have tb : ∀ p ∈ tabs, LamX.TabB base mg p.1 p.2 := fun p hp => by
    refine ⟨?_, ?_, fun z => ?_⟩
    · obtain ⟨o, us, file, tf, flags, tg, inF, text, tt, e1, c1, c2, c3, c4, c5, c6, c7, c8, c9⟩ := cH p hp
      refine ⟨o, us, file, tf, flags, tg, inF, text, tt, hidT_get e1 (free e1 (fun _ _ z => by rw [c2] at z; cases z) fun z => ?_), c1, c2, c3, c4, c5, c6, c7, c8, c9⟩
      rw [c2] at z; cases z; simp at c3
    · obtain ⟨bm, ob, b1, b2, b3, b4, b5, b6⟩ := hbm
      have n1 : bm ≠ mainGlobals := fun q => by
        obtain ⟨o, es, ep, e, d, _⟩ := hns
        rw [q, e] at b3; cases b3; rw [d] at b6; cases b6
      have n2 : bm ≠ p.2 := fun q => by
        rw [q, hT p hp] at b3; cases b3; cases b6
      exact ⟨bm, ob, b1, b2, n1, n2, hidT_get b3 (free b3 (fun _ _ z => by rw [b6] at z; cases z) fun z => by rw [b6] at z; cases z), b4, b5, b6⟩
    · obtain ⟨o, es, ep, e, d, _⟩ := hns
      rw [z, hT p hp] at e; cases e; cases d
  have hok : HOk P w H s.heap := fun b u q => by
    rcases H0of_cases q with ⟨rfl, _, rfl⟩ | ⟨_, m, rfl⟩
    · exact ⟨ha, by rw [List.length_map]; exact hl, vs, _, rv, ha⟩
    · exact tabO m
  have sq : SqL K H a (ns.map V.int) := by
    cases q : K.lookup a with
    | none =>
      refine .inl (.inr ⟨scr, ?_⟩)
      show H0of K a scr ns T a = _
      unfold H0of; rw [if_pos rfl, q]
    | some o =>
      have e := KX a o q
      rw [ha] at e; cases e
      exact .inr ⟨_, vs.toArray, _, q, rfl, rfl, rfl, by rw [List.size_toArray, hi.length]; exact hl, by simpa using rv⟩
  have e0 : Env0 P w K mg base callerA [] s H := ⟨rfl, md, fun b o e => of_hidT e, Nat.le_of_eq (hidT_size _ _), trivial, fun b hb => absurd (show b ∈ ([] : List Addr) from hb) (by simp), hok, .of_eq hg⟩
  refine codeAny_mono ((F base kIn (nsIn hns) tb).run callerA [] s H ⟨[.ref a], []⟩ [.ref a] [.ref a] _ _ hr e0 (hbind s (.ref a)) (.cons rfl .nil) (hsp H atTab sq)) fun r s' h => ?_
  match r, h with
  | .error e, h =>
    obtain ⟨_, _, _, _, _, _, _, _, _, _, _, _, z⟩ := h
    exact z.elim
  | .ok (.ret u), h =>
    obtain ⟨v, H', os, bare, un, hok', rr, q⟩ := h
    have q : v = .bl true := q
    subst q
    obtain rfl : u = Value.bool true := rr
    have stay : ∀ b o, b ∉ T → s.heap.get? b = some o → s'.heap.get? b = some o := fun b o nb e => by
      cases q : H b with
      | none => exact un.keep b o e q (fun z => absurd (show b ∈ ([] : List Addr) from z) (by simp)) (by simp)
      | some u =>
        rcases H0of_cases q with ⟨rfl, _, rfl⟩ | ⟨_, m, _⟩
        · rw [ha] at e; cases e
          exact (hok' _ _ (un.frzs _ _ _ q)).1
        · exact absurd m nb
    have grown : ∀ {b : Addr}, b ∈ T → ∃ more : Array Value, s'.heap.get? b = some { cls := .none, data := .fields more } := fun m => by
      obtain ⟨p, hp, rfl⟩ := inT m
      obtain ⟨more, z⟩ := un.tbls p.2 #[] (atTab p hp)
      exact ⟨_, hok' p.2 _ z⟩
    refine ⟨rfl, ⟨fun b o e => ?_, fun b o e => ?_⟩, os, bare⟩
    · by_cases m : b ∈ T
      · obtain ⟨p, hp, rfl⟩ := inT m
        obtain ⟨more, z⟩ := grown m
        rw [hT p hp] at e; cases e
        exact .inr (.inl ⟨((cH p hp).tab (hT p hp)).isCodeTable, rfl, #[], more, rfl, by rw [Array.empty_append]; exact z⟩)
      · exact .inl (stay b o m e)
    · by_cases m : b ∈ T
      · obtain ⟨more, z⟩ := grown m; exact ⟨_, z⟩
      · exact ⟨o, stay b o m e⟩
end
/-- what is to be known of the law at the head's heap -/
def LawG (l : PySem.W.OpenLaw) (w : World) (K : PySem.W.Frag) (k n : Nat) (x : Str) (mg : Str → Option Value) (f : Addr) (h : Heap) : Prop :=
  ∃ (fd : FuncData) (tabs : List (Addr × Addr)) (sp : Sp), (∀ p ∈ tabs, h.get? p.2 = some { cls := .none, data := .fields #[] }) ∧ (∀ p ∈ tabs, K.lookup p.2 = none) ∧ (∀ p ∈ tabs, PySem.W.CodeHd h p.1 p.2) ∧ (∀ (s : Shared) (u : Value), BindsTo s fd ⟨[u], []⟩ [(x, u)]) ∧
    (∀ (H : Hp) (a : Addr) (ns : List Int), ns.length ≤ n → (∀ z ∈ ns, Builtin.Int.intBits z ≤ 1048576) → (∀ p ∈ tabs, H p.2 = some (.tbl #[])) → SqL K H a (ns.map V.int) → sp [.ref a] H (fun v _ => v = .bl true) XE0) ∧
    ∀ base : Heap, K.In base → base.Ns mainGlobals mg → (∀ p ∈ tabs, LamX.TabB base mg p.1 p.2) → FnG l.prog w K mg base k f fd [x] sp
theorem walk_G {l : PySem.W.OpenLaw} {n k : Nat} {q : Program} {loose : List Str} {XP : (Str → Option Value) → Heap → Prop} {YP : World → Heap → Prop} {d : DefRec} {x : Str} (hn : l.most = some n) (hn2 : n ≤ sizeLine) (hdf : d.params.defaults = []) (hr : Rm k callerA)
    (F : ∀ (w : World) (mg : Str → Option Value) (f : Addr) (h : Heap), YP w h → h.Ns mainGlobals mg → mg d.name = some (.ref f) → ∃ K : PySem.W.Frag, K.In h ∧ LawG l w K k n x mg f h) : PySem.W.WalkO q loose XP YP l.row.toRowW d [] (fun f vs => PySem.call f vs) :=
  Att.attach_callB hn hdf fun w s₀ s₁ mg mb f o pm cd doc a vs ns G Y ho hd hcd hmg hobj hints hlen hbits hg => by
    obtain ⟨K, KX, fd, tabs, sp, hT, nT, C, hb, hsp, hF⟩ := F w mg f _ Y G.T.g hmg
    exact law_callG KX G.T.g G.T.b G.T.builtins G.T.nolimit hg hT nT C G.T.bmain hobj hints (Nat.le_trans hlen hn2) hr hF hb (fun H hH hS => hsp H a ns hlen hbits hH hS)
end G
end L2
end G33_
section G34_
set_option Elab.async false
set_option linter.all false
set_option maxRecDepth 100000
set_option maxHeartbeats 1000000
namespace L2
namespace G
open PySem PySem.Spec PyProof.Rows
/-! ### the law's promise -/
theorem law_at {l : PySem.W.OpenLaw} {w : World} {K : PySem.W.Frag} {k : Nat} {mg : Str → Option Value} {f : Addr} {h : Heap} {fd : FuncData} {fa : List He.Fa} {fn : List He.DefD} {tf : List He.Defn} {ex : PySem.W.Frag → Bool} {φ : List D → M D}
    (X : K.In h) (c : He.SaysX fa fn [] tf ex w h K) (hnd : (tf.map fun p => (He.cT K p).2).Nodup) (htf : ∀ p ∈ tf, p.2 = none) (hb : ∀ (s : Shared) (u : Value), BindsTo s fd ⟨[u], []⟩ [("script", u)])
    (hl : ∀ ns : List Int, ns.length ≤ 63 → (∀ z ∈ ns, Builtin.Int.intBits z ≤ 1048576) → ∃ st', φ [.lst (ns.map .int)] (tf.map fun p => .tbl p.1) = .ok (.bl true) st')
    (hF : ∀ base : Heap, K.In base → base.Ns mainGlobals mg → (∀ p ∈ tf.map (He.cT K), LamX.TabB base mg p.1 p.2) → FnG l.prog w K mg base k f fd ["script"] (spD K 1 φ)) :
    LawG l w K k 63 "script" mg f h := by
  have inT : ∀ p ∈ tf.map (He.cT K), ∃ d ∈ tf, He.cT K d = p := fun p hp => List.mem_map.mp hp
  refine ⟨fd, tf.map (He.cT K), spD K 1 φ, fun p hp => ?_, fun p hp => ?_, fun p hp => ?_, hb, fun H a ns hn hbits hT hS => ?_, hF⟩
  · obtain ⟨d, hd, rfl⟩ := inT p hp; exact c.empty d hd
  · obtain ⟨d, hd, rfl⟩ := inT p hp; exact c.out d hd
  · obtain ⟨d, hd, rfl⟩ := inT p hp; exact PySem.W.codeHd_of_K X (c.hd d hd)
  · have hT' : ∀ d ∈ tf, H (He.cT K d).2 = some (.tbl #[]) := fun d hd => hT _ (List.mem_map.mpr ⟨d, hd, rfl⟩)
    have notTab : ∀ xs, Rd H a (.lst xs) → a ∉ tf.map fun p => (He.cT K p).2 := fun xs r z => by
      obtain ⟨d, hd, e⟩ := List.mem_map.mp z
      have e : (He.cT K d).2 = a := e
      have q := hT' d hd
      rw [e] at q
      rcases r with r | ⟨o, r⟩
      · rw [r] at q; cases q
      · rw [r] at q; cases q
    refine ⟨fun _ => False, tf.map fun p => (He.cT K p).2, tf.map fun p => .tbl p.1, [.lst (ns.map .int)], rfl, fun _ z => z.elim, ⟨hnd, by simp, fun i b cl hb hc => ?_⟩, .cons (.lst (xs := ns.map V.int) ?_ ?_) .nil, ?_⟩
    · rw [List.getElem?_map] at hb hc
      cases q : tf[i]? with
      | none => rw [q] at hb; cases hb
      | some d =>
        rw [q] at hb hc
        cases hb; cases hc
        have hd : d ∈ tf := List.mem_of_getElem? q
        have e : d = (d.1, none) := by rw [← htf d hd]
        refine ⟨by show (He.cT K d).2 = (He.cT K (d.1, none)).2; rw [← e], LamX.TabS.nil (hT' d hd)⟩
    · rcases hS with r | r
      · exact .inl ⟨fun z => z.elim id fun z => notTab _ r z, r⟩
      · exact .inr r
    · clear hS hn hbits
      induction ns with
      | nil => exact .nil
      | cons n ns ih => exact .cons (.int n) ih
    · obtain ⟨st', e⟩ := hl ns hn hbits
      rw [e]
      intro as' v H' _ _ r
      cases r
      rfl
end G
end L2
end G34_
section G35_
set_option Elab.async false
set_option linter.all false
set_option maxRecDepth 100000
set_option maxHeartbeats 1000000
namespace L2
namespace G
open PySem PySem.Spec PyProof.Rows
/-! ### own errors are made and raised -/
section
variable {X : Cx} {e : Expr} {es : List Expr} {ta : TA} {p1 p2 pos : Pos}
/-- C.__init__(self, ..), C an own class under ValueError without an own __init__ -/
theorem pe_ceinit {x0 : Str} {C0 : Addr} {mc : Value} {pl : Sem Bool} (hg : Gl X x0) (hm : X.mg x0 = some (.ref C0)) (r : ClX.CRead X.K C0 mc) (vV : PySem.W.findCls X.K (.ref C0) mc "__init__" = some (.val (.builtin "ValueError.__init__"))) (ha : PA X (e :: es) ta)
    (hdb : (x0 == ("__debug__" : Str)) = false := by decide)
    (hc : eval (.Call (.Attribute (.Name x0 p1) "__init__" p2) (e :: es) [] pos) X.env = (do
      let ov ← eval (.Name x0 p1) X.env
      standAt p2.atName
      let (f, first) ← holding [ov] (getMethod ov "__init__" pl)
      callWith pos f first (backTo pos (starEach (e :: es) X.env)) (backToKw pos (keywordEach [] X.env))) := by rfl)
    (he : starEach (e :: es) X.env = (false, eval e X.env) :: starEach es X.env := by rfl) (hpl : (backTo pos (starEach es X.env)).any (·.1) = false := by rfl) :
    PE X (.Call (.Attribute (.Name x0 p1) "__init__" p2) (e :: es) [] pos) (tVeI X.K ta) := by
  refine ⟨fun pins s σ H Q I h => ?_⟩
  refine PySem.W.methodCall_KW (ld_glob I hg hm ?_ hdb) hc
  refine PySem.W.method_cls I.kIn r.ga (PySem.W.cls_value I.kIn r.rd vV (by decide +kernel) ?_)
  show wpAny _ _ (callWith pos (Value.builtin "ValueError.__init__") [] (backTo pos (starEach (e :: es) X.env)) []) _ _ _
  refine PyProof.Rows.callWith_method1 (thn (ha.run pos pins _ σ H _ (I.tok _) h) fun us s1 ⟨vs, H1, I1, r1, a, C, ws, ev, hl, T, ea, q⟩ => ?_) he hpl
  subst ev
  cases r1 with
  | @cons _ u0 _ ur ra rw' =>
    obtain rfl : u0 = Value.ref a := ra
    have hlen : ur.length ≤ sizeLine := by
      rw [← Paired.length rw', sizeLine_eq]
      omega
    exact oinit_ok T I1 ea hlen fun s' J => ⟨.non, H1, J, rfl, q⟩
end
/-- what __init__(self, f) of the class at C does -/
def spI1 (C : Addr) (f : Str) : Sp := fun vs H Q _ => ∃ a v, vs = [.ref a, v] ∧ H a = some (exo a C none) ∧ ∀ dx, H dx = none → dx ≠ a → Q .non (upd (upd H dx (exd dx [(f, v)])) a (exo a C (some dx)))
/-- .. __init__(self, f, g) -/
def spI2 (C : Addr) (f g : Str) : Sp := fun vs H Q _ => ∃ a v u, vs = [.ref a, v, u] ∧ H a = some (exo a C none) ∧ ∀ dx, H dx = none → dx ≠ a → Q .non (upd (upd H dx (exd dx [(g, u), (f, v)])) a (exo a C (some dx)))
/-- what the text says of an error's class -/
structure ErC (K : PySem.W.Frag) (x : Str) (fs : List Str) : Prop where
  o : OexC K (He.ga K x)
  i : PySem.W.findIn K (.ref (He.ga K x)) "__init__" = some (some (.ref (He.ma K (He.ga K x) "__init__")))
  t : PySem.W.typeIn K (.ref (He.ma K (He.ga K x) "__init__")) = some (.type "function")
  no : ∀ f ∈ fs, PySem.W.findIn K (.ref (He.ga K x)) f = some none
  x : XfC K (He.ga K x)
/-- .. of the class above -/
structure ErB (K : PySem.W.Frag) (x : Str) : Prop where
  r : ClX.CRead K (He.ga K x) (.type "type")
  v : PySem.W.findCls K (.ref (He.ga K x)) (.type "type") "__init__" = some (.val (.builtin "ValueError.__init__"))
section
variable {K : PySem.W.Frag} {C : Addr} {f g z : Str} {H : Hp} {vs : List V} {Q : VK} {E : XK} {N : List Str}
theorem init_fin1 (T : OexC K C) (no : PySem.W.findIn K (.ref C) f = some none) (h : spI1 C f vs H Q E) :
    tSeq (tDrop (tVeI K (tCons (tVar 0) (tCons (tC (.str z)) tNil)))) (tSeq (tOst K f (tVar 0) (tVar 1)) tNext) { nx := fun _ H' => Q .non H', rt := Q } (start N vs) H := by
  obtain ⟨a, v, rfl, ha, q⟩ := h
  refine ⟨.ref a, rfl, a, C, [.str z], rfl, by simp, T, ha, ?_⟩
  exact ⟨v, rfl, .ref a, rfl, a, C, rfl, T, no, .inl ⟨ha, q⟩⟩
end
/-- an error class with one field -/
structure Er1 (P : Program) (w : World) (K : PySem.W.Frag) (mg : Str → Option Value) (base : Heap) (x f : Str) : Prop where
  c : ErC K x [f]
  m : mg x = some (.ref (He.ga K x))
  ex : ∃ fd, FnOk P w K mg base (L2.CX P w) 1 (He.ma K (He.ga K x) "__init__") fd ["self", f] (spI1 (He.ga K x) f) ∧ Binds K fd ["self", f] []
def S.raise (x : Str) (fs : List Str) (r : Env → M (List D)) : SD := fun ρ => bnd (r ρ) fun ds st => .exc ⟨x, fs.zip ds⟩ st
section
variable {X : Cx} {O : List Nat} {Z : ZT} {e : Expr} {fe : Env → M D} {pos p pos' : Pos} {x f : Str}
theorem passes_none : Passes (L2.CX X.prog X.w) X (fun _ _ _ => False) := fun _ _ _ _ _ _ _ c => by
  obtain ⟨_, _, _, _, _, _, _, _, _, _, _, _, z⟩ := c
  exact z.elim
theorem ds_raise1 (F : Er1 X.prog X.w X.K X.mg X.base x f) (hc : X.calm = true) (tk : Takes X (WZ X.K Z)) (hr : Rm 2 X.A) (hg : Gl X x) (ha : DA X O Z [e] (A.cons fe A.nil)) (hdb : (x == ("__debug__" : Str)) = false := by decide)
    (he : starEach [e] X.env = (false, eval e X.env) :: starEach [] X.env := by rfl) (hpl : (backTo pos (starEach [] X.env)).any (·.1) = false := by rfl) :
    DS X O Z (.Raise (some (.Call (.Name x p) [e] [] pos)) none pos') (S.raise x [f] (A.cons fe A.nil)) := by
  obtain ⟨fd, F1, hb⟩ := F.ex
  refine PS.imp (ps_raise hc tk (pmk_oex (dvs := []) F.c.o F.c.i F.c.t F1 hr.rm hb .nil passes_none hg F.m ha hdb he hpl)) fun D σ H ⟨g, ok, q⟩ => ?_
  refine ⟨g, ok, ?_⟩
  have q := Ev.bnd q
  cases er : A.cons fe A.nil g.ρ g.st with
  | exc x st' => rw [er] at q; exact q
  | bad => rw [er] at q; exact q
  | ok ds st' =>
    rw [er] at q
    intro as' vs H' gr s rs
    have hl : ds.length = 1 := alen_cons alen_nil _ _ _ _ er
    have hv : vs.length = 1 := by rw [rs.length, hl]
    obtain ⟨d, rfl⟩ := List.length_eq_one_iff.mp hl
    obtain ⟨v, rfl⟩ := List.length_eq_one_iff.mp hv
    refine ⟨by simp, fun a na => ⟨a, v, rfl, upd_same, fun dx nd ne => ⟨rfl, dx, [(f, v)], upd_same, ?_, ?_, ?_⟩⟩⟩
    · rw [upd_ne ne, upd_same]
    · rw [upd_ne ne] at nd; exact nd
    · have nd' : H' dx = none := by rw [upd_ne ne] at nd; exact nd
      have eH : upd (del (upd (upd (upd H' a (exo a (He.ga X.K x) none)) dx (exd dx [(f, v)])) a (exo a (He.ga X.K x) (some dx))) a) dx (.xd [(f, v)]) = upd H' dx (.xd [(f, v)]) := by
        funext b
        by_cases hb : b = dx
        · subst hb; rw [upd_same, upd_same]
        · rw [upd_ne hb, upd_ne hb]
          by_cases ha : b = a
          · subst ha; rw [del_same, na]
          · rw [del_ne ha, upd_ne ha, upd_ne hb, upd_ne ha]
      rw [eH]
      have sm : Same H' (upd H' dx (.xd [(f, v)])) := fun b o h => by rw [upd_ne (ne_of_none h nd')]; exact h
      have g2 := gr.trans (grow_same (as := as') sm)
      have s2 := s.same sm
      have w2 := ok.wf.grow ok.sr g2 s2
      refine ⟨Ff g.B [] O σ, ⟨x, [(f, d)]⟩, st', as', ⟨rfl, dx, [(f, v)], rfl, upd_same, rfl, ?_⟩, ?_⟩
      · have rs2 := rs.grow s (grow_same (as := as') sm)
        exact rs2.weak fun a o _ z => by
          rcases z with (z | z | z) | z
          · exact .inl z
          · cases z
          · exact .inr (.inr z)
          · exact .inr (.inl z)
      · exact q as' g.ρ σ _ _ (fun _ h => .inl h) w2 s2
end
end G
end L2
end G35_
section G36_
set_option Elab.async false
set_option linter.all false
set_option maxRecDepth 100000
set_option maxHeartbeats 1000000
namespace L2
namespace G
open PySem PySem.Spec PyProof.Rows
/-! ### what may raise, the slots being what they were -/
theorem ExR.grow {K : PySem.W.Frag} {O : List Nat} {B : Addr → Prop} {σ : L2.St} {as as' : List Addr} {H H' : Hp} {st : Store} {cls : Value} {d : Option Addr} {x : Ex} (s : SRep K as st H) (g : Grow as H as' H') (h : ExR K (Ff B as O σ) as H cls d x) : ExR K (Ff B as' O σ) as' H' cls d x := by
  obtain ⟨a, dd, fs, b, c, e, r⟩ := h
  refine ⟨a, dd, fs, b, g.keep dd _ c fun q => ?_, e, r.grow s g⟩
  obtain ⟨i, hi, eq⟩ := List.getElem_of_mem q
  have hi' : i < st.length := by rw [← s.len]; exact hi
  have q := s.at_ i dd st[i] (by rw [List.getElem?_eq_getElem hi, eq]) (List.getElem?_eq_getElem hi')
  cases hc : st[i] with
  | lst xs => rw [hc] at q; obtain ⟨vs, q, _⟩ := q; rw [c] at q; cases q
  | dct t ks xs => rw [hc] at q; obtain ⟨o, vs, q, r, _⟩ := q; rw [c] at q; cases q; rcases r with ⟨_, _, z, _⟩ | ⟨_, _, z, _⟩ <;> cases z
  | tbl y => rw [hc] at q; obtain ⟨_, ps, q, _⟩ := q; rw [c] at q; cases q
def zW (K : PySem.W.Frag) (O : List Nat) (W : WX) (g : Gh) (σ : L2.St) (H : Hp) : Ex → Store → Prop := fun x st' => ∀ as' H' cls d, Grow g.as H as' H' → SRep K as' st' H' → ExR K (Ff g.B as' O σ) as' H' cls d x → W cls d σ H'
def tEx (K : PySem.W.Frag) (O : List Nat) (W : WX) (f : Env → M D) : TE := fun σ H Q => ∃ g : Gh, g.ok K O σ H ∧ Ev (f g.ρ g.st) (fun d st' => ∀ as' v H', Grow g.as H as' H' → SRep K as' st' H' → Rep K (Ff g.B as' O σ) as' H' v d → Q v H') (zW K O W g σ H)
def tSx (K : PySem.W.Frag) (O : List Nat) (W : WX) (f : SD) : TS := fun E σ H => ∃ g : Gh, g.ok K O σ H ∧ Ev (f g.ρ g.st) (fun r st' => ∀ as' σ' H', Step O g.as σ H as' σ' H' → Wf K O g.B g.H0 g.as0 as' r.2 σ' H' → SRep K as' st' H' → match r.1 with
  | .next => E.nx σ' H'
  | .brk => E.bk σ' H'
  | .cont => E.ct σ' H'
  | .ret d => ∀ v, Rep K (fun a => g.B a ∨ a ∈ as') as' H' v d → E.rt v H') (zW K O W g σ H)
def E.appN (φ : List D → M D) (r : Env → M (List D)) : Env → M D := fun ρ => bnd (noexc (r ρ)) fun xs => φ xs
def E.one (f : Env → M D) : Env → M D := fun ρ => bnd (f ρ) fun d => ret (.lst [d])
section
variable {X : Cx} {O : List Nat} {W : WX} {e : Expr} {es : List Expr} {f : Env → M D} {r : Env → M (List D)} {pos p : Pos} {x : Str}
theorem dex_app {n k : Nat} {φ : List D → M D} (F : Dn X x n k φ) (tk : Takes X W) (hr : Rm k X.A) (hg : Gl X x) (ha : DA X O Z0 (e :: es) r) (hl : ∀ ρ s ds s', r ρ s = .ok ds s' → ds.length = n) (hdb : (x == ("__debug__" : Str)) = false := by decide)
    (he : starEach (e :: es) X.env = (false, eval e X.env) :: starEach es X.env := by rfl) (hpl : (backTo pos (starEach es X.env)).any (·.1) = false := by rfl) : PE X (.Call (.Name x p) (e :: es) [] pos) (tEx X.K O W (E.appN φ r)) := by
  obtain ⟨fa, fd, ps, F, hm, hk, hb⟩ := F.ex
  refine PE.imp (pe_callG (E := WE W) F hr hg hm hk hb (fun σ => passAt tk σ) ha hdb he hpl) fun σ H Q ⟨g, ok, q⟩ => ?_
  refine ⟨g, ok, ?_⟩
  have q := Ev.bnd q
  unfold noexc at q
  cases er : r g.ρ g.st with
  | exc x st' => rw [er] at q; exact q.elim
  | bad => rw [er] at q; exact q
  | ok ds st' =>
    rw [er] at q
    intro as' vs H' gr s rs
    have ok' := ok.step gr s
    refine ⟨fun a => g.B a ∨ ownA O σ a, as', st', ds, by rw [rs.length]; exact hl _ _ _ _ er, fun a z => ?_, s, rs.weak fun a o _ z => ?_, ?_⟩
    · rcases z with z | z
      · exact ok'.wf.tr s a (.inl z)
      · exact ok'.wf.tr s a (.inr (.inr z))
    · rcases z with (z | z) | z
      · exact .inl z
      · exact .inr (.inr z)
      · exact .inr (.inl z)
    · refine Ev.mono q (fun d st2 q as2 v H2 g2 s2 rv => q as2 v H2 (gr.trans g2) s2 (rv.weak fun a o _ z => ?_)) fun x st2 z as2 H2 cls d g2 s2 ex => z as2 H2 cls d (gr.trans g2) s2 (ex.weak fun a o _ z => ?_)
      · rcases z with z | z | z
        · exact .inl (.inl z)
        · exact .inr z
        · exact .inl (.inr z)
      · rcases z with z | z | z
        · exact .inl (.inl z)
        · exact .inr z
        · exact .inl (.inr z)
theorem dex_one (h : PE X e (tEx X.K O W f)) (hs : starEach [e] X.env = (false, eval e X.env) :: starEach [] X.env := by rfl) : PE X (.List [e] pos) (tEx X.K O W (E.one f)) := PE.imp (pe_lst (pa_cons h pa_nil hs)) fun σ H Q ⟨g, ok, q⟩ => by
  refine ⟨g, ok, (Ev.bnd q).mono (fun d st' q as' v H' gr s rv => ⟨by rw [sizeLine_eq]; simp, fun p np => ?_⟩) fun _ _ z => z⟩
  have ok' := ok.step gr s
  have nF : ¬ Ff g.B as' O σ p := fun z => by
    obtain ⟨o, z⟩ := ok'.wf.tr s p z
    rw [np] at z; cases z
  exact q as' _ _ (gr.trans (Grow.new np)) (s.new np) (.lst (.inl ⟨nF, .inl upd_same⟩) (.cons (rv.grow s (Grow.new np)) .nil))
theorem dsx_ret (h : PE X e (tEx X.K O W f)) : PSs X [.Return (some e) pos] (tSx X.K O W (S.ret f)) := PSs.imp (pss_one (ps_ret h)) fun D σ H ⟨g, ok, q⟩ =>
  ⟨g, ok, (Ev.bnd q).mono (fun d st' q as' v H' gr s r => q as' σ H' (gr.step s) (ok.wf.grow ok.sr gr s) s v (r.weak fun a o _ z => by
    rcases z with z | z
    · exact .inl z
    · exact .inr (.inl z))) fun _ _ z => z⟩
theorem dsx_expr (h : PE X e (tEx X.K O W f)) (hs : swapsWith e none pos.line X.env = pure false := by rfl) : PSs X [.Expr e pos] (tSx X.K O W (S.expr f)) := PSs.imp (pss_one (ps_expr h hs)) fun D σ H ⟨g, ok, q⟩ =>
  ⟨g, ok, (Ev.bnd q).mono (fun d st' q as' v H' gr s _ => q as' σ H' (gr.step s) (ok.wf.grow ok.sr gr s) s) fun _ _ z => z⟩
theorem dsx_set (i : Nat) {x : Str} {pos' : Pos} (hO : i ∉ O) (hN : X.N.Nodup) (hi : X.N[i]? = some x) (hx : Loc X.env.scope x) (he : PE X e (tEx X.K O W f)) (hs : swapsWith e (some (.Name x pos')) pos.line X.env = pure false := by rfl)
    (hf : X.fn x = true ∨ X.env.scope.names.lookup x = some .local := by first | exact .inl rfl | exact .inr rfl | assumption) : PSs X [.Assign [.Name x pos'] e pos] (tSx X.K O W (S.set i f)) := PSs.imp (pss_one (ps_set hN hi hx he hs hf)) fun D σ H ⟨g, ok, q⟩ =>
  ⟨g, ok, (Ev.bnd q).mono (fun d st' q as' v H' gr s r => q as' _ H' ((gr.step s).trans (Step.set hO _)) ((ok.wf.grow ok.sr gr s).set hO r) s) fun _ _ z => z⟩
end
/-! ### a clause's suite -/
structure HG (K : PySem.W.Frag) (O : List Nat) (i : Nat) (a : Addr) (cls : Value) (d : Option Addr) (g : Gh) (x : Ex) (σ : L2.St) (H : Hp) : Prop where
  ok : g.ok K O σ H
  at_ : σ[i]? = some (some (.ref a))
  ex : ExR K (Ff g.B g.as O σ) g.as H cls d x
theorem HG.step {K : PySem.W.Frag} {O : List Nat} {i : Nat} {a : Addr} {cls : Value} {d : Option Addr} {g : Gh} {x : Ex} {σ : L2.St} {H H' : Hp} {as' : List Addr} {st' : Store} (h : HG K O i a cls d g x σ H) (gr : Grow g.as H as' H') (s : SRep K as' st' H') : HG K O i a cls d (g.at as' st') x σ H' :=
  ⟨h.ok.step gr s, h.at_, h.ex.grow h.ok.sr gr⟩
def tHx (K : PySem.W.Frag) (O : List Nat) (i : Nat) (a : Addr) (cls : Value) (d : Option Addr) (f : Ex → Env → M D) : TE := fun σ H Q => ∃ (g : Gh) (x : Ex), HG K O i a cls d g x σ H ∧ Ev (f x g.ρ g.st) (fun u st' => ∀ as' v H', Grow g.as H as' H' → SRep K as' st' H' → Rep K (Ff g.B as' O σ) as' H' v u → Q v H') fun _ _ => False
def tHA (K : PySem.W.Frag) (O : List Nat) (i : Nat) (a : Addr) (cls : Value) (d : Option Addr) (f : Ex → Env → M (List D)) : TA := fun σ H Q => ∃ (g : Gh) (x : Ex), HG K O i a cls d g x σ H ∧ Ev (f x g.ρ g.st) (fun us st' => ∀ as' vs H', Grow g.as H as' H' → SRep K as' st' H' → Reps K (Ff g.B as' O σ) as' H' vs us → Q vs H') fun _ _ => False
def tH (K : PySem.W.Frag) (O : List Nat) (i : Nat) (a : Addr) (cls : Value) (d : Option Addr) (f : Ex → SD) : TS := fun E σ H => ∃ (g : Gh) (x : Ex), HG K O i a cls d g x σ H ∧ Ev (f x g.ρ g.st) (fun r st' => ∀ as' σ' H', Step O g.as σ H as' σ' H' → Wf K O g.B g.H0 g.as0 as' r.2 σ' H' → SRep K as' st' H' → match r.1 with
  | .next => E.nx σ' H'
  | .brk => E.bk σ' H'
  | .cont => E.ct σ' H'
  | .ret u => ∀ v, Rep K (fun a => g.B a ∨ a ∈ as') as' H' v u → E.rt v H') fun _ _ => False
/-- e.f of an error of the class c -/
def Ex.fld (c f : Str) (x : Ex) : Option D := if x.cls = c then x.fs.lookup f else none
theorem lookup_reps {K : PySem.W.Frag} {F : Addr → Prop} {as : List Addr} {H : Hp} {f : Str} {u : D} : ∀ {fs : List (Str × V)} {us : List (Str × D)}, fs.map (·.1) = us.map (·.1) → Reps K F as H (fs.map (·.2)) (us.map (·.2)) → us.lookup f = some u → ∃ v, fs.lookup f = some v ∧ Rep K F as H v u
  | [], [], _, _, e => by cases e
  | [], _ :: _, h, _, _ => by cases h
  | _ :: _, [], h, _, _ => by cases h
  | (k, v) :: fs, (k', u') :: us, h, r, e => by
    simp only [List.map_cons, List.cons.injEq] at h
    obtain ⟨rfl, h⟩ := h
    cases r with
    | cons rv r =>
      simp only [List.lookup] at e ⊢
      cases q : f == k with
      | true => rw [q] at e; cases e; exact ⟨v, rfl, rv⟩
      | false => rw [q] at e; exact lookup_reps h r e
section
variable {X : Cx} {O : List Nat} {i : Nat} {a : Addr} {oe : Obj} {cls : Value} {d : Option Addr} {pn : List (Addr × Obj)} {n c f : Str} {e : Expr} {es : List Expr} {pos p : Pos} {h : Ex → Env → M D} {r : Ex → Env → M (List D)}
theorem hx_fld (T : XfC X.K (He.ga X.K c)) (hno : PySem.W.findIn X.K (.ref (He.ga X.K c)) f = some none) (hz : L2.Zc cls d oe) (hf : ∃ vs, oe.data = .fields vs) (hN : X.N[i]? = some n) (hv : Vis X.env.scope n) (hd : (n == ("__debug__" : Str)) = false := by decide) (hcd : (n == ("__classdict__" : Str)) = false := by decide)
    (hb : attributeBase (.Name n p) f X.env (eval (.Name n p) X.env) = eval (.Name n p) X.env := by rfl) :
    PE (X.suite a ((a, oe) :: pn)) (.Attribute (.Name n p) f pos) (tHx X.K O i a cls d fun x _ => lift (x.fld c f)) := PE.imp (pe_xf T hno hz hf (pe_var (X := X.suite a ((a, oe) :: pn)) hN hv hd hcd) hb) fun σ H Q ⟨g, x, G, q⟩ => by
  obtain ⟨u, e, q⟩ := q.lift
  unfold Ex.fld at e
  split at e
  case isFalse => cases e
  case isTrue hc =>
    obtain ⟨e1, dd, fs, e2, e3, e4, rs⟩ := G.ex
    obtain ⟨v, lv, rv⟩ := lookup_reps e4 rs e
    exact ⟨.ref a, G.at_, rfl, by rw [e1, hc], dd, fs, v, e2, e3, lv, q g.as v H (Grow.refl _ _) G.ok.sr rv⟩
theorem hx_of {Z : ZT} {fe : Env → M D} (h : DE (X.suite a ((a, oe) :: pn)) O Z e fe) : PE (X.suite a ((a, oe) :: pn)) e (tHx X.K O i a cls d fun _ ρ => noexc (fe ρ)) := PE.imp h fun σ H Q ⟨g, x, G, q⟩ => by
  exact ⟨g, G.ok, Ev.of_noexc q⟩
theorem ha_nil : PA X [] (tHA X.K O i a cls d fun _ _ => ret []) := PA.imp pa_nil fun σ H Q ⟨g, x, G, q⟩ => q g.as [] H (Grow.refl _ _) G.ok.sr .nil
theorem ha_cons (h1 : PE X e (tHx X.K O i a cls d h)) (h2 : PA X es (tHA X.K O i a cls d r)) (hs : starEach (e :: es) X.env = (false, eval e X.env) :: starEach es X.env := by rfl) :
    PA X (e :: es) (tHA X.K O i a cls d fun x ρ => bnd (h x ρ) fun u => bnd (r x ρ) fun us => ret (u :: us)) := PA.imp (pa_cons h1 h2 hs) fun σ H Q ⟨g, x, G, q⟩ =>
  ⟨g, x, G, (Ev.bnd q).mono (fun u st1 q as1 v H1 g1 s1 r1 => ⟨g.at as1 st1, x, G.step g1 s1, (Ev.bnd q).mono (fun us st2 q as2 vs H2 g2 s2 r2 => q as2 _ H2 (g1.trans g2) s2 (.cons (r1.grow s1 g2) r2)) fun _ _ z => z⟩) fun _ _ z => z⟩
theorem hx_tup {x1} (h : PA X es (tHA X.K O i a cls d r)) : PE X (.Tuple es x1 pos) (tHx X.K O i a cls d fun x ρ => bnd (r x ρ) fun us => if us.length ≤ 60 then ret (.tup us) else bad) := PE.imp (pe_tup h) fun σ H Q ⟨g, x, G, q⟩ => by
  refine ⟨g, x, G, (Ev.bnd q).mono (fun us st' q as' vs H' gr s rs => ?_) fun _ _ z => z⟩
  split at q
  case isFalse => exact q.elim
  case isTrue hl => exact ⟨by rw [rs.length, sizeLine_eq]; omega, fun p np => q as' _ _ (gr.trans (Grow.new np)) (s.new np) (.tup upd_same (rs.grow s (Grow.new np)))⟩
theorem hx_lst (h : PA X es (tHA X.K O i a cls d r)) : PE X (.List es pos) (tHx X.K O i a cls d fun x ρ => bnd (r x ρ) fun us => if us.length ≤ 60 then ret (.lst us) else bad) := PE.imp (pe_lst h) fun σ H Q ⟨g, x, G, q⟩ => by
  refine ⟨g, x, G, (Ev.bnd q).mono (fun us st' q as' vs H' gr s rs => ?_) fun _ _ z => z⟩
  split at q
  case isFalse => exact q.elim
  case isTrue hl =>
    refine ⟨by rw [rs.length, sizeLine_eq]; omega, fun p np => ?_⟩
    have ok' := G.ok.step gr s
    have nF : ¬ Ff g.B as' O σ p := fun z => by
      obtain ⟨o, z⟩ := ok'.wf.tr s p z
      rw [np] at z; cases z
    exact q as' _ _ (gr.trans (Grow.new np)) (s.new np) (.lst (.inl ⟨nF, .inl upd_same⟩) (rs.grow s (Grow.new np)))
theorem hs_ret (h1 : PE X e (tHx X.K O i a cls d h)) : PSs X [.Return (some e) pos] (tH X.K O i a cls d fun x => S.ret (h x)) := PSs.imp (pss_one (ps_ret h1)) fun D σ H ⟨g, x, G, q⟩ =>
  ⟨g, x, G, (Ev.bnd q).mono (fun u st' q as' v H' gr s r => q as' σ H' (gr.step s) (G.ok.wf.grow G.ok.sr gr s) s v (r.weak fun a o _ z => by
    rcases z with z | z
    · exact .inl z
    · exact .inr (.inl z))) fun _ _ z => z⟩
theorem hs_set (j : Nat) {x : Str} {pos' : Pos} (hO : j ∉ O) (hN : X.N.Nodup) (hi : X.N[j]? = some x) (hx : Loc X.env.scope x) (he : PE X e (tHx X.K O i a cls d h)) (hs : swapsWith e (some (.Name x pos')) pos.line X.env = pure false := by rfl)
    (hf : X.fn x = true ∨ X.env.scope.names.lookup x = some .local := by first | exact .inl rfl | exact .inr rfl | assumption) : PSs X [.Assign [.Name x pos'] e pos] (tH X.K O i a cls d fun x => S.set j (h x)) := PSs.imp (pss_one (ps_set hN hi hx he hs hf)) fun D σ H ⟨g, x, G, q⟩ =>
  ⟨g, x, G, (Ev.bnd q).mono (fun d st' q as' v H' gr s r => q as' _ H' ((gr.step s).trans (Step.set hO _)) ((G.ok.wf.grow G.ok.sr gr s).set hO r) s) fun _ _ z => z⟩
end
/-! ### try .. except C as n -/
def unset (i : Nat) (r : Res (Fl × Env)) : Res (Fl × Env) := match r with
  | .ok (fl, ρ) st => .ok (fl, List.set ρ i none) st
  | _ => .bad
def catch1 (tab : List (Str × Bool)) (i : Nat) (h : Ex → SD) (x : Ex) (ρ : Env) (st' : Store) : Res (Fl × Env) := match tab.lookup x.cls with
  | some true => if i < ρ.length then unset i (h x (List.set ρ i none) st') else .bad
  | some false => .exc x st'
  | none => .bad
def tried (r : Res (Fl × Env)) (k : Ex → Store → Res (Fl × Env)) : Res (Fl × Env) := match r with
  | .exc x st' => k x st'
  | r => r
def S.try1 (tab : List (Str × Bool)) (i : Nat) (b : SD) (h : Ex → SD) : SD := fun ρ st => tried (b ρ st) fun x st' => catch1 tab i h x ρ st'
/-- what the clause of C says of the classes in tab -/
def TabX (K : PySem.W.Frag) (c : Str) (tab : List (Str × Bool)) : Prop := ∀ p ∈ tab, PySem.W.exmOne K (.ref (He.ga K p.1)) (.ref (He.ga K c)) = some p.2
section
variable {X : Cx} {O : List Nat} {Z : ZT} {n c : Str} {i : Nat} {body suite : List Stmt} {b₀ : Stmt} {np pos pos' : Pos} {tab : List (Str × Bool)} {b : SD} {h : Ex → SD}
theorem ds_try1 (hs : X.stack = X.env :: X.outer) (hf : X.env.frame = some X.env.locals) (hN : X.N.Nodup) (hO : i ∉ O) (hi : X.N[i]? = some n) (hln : X.env.kindOf n = some .local) (hg : Gl X c) (hm : X.mg c = some (.ref (He.ga X.K c))) (hd : (c == ("__debug__" : Str)) = false)
    (ht : TabX X.K c tab) (tk : Takes X (WZ X.K Z))
    (hb : ∀ (W : WX) (pn : List (Addr × Obj)) (xe : Value → Shared → Prop), Takes (X.tr pn xe) W → PassesOwn (model X.prog X.w) X.A X.env xe → PSs (X.tr pn xe) body (tSx X.K O W b))
    (hsu : ∀ (a : Addr) (oe : Obj) (cls : Value) (d : Option Addr) (pn : List (Addr × Obj)), L2.Zc cls d oe → (∃ vs, oe.data = .fields vs) → PSs (X.suite a ((a, oe) :: pn)) (b₀ :: suite) (tH X.K O i a cls d h)) :
    DS X O Z (.Try body [.ExceptHandler (some (.Name c np)) (some n) (b₀ :: suite) pos'] [] [] pos) (S.try1 tab i b h) := by
  refine PS.imp (ps_try_as hs hf hN hi hln ⟨hg, hd, .inl hm⟩ tk hb hsu) fun D σ H ⟨g, ok, q⟩ => ⟨g, ok, ?_⟩
  have q : Ev (tried (b g.ρ g.st) fun x st' => catch1 tab i h x g.ρ st') _ _ := q
  cases eb : b g.ρ g.st with
  | ok r st' => rw [eb] at q; exact q
  | bad => rw [eb] at q; exact q
  | exc x st' =>
    rw [eb] at q
    have q : Ev (catch1 tab i h x g.ρ st') _ _ := q
    intro as' H' cls d gr s ex
    have ok' := ok.step gr s
    have ex0 := ex
    obtain ⟨ec, _⟩ := ex0
    unfold catch1 at q
    cases el : tab.lookup x.cls with
    | none => rw [el] at q; exact q.elim
    | some bb =>
      rw [el] at q
      have hx : PySem.W.exmOne X.K cls (.ref (He.ga X.K c)) = some bb := by rw [ec]; exact ht _ (PySem.mem_of_lookup el)
      refine ⟨bb, hx, fun eb => ?_, fun eb => ?_⟩
      · subst eb
        intro a na
        have w := ok'.wf.drop (i := i) hO (some (.ref a))
        dsimp only at q
        split at q
        case isFalse => exact q.elim
        case isTrue hlt =>
          refine ⟨g.on as' (g.ρ.set i none) st', x, ⟨⟨w, s⟩, ?_, ?_⟩, ?_⟩
          · rw [List.getElem?_set_self (by rw [ok.wf.len]; exact hlt)]
          · show ExR X.K (Ff g.B as' O (σ.set i (some (.ref a)))) as' H' cls d x
            rw [ff_set hO]; exact ex
          · show Ev (h x (g.ρ.set i none) st') _ _
            cases eh : h x (g.ρ.set i none) st' with
            | bad => rw [eh] at q; exact q.elim
            | exc y st2 => rw [eh] at q; exact q.elim
            | ok r st2 =>
              rw [eh] at q
              obtain ⟨fl, ρ2⟩ := r
              have q : ∀ as2 σ2 H2, Step O g.as σ H as2 σ2 H2 → Wf X.K O g.B g.H0 g.as0 as2 (List.set ρ2 i none) σ2 H2 → SRep X.K as2 st2 H2 → _ := q
              intro as2 σ2 H2 sp2 w2 s2
              have sp0 : Step O g.as σ H as' (σ.set i (some (.ref a))) H' := (gr.step s).trans (Step.set hO _)
              have w3 := w2.drop (i := i) hO none
              have sp3 := (sp0.trans sp2).trans (Step.set (i := i) hO none)
              cases fl with
              | next => exact q as2 _ H2 sp3 w3 s2
              | brk => exact q as2 _ H2 sp3 w3 s2
              | cont => exact q as2 _ H2 sp3 w3 s2
              | ret u => exact q as2 _ H2 sp3 w3 s2
      · subst eb
        refine ⟨fun a => Ff g.B [] O σ a, x, st', as', ex.weak fun a o _ z => ?_, q as' g.ρ σ H' _ (fun _ h => .inl h) ok'.wf s⟩
        rcases z with (z | z | z) | z
        · exact .inl z
        · cases z
        · exact .inr (.inr z)
        · exact .inr (.inl z)
end
end G
end L2
end G36_
section G37_
set_option Elab.async false
set_option linter.all false
set_option maxRecDepth 100000
set_option maxHeartbeats 1000000
namespace L2
namespace G
open PySem PySem.Spec PyProof.Rows
section
variable {X : Cx} {O : List Nat} {Z : ZT} {o e : Expr} {fo fe : Env → M D} {apos cpos : Pos}
/-! ### a frozen tuple is made -/
theorem call_tuple_frz : CallR X (.type "tuple") (fun xs H Q => ∃ p ys, xs = [.ref p] ∧ SqL X.K H p ys ∧ ∀ (l : Addr) (o : Obj), o.cls = .type "tuple" → o.dict = none → H l = none → Q (.ref l) (upd H l (.frz o (.tup ys)))) := by
  intro pins s σ H xs us Q I r h
  obtain ⟨p, ys, rfl, hq, q⟩ := h
  obtain ⟨u, rfl, rx⟩ := vals1 r
  cases rx
  obtain ⟨its, r', pl, hz⟩ := I.list hq
  have hlen := r'.length
  refine call_tuple_list pl.isList (fun h' kp => ?_) (by simp only [List.size_toArray] <;> omega)
  have I1 : Inv X pins σ H { s with heap := h' } := I.kept (t' := s.toks) kp
  have I2 : Inv X pins σ (upd H h'.objs.size (.frz { cls := .type "tuple", data := .seq its.toArray } (.tup ys))) { s with heap := h'.push { cls := .type "tuple", data := .seq its.toArray } } :=
    I1.laid (t' := s.toks) (fun b o e => Heap.get?_push_of_some _ e) (Nat.le_refl _) (show ObjOk X.prog X.w _ _ _ (.frz _ (.tup ys)) from ⟨Heap.get?_push_size _ rfl, hz, its, r', IsTup.new _ _⟩)
  exact ⟨.ref h'.objs.size, _, I2, rfl, q _ _ rfl rfl (I1.hok.fresh (Nat.le_refl _))⟩
def tupleF : List D → Option D
  | [.lst ds] => some (.ftup ds)
  | _ => none
theorem b_tupleF : Bl X (.type "tuple") tupleF := ⟨_, call_tuple_frz, fun F as H xs ds d Q tr r e q => by
  unfold tupleF at e
  split at e
  · cases e
    obtain ⟨v, rfl, rv⟩ := repTs1 r
    obtain ⟨a, us, rfl, s, rs⟩ := rv.t_lst
    exact ⟨a, us, rfl, s, fun p o hc hd np => q _ _ (same_new np) (.ftup (.inl ⟨o, hc, hd, upd_same⟩) (rs.new np))⟩
  · cases e⟩
/-! ### t.index(x) -/
def tIdxT (K : PySem.W.Frag) (to te : TE) : TE := fun σ H Q => to σ H fun x H1 => ∃ (a : Addr) (ys : List V), x = .ref a ∧ FT K H1 a ys ∧ te σ H1 fun y H2 => ∃ (ys : List V) (d : PyData) (ds : List PyData) (j : Nat) (z : PyData), SqT K H2 a ys ∧ DpAll K H2 ys ds ∧ Dp K H2 y d ∧
  SeqAt.shaped (.tuple ds) = true ∧ SeqAt.shaped d = true ∧ ds[j]? = some z ∧ PyData.eqv z d = true ∧ (∀ (m : Nat) (z' : PyData), m < j → ds[m]? = some z' → PyData.eqv z' d = false) ∧ Q (.int (j : Nat)) H2
theorem FT.is {pins : List (Addr × Obj)} {σ : L2.St} {H : Hp} {s : Shared} {a : Addr} {xs : List V} (I : Inv X pins σ H s) (h : FT X.K H a xs) : ∃ ob, s.heap.get? a = some ob ∧ ob.cls = .type "tuple" ∧ ob.dict = none := by
  rcases h with ⟨o, c, d, h⟩ | ⟨o, its, n, h1, h2, h3, _⟩
  · exact ⟨o, (I.hok a _ h).1, c, d⟩
  · exact ⟨o, I.kIn a o h1, h2, h3⟩
theorem pe_idxT {to te : TE} (hu : X.A.units + 65 < cLine) (ho : PE X o to) (he : PE X e te) (hbase : attributeBase o "index" X.env (eval o X.env) = eval o X.env := by rfl)
    (hfew : ((backTo cpos (starEach [e] X.env)).all (fun x => !x.1) && (backToKw cpos (keywordEach [] X.env)).all (fun x => x.1.isSome)
      && decide ([e].length + ([] : List Keyword).length + (if ([] : List Keyword).isEmpty then 0 else 1) < 30)) = true := by rfl)
    (hline : (apos.endLine == cpos.line) = true := by rfl) (hs : starEach [e] X.env = (false, eval e X.env) :: starEach [] X.env := by rfl) (hplain : (backTo cpos (starEach [] X.env)).any (·.1) = false := by rfl) :
    PE X (.Call (.Attribute o "index" apos) [e] [] cpos) (tIdxT X.K to te) := by
  refine ⟨fun pins s σ H Q I h => ?_⟩
  refine wpAny_Call_method_late hbase hfew hline rfl (thn (ho.run pins s σ H _ I h) fun v s1 ⟨x, H1, I1, r1, a, ys, ex, ft, q1⟩ => ?_)
  subst ex
  obtain rfl : v = Value.ref a := r1
  obtain ⟨ob, hob, hc, hd⟩ := ft.is I1
  refine ⟨"tuple", "tuple.index", PySem.F.plainAttrs_tuple, PySem.F.slot_tuple_index, PySem.F.type_tuple_index, ⟨ob, hob, hc⟩, fun b e => by cases e; exact ⟨ob, hob, hd⟩, ?_⟩
  have ha : PA X [e] (tCons te tNil) := pa_cons he pa_nil hs
  have hA := ha.run cpos pins s1 σ H1 (fun vs H2 => match vs with
    | [y] => ∃ (ys : List V) (d : PyData) (ds : List PyData) (j : Nat) (z : PyData), SqT X.K H2 a ys ∧ DpAll X.K H2 ys ds ∧ Dp X.K H2 y d ∧
      SeqAt.shaped (.tuple ds) = true ∧ SeqAt.shaped d = true ∧ ds[j]? = some z ∧ PyData.eqv z d = true ∧ (∀ (m : Nat) (z' : PyData), m < j → ds[m]? = some z' → PyData.eqv z' d = false) ∧ Q (.int (j : Nat)) H2
    | _ => False) I1 q1
  rw [hs] at hA ⊢
  refine Calls.callWith_builtin (by show (false || (backTo cpos (starEach [] X.env)).any (·.1)) = false; rw [hplain] <;> rfl) (Calls.evalArgs_plain ?_)
  refine thn hA fun us s2 ⟨vs, H2, I2, r2, q⟩ => ?_
  match vs, r2, q with
  | [y], .cons (b := uy) ry .nil, ⟨ys2, d, ds, j, z, hs2, ha, hy, sl, sd, hz, hzj, hno, q⟩ =>
    obtain ⟨bs, r1⟩ := Dp.reads I2 d y uy hy ry
    have hxs : PyData.canLayAll0 ds = true := SeqAt.canLay_of_shaped sl
    have hroom : X.A.units + 1 + min (PyData.depthAll ds) d.depth < cLine := room_in_shaped sd hu
    obtain ⟨its, rv, pl, hlen⟩ := I2.tuple hs2
    obtain ⟨⟨cls, dd, data, sls⟩, ho, hc, n, hdt⟩ := pl
    simp only at hc hdt
    subst hc hdt
    obtain ⟨as, h4⟩ := Dp.readsAll I2 ds _ its ha rv
    have hn : its.length = ds.length := SeqAt.ReadsAll.length ds its as h4
    have hmap : its.map (SeqAt.readOf s2.heap) = ds := SeqAt.readsAll_map ds its as hxs h4
    obtain ⟨hjd, _⟩ := List.getElem?_eq_some_iff.mp hz
    have hjl : j < its.length := by omega
    have hj : j < its.toArray.size := by simpa using hjl
    have at_ : ∀ (m : Nat) (hm : m < its.toArray.size) (z' : PyData), ds[m]? = some z' → SeqAt.readOf s2.heap its.toArray[m] = z' := by
      intro m hm z' hz'
      have hml : m < its.length := by simpa using hm
      rw [← hmap, List.getElem?_map, List.getElem?_eq_getElem hml] at hz'
      have e1 : SeqAt.readOf s2.heap its[m] = z' := Option.some.inj (show some (SeqAt.readOf s2.heap its[m]) = some z' from hz')
      simpa using e1
    refine call_meets PySem.F.slot_tuple_index ⟨_, ho, rfl⟩ PySem.F.entry_tuple_index (PySem.F.args_tuple_index_2 _ _) (TI.tuple_indexAt a its.toArray n dd sls uy (fun u => PyData.eqv (SeqAt.readOf s2.heap u) d) j hj ?_ ?_)
      ⟨ho, SeqAt.items_eqAt (vs := its.toArray) (show ReadsAll s2.heap its.toArray.toList ds as from h4) r1 hxs (SeqAt.canLay_of_shaped sd) hroom, ?_⟩
    · show PyData.eqv (SeqAt.readOf s2.heap its.toArray[j]) d = true
      rw [at_ j hj z hz]
      exact hzj
    · intro m hm hmj
      have hmd : m < ds.length := by omega
      have hz' : ds[m]? = some ds[m] := List.getElem?_eq_getElem hmd
      show PyData.eqv (SeqAt.readOf s2.heap its.toArray[m]) d = false
      rw [at_ m hm _ hz']
      exact hno m _ hmj hz'
    · exact ⟨.int (j : Nat), H2, I2.tok _, ⟨_, rfl⟩, q⟩
def idxD (ds : List D) (y : D) : Option Nat := ds.findIdx? fun z => PyData.eqv z.py y.py
def idxE (ds : List D) (y : D) : Option D := if D.okds 60 ds && y.okd 60 then (idxD ds y).map fun j => .int (j : Nat) else none
def E.idxT (fo fe : Env → M D) : Env → M D := fun ρ => bnd (fo ρ) fun d => match d with
  | .ftup ds => bnd (fe ρ) fun y => lift (idxE ds y)
  | _ => bad
theorem pys_get {ds : List D} {j : Nat} : (D.pys ds)[j]? = ds[j]?.map D.py := by
  induction ds generalizing j with
  | nil => simp [D.pys]
  | cons d ds ih =>
    cases j with
    | zero => simp [D.pys]
    | succ j => simp [D.pys, ih]
theorem dn_idxT (hu : X.A.units + 65 < cLine) (ho : DU X O Z o fo) (he : DU X O Z e fe) (hbase : attributeBase o "index" X.env (eval o X.env) = eval o X.env := by rfl)
    (hfew : ((backTo cpos (starEach [e] X.env)).all (fun x => !x.1) && (backToKw cpos (keywordEach [] X.env)).all (fun x => x.1.isSome)
      && decide ([e].length + ([] : List Keyword).length + (if ([] : List Keyword).isEmpty then 0 else 1) < 30)) = true := by rfl)
    (hline : (apos.endLine == cpos.line) = true := by rfl) (hs : starEach [e] X.env = (false, eval e X.env) :: starEach [] X.env := by rfl) (hplain : (backTo cpos (starEach [] X.env)).any (·.1) = false := by rfl) :
    DN X O Z (.Call (.Attribute o "index" apos) [e] [] cpos) (E.idxT fo fe) := PE.imp (pe_idxT hu ho he hbase hfew hline hs hplain) fun σ H Q ⟨g, ok, q⟩ => by
  refine ⟨g, ok, (Ev.bnd q).mono (fun d st1 q as1 v H1 g1 s1 r1 => ?_) fun _ _ z => z⟩
  cases d with
  | ftup ds =>
    obtain ⟨a, ys, rfl, ft, rs⟩ := r1.t_ftup
    refine ⟨a, ys, rfl, ft, g.at as1 st1, ok.step g1 s1, (Ev.bnd q).mono (fun y st2 q as2 u H2 g2 s2 r2 => ?_) fun _ _ z => z⟩
    obtain ⟨d', e, q⟩ := q.lift
    unfold idxE at e
    split at e
    case isFalse => cases e
    case isTrue hok =>
      simp only [Bool.and_eq_true] at hok
      rw [Option.map_eq_some_iff] at e
      obtain ⟨j, ej, rfl⟩ := e
      have r3 := r1.grow s1 g2
      obtain ⟨a', ys', ea, ft', rs'⟩ := r3.t_ftup
      cases ea
      unfold idxD at ej
      rw [List.findIdx?_eq_some_iff_getElem] at ej
      obtain ⟨hj, h1, h2⟩ := ej
      have sh : SeqAt.shaped (.tuple (D.pys ds)) = true := by
        have := D.shaped (n := 61) (d := .ftup ds) (by simpa [D.okd] using hok.1) (by decide)
        simpa only [D.py] using this
      refine ⟨ys', y.py, D.pys ds, j, ds[j].py, ft'.sq, rs'.dp hok.1, r2.dp hok.2, sh, D.shaped hok.2 (by decide), ?_, h1, fun m z' hm hz => ?_, q as2 _ H2 (g1.trans g2) s2 (.sca (.int _) fun p z => nomatch z) fun p z => nomatch z⟩
      · rw [pys_get, List.getElem?_eq_getElem hj]; rfl
      · rw [pys_get, List.getElem?_eq_getElem (by omega)] at hz
        cases hz
        have := h2 m hm
        simpa using this
  | _ => exact q.elim
end
end G
end L2
end G37_
section G38_
set_option Elab.async false
set_option linter.all false
set_option maxRecDepth 100000
set_option maxHeartbeats 1000000
namespace L2
namespace G
open PySem PySem.Spec PyProof.Rows
/-! ### name = {k: v for ..} on one line, the name a local -/
theorem sw_trueD {kx vx : Expr} {gs : List Comprehension} {scope : Scope} {pos py : Pos} {y : Str} {l : Nat} {env : PySem.Env} (hk : env.scope.kind = .function) (hy : env.scope.names.lookup y = some .local) (hl : (py.line == pos.line) = true)
    (ha : (scope.names.any fun (n, k) => n == y && (k == .local || k == .cell)) = false) : swapsWith (.DictComp kx vx gs scope pos) (some (.Name y py)) l env = pure true := by
  have ky : env.kindOf y = some .local := hy
  have hb : env.blockKind = .function := by unfold Env.blockKind; rw [hk]; rfl
  unfold swapsWith
  simp only [hb, ky, ha, Expr.pos, hl]
  rfl
section
variable {X : Cx} {O : List Nat} {Z : ZT} {tg iter kx vx : Expr} {ifs : List Expr} {fk fv : Env → M D} {fi : Env → M (List D)} {fc : Env → M Bool} {t : D → Env → Option Env} {pos : Pos} {scope : Scope} {own : List (Str × Nat)}
theorem ps_setDcT {i : Nat} {y : Str} {py spos : Pos} {wi : TI} {g : TG} {tt : TT} {tk tv : TE} (hu : X.A.units + 1 < cLine) (hc : X.calm = true) (hN : X.N.Nodup) (hy : X.N[i]? = some y) (hyl : X.env.scope.names.lookup y = some .local)
    (hsw : swapsWith (.DictComp kx vx [⟨tg, iter, ifs, 0⟩] scope pos) (some (.Name y py)) spos.line X.env = pure true) (hi : PI X tg iter wi) (ok : BlkOk X.N X.env.scope scope own)
    (hg : ∀ (s : Shared) (H : Hp) (C : Addr) (cl : List (Str × Addr)) (fp : List Addr), PG (X.blk s H scope (compEnvC scope cl C X.env) fp) tg g) (ht : ∀ (s : Shared) (H : Hp) (C : Addr) (cl : List (Str × Addr)) (fp : List Addr), PTs (X.blk s H scope (compEnvC scope cl C X.env) fp) ifs tt)
    (hk : ∀ (s : Shared) (H : Hp) (C : Addr) (cl : List (Str × Addr)) (fp : List Addr), PE (X.blk s H scope (compEnvC scope cl C X.env) fp) kx tk)
    (he : ∀ (s : Shared) (H : Hp) (C : Addr) (cl : List (Str × Addr)) (fp : List Addr), PE (X.blk s H scope (compEnvC scope cl C X.env) fp) vx tv) (hs : ∀ x, foldedSetIterable iter X.env x = pure x := by intro _; rfl) :
    PS X (.Assign [.Name y py] (.DictComp kx vx [⟨tg, iter, ifs, 0⟩] scope pos) spos) (tAsg (tDcT wi g tt tk tv (own.map (·.2))) (gName i)) := by
  refine ⟨fun pins s σ H D I h => ?_⟩
  rw [exec_Assign_Name_used _ _ _ _ hsw]
  refine wpAny_bind (wpAny_standAt (wpAny_bind ?_))
  show wpAny _ X.A (do let _ ← comprehension (.DictComp kx vx [⟨tg, iter, ifs, 0⟩] scope pos) scope X.env (firstIterPos [⟨tg, iter, ifs, 0⟩] pos) newDict false (eval iter X.env) (some (assign (.Name y py) X.env))) _ _ s
  have h : tDcT wi g tt tk tv (own.map (·.2)) σ H (fun x H1 => gName i x σ H1 D.nx) := h
  refine wpAny_bind (thn (dc_coreT (Qf := fun _ s' => SP X pins D .next s') hu hc hN I hi ok hg ht hk he hs h fun L C s' m H' I' q hn f => ?_) fun _ s' hq => wpAny_pure (wpAny_pure hq))
  show wpAny _ _ (assign (.Name y py) X.env (.ref L)) _ _ _
  refine wpAny_assign_Name (store_ok2 (v := V.ref L) I' hN hy (.inl hyl) rfl (fun s2 I2 ⟨a, sb, ha⟩ => ?_) (.inr hyl))
  obtain ⟨f0, f1, f2, f3, f4, f5⟩ := f
  have haC : C ≠ a := by
    rcases ha with z | z
    · rw [z]; exact f1
    · exact fun e => f4 y a z e.symm
  refine ⟨m, hn.sameBut sb haC, fun h3 sb3 => ?_⟩
  exact ⟨_, H', I2.turned (t' := s2.toks) (fun b o hb e => (sb3.2 b hb).trans e) f0 f1 f3 f4 f5, q⟩
theorem ds_setDcompT (i : Nat) {y : Str} {py spos : Pos} (hyO : i ∉ O) (hu : X.A.units + 1 < cLine) (hc : X.calm = true) (hN : X.N.Nodup) (hy : X.N[i]? = some y) (hyl : X.env.scope.names.lookup y = some .local)
    (hsw : swapsWith (.DictComp kx vx [⟨tg, iter, ifs, 0⟩] scope pos) (some (.Name y py)) spos.line X.env = pure true) (hi : DIc X O Z tg iter fi) (ok : BlkOk X.N X.env.scope scope own) (hO : ∀ i ∈ own.map (·.2), i ∉ O)
    (hg : ∀ (s : Shared) (H : Hp) (C : Addr) (cl : List (Str × Addr)) (fp : List Addr), DG (X.blk s H scope (compEnvC scope cl C X.env) fp) O (own.map (·.2)) tg t) (ht : ∀ (s : Shared) (H : Hp) (C : Addr) (cl : List (Str × Addr)) (fp : List Addr), DTs (X.blk s H scope (compEnvC scope cl C X.env) fp) O Z ifs fc)
    (hk : ∀ (s : Shared) (H : Hp) (C : Addr) (cl : List (Str × Addr)) (fp : List Addr), DE (X.blk s H scope (compEnvC scope cl C X.env) fp) O Z kx fk)
    (he : ∀ (s : Shared) (H : Hp) (C : Addr) (cl : List (Str × Addr)) (fp : List Addr), DE (X.blk s H scope (compEnvC scope cl C X.env) fp) O Z vx fv) (hs : ∀ x, foldedSetIterable iter X.env x = pure x := by intro _; rfl) :
    DS X O Z (.Assign [.Name y py] (.DictComp kx vx [⟨tg, iter, ifs, 0⟩] scope pos) spos) (S.set i (E.dcomp true fi (own.map (·.2)) t fc fk fv)) :=
  PS.imp (ps_setDcT hu hc hN hy hyl hsw hi ok hg ht hk he hs) fun D σ H ⟨g, ok, q⟩ => by
    refine dcomp_finT (X := X) (Z := Z) hO ok ((Ev.bnd q).mono (fun d st' q as' v H' gr s r n => ?_) fun _ _ z => z)
    have nF : ∀ p, v = .ref p → ¬ Ff g.B as' O σ p := fun p e z => by
      obtain ⟨n1, n2⟩ := n p e
      rcases z with z | z | ⟨i, hi, z⟩
      · obtain ⟨o, z⟩ := ok.wf.trB p z; rw [n1] at z; cases z
      · exact n2 z
      · obtain ⟨_, _, _, o, z, _⟩ := ok.wf.slot i p hi z; rw [n1] at z; cases z
    have r' : Rep X.K (Ff g.B as' O σ) as' H' v d := by
      cases r with
      | lst h r => exact .lst (.inl ⟨nF _ rfl, .inl h⟩) (r.weak fun _ _ _ z => .inl z)
      | dct h o r => exact .dct (nF _ rfl) (.inl h) o (r.weak fun _ _ _ z => .inl z)
      | sca r _ => exact r.weak fun _ _ _ z => .inl z
    exact q as' _ H' ((gr.step s).trans (Step.set hyO _)) ((ok.wf.grow ok.sr gr s).set hyO r') s
theorem ds_setDcompTN (i : Nat) {y : Str} {py spos : Pos} (hyO : i ∈ O) (hu : X.A.units + 1 < cLine) (hc : X.calm = true) (hN : X.N.Nodup) (hy : X.N[i]? = some y) (hyl : X.env.scope.names.lookup y = some .local)
    (hsw : swapsWith (.DictComp kx vx [⟨tg, iter, ifs, 0⟩] scope pos) (some (.Name y py)) spos.line X.env = pure true) (hi : DIc X O Z tg iter fi) (ok : BlkOk X.N X.env.scope scope own) (hO : ∀ i ∈ own.map (·.2), i ∉ O)
    (hg : ∀ (s : Shared) (H : Hp) (C : Addr) (cl : List (Str × Addr)) (fp : List Addr), DG (X.blk s H scope (compEnvC scope cl C X.env) fp) O (own.map (·.2)) tg t) (ht : ∀ (s : Shared) (H : Hp) (C : Addr) (cl : List (Str × Addr)) (fp : List Addr), DTs (X.blk s H scope (compEnvC scope cl C X.env) fp) O Z ifs fc)
    (hk : ∀ (s : Shared) (H : Hp) (C : Addr) (cl : List (Str × Addr)) (fp : List Addr), DE (X.blk s H scope (compEnvC scope cl C X.env) fp) O Z kx fk)
    (he : ∀ (s : Shared) (H : Hp) (C : Addr) (cl : List (Str × Addr)) (fp : List Addr), DE (X.blk s H scope (compEnvC scope cl C X.env) fp) O Z vx fv) (hs : ∀ x, foldedSetIterable iter X.env x = pure x := by intro _; rfl) :
    DS X O Z (.Assign [.Name y py] (.DictComp kx vx [⟨tg, iter, ifs, 0⟩] scope pos) spos) (S.set i (E.dcomp true fi (own.map (·.2)) t fc fk fv)) :=
  PS.imp (ps_setDcT hu hc hN hy hyl hsw hi ok hg ht hk he hs) fun D σ H ⟨g, ok, q⟩ => by
    refine dcomp_finT (X := X) (Z := Z) hO ok ((Ev.bnd q).mono (fun d st' q as' v H' gr s r n => ?_) fun _ _ z => z)
    obtain ⟨w, sp⟩ := ok.wf.setN ok.sr gr s hyO r n
    exact q as' _ H' sp w s
theorem ps_setDcK {i : Nat} {y : Str} {py spos : Pos} {wi : TI} {g : TG} {tt : TT} {tk tv : TE} (hc : X.calm = true) (hN : X.N.Nodup) (hy : X.N[i]? = some y) (hyl : X.env.scope.names.lookup y = some .local)
    (hsw : swapsWith (.DictComp kx vx [⟨tg, iter, ifs, 0⟩] scope pos) (some (.Name y py)) spos.line X.env = pure true) (hi : PI X tg iter wi) (ok : BlkOk X.N X.env.scope scope own)
    (hg : ∀ (s : Shared) (H : Hp) (C : Addr) (cl : List (Str × Addr)) (fp : List Addr), PG (X.blk s H scope (compEnvC scope cl C X.env) fp) tg g) (ht : ∀ (s : Shared) (H : Hp) (C : Addr) (cl : List (Str × Addr)) (fp : List Addr), PTs (X.blk s H scope (compEnvC scope cl C X.env) fp) ifs tt)
    (hk : ∀ (s : Shared) (H : Hp) (C : Addr) (cl : List (Str × Addr)) (fp : List Addr), PE (X.blk s H scope (compEnvC scope cl C X.env) fp) kx tk)
    (he : ∀ (s : Shared) (H : Hp) (C : Addr) (cl : List (Str × Addr)) (fp : List Addr), PE (X.blk s H scope (compEnvC scope cl C X.env) fp) vx tv) (hs : ∀ x, foldedSetIterable iter X.env x = pure x := by intro _; rfl) :
    PS X (.Assign [.Name y py] (.DictComp kx vx [⟨tg, iter, ifs, 0⟩] scope pos) spos) (tAsg (tDc wi g tt tk tv (own.map (·.2))) (gName i)) := by
  refine ⟨fun pins s σ H D I h => ?_⟩
  rw [exec_Assign_Name_used _ _ _ _ hsw]
  refine wpAny_bind (wpAny_standAt (wpAny_bind ?_))
  show wpAny _ X.A (do let _ ← comprehension (.DictComp kx vx [⟨tg, iter, ifs, 0⟩] scope pos) scope X.env (firstIterPos [⟨tg, iter, ifs, 0⟩] pos) newDict false (eval iter X.env) (some (assign (.Name y py) X.env))) _ _ s
  have h : tDc wi g tt tk tv (own.map (·.2)) σ H (fun x H1 => gName i x σ H1 D.nx) := h
  refine wpAny_bind (thn (dc_core (Qf := fun _ s' => SP X pins D .next s') hc hN I hi ok hg ht hk he hs h fun L C s' m H' I' q hn f => ?_) fun _ s' hq => wpAny_pure (wpAny_pure hq))
  show wpAny _ _ (assign (.Name y py) X.env (.ref L)) _ _ _
  refine wpAny_assign_Name (store_ok2 (v := V.ref L) I' hN hy (.inl hyl) rfl (fun s2 I2 ⟨a, sb, ha⟩ => ?_) (.inr hyl))
  obtain ⟨f0, f1, f2, f3, f4, f5⟩ := f
  have haC : C ≠ a := by
    rcases ha with z | z
    · rw [z]; exact f1
    · exact fun e => f4 y a z e.symm
  refine ⟨m, hn.sameBut sb haC, fun h3 sb3 => ?_⟩
  exact ⟨_, H', I2.turned (t' := s2.toks) (fun b o hb e => (sb3.2 b hb).trans e) f0 f1 f3 f4 f5, q⟩
theorem ds_setDcompK (i : Nat) {y : Str} {py spos : Pos} (hyO : i ∉ O) (hc : X.calm = true) (hN : X.N.Nodup) (hy : X.N[i]? = some y) (hyl : X.env.scope.names.lookup y = some .local)
    (hsw : swapsWith (.DictComp kx vx [⟨tg, iter, ifs, 0⟩] scope pos) (some (.Name y py)) spos.line X.env = pure true) (hi : DIc X O Z tg iter fi) (ok : BlkOk X.N X.env.scope scope own) (hO : ∀ i ∈ own.map (·.2), i ∉ O)
    (hg : ∀ (s : Shared) (H : Hp) (C : Addr) (cl : List (Str × Addr)) (fp : List Addr), DG (X.blk s H scope (compEnvC scope cl C X.env) fp) O (own.map (·.2)) tg t) (ht : ∀ (s : Shared) (H : Hp) (C : Addr) (cl : List (Str × Addr)) (fp : List Addr), DTs (X.blk s H scope (compEnvC scope cl C X.env) fp) O Z ifs fc)
    (hk : ∀ (s : Shared) (H : Hp) (C : Addr) (cl : List (Str × Addr)) (fp : List Addr), DE (X.blk s H scope (compEnvC scope cl C X.env) fp) O Z kx fk)
    (he : ∀ (s : Shared) (H : Hp) (C : Addr) (cl : List (Str × Addr)) (fp : List Addr), DE (X.blk s H scope (compEnvC scope cl C X.env) fp) O Z vx fv) (hs : ∀ x, foldedSetIterable iter X.env x = pure x := by intro _; rfl) :
    DS X O Z (.Assign [.Name y py] (.DictComp kx vx [⟨tg, iter, ifs, 0⟩] scope pos) spos) (S.set i (E.dcomp false fi (own.map (·.2)) t fc fk fv)) :=
  PS.imp (ps_setDcK hc hN hy hyl hsw hi ok hg ht hk he hs) fun D σ H ⟨g, ok, q⟩ => by
    refine dcomp_finK (X := X) (Z := Z) hO ok ((Ev.bnd q).mono (fun d st' q as' v H' gr s r n => ?_) fun _ _ z => z)
    have nF : ∀ p, v = .ref p → ¬ Ff g.B as' O σ p := fun p e z => by
      obtain ⟨n1, n2⟩ := n p e
      rcases z with z | z | ⟨i, hi, z⟩
      · obtain ⟨o, z⟩ := ok.wf.trB p z; rw [n1] at z; cases z
      · exact n2 z
      · obtain ⟨_, _, _, o, z, _⟩ := ok.wf.slot i p hi z; rw [n1] at z; cases z
    have r' : Rep X.K (Ff g.B as' O σ) as' H' v d := by
      cases r with
      | lst h r => exact .lst (.inl ⟨nF _ rfl, .inl h⟩) (r.weak fun _ _ _ z => .inl z)
      | dct h o r => exact .dct (nF _ rfl) (.inl h) o (r.weak fun _ _ _ z => .inl z)
      | sca r _ => exact r.weak fun _ _ _ z => .inl z
    exact q as' _ H' ((gr.step s).trans (Step.set hyO _)) ((ok.wf.grow ok.sr gr s).set hyO r') s
theorem ds_setDcompKN (i : Nat) {y : Str} {py spos : Pos} (hyO : i ∈ O) (hc : X.calm = true) (hN : X.N.Nodup) (hy : X.N[i]? = some y) (hyl : X.env.scope.names.lookup y = some .local)
    (hsw : swapsWith (.DictComp kx vx [⟨tg, iter, ifs, 0⟩] scope pos) (some (.Name y py)) spos.line X.env = pure true) (hi : DIc X O Z tg iter fi) (ok : BlkOk X.N X.env.scope scope own) (hO : ∀ i ∈ own.map (·.2), i ∉ O)
    (hg : ∀ (s : Shared) (H : Hp) (C : Addr) (cl : List (Str × Addr)) (fp : List Addr), DG (X.blk s H scope (compEnvC scope cl C X.env) fp) O (own.map (·.2)) tg t) (ht : ∀ (s : Shared) (H : Hp) (C : Addr) (cl : List (Str × Addr)) (fp : List Addr), DTs (X.blk s H scope (compEnvC scope cl C X.env) fp) O Z ifs fc)
    (hk : ∀ (s : Shared) (H : Hp) (C : Addr) (cl : List (Str × Addr)) (fp : List Addr), DE (X.blk s H scope (compEnvC scope cl C X.env) fp) O Z kx fk)
    (he : ∀ (s : Shared) (H : Hp) (C : Addr) (cl : List (Str × Addr)) (fp : List Addr), DE (X.blk s H scope (compEnvC scope cl C X.env) fp) O Z vx fv) (hs : ∀ x, foldedSetIterable iter X.env x = pure x := by intro _; rfl) :
    DS X O Z (.Assign [.Name y py] (.DictComp kx vx [⟨tg, iter, ifs, 0⟩] scope pos) spos) (S.set i (E.dcomp false fi (own.map (·.2)) t fc fk fv)) :=
  PS.imp (ps_setDcK hc hN hy hyl hsw hi ok hg ht hk he hs) fun D σ H ⟨g, ok, q⟩ => by
    refine dcomp_finK (X := X) (Z := Z) hO ok ((Ev.bnd q).mono (fun d st' q as' v H' gr s r n => ?_) fun _ _ z => z)
    obtain ⟨w, sp⟩ := ok.wf.setN ok.sr gr s hyO r n
    exact q as' _ H' sp w s
end
end G
end L2
end G38_
section G39_
set_option Elab.async false
set_option linter.all false
set_option maxRecDepth 100000
set_option maxHeartbeats 1000000
namespace L2
namespace G
open PySem PySem.Spec PyProof.Rows
theorem rg {k : Nat} {A : Around} (r : Rm k A) : A.guards = some [] := r.gd
section
variable {X : Cx} {O : List Nat} {Z : ZT} {o e ke ve a b : Expr} {fo fe fk fv fa fb : Env → M D} {pos apos cpos : Pos}
/-! ### repr -/
def seqy : D → Bool
  | .tup _ => true
  | .lst _ => true
  | .ftup _ => true
  | _ => false
def reprD : List D → Option D
  | [d] => if seqy d && d.okd 60 && d.py.showable && decide (d.py.shown.length ≤ 1000000) then some (.str d.py.shown) else none
  | _ => none
theorem call_reprD (hu : X.A.units + 65 < cLine) (hg : X.A.guards = some []) : CallR X (.builtin "repr") (fun xs H Q => ∃ (a : Addr) (d : PyData), xs = [.ref a] ∧ Dp X.K H (.ref a) d ∧ d.canLay0 = true ∧ d.depth ≤ 60 ∧ d.showable = true ∧ d.shown.length ≤ sizeLine ∧ Q (.str d.shown) H) := by
  intro pins s σ H xs us Q I r h
  obtain ⟨a, d, rfl, hd, hc, hp, hs, hz, q⟩ := h
  obtain ⟨u, rfl, rx⟩ := vals1 r
  obtain rfl : u = Value.ref a := rx
  obtain ⟨as, r1⟩ := Dp.reads I d (.ref a) (.ref a) hd rfl
  exact repr_of_reads' (h₀ := s.heap) r1 hs (PyData.noDict_hsm (PyData.hasDict_of_canLay d hc)) hg (by omega) (fun _ _ e => e) (fun h' u tk hk => ⟨.str _, H, I.kept hk, ⟨_, rfl⟩, q⟩) hz
theorem b_repr (hu : X.A.units + 65 < cLine) (hg : X.A.guards = some []) : Bl X (.builtin "repr") reprD := ⟨_, call_reprD hu hg, fun F as H xs ds d Q tr r e q => by
  unfold reprD at e
  split at e
  · rename_i d1
    split at e
    · rename_i h
      cases e
      simp only [Bool.and_eq_true, decide_eq_true_eq] at h
      obtain ⟨v, rfl, rv⟩ := repTs1 r
      have hp := rv.dp h.1.1.2
      have ha : ∃ a, v = .ref a := by
        cases d1 with
        | tup xs => obtain ⟨a, us, rfl, _⟩ := rv.t_tup; exact ⟨a, rfl⟩
        | lst xs => obtain ⟨a, us, rfl, _⟩ := rv.t_lst; exact ⟨a, rfl⟩
        | ftup xs => obtain ⟨a, us, rfl, _⟩ := rv.t_ftup; exact ⟨a, rfl⟩
        | _ => simp [seqy] at h
      obtain ⟨a, rfl⟩ := ha
      have lay := D.okd_lay h.1.1.2
      have := line_million
      exact ⟨a, _, rfl, hp, lay.1, lay.2, h.1.2, by omega, q _ H (Same.refl _) (.str _)⟩
    · cases e
  · cases e⟩
/-! ### d[k], k in d, d.get(k), of local dicts -/
def dgetD : D → D → Option (Option D)
  | .dct t ks vs, y => if okKey t y = true then some (getL t y ks vs) else none
  | _, _ => none
theorem dget_of {K : PySem.W.Frag} {F : Addr → Prop} {as : List Addr} {H : Hp} {x y : V} {d1 d2 : D} {r : Option D} (r1 : RepT K F as H x d1) (r2 : RepT K F as H y d2) (e : dgetD d1 d2 = some r) :
    ∃ (p : Addr) (v : Option V), x = .ref p ∧ IsD H p ∧ DGet H p y v ∧ v.isSome = r.isSome ∧ ∀ d, r = some d → ∃ u, v = some u ∧ Rep K F as H u d := by
  unfold dgetD at e
  split at e
  · rename_i t ks vs y'
    split at e
    · rename_i hk
      cases e
      obtain ⟨p, ob, us, rfl, hs, dd, rs⟩ := r1.t_dct
      rcases dd with ⟨kvs, rfl, rfl, rfl, rfl⟩ | ⟨kvs, rfl, rfl, rfl, rfl⟩
      · unfold okKey at hk
        rw [if_neg Bool.false_ne_true] at hk
        obtain ⟨k, ek⟩ := Option.isSome_iff_exists.mp hk
        have ek := toKey_eq ek
        subst ek
        have ey : y = kV k := by
          cases k with
          | inl i => exact r2.t_int
          | inr z => exact r2.t_str
        obtain ⟨g1, g2⟩ := get_reps (t := false) (e := kD) (fun _ _ => keyEq_k) (k := k) rs
        exact ⟨p, valV kvs k, rfl, .inl ⟨kvs, hs⟩, .inl ⟨kvs, k, hs, ey, rfl⟩, g2.symm, g1⟩
      · unfold okKey at hk
        rw [if_pos rfl] at hk
        obtain ⟨k, ek⟩ := Option.isSome_iff_exists.mp hk
        have ek := toTKey_eq ek
        subst ek
        obtain ⟨b, rfl, hb⟩ : ∃ b, y = .ref b ∧ H b = some (.tup (k.map kV)) := by
          cases r2 with
          | rep r2 => exact r2.tkey
          | own r2 _ =>
            unfold tkD at r2
            cases r2 with
            | sca r _ => exact Rep.tkey (k := k) r
        obtain ⟨g1, g2⟩ := get_reps (t := true) (e := tkD) (fun _ _ => keyEq_t) (k := k) rs
        exact ⟨p, valV kvs k, rfl, .inr ⟨kvs, hs⟩, .inr ⟨kvs, k, b, hs, rfl, hb, rfl⟩, g2.symm, g1⟩
    · cases e
  · cases e
def dixD (x y : D) : Option D := (dgetD x y).bind id
def E.dix (fa fb : Env → M D) : Env → M D := E.op2 dixD fa fb
theorem de_dix (hu : X.A.units + 1 < cLine) (ha : DU X O Z a fa) (hb : DU X O Z b fb) (hs : NoSl b := by exact fun _ _ => rfl) : DE X O Z (.Subscript a b pos) (E.dix fa fb) := PE.imp (pe_dget hu ha hb hs) fun σ H Q ⟨g, ok, q⟩ => by
  refine two (k := fun x y => lift (dixD x y)) (ZZ := fun _ _ => True) ok q fun d1 d2 x y as' st' H' g1 s1 r1 r2 q => ?_
  obtain ⟨d, e, q⟩ := q.lift
  unfold dixD at e
  rw [Option.bind_eq_some_iff] at e
  obtain ⟨r, e1, e2⟩ := e
  obtain ⟨p, v, rfl, _, dg, _, hr⟩ := dget_of r1 r2 e1
  obtain ⟨u, rfl, ru⟩ := hr d e2
  exact ⟨p, u, rfl, dg, q as' u H' g1 s1 ru⟩
def dinD (x y : D) : Option D := (dgetD y x).map fun r => .bl r.isSome
def dnotInD (x y : D) : Option D := (dgetD y x).map fun r => .bl (!r.isSome)
theorem op_din (hu : X.A.units + 1 < cLine) : OpR X (compareOp .In) (fun x y H Q => ∃ a o, y = .ref a ∧ DGet H a x o ∧ Q (.bl o.isSome) H) := by
  intro pins s σ H x y v u Q I rx ry h
  obtain ⟨a, o, rfl, dg, q⟩ := h
  obtain rfl : u = Value.ref a := ry
  exact d_in hu I dg rx fun s' I' => ⟨.bl _, H, I', rfl, q⟩
theorem op_dnotIn (hu : X.A.units + 1 < cLine) : OpR X (compareOp .NotIn) (fun x y H Q => ∃ a o, y = .ref a ∧ DGet H a x o ∧ Q (.bl (!o.isSome)) H) := by
  intro pins s σ H x y v u Q I rx ry h
  obtain ⟨a, o, rfl, dg, q⟩ := h
  obtain rfl : u = Value.ref a := ry
  exact d_notIn hu I dg rx fun s' I' => ⟨.bl _, H, I', rfl, q⟩
theorem o_din (hu : X.A.units + 1 < cLine) : Op2 X (compareOp .In) dinD := ⟨_, op_din hu, fun F as H x y d1 d2 d Q tr r1 r2 e q => by
  unfold dinD at e
  rw [Option.map_eq_some_iff] at e
  obtain ⟨r, e1, rfl⟩ := e
  obtain ⟨p, v, rfl, _, dg, es, _⟩ := dget_of r2 r1 e1
  exact ⟨p, v, rfl, dg, by rw [es]; exact q _ H (Same.refl _) (.bl _)⟩⟩
theorem o_dnotIn (hu : X.A.units + 1 < cLine) : Op2 X (compareOp .NotIn) dnotInD := ⟨_, op_dnotIn hu, fun F as H x y d1 d2 d Q tr r1 r2 e q => by
  unfold dnotInD at e
  rw [Option.map_eq_some_iff] at e
  obtain ⟨r, e1, rfl⟩ := e
  obtain ⟨p, v, rfl, _, dg, es, _⟩ := dget_of r2 r1 e1
  exact ⟨p, v, rfl, dg, by rw [es]; exact q _ H (Same.refl _) (.bl _)⟩⟩
def getD1 (x y : D) : Option D := (dgetD x y).map fun r => r.getD .non
def isDctB : D → Bool
  | .dct _ _ _ => true
  | _ => false
def E.dget1 (fa fb : Env → M D) : Env → M D := fun ρ => bnd (fa ρ) fun x => if isDctB x = true then bnd (fb ρ) fun y => lift (getD1 x y) else bad
theorem de_dget1 (hu : X.A.units + 1 < cLine) (ho : DU X O Z o fo) (he : DU X O Z e fe) (hbase : attributeBase o "get" X.env (eval o X.env) = eval o X.env := by rfl)
    (hfew : ((backTo cpos (starEach [e] X.env)).all (fun x => !x.1) && (backToKw cpos (keywordEach [] X.env)).all (fun x => x.1.isSome)
      && decide (([e] : List Expr).length + ([] : List Keyword).length + (if ([] : List Keyword).isEmpty then 0 else 1) < 30)) = true := by rfl)
    (hline : (apos.endLine == cpos.line) = true := by rfl) (ht : backTo cpos (starEach [e] X.env) = [(false, eval e X.env)] := by rfl) :
    DE X O Z (.Call (.Attribute o "get" apos) [e] [] cpos) (E.dget1 fo fe) := PE.imp (pe_dget1 hu ho he ⟨hbase, hfew, hline, ht⟩) fun σ H Q ⟨g, ok, q⟩ => by
  refine ⟨g, ok, (Ev.bnd q).mono (fun d st1 q as1 v H1 g1 s1 r1 => ?_) fun _ _ z => z⟩
  by_cases hd : isDctB d = true
  · rw [if_pos hd] at q
    cases d with
    | dct t ks vs =>
      obtain ⟨p, ob, us, rfl, hs, dd, rs⟩ := r1.t_dct
      have isd : IsD H1 p := by
        rcases dd with ⟨kvs, rfl, rfl, rfl, rfl⟩ | ⟨kvs, rfl, rfl, rfl, rfl⟩
        · exact .inl ⟨kvs, hs⟩
        · exact .inr ⟨kvs, hs⟩
      refine ⟨p, rfl, isd, g.at as1 st1, ok.step g1 s1, (Ev.bnd q).mono (fun y st2 q as2 u H2 g2 s2 r2 => ?_) fun _ _ z => z⟩
      obtain ⟨d', e, q⟩ := q.lift
      unfold getD1 at e
      rw [Option.map_eq_some_iff] at e
      obtain ⟨r, e1, rfl⟩ := e
      have r3 := r1.grow s1 g2
      obtain ⟨p', w, ep, _, dg, es, hr⟩ := dget_of r3 r2 e1
      cases ep
      cases r with
      | none =>
        have : w = none := by cases w with
          | none => rfl
          | some _ => cases es
        subst this
        exact ⟨none, dg, q as2 _ H2 (g1.trans g2) s2 .non⟩
      | some d' =>
        obtain ⟨u', rfl, ru⟩ := hr d' rfl
        exact ⟨some u', dg, q as2 _ H2 (g1.trans g2) s2 ru⟩
    | _ => cases hd
  · rw [if_neg hd] at q
    exact q.elim
/-! ### {k: v} -/
def E.disp1 (fk fv : Env → M D) : Env → M D := fun ρ => bnd (fk ρ) fun k => bnd (fv ρ) fun v => if okKey false k = true then ret (.dct false [k] [v]) else bad
theorem dn_disp1 (hk : DE X O Z ke fk) (hv : DE X O Z ve fv) : DN X O Z (.Dict [some ke] [ve] pos) (E.disp1 fk fv) := PE.imp (pe_disp (pps_cons hk hv pps_nil) rfl rfl (by simp) (by simp)) fun σ H Q ⟨g, ok, q⟩ => by
  intro D nD
  have nA : D ∉ g.as := not_as ok nD
  have w1 : Wf X.K O (fun a => g.B a ∨ a = D) g.H0 g.as0 g.as g.ρ σ (upd H D (.dK [])) := ok.wf.growB ok.sr nD (Grow.new nD) (ok.sr.new nD) ⟨_, upd_same⟩
  refine ⟨⟨fun a => g.B a ∨ a = D, g.H0, g.as0, g.as, g.ρ, g.st⟩, ⟨w1, ok.sr.new nD⟩, (Ev.bnd q).mono (fun kd st1 q as1 kv H1 g1 s1 rk => ?_) fun _ _ z => z.mono fun _ z => .inl z⟩
  have w2 := w1.grow (ok.sr.new nD) g1 s1
  refine ⟨⟨fun a => g.B a ∨ a = D, g.H0, g.as0, as1, g.ρ, st1⟩, ⟨w2, s1⟩, (Ev.bnd q).mono (fun vd st2 q as2 vv H2 g2 s2 rv => ?_) fun _ _ z => z.mono fun _ z => .inl z⟩
  have g12 := g1.trans g2
  have d2 : H2 D = some (.dK []) := g12.keep D _ upd_same nA
  have n2 : D ∉ as2 := fun z => by
    have := g12.fre D z nA
    rw [upd_same] at this; cases this
  by_cases hc : okKey false kd = true
  · rw [if_pos hc] at q
    have hc1 := hc
    unfold okKey at hc1
    rw [if_neg Bool.false_ne_true] at hc1
    obtain ⟨k, ek⟩ := Option.isSome_iff_exists.mp hc1
    have ek := toKey_eq ek
    subst ek
    have ey : kv = kV k := rk.key
    subst ey
    have kD' : ∀ b o, H2 b = some o → ¬ Ff (fun a => g.B a ∨ a = D) as2 O σ b → upd H2 D (.dK [(k, vv)]) b = some o := fun b o h n => by rw [upd_ne (fun (z : b = D) => n (.inl (.inr z)))]; exact h
    have kT : ∀ b o, H2 b = some o → TupO o → upd H2 D (.dK [(k, vv)]) b = some o := fun b o h t => by
      rw [upd_ne (fun (z : b = D) => by rw [z, d2] at h; cases h; exact t)]; exact h
    have gg := (Grow.new (as := g.as) (o := .dK []) nD).trans g12
    refine ⟨d2, [(k, vv)], rfl, by simp, ?_⟩
    refine q as2 (.ref D) (upd H2 D (.dK [(k, vv)])) ⟨gg.pre, fun b o h n => by rw [upd_ne (ne_of_none h nD)]; exact gg.keep b o h n, gg.fre⟩ ?_ ?_ fun p e => ?_
    · refine s2.frame fun b o h z => ?_
      rcases z with z | z
      · rw [upd_ne (fun (y : b = D) => n2 (by rw [← y]; exact z))]; exact h
      · exact kT b o h z
    · refine .dct upd_same (.inl ⟨[(k, vv)], rfl, rfl, rfl, rfl⟩) (Reps.cons ((rv.frame kD' kT fun _ _ h => h).weak fun a o _ z => ?_) .nil)
      rcases z with (z | z | z) | z
      · exact .inl (.inl z)
      · exact .inr (.inl z)
      · exact .inr (.inr z)
      · cases z; exact .inl (.inr rfl)
    · cases e
      exact ⟨nD, n2⟩
  · rw [if_neg hc] at q
    exact q.elim
end
end G
end L2
end G39_
section G40_
set_option Elab.async false
set_option linter.all false
set_option maxRecDepth 100000
set_option maxHeartbeats 1000000
namespace L2
namespace G
open PySem PySem.Spec PyProof.Rows
/-! ### min(xs), xs a list of data that compare -/
def ltPy (a b : D) : Bool := PySem.W.dataLt a.py b.py
def bestD (lt : D → D → Bool) : List D → Option D
  | [] => none
  | d :: ds => some (ds.foldl (fun a y => if lt y a then y else a) d)
def minD2 : List D → Option D
  | [.lst ds] => if (shapes.any fun sh => ds.all (D.is sh)) && D.okds 59 ds then bestD ltPy ds else none
  | _ => none
theorem pys_map (ds : List D) : D.pys ds = ds.map D.py := by
  induction ds with
  | nil => simp [D.pys]
  | cons d ds ih => simp [D.pys, ih]
theorem alikeAll_of {ps : List PyData} (h : AlikeK ps) : PySem.W.AlikeAll ps := by
  refine ⟨fun x hx y hy => h.1 x hx y hy, fun x hx e => ?_⟩
  rcases h.2.1 with q | q
  · obtain ⟨xs, z⟩ := q x hx
    rw [e] at z; cases z
  · exact (q x hx).1 e
section
variable {prog : Program} {w : World} {A : Around} {E : Value → Shared → Prop} {s : Shared}
open PySem.W in
theorem min_list_ix {l : Addr} {vs : Array Value} {x : PyData} {xs : List PyData} {as : List Addr} {Q : Value → Shared → Prop} (hh : A.handled = none) (hl : s.heap.IsList l vs) (hr : ReadsAll s.heap vs.toList (x :: xs) as) (ha : AlikeAll (x :: xs)) (hu : A.units + 1 + PyData.depthAll (x :: xs) < cLine)
    (h : ∀ v h' tk, vs[argBest (fun i j => dataLt ((x :: xs).getD i .none) ((x :: xs).getD j .none)) xs.length]? = some v → (∀ b o, s.heap.get? b = some o → h'.get? b = some o) → Q v { s with heap := h', toks := tk }) :
    wpAny (model prog w) A (call (.builtin "min") [.ref l]) Q E s := by
  have hn : vs.size = xs.length + 1 := readsAll_len hr
  refine call_min_walkH (iter_listW (A := A.in1) hh hl fun s₂ e W st hfp hw hk => ?_)
  refine ⟨_, _, _, _, _, _, _, s.heap, _, rfl, W, st, hfp, by omega, hw, hk, cmpIn_lt (A := A.in1) hr ha (by show A.units + 1 + _ < _; exact hu), fun v s' hP m => ?_⟩
  obtain ⟨h', tk, rfl, hk'⟩ := moved_old e rfl m
  have e1 : vs.size - 1 = xs.length := by omega
  rw [e1] at hP
  exact h v h' tk hP hk'
end
section
variable {X : Cx}
theorem depthAll_le {ds : List PyData} {n : Nat} (h : ∀ d ∈ ds, d.depth ≤ n) : PyData.depthAll ds ≤ n := by
  induction ds with
  | nil => simp [PyData.depthAll]
  | cons d ds ih =>
    simp only [PyData.depthAll]
    have h1 := h d (.head _)
    have h2 := ih fun x hx => h x (.tail _ hx)
    omega
theorem vals_get' : ∀ {xs : List V} {us : List Value} {i : Nat} {u : Value}, Vals xs us → us[i]? = some u → ∃ x, xs[i]? = some x ∧ RelV x u
  | _, _, _, _, .nil, e => by simp at e
  | _, _, 0, _, .cons h _, e => by simp at e; subst e; exact ⟨_, rfl, h⟩
  | _, _, i + 1, _, .cons _ t, e => vals_get' (i := i) t (by simpa using e)
theorem call_minD (hc : X.calm = true) (hu : X.A.units + 65 < cLine) : CallR X (.builtin "min") (fun xs H Q => ∃ (a : Addr) (ys : List V) (d : PyData) (ds : List PyData), xs = [.ref a] ∧ SqL X.K H a ys ∧ DpAll X.K H ys (d :: ds) ∧ AlikeK (d :: ds) ∧
    ∀ u, ys[argBest (fun i j => PySem.W.dataLt ((d :: ds).getD i .none) ((d :: ds).getD j .none)) ds.length]? = some u → Q u H) := by
  intro pins s σ H xs us Q I r h
  obtain ⟨a, ys, d, ds, rfl, hq, hd, ha, q⟩ := h
  obtain ⟨its, rv, hl, _⟩ := I.list hq
  rw [Vals.ref1 r]
  obtain ⟨as, h4⟩ := Dp.readsAll I (d :: ds) ys its hd rv
  refine min_list_ix (I.ok.hd hc) hl.isList (by simpa using h4) (alikeAll_of ha) ?_ fun v h' tk hv hk => ?_
  · have := depthAll_le ha.2.2
    omega
  · have hv : its[argBest (fun i j => PySem.W.dataLt ((d :: ds).getD i .none) ((d :: ds).getD j .none)) ds.length]? = some v := by simpa using hv
    obtain ⟨u, eu, ru⟩ := vals_get' rv hv
    exact ⟨u, H, I.kept hk, ru, q u eu⟩
theorem b_minD (hc : X.calm = true) (hu : X.A.units + 65 < cLine) : Bl X (.builtin "min") minD2 := ⟨_, call_minD hc hu, fun F as H xs ds d Q tr r e q => by
  unfold minD2 at e
  split at e
  · rename_i ds
    split at e
    · rename_i h
      have ha := sort_alike h
      obtain ⟨v, rfl, rv⟩ := repTs1 r
      obtain ⟨a, us, rfl, sq, rs⟩ := rv.t_lst
      cases ds with
      | nil => cases e
      | cons d0 ds =>
        have ho : D.okds 59 (d0 :: ds) = true := by simp only [Bool.and_eq_true] at h; exact h.2
        have hd := rs.dp ho
        rw [pys_map] at hd
        have es : (d0 :: ds).map D.py = d0.py :: ds.map D.py := rfl
        rw [es] at hd ha
        refine ⟨a, us, d0.py, ds.map D.py, rfl, sq, hd, ha, fun u hu => ?_⟩
        have key := (PySem.W.argBest_fold ltPy .non d0 ds ds.length (Nat.le_refl _))
        have eqf : (fun i j => PySem.W.dataLt ((d0.py :: ds.map D.py).getD i .none) ((d0.py :: ds.map D.py).getD j .none)) = fun i j => ltPy ((d0 :: ds).getD i .non) ((d0 :: ds).getD j .non) := by
          funext i j
          have g : ∀ i, (d0.py :: ds.map D.py).getD i .none = ((d0 :: ds).getD i .non).py := fun i => by
            rw [← es, List.getD_eq_getElem?_getD, List.getD_eq_getElem?_getD, List.getElem?_map]
            cases (d0 :: ds)[i]? <;> simp [D.py]
          rw [g, g]; rfl
        rw [eqf, List.length_map] at hu
        obtain ⟨d', e', rd⟩ := rs.get hu
        have k2 := key.2
        rw [List.getD_eq_getElem?_getD, e', Option.getD_some, List.take_length] at k2
        have : some d' = some d := by rw [k2]; exact e
        cases this
        exact q _ H (Same.refl _) rd
    · cases e
  · cases e⟩
end
end G
end L2
end G40_
section G41_
set_option Elab.async false
set_option linter.all false
set_option maxRecDepth 100000
set_option maxHeartbeats 1000000
namespace L2
namespace G
open PySem PySem.Spec PyProof.Rows
/-! ### equality of texts, whatever their signs -/
def eqS : D → D → Option D
  | .str a, .str b => some (.bl (decide (a = b)))
  | _, _ => none
def neS : D → D → Option D
  | .str a, .str b => some (.bl (!decide (a = b)))
  | _, _ => none
section
variable {X : Cx}
theorem o_eqS : Op2 X (compareOp .Eq) eqS := ⟨_, op_eq, fun F as H x y d1 d2 d Q tr r1 r2 e q => by
  unfold eqS at e
  split at e
  · rename_i a b
    cases e
    rw [r1.t_str, r2.t_str]
    refine ⟨rfl, ?_⟩
    have : decide (V.str a = V.str b) = decide (a = b) := by rw [decide_eq_decide]; exact ⟨fun h => by cases h; rfl, fun h => by rw [h]⟩
    rw [this]
    exact q _ H (Same.refl _) (.bl _)
  · cases e⟩
theorem o_neS : Op2 X (compareOp .NotEq) neS := ⟨_, op_ne, fun F as H x y d1 d2 d Q tr r1 r2 e q => by
  unfold neS at e
  split at e
  · rename_i a b
    cases e
    rw [r1.t_str, r2.t_str]
    refine ⟨rfl, ?_⟩
    have : decide (V.str a = V.str b) = decide (a = b) := by rw [decide_eq_decide]; exact ⟨fun h => by cases h; rfl, fun h => by rw [h]⟩
    rw [this]
    exact q _ H (Same.refl _) (.bl _)
  · cases e⟩
end
end G
end L2
end G41_
section G42_
set_option Elab.async false
set_option linter.all false
set_option maxRecDepth 100000
set_option maxHeartbeats 1000000
namespace L2
namespace G
open PySem PySem.Spec PyProof.Rows
/-! ### error classes of the text, as the head tells them -/
def oexB1 (K : PySem.W.Frag) (C : Addr) : Bool := match K.lookup C with
  | some ⟨.type "type", _, .cls cd, sl⟩ => (match cd.mro, sl.toList with
    | .ref C' :: bm, [_, _, _, _, some (.builtin n), _] => C' == C && n == "ValueError.__new__" && !cd.hasDel && cd.hasDict && PySem.HandSPX.refsVE bm
    | _, _ => false)
  | _ => false
def oexB (K : PySem.W.Frag) (C : Addr) : Bool := oexB1 K C && (He.eqO (PySem.W.findIn K (.ref C) "__setattr__") (some (some (.builtin "object.__setattr__"))) && (decide (PySem.W.subIn K (.ref C) (.type "BaseException") = some true) && (decide (PySem.W.typeIn K (.ref C) = some (.type "type")) && PySem.W.keepIn K (.ref C))))
theorem oexB1_ok {K : PySem.W.Frag} {C : Addr} (q : oexB1 K C = true) : ∃ nm q N bs bm sn sub ab col dd k0 k1 k2 k3 k5, K.lookup C = some (excClassObj nm q C N bs bm true sn sub ab col dd k0 k1 k2 k3 k5 "ValueError.__new__") ∧ PySem.HandSPX.refsVE bm = true := by
  unfold oexB1 at q
  split at q
  · rename_i dd cd sl ho
    split at q
    · rename_i C' bm k0 k1 k2 k3 n k5 hm hs
      simp only [Bool.and_eq_true, beq_iff_eq, Bool.not_eq_true'] at q
      obtain ⟨⟨⟨⟨rfl, rfl⟩, hdel⟩, hdi⟩, ht⟩ := q
      obtain ⟨nm, bs, mro, ns, qn, hd, sn, sub, ab, col, del⟩ := cd
      dsimp only at hm hdel hdi
      subst hm hdel hdi
      have hsl : sl = #[k0, k1, k2, k3, some (.builtin "ValueError.__new__"), k5] := by
        obtain ⟨l⟩ := sl
        simp only at hs
        rw [hs]
      subst hsl
      exact ⟨nm, qn, ns, bs, bm, sn, sub, ab, col, dd, k0, k1, k2, k3, k5, ho, ht⟩
    · cases q
  · cases q
theorem oexB_ok {K : PySem.W.Frag} {C : Addr} (h : oexB K C = true) : OexC K C := by
  obtain ⟨h1, h⟩ := He.ba h
  obtain ⟨h2, h⟩ := He.ba h
  obtain ⟨h3, h⟩ := He.ba h
  obtain ⟨h4, h5⟩ := He.ba h
  exact ⟨oexB1_ok h1, He.eqO_ok h2, of_decide_eq_true h3, of_decide_eq_true h4, h5⟩
def ercB (K : PySem.W.Frag) (x : Str) (fs : List Str) : Bool := oexB K (He.ga K x) && (He.eqO (PySem.W.findIn K (.ref (He.ga K x)) "__init__") (some (some (.ref (He.ma K (He.ga K x) "__init__")))) && (decide (PySem.W.typeIn K (.ref (He.ma K (He.ga K x) "__init__")) = some (.type "function")) &&
  ((fs.all fun f => He.eqO (PySem.W.findIn K (.ref (He.ga K x)) f) (some none)) && xfB K (He.ga K x))))
theorem ercB_ok {K : PySem.W.Frag} {x : Str} {fs : List Str} (h : ercB K x fs = true) : ErC K x fs := by
  obtain ⟨h1, h⟩ := He.ba h
  obtain ⟨h2, h⟩ := He.ba h
  obtain ⟨h3, h⟩ := He.ba h
  obtain ⟨h4, h5⟩ := He.ba h
  exact ⟨oexB_ok h1, He.eqO_ok h2, of_decide_eq_true h3, fun f hf => He.eqO_ok (List.all_eq_true.mp h4 f hf), xfB_ok h5⟩
def erbB (K : PySem.W.Frag) (x : Str) : Bool := PySem.W.readsIn K (He.ga K x) (.type "type") && (He.eqO (PySem.W.specialIn K (.ref (He.ga K x)) "__getattribute__") (some (some (.builtin "type.__getattribute__"))) && (match PySem.W.findCls K (.ref (He.ga K x)) (.type "type") "__init__" with
  | some (.val (.builtin n)) => decide (n = "ValueError.__init__")
  | _ => false))
theorem erbB_ok {K : PySem.W.Frag} {x : Str} (h : erbB K x = true) : ErB K x := by
  obtain ⟨h1, h⟩ := He.ba h
  obtain ⟨h2, h3⟩ := He.ba h
  refine ⟨⟨h1, He.eqO_ok h2⟩, ?_⟩
  split at h3
  · rename_i n e
    rw [of_decide_eq_true h3] at e
    exact e
  · cases h3
/-- what is to be seen of a class's __init__ -/
theorem er1_of {P : Program} {w : World} {K : PySem.W.Frag} {mg : Str → Option Value} {base : Heap} {x c0 f z : Str} {qual : Str} {params : Arguments} {scope : Scope} {fd : FuncData}
    (C : ErC K x [f]) (B : ErB K c0) (m : mg x = some (.ref (He.ga K x))) (m0 : mg c0 = some (.ref (He.ga K c0)))
    {body : List Stmt} (F : FunD K "__init__" qual params body scope [] [] (He.fAd K (x, some "__init__")) fd) (S : FnScope ["self", f] ["self", f] scope)
    (hb : ∀ (kV doc pm : Value) (an : Option Addr) (cdv ct : Value) (us : List Value), us.length = (["self", f] : List Str).length → bindArgs (PySem.W.fnOf "__init__" qual params body scope .none kV doc pm an cdv ct) ⟨us, []⟩ = pure ((["self", f] : List Str).zip us))
    (hs : ∀ (cdv : Value) (A : Around) (outer : List PySem.Env) (s : Shared) (H : Hp) (E : XK), PSs (cxOf (L2.CX P w) P w K mg base ["self", f] qual scope (He.fAd K (x, some "__init__")) cdv A outer s H E) body (tSeq (tDrop (tVeI K (tCons (tVar 0) (tCons (tC (.str z)) tNil)))) (tSeq (tOst K f (tVar 0) (tVar 1)) tNext))) :
    Er1 P w K mg base x f := by
  refine ⟨C, m, fd, ?_, F.bindsN hb⟩
  refine FunD.ok (k := 0) F S (fun vs H Q E h => ?_) fun cdv A outer s H vs Q E hr h => ⟨_, hs cdv A outer s H E, init_fin1 C.o (C.no f (by simp)) h⟩
  obtain ⟨a, v, rfl, _⟩ := h
  rfl
end G
end L2
end G42_
section G43_
set_option Elab.async false
set_option linter.all false
set_option maxRecDepth 100000
set_option maxHeartbeats 2000000
namespace L2
namespace G
open PySem PySem.Spec PyProof.Rows
/-! ### t[::-1] of a tuple -/
section
variable {prog : Program} {w : World} {A : Around} {E : Value → Shared → Prop} {s : Shared}
theorem sliceApplied_rev {sl : Addr} {vl vu vs : Value} {n : Nat} {Q : Int × Int × Nat → Shared → Prop} (hs : s.heap.IsSliceOf sl vl vu vs) (pl : IsPart vl none) (pu : IsPart vu none) (ps : IsPart vs (some (-1)))
    (h : Q ((n : Int) - 1, -1, n) s) : wpAny (model prog w) A (Builtin.Slice.sliceApplied (.ref sl) (pure (n : Int))) Q E s := by
  obtain ⟨os, hos, hcs, hds⟩ := id hs
  unfold Builtin.Slice.sliceApplied Builtin.Slice.sliceFields
  refine wpAny_bind (wpAny_bind (wpAny_field hos hds (x := vl) rfl (wpAny_bind (wpAny_field hos hds (x := vu) rfl (wpAny_bind (wpAny_field hos hds (x := vs) rfl (wpAny_pure ?_)))))))
  refine wpAny_bind (HT.slicePart_ ps ?_)
  show wpAny _ _ (if ((-1 : Int) == 0) = true then _ else _) _ _ s
  rw [if_neg (by decide)]
  refine wpAny_bind (HT.slicePart_ pl (wpAny_bind (HT.slicePart_ pu (wpAny_bind (wpAny_pure ?_)))))
  show wpAny _ _ (match Builtin.Slice.sliceAdjust none none (-1) (n : Int) with | (lo, hi) => pure (lo, (-1 : Int), Builtin.Slice.slicePlaces lo hi (-1))) _ _ s
  have e : Builtin.Slice.sliceAdjust none none (-1) (n : Int) = ((n : Int) - 1, -1) := rfl
  rw [e]
  show wpAny _ _ (pure ((n : Int) - 1, (-1 : Int), Builtin.Slice.slicePlaces ((n : Int) - 1) (-1) (-1))) _ _ s
  have e2 : Builtin.Slice.slicePlaces ((n : Int) - 1) (-1) (-1) = n := by
    unfold Builtin.Slice.slicePlaces
    rw [if_neg (by decide)]
    split
    · rw [show (-(-1) : Int) = 1 by decide, Int.ediv_one]; omega
    · omega
  rw [e2]
  exact wpAny_pure h
theorem pick_rev (xs : List Value) : ((List.range xs.length).filterMap fun (m : Nat) => xs.toArray[(((xs.length : Int) - 1) + (m : Int) * (-1)).toNat]?).toArray = xs.reverse.toArray := by
  congr 1
  have key : ∀ k, k ≤ xs.length → ((List.range k).filterMap fun (m : Nat) => xs.toArray[(((xs.length : Int) - 1) + (m : Int) * (-1)).toNat]?) = xs.reverse.take k := by
    intro k
    induction k with
    | zero => intro _; simp
    | succ k ih =>
      intro hk
      rw [List.range_succ, List.filterMap_append, ih (by omega)]
      have e : (((xs.length : Int) - 1) + (k : Int) * (-1)).toNat = xs.length - 1 - k := by omega
      have hl : xs.length - 1 - k < xs.length := by omega
      rw [List.take_add_one, List.getElem?_reverse (by omega)]
      simp only [List.filterMap_cons, e, List.getElem?_toArray, List.getElem?_eq_getElem hl, List.filterMap_nil]
      rfl
  rw [key _ (Nat.le_refl _), ← List.length_reverse, List.take_length]
theorem getItem_tuple_rev {t sl : Addr} {items : List Value} {vl vu vs : Value} {Q : Value → Shared → Prop} (ht : IsTup s.heap t items.toArray) (hs : s.heap.IsSliceOf sl vl vu vs) (pl : IsPart vl none) (pu : IsPart vu none) (ps : IsPart vs (some (-1)))
    (h : Q (.ref s.heap.objs.size) { s with heap := s.heap.push { cls := .type "tuple", data := .seq items.reverse.toArray } })
    (hsz : items.length ≤ sizeLine) : wpAny (model prog w) A (getItem (.ref t) (.ref sl)) Q E s := by
  have htake : sizeOk (.seq items.reverse.toArray) := by
    show items.reverse.toArray.size ≤ sizeLine
    rw [List.size_toArray, List.length_reverse]
    exact hsz
  obtain ⟨os, hos, hcs, hds⟩ := id hs
  have hTs : s.TypeIs (.ref sl) "slice" := ⟨os, hos, hcs⟩
  unfold getItem
  try with_reducible refine wpAny_holding ?_
  first | refine wpAny_bind (wpAny_pure ?_) | skip
  refine wpAny_bind (wpAny_sequenceKey ht.typeIs (by decide) ?_)
  refine wpAny_bind (wpAny_callSpecial?_slot (name := Str.ofString "__getitem__") ht.typeIs PyProof.Rows.slot_tuple_getitem
    (wpAny_call_entry PyProof.Rows.slot_tuple_getitem ht.typeIs PyProof.Rows.entry_tuple_getitem ?_ (PyProof.Rows.args_tuple_getitem _ _)))
  show wpAny _ _ (Builtin.Tuple.tupleItemsOf (.ref t) >>= _) _ _ s
  refine wpAny_bind (PyProof.Rows.tupleItemsOf_ ht ?_)
  refine wpAny_bind (wpAny_typeOf hTs ?_)
  rw [if_pos (by decide)]
  refine wpAny_bind (sliceApplied_rev (n := items.toArray.size) hs pl pu ps ?_)
  have hno : ¬ ((((items.toArray.size : Int) - 1) == 0 && (-1 : Int) == 1 && items.toArray.size == items.toArray.size) = true) := by
    intro q
    rw [Bool.and_eq_true, Bool.and_eq_true] at q
    exact absurd q.1.2 (by decide)
  show wpAny _ _ (if (((items.toArray.size : Int) - 1) == 0 && (-1 : Int) == 1 && items.toArray.size == items.toArray.size) = true then _ else _) _ _ s
  rw [if_neg hno, List.size_toArray, pick_rev]
  first
    | exact wpAny_bind (m := Builtin.Tuple.tupleExact _) (wpAny_newObj_type (wpAny_pure ⟨_, rfl, wpAny_pure h⟩) htake)
    | exact wpAny_bind (m := Builtin.Tuple.tupleExact _) (wpAny_newObj_type (wpAny_bind (wpAny_pure (wpAny_pure ⟨_, rfl, wpAny_pure h⟩))) htake)
    | exact wpAny_bind (wpAny_bind (m := Builtin.Tuple.tupleExact _) (wpAny_newObj_type (wpAny_pure (wpAny_pure ⟨_, rfl, wpAny_pure h⟩)) htake))
    | exact wpAny_bind (wpAny_bind (m := Builtin.Tuple.tupleExact _) (wpAny_newObj_type (wpAny_pure ⟨_, rfl, wpAny_pure h⟩) htake))
end
def tRevT (K : PySem.W.Frag) (te : TE) : TE := fun σ H Q => te σ H fun x H1 => ∃ a xs, x = .ref a ∧ SqT K H1 a xs ∧ ∀ p, H1 p = none → Q (.ref p) (upd H1 p (.tup xs.reverse))
section
variable {X : Cx} {O : List Nat} {Z : ZT} {a b e o : Expr} {fa fb fo fe f : Env → M D} {pos apos cpos p1 p2 p3 : Pos} {k : Nat}
theorem pe_revT {te : TE} (he : PE X e te) : PE X (.Subscript e (.Slice none none (some (.UnaryOp .USub (.Constant (.int 1) k p1) p2)) p3) pos) (tRevT X.K te) := by
  refine ⟨fun pins s σ H Q I h => ?_⟩
  refine Subscript_ (thn (he.run pins s σ H _ I h) fun v s1 ⟨x, H1, I1, r1, q1⟩ => ?_)
  obtain ⟨a, xs, ex, hx, q⟩ := q1
  subst ex
  cases r1
  have hst : PO X (some (.UnaryOp .USub (.Constant (.int 1) k p1) p2)) (tPart (tUn (rU fun i => .int (-i)) (tC (.int 1)))) := po_some (pe_un un_neg pe_int)
  refine wpAny_Slice (thn (po_none.run pins s1 σ H1 (fun o H2 => o = none ∧ H2 = H1) I1 ⟨rfl, rfl⟩) fun vl s2 ⟨l, H2, I2, pl, el, e2⟩ => ?_)
  subst el e2
  refine thn (po_none.run pins s2 σ H2 (fun o H3 => o = none ∧ H3 = H2) I2 ⟨rfl, rfl⟩) fun vu s3 ⟨u, H3, I3, pu, eu, e3⟩ => ?_
  subst eu e3
  refine thn (hst.run pins s3 σ H3 (fun o H4 => o = some (-1) ∧ H4 = H3) I3 ⟨1, rfl, -1, rfl, rfl, rfl⟩) fun vs s4 ⟨o, H4, I4, ps, eo, e4⟩ => ?_
  subst eo e4
  have I5 : Inv X pins σ H4 { s4 with heap := s4.heap.push { cls := .type "slice", data := .fields #[vl, vu, vs] } } := I4.kept (t' := s4.toks) fun b ob q => Heap.get?_push_of_some _ q
  obtain ⟨its, r, ht, hz⟩ := I5.tuple hx
  have hlen := r.length
  show wpAny (model X.prog X.w) X.A (subscriptTail e (.Slice none none (some (.UnaryOp .USub (.Constant (.int 1) k p1) p2)) p3) (.ref a) (.ref s4.heap.objs.size)) (EP X pins σ Q) X.xe { s4 with heap := s4.heap.push { cls := .type "slice", data := .fields #[vl, vu, vs] } }
  refine tail_any (ops := [.ref a, .ref s4.heap.objs.size]) ht.typeIs (PyProof.Rows.slot_tuple_getitem.lookup) ?_ (by with_unfolding_all rfl)
  refine getItem_tuple_rev ht (Heap.IsSliceOf.new _ vl vu vs) pl pu ps ?_ (by omega)
  refine ⟨.ref _, _, I5.laid (t' := s4.toks) (o := .tup xs.reverse) (fun b ob q => Heap.get?_push_of_some _ q) (Nat.le_refl _) ?_, rfl, q _ (I5.hok.fresh (Nat.le_refl _))⟩
  exact ⟨by rw [List.length_reverse]; exact hz, _, r.reverse, IsTup.new _ _⟩
def revD : D → Option D
  | .tup xs => some (.tup xs.reverse)
  | _ => none
theorem Reps.reverse {K : PySem.W.Frag} {F : Addr → Prop} {as : List Addr} {H : Hp} : ∀ {vs : List V} {ds : List D}, Reps K F as H vs ds → Reps K F as H vs.reverse ds.reverse
  | _, _, .nil => .nil
  | _, _, .cons h r => by
    rw [List.reverse_cons, List.reverse_cons]
    exact (Reps.reverse r).append (.cons h .nil)
theorem de_revT (h : DU X O Z e f) : DE X O Z (.Subscript e (.Slice none none (some (.UnaryOp .USub (.Constant (.int 1) k p1) p2)) p3) pos) (E.op1 revD f) := PE.imp (pe_revT h) fun σ H Q ⟨g, ok, q⟩ => by
  refine ⟨g, ok, (Ev.bnd q).mono (fun d st' q as' v H' gr s r => ?_) fun _ _ z => z⟩
  obtain ⟨d', e, q⟩ := q.lift
  cases d with
  | tup xs =>
    cases e
    obtain ⟨a, us, rfl, sq, rs⟩ := r.t_tup
    exact ⟨a, us, rfl, SqT.of sq, fun p np => q as' _ _ (gr.trans (Grow.new np)) (s.new np) (.newT np rs.reverse)⟩
  | _ => cases e
/-! ### xs + ys, a new list -/
def addLL : D → D → Option D
  | .lst a, .lst b => if a.length + b.length < LIM then some (.lst (a ++ b)) else none
  | _, _ => none
theorem dn_addL (ha : DU X O Z a fa) (hb : DU X O Z b fb) : DN X O Z (.BinOp a .Add b pos) (E.op2 addLL fa fb) := PE.imp (pe_op op_catL ha hb) fun σ H Q ⟨g, ok, q⟩ => by
  refine ⟨g, ok, (Ev.bnd q).mono (fun d1 st1 q as1 v1 H1 g1 s1 r1 => ⟨g.at as1 st1, ok.step g1 s1, (Ev.bnd q).mono (fun d2 st2 q as2 v2 H2 g2 s2 r2 => ?_) fun _ _ z => z⟩) fun _ _ z => z⟩
  obtain ⟨d, e, q⟩ := q.lift
  unfold addLL at e
  split at e
  · rename_i xs ys
    split at e
    · rename_i h
      cases e
      have ok2 := (ok.step g1 s1).step g2 s2
      have r1' := r1.grow s1 g2
      obtain ⟨l, us, rfl, q1, rs1⟩ := r1'.t_lst
      obtain ⟨m, ws, rfl, q2, rs2⟩ := r2.t_lst
      refine ⟨l, m, us, ws, rfl, rfl, q1, q2, by rw [rs1.length, rs2.length]; exact Nat.le_of_lt (Nat.lt_trans h lim_line), fun p np => ?_⟩
      have g12 := g1.trans g2
      refine q as2 _ _ (g12.trans (Grow.new np)) (s2.new np) (Own.newL np (rs1.append rs2)) fun p' z => ?_
      cases z
      have na := not_as ok2 np
      exact ⟨fresh_back (K := X.K) (σ := σ) (st1 := st2) g12 np na, na⟩
    · cases e
  · cases e
/-! ### l.index(x) -/
def E.idxL (fo fe : Env → M D) : Env → M D := fun ρ => bnd (fo ρ) fun d => match d with
  | .lst ds => bnd (fe ρ) fun y => lift (idxE ds y)
  | _ => bad
theorem dn_idxL (hu : X.A.units + 65 < cLine) (ho : DU X O Z o fo) (he : DU X O Z e fe) (hbase : attributeBase o "index" X.env (eval o X.env) = eval o X.env := by rfl)
    (hfew : ((backTo cpos (starEach [e] X.env)).all (fun x => !x.1) && (backToKw cpos (keywordEach [] X.env)).all (fun x => x.1.isSome)
      && decide ([e].length + ([] : List Keyword).length + (if ([] : List Keyword).isEmpty then 0 else 1) < 30)) = true := by rfl)
    (hline : (apos.endLine == cpos.line) = true := by rfl) (hs : starEach [e] X.env = (false, eval e X.env) :: starEach [] X.env := by rfl) (hplain : (backTo cpos (starEach [] X.env)).any (·.1) = false := by rfl) :
    DN X O Z (.Call (.Attribute o "index" apos) [e] [] cpos) (E.idxL fo fe) := PE.imp (pe_bm PySem.F.plainAttrs_list PySem.F.slot_list_index PySem.F.type_list_index (mt_indexD hu) ho (pa_cons he pa_nil hs) hbase hfew hline hs hplain) fun σ H Q ⟨g, ok, q⟩ => by
  refine ⟨g, ok, (Ev.bnd q).mono (fun d st1 q as1 v H1 g1 s1 r1 => ?_) fun _ _ z => z⟩
  cases d with
  | lst ds =>
    obtain ⟨a, ys, rfl, sq, rs⟩ := r1.t_lst
    refine ⟨.inl ⟨rfl, ys, sq⟩, g.at as1 st1, ok.step g1 s1, (Ev.bnd q).mono (fun y st2 q as2 u H2 g2 s2 r2 => ?_) fun _ _ z => z⟩
    obtain ⟨d', e, q⟩ := q.lift
    unfold idxE at e
    split at e
    case isFalse => cases e
    case isTrue hok =>
      simp only [Bool.and_eq_true] at hok
      rw [Option.map_eq_some_iff] at e
      obtain ⟨j, ej, rfl⟩ := e
      have r3 := r1.grow s1 g2
      have dp : Dp X.K H2 (.ref a) (.list (D.pys ds)) := by
        have := r3.dp (n := 61) (by simpa [D.okd] using hok.1)
        simpa only [D.py] using this
      unfold idxD at ej
      rw [List.findIdx?_eq_some_iff_getElem] at ej
      obtain ⟨hj, h1, h2⟩ := ej
      have sh : SeqAt.shaped (.list (D.pys ds)) = true := by
        have := D.shaped (n := 61) (d := .lst ds) (by simpa [D.okd] using hok.1) (by decide)
        simpa only [D.py] using this
      refine ⟨a, u, y.py, D.pys ds, j, ds[j].py, rfl, rfl, dp, r2.dp hok.2, sh, D.shaped hok.2 (by decide), ?_, h1, fun m z' hm hz => ?_, q as2 _ H2 (g1.trans g2) s2 (.sca (.int _) fun p z => nomatch z) fun p z => nomatch z⟩
      · rw [pys_get, List.getElem?_eq_getElem hj]; rfl
      · rw [pys_get, List.getElem?_eq_getElem (by omega)] at hz
        cases hz
        have := h2 m hm
        simpa using this
  | _ => exact q.elim
/-! ### t * k -/
theorem tuple_mulE (l : Addr) (n : Nat) (dd : Option Addr) (sl : Array (Option Value)) (x : Int) (u : Tok) (c0 : (decide (x < -(2 ^ 63)) || decide (x ≥ 2 ^ 63)) = false) :
    Meets (Builtin.«tuple.__mul__» ⟨[.ref l, .int x u], []⟩) (fun _ R s => s.heap.get? l = some { cls := .type "tuple", dict := dd, data := .seq #[] n, slots := sl } ∧ R (.ok (.ret (Value.ref l))) s) :=
  .of_wp fun prog w A R s h => by
    obtain ⟨hp, g, d, tk, os⟩ := s
    obtain ⟨hl, h⟩ := h
    have f1 := AutoSeq1.idx_int
    wp_walk using wpAny_loadPart' hl
    repeat (first
      | (refine wpAny_ite_false (decide_eq_false (by rw [c0]; exact Bool.false_ne_true)) ?_; wp_walk using wpAny_loadPart' hl))
    exact ⟨_, rfl, h⟩
def rRepE (K : PySem.W.Frag) : R2 := fun x y H Q => ∃ l k, x = .ref l ∧ y = .int k ∧ SqT K H l [] ∧ 0 ≤ k ∧ k ≤ 1000 ∧ Q (.ref l) H
theorem op_repE : OpR X (binaryOp .Mult) (rRepE X.K) := by
  intro pins s σ H x y v u Q I rx ry h
  obtain ⟨l, k, rfl, rfl, hT, h1, h2, q⟩ := h
  cases rx
  obtain ⟨t, rfl⟩ := ry
  obtain ⟨its, r, ⟨⟨cls, dd, data, sl⟩, ho, hc, n, hd⟩, hs⟩ := I.tuple hT
  cases r
  simp only at hc hd
  subst hc hd
  have c0 : (decide (k < -(2 ^ 63)) || decide (k ≥ 2 ^ 63)) = false := by
    rw [decide_eq_false (by omega), decide_eq_false (by omega)] <;> rfl
  refine wpAny_binaryOp_repeat_ref (T := "tuple") (U := "int") (by decide) ⟨_, ho, rfl⟩ (fun s' => typeIs_int s' k t) noFill_tuple_mul F.fills_int_mul F.slot_int_rmul repeat_tuple F.slot_int_index.lookup
    (call_meets F.slot_int_rmul (typeIs_int s k t) F.entry_int_rmul (F.args_int_rmul_2 _ _) (int_rmul_tuple k t l #[] n dd sl)
      ⟨ho, rfl, ⟨_, ho, rfl⟩, call_meets F.slot_tuple_mul ⟨_, ho, rfl⟩ F.entry_tuple_mul (F.args_tuple_mul_2 _ _) (tuple_mulE l n dd sl k t c0) ⟨ho, ?_⟩⟩)
  exact ⟨.ref l, H, I, rfl, q⟩
def mulT : D → D → Option D
  | .tup xs, .int k => if 2 ≤ k ∧ k ≤ 1000 ∧ xs.length ≤ 1000 then some (.tup (List.replicate k.toNat xs).flatten) else none
  | _, _ => none
theorem Reps.rep {K : PySem.W.Frag} {F : Addr → Prop} {as : List Addr} {H : Hp} {vs : List V} {ds : List D} (r : Reps K F as H vs ds) : ∀ n : Nat, Reps K F as H (List.replicate n vs).flatten (List.replicate n ds).flatten
  | 0 => .nil
  | n + 1 => by
    rw [List.replicate_succ, List.replicate_succ, List.flatten_cons, List.flatten_cons]
    exact r.append (Reps.rep r n)
theorem o_mulT : Op2 X (binaryOp .Mult) mulT := ⟨_, op_repT.or op_repE, fun F as H x y d1 d2 d Q tr r1 r2 e q => by
  unfold mulT at e
  split at e
  · rename_i xs k
    split at e
    · rename_i h
      cases e
      obtain ⟨a, us, rfl, s1, q1⟩ := r1.t_tup
      rw [r2.t_int]
      have hl := q1.length
      cases us with
      | nil =>
        cases q1
        refine .inr ⟨a, k, rfl, rfl, SqT.of s1, by omega, h.2.1, ?_⟩
        have e0 : (List.replicate k.toNat ([] : List D)).flatten = [] := by simp
        rw [e0] at q
        exact q _ H (Same.refl _) (.tup s1 .nil)
      | cons v us =>
        refine .inl ⟨a, k, v :: us, rfl, rfl, SqT.of s1, by simp, h.1, h.2.1, by rw [hl]; exact h.2.2, fun p np => q _ _ (same_new np) (.newT np (q1.rep k.toNat))⟩
    · cases e
  · cases e⟩
end
end G
end L2
end G43_
section G44_
set_option Elab.async false
set_option linter.all false
set_option maxRecDepth 100000
set_option maxHeartbeats 2000000
namespace L2
namespace G
open PySem PySem.Spec PyProof.Rows
section
variable {X : Cx} {O : List Nat} {Z : ZT} {a b e o : Expr} {fa fb fo fe f : Env → M D} {pos apos cpos p1 p2 p3 : Pos} {k : Nat}
/-! ### [x, ..] * k -/
def mulL : D → D → Option D
  | .lst xs, .int k => if 0 ≤ k ∧ k ≤ 1000 ∧ xs.length ≤ 1000 then some (.lst (List.replicate k.toNat xs).flatten) else none
  | _, _ => none
theorem dn_mulL (ha : DN X O Z a fa) (hb : DN X O Z b fb) : DN X O Z (.BinOp a .Mult b pos) (E.op2 mulL fa fb) := PE.imp (pe_op op_rep ha hb) fun σ H Q ⟨g, ok, q⟩ => by
  refine ⟨g, ok, (Ev.bnd q).mono (fun d1 st1 q as1 v1 H1 g1 s1 r1 f1 => ⟨g.at as1 st1, ok.step g1 s1, (Ev.bnd q).mono (fun d2 st2 q as2 v2 H2 g2 s2 r2 f2 => ?_) fun _ _ z => z⟩) fun _ _ z => z⟩
  obtain ⟨d, e, q⟩ := q.lift
  cases d1 with
  | lst xs =>
    cases d2 with
    | int kk =>
      unfold mulL at e
      dsimp only at e
      split at e
      · rename_i h
        cases e
        have ok2 := (ok.step g1 s1).step g2 s2
        cases r1 with
        | sca r z => cases r with
          | lst h r => exact absurd rfl (z _)
        | @lst p vs ds hp r =>
          have na1 := (f1 p rfl).2
          have hp2 : H2 p = some (.lst vs) := g2.keep p _ hp na1
          have ev2 : v2 = .int kk := by
            cases r2 with
            | sca r _ => cases r; rfl
          subst ev2
          have rl := r.length
          refine ⟨p, kk, vs, rfl, rfl, hp2, by omega, by omega, ?_, fun p2 np => ?_⟩
          · have : vs.length * kk.toNat ≤ 1000 * 1000 := Nat.mul_le_mul (by omega) (by omega)
            have := line_million
            omega
          have g12 := g1.trans g2
          have rs2 := (r.weak (F' := Ff g.B as1 O σ) fun a o _ z => .inl z).grow s1 g2
          refine q as2 _ _ (g12.trans (Grow.new np)) (s2.new np) (Own.newL np (rs2.rep kk.toNat)) fun p' z => ?_
          cases z
          have na := not_as ok2 np
          exact ⟨fresh_back (K := X.K) (σ := σ) (st1 := st2) g12 np na, na⟩
      · cases e
    | _ => cases e
  | _ => cases e
end
end G
end L2
end G44_
section G45_
set_option Elab.async false
set_option linter.all false
set_option maxRecDepth 100000
set_option maxHeartbeats 2000000
namespace L2
namespace G
open PySem PySem.Spec PyProof.Rows
/-! ### repr of anything that is plain -/
def reprD2 : List D → Option D
  | [d] => if d.okd 60 && d.py.showable && decide (d.py.shown.length ≤ 1000000) then some (.str d.py.shown) else none
  | _ => none
section
variable {X : Cx}
def scaV : V → PyData → Prop
  | .non, .none => True
  | .bl b, .bool c => b = c
  | .int i, .int j => i = j
  | .str x, .str y => x = y
  | _, _ => False
theorem call_reprS : CallR X (.builtin "repr") (fun xs H Q => ∃ (v : V) (d : PyData), xs = [v] ∧ scaV v d ∧ d.showable = true ∧ d.shown.length ≤ sizeLine ∧ Q (.str d.shown) H) := by
  intro pins s σ H xs us Q I r h
  obtain ⟨v, d, rfl, hd, hs, hz, q⟩ := h
  obtain ⟨u, rfl, rx⟩ := vals1 r
  cases v with
  | non =>
    cases d with
    | none =>
      obtain rfl : u = Value.none := rx
      exact PySem.P.repr_of_none ⟨.str _, H, I.tok _, ⟨_, rfl⟩, q⟩
    | _ => exact (show False from hd).elim
  | bl b =>
    cases d with
    | bool c =>
      obtain rfl : b = c := hd
      obtain rfl : u = Value.bool b := rx
      have e : PyData.shown (.bool b) = if b = true then Str.ofString "True" else Str.ofString "False" := by simp only [PyData.shown]
      rw [e] at q
      exact PySem.P.repr_of_bool ⟨.str _, H, I.tok _, ⟨_, rfl⟩, q⟩
    | _ => exact (show False from hd).elim
  | int i =>
    cases d with
    | int j =>
      obtain rfl : i = j := hd
      obtain ⟨t, rfl⟩ := rx
      have e : PyData.shown (.int i) = toString i := by simp only [PyData.shown]
      rw [e] at q
      exact PySem.P.repr_of_int (by simpa [PyData.showable] using hs) ⟨.str _, H, I.tok _, ⟨_, rfl⟩, q⟩
    | _ => exact (show False from hd).elim
  | str x =>
    cases d with
    | str y =>
      obtain rfl : x = y := hd
      obtain ⟨t, rfl⟩ := rx
      have e : PyData.shown (.str x) = reprText x := by simp only [PyData.shown]
      rw [e] at q hz
      exact PySem.P.repr_of_str (hsz := hz) ⟨.str _, H, I.tok _, ⟨_, rfl⟩, q⟩
    | _ => exact (show False from hd).elim
  | _ => exact (show False from hd).elim
theorem b_repr2 (hu : X.A.units + 65 < cLine) (hg : X.A.guards = some []) : Bl X (.builtin "repr") reprD2 := ⟨_, (call_reprD hu hg).or call_reprS, fun F as H xs ds d Q tr r e q => by
  unfold reprD2 at e
  split at e
  · rename_i d1
    split at e
    · rename_i h
      cases e
      simp only [Bool.and_eq_true, decide_eq_true_eq] at h
      obtain ⟨v, rfl, rv⟩ := repTs1 r
      have hp := rv.dp h.1.1
      have lay := D.okd_lay h.1.1
      have hz : d1.py.shown.length ≤ sizeLine := by have := line_million; omega
      cases d1 with
      | tup xs => obtain ⟨a, us, rfl, _⟩ := rv.t_tup; exact .inl ⟨a, _, rfl, hp, lay.1, lay.2, h.1.2, hz, q _ H (Same.refl _) (.str _)⟩
      | lst xs => obtain ⟨a, us, rfl, _⟩ := rv.t_lst; exact .inl ⟨a, _, rfl, hp, lay.1, lay.2, h.1.2, hz, q _ H (Same.refl _) (.str _)⟩
      | ftup xs => obtain ⟨a, us, rfl, _⟩ := rv.t_ftup; exact .inl ⟨a, _, rfl, hp, lay.1, lay.2, h.1.2, hz, q _ H (Same.refl _) (.str _)⟩
      | non => rw [rv.t_non]; exact .inr ⟨.non, .none, rfl, trivial, rfl, hz, q _ H (Same.refl _) (.str _)⟩
      | bl b => rw [rv.t_bl]; exact .inr ⟨.bl b, .bool b, rfl, rfl, h.1.2, hz, q _ H (Same.refl _) (.str _)⟩
      | int i => rw [rv.t_int]; exact .inr ⟨.int i, .int i, rfl, rfl, h.1.2, hz, q _ H (Same.refl _) (.str _)⟩
      | str x => rw [rv.t_str]; exact .inr ⟨.str x, .str x, rfl, rfl, h.1.2, hz, q _ H (Same.refl _) (.str _)⟩
      | dct t ks vs => simp [D.okd] at h
      | ref n => simp [D.okd] at h
    · cases e
  · cases e⟩
end
end G
end L2
end G45_
section G46_
set_option Elab.async false
set_option linter.all false
set_option maxRecDepth 100000
set_option maxHeartbeats 1000000
namespace L2
namespace G
open PySem PySem.Spec PyProof.Rows
/-! ### the head's hook, which also looks into the interpreter's statics -/
def asY (g : Addr → Option Obj) (n : Nat) : List Addr := cStatics :: He.asD g n
def obsY (n : Nat) (fa : List He.Fa) (fn : List He.DefD) (ts : List He.Tab) (tf : List He.Defn) (ex : PySem.W.Frag → Bool) (g : Addr → Option Obj) : He.AlX := (He.obsT fa fn ts (He.frT g (asY g n)), ex (He.frT g (asY g n)) && He.tabsB g tf (He.frT g (asY g n)))
theorem saysY_of {fa : List He.Fa} {fn : List He.DefD} {ts : List He.Tab} {tf : List He.Defn} {ex : PySem.W.Frag → Bool} {w : World} {h : Heap} {as : List Addr} (e : (He.obsT fa fn ts (He.frT h.get? as), ex (He.frT h.get? as) && He.tabsB h.get? tf (He.frT h.get? as)) = He.valX fn ts w) : He.SaysX fa fn ts tf ex w h (He.frT h.get? as) := by
  have e := Prod.ext_iff.mp e
  have e1 : He.obsT fa fn ts (He.frT h.get? as) = He.valT fn ts w := e.1
  have e2 : (ex (He.frT h.get? as) && He.tabsB h.get? tf (He.frT h.get? as)) = true := e.2
  rw [Bool.and_eq_true] at e2
  have key : ∀ p ∈ tf, PySem.W.codeHdIn (He.frT h.get? as) (He.cT (He.frT h.get? as) p).1 (He.cT (He.frT h.get? as) p).2 = true ∧ ∃ o, h.get? (He.cT (He.frT h.get? as) p).2 = some o ∧ He.emptyTab o = true := fun p hp => by
    have z := List.all_eq_true.mp e2.2 p hp
    rw [Bool.and_eq_true] at z
    refine ⟨z.1, ?_⟩
    have z2 := z.2
    split at z2
    · rename_i o q
      exact ⟨o, q, z2⟩
    · cases z2
  refine ⟨e1, e2.1, fun p hp => (key p hp).1, fun p hp => ?_, fun p hp => ?_⟩
  · obtain ⟨_, o, q, z⟩ := key p hp
    exact He.frT_none q z
  · obtain ⟨_, o, q, z⟩ := key p hp
    rw [q, He.emptyTab_eq z]
def hookY (n : Nat) (fa : List He.Fa) (fn : List He.DefD) (ts : List He.Tab) (tf : List He.Defn) (ex : PySem.W.Frag → Bool) : PySem.W.Hook where
  α := He.AlX
  obs := fun s => obsY n fa fn ts tf ex s.heap.get?
  val := fun w => He.valX fn ts w
  says := fun w h => ∃ K : PySem.W.Frag, K.In h ∧ He.SaysX fa fn ts tf ex w h K
  of := fun _ _ e => ⟨_, He.frT_in, saysY_of e⟩
  keeps := fun _ _ _ ⟨K, hK, c⟩ k => ⟨K, PySem.W.Frag.In.keeps hK k, ⟨c.t, c.more, c.hd, c.out, fun p hp => k _ _ (c.empty p hp)⟩⟩
theorem obsY_eq {n : Nat} {fa : List He.Fa} {fn : List He.DefD} {ts : List He.Tab} {tf : List He.Defn} {ex : PySem.W.Frag → Bool} {g : Addr → Option Obj} {s : Shared} (h : ∀ a, g a = s.heap.get? a) : obsY n fa fn ts tf ex g = (hookY n fa fn ts tf ex).obs s := by
  have e : g = s.heap.get? := funext h
  rw [e] <;> rfl
end G
end L2
end G46_
section G47_
set_option Elab.async false
set_option linter.all false
set_option maxRecDepth 100000
set_option maxHeartbeats 1000000
namespace L2
namespace G
open PySem PySem.Spec PyProof.Rows
/-! ### lists by two clauses -/
def compL2 (ρ : Env) (t : D → Env → Option Env) (c : Env → M Bool) (i1 : Env → M (List D)) (vs1 : List Nat) (t1 : D → Env → Option Env) (c1 : Env → M Bool) (e : Env → M D) : List D → M (List D)
  | [] => ret []
  | d :: r => bnd (lift (t d ρ)) fun ρ1 => bnd (c ρ1) fun k => if k = true then bnd (i1 ρ1) fun ds1 => if ds1.length ≤ 100 then bnd (compL (wipeD ρ1 vs1) t1 c1 e ds1) fun ys => bnd (compL2 ρ t c i1 vs1 t1 c1 e r) fun zs => ret (ys ++ zs) else bad
    else compL2 ρ t c i1 vs1 t1 c1 e r
def E.comp2 (i : Env → M (List D)) (vs : List Nat) (t : D → Env → Option Env) (c : Env → M Bool) (i1 : Env → M (List D)) (vs1 : List Nat) (t1 : D → Env → Option Env) (c1 : Env → M Bool) (e : Env → M D) : Env → M D := fun ρ => bnd (i ρ) fun ds => if ds.length ≤ 5000 then bnd (compL2 (wipeD ρ vs) t c i1 vs1 t1 c1 e ds) fun rs => ret (.lst rs) else bad
section
variable {K : PySem.W.Frag} {O : List Nat} {B : Addr → Prop} {H0 : Hp} {as0 as as' : List Addr} {ρ : Env} {σ : L2.St} {H H' : Hp} {st st' : Store} {v : V} {d : D} {i : Nat}
/-- what is known stays where one object that nothing clean lies on is written -/
theorem Wf.putB {D0 : Addr} {o o' : HO} (w : Wf K O B H0 as0 as ρ σ H) (hB : B D0) (n0 : H0 D0 = none) (nA : D0 ∉ as) (hD : H D0 = some o) (nt : ¬ TupO o) : Wf K O B H0 as0 as ρ σ (upd H D0 o') := by
  have kk : ∀ b u, H b = some u → ¬ Ff B as O σ b → upd H D0 o' b = some u := fun b u e z => by rw [upd_ne (fun q => z (.inl (by rw [q]; exact hB)))]; exact e
  have kt : ∀ b u, H b = some u → TupO u → upd H D0 o' b = some u := fun b u e z => by rw [upd_ne (fun q => by rw [q, hD] at e; cases e; exact nt z)]; exact e
  refine ⟨w.len, fun i d e ni => ?_, fun i d e m => ?_, fun i a m e => ?_, w.dis, fun a z => ?_, ⟨w.gr.pre, fun b u e n => ?_, w.gr.fre⟩⟩
  · obtain ⟨v, h, r⟩ := w.var i d e ni
    exact ⟨v, h, r.frame kk kt fun _ _ h => h⟩
  · obtain ⟨v, h, r⟩ := w.own i d e m
    refine ⟨v, h, ?_⟩
    have hp : ∀ p, v = .ref p → p ≠ D0 := fun p z q => by subst z; exact (w.slot i p m h).2.2.1 (by rw [q]; exact hB)
    cases r with
    | lst hh r => exact .lst (by rw [upd_ne (hp _ rfl)]; exact hh) (r.frame kk kt fun _ _ h => h)
    | dct hh o r => exact .dct (by rw [upd_ne (hp _ rfl)]; exact hh) o (r.frame kk kt fun _ _ h => h)
    | sca r q => exact .sca (r.frame kk kt fun _ _ h => h) q
  · obtain ⟨h1, h2, h3, u, h4, h5⟩ := w.slot i a m e
    exact ⟨h1, h2, h3, u, by rw [upd_ne (fun q => h3 (by rw [q]; exact hB))]; exact h4, h5⟩
  · by_cases q : a = D0
    · exact ⟨o', by rw [q, upd_same]⟩
    · rw [upd_ne q]; exact w.trB a z
  · rw [upd_ne (ne_of_none e n0)]; exact w.gr.keep b u e n
/-- grown, but for D0 -/
structure GrowD (D0 : Addr) (as : List Addr) (H : Hp) (as' : List Addr) (H' : Hp) : Prop where
  pre : ∀ (n : Nat) (a : Addr), as[n]? = some a → as'[n]? = some a
  keep : ∀ b o, H b = some o → b ∉ as → b ≠ D0 → H' b = some o
  fre : ∀ a ∈ as', a ∉ as → H a = none
  tup : ∀ b o, H b = some o → TupO o → H' b = some o
theorem GrowD.refl {D0 : Addr} : GrowD D0 as H as H := ⟨fun _ _ h => h, fun _ _ h _ _ => h, fun _ h n => absurd h n, fun _ _ h _ => h⟩
theorem GrowD.sub {D0 : Addr} (g : GrowD D0 as H as' H') {a : Addr} (h : a ∈ as) : a ∈ as' := by
  obtain ⟨i, hi, e⟩ := List.getElem_of_mem h
  exact List.mem_of_getElem? (g.pre i a (by rw [List.getElem?_eq_getElem hi, e]))
theorem GrowD.grow {D0 : Addr} {as2 : List Addr} {H2 : Hp} (g : GrowD D0 as H as' H') (nD : D0 ∉ as') (hD : ∃ o, H' D0 = some o) (s : SRep K as' st' H') (k : Grow as' H' as2 H2) : GrowD D0 as H as2 H2 where
  pre := fun n a h => k.pre n a (g.pre n a h)
  keep := fun b o h n e => k.keep b o (g.keep b o h n e) fun q => by
    have := g.fre b q n
    rw [h] at this; cases this
  fre := fun a h n => by
    by_cases q : a ∈ as'
    · exact g.fre a q n
    · have z := k.fre a h q
      cases e : H a with
      | none => rfl
      | some o =>
        by_cases ed : a = D0
        · obtain ⟨u, hu⟩ := hD
          rw [ed, hu] at z; cases z
        · rw [g.keep a o e n ed] at z; cases z
  tup := fun b o h t => grow_t s k b o (g.tup b o h t) t
theorem GrowD.put {D0 : Addr} {o o' : HO} (g : GrowD D0 as H as' H') (hD : H' D0 = some o) (nt : ¬ TupO o) : GrowD D0 as H as' (upd H' D0 o') where
  pre := g.pre
  keep := fun b u h n e => by rw [upd_ne e]; exact g.keep b u h n e
  fre := g.fre
  tup := fun b u h t => by rw [upd_ne (fun q => by have := g.tup b u h t; rw [q, hD] at this; cases this; exact nt t)]; exact g.tup b u h t
end
section
variable {X : Cx} {O : List Nat} {Z : ZT} {tg iter tg1 iter1 elt : Expr} {ifs ifs1 : List Expr} {fe : Env → M D} {fi fi1 : Env → M (List D)} {fc fc1 : Env → M Bool} {t t1 : D → Env → Option Env} {pos : Pos} {scope : Scope} {own : List (Str × Nat)} {vs1 : List Nat}
def lc2B (g : TG) (tt : TT) (wi1 : TI) (g1 : TG) (tt1 : TT) (te : TE) (vs vs1 : List Nat) (σ : L2.St) (Q : VK) (J : It) (H1 : Hp) : Prop := ∀ D, H1 D = none → ∃ W : Nat → Nat → Hp → Prop, (∃ m, W 0 m (upd H1 D (.lst []))) ∧ ∀ i m H, W i m H →
  (J.stop i H ∧ Q (.ref D) H) ∨ (J.go i H ∧ ∃ Nx : Hp → Prop, (∀ H', Nx H' → ∃ m', m' < m ∧ W (i + 1) m' H') ∧ ∀ x H', J.yld i H x H' → g x (L2.wipe σ vs) H' fun σ2 H2 => L2.wipe σ2 vs = L2.wipe σ vs ∧ tt σ2 H2 fun b H3 =>
    if b = true then wi1 σ2 H3 fun J1 H4 => ∃ W1 : Nat → Nat → Hp → Prop, (∃ m, W1 0 m H4) ∧ ∀ j k H, W1 j k H →
      (J1.stop j H ∧ Nx H) ∨ (J1.go j H ∧ ∃ Nx1 : Hp → Prop, (∀ H', Nx1 H' → ∃ k', k' < k ∧ W1 (j + 1) k' H') ∧ ∀ x H', J1.yld j H x H' → g1 x (L2.wipe σ2 vs1) H' fun σ3 H5 => L2.wipe σ3 vs1 = L2.wipe σ2 vs1 ∧ tt1 σ3 H5 fun b H6 =>
        if b = true then te σ3 H6 fun y H7 => ∃ acc, H7 D = some (.lst acc) ∧ acc.length < sizeLine ∧ Nx1 (upd H7 D (.lst (acc ++ [y]))) else Nx1 H6)
    else Nx H3)
theorem comp2_core {vs : List Nat} {σ : L2.St} {H H1 : Hp} {g : Gh} {Q : VK} {ds : List D} {st1 : Store} {as1 : List Addr} {J : It} (hO : ∀ i ∈ vs, i ∉ O) (hO1 : ∀ i ∈ vs1, i ∉ O) (hd : ds.length ≤ 5000) (ok : g.ok X.K O σ H) (g1 : Grow g.as H as1 H1) (s1 : SRep X.K as1 st1 H1) (wk : WalkC X.K (Ff g.B as1 O σ) (· ∈ as1) as1 H1 J ds)
    (q : Ev (bnd (compL2 (wipeD g.ρ vs) t fc fi1 vs1 t1 fc1 fe ds) (fun rs => ret (.lst rs)) st1) (fun d st' => ∀ as' v H', Grow g.as H as' H' → SRep X.K as' st' H' → Own X.K (fun a => Ff g.B as' O σ a ∨ v = .ref a) as' H' v d → (∀ p, v = .ref p → H p = none ∧ p ∉ as') → Q v H') (Zc X.K O g.B g.H0 g.as0 Z)) :
    lc2B (tG X.K O vs t) (tT X.K O Z fc) (tI X.K O Z fi1) (tG X.K O vs1 t1) (tT X.K O Z fc1) (tE X.K O Z fe) vs vs1 σ Q J H1 := by
  intro D nD
  have q := Ev.bnd q
  have ok1 := ok.step g1 s1
  have w1 : Wf X.K O g.B g.H0 g.as0 as1 (wipeD g.ρ vs) (L2.wipe σ vs) H1 := ok1.wf.wipe hO
  have own1 := ownA_wipe (σ := σ) hO
  have nDH : H D = none := by
    cases z : H D with
    | none => rfl
    | some o =>
      by_cases m : D ∈ g.as
      · exact absurd (g1.sub m) (not_as ok1 nD)
      · have := g1.keep D o z m
        rw [nD] at this; cases this
  have n0 : g.H0 D = none := by
    cases z : g.H0 D with
    | none => rfl
    | some o =>
      by_cases m : D ∈ g.as0
      · exact absurd (w1.gr.sub m) (not_as ok1 nD)
      · have := w1.gr.keep D o z m
        rw [nD] at this; cases this
  have ntl : ∀ acc : List V, ¬ TupO (.lst acc) := fun _ z => z
  have wD : ∀ {as2 : List Addr} {H2 : Hp} {st2 : Store} {acc : List V}, Grow as1 H1 as2 H2 → SRep X.K as2 st2 H2 → H2 D = some (.lst acc) → Wf X.K O (fun a => g.B a ∨ a = D) g.H0 g.as0 as2 (wipeD g.ρ vs) (L2.wipe σ vs) H2 := fun g2 s2 hD => w1.growB s1 nD g2 s2 ⟨_, hD⟩
  refine ⟨fun i m H2 => m = ds.length - i ∧ i ≤ ds.length ∧ ∃ as2 st2 acc accD, SRep X.K as2 st2 H2 ∧ Grow as1 H1 as2 H2 ∧ H2 D = some (.lst acc) ∧ D ∉ as2 ∧ acc.length ≤ 100 * i ∧
    Reps X.K (Ff (fun a => g.B a ∨ a = D) as2 O (L2.wipe σ vs)) as2 H2 acc accD ∧
    Ev (compL2 (wipeD g.ρ vs) t fc fi1 vs1 t1 fc1 fe (ds.drop i) st2) (fun ys st' => ∀ as' v H', Grow g.as H as' H' → SRep X.K as' st' H' → Own X.K (fun a => Ff g.B as' O σ a ∨ v = .ref a) as' H' v (.lst (accD ++ ys)) → (∀ p, v = .ref p → H p = none ∧ p ∉ as') → Q v H') (Zc X.K O g.B g.H0 g.as0 Z),
    ⟨_, rfl, Nat.zero_le _, as1, st1, [], [], s1.new nD, Grow.new nD, upd_same, not_as ok1 nD, Nat.le_refl _, .nil, ?_⟩, ?_⟩
  · exact Ev.mono q (fun ys st' q as' v H' a b c d => q as' v H' a b c d) fun _ _ z => z
  · rintro i m H2 ⟨rfl, hi, as2, st2, acc, accD, s2, g2, hD, nA, hl, rs, q2⟩
    have w2 := wD g2 s2 hD
    obtain ⟨_, ffs0⟩ := Step.stay (σ1 := σ) ok1.wf s1 (g2.step s2)
    have stay0 : Stay (· ∈ as1) H1 H2 := ⟨fun b o h n => g2.keep b o h n, grow_t s1 g2⟩
    have ffs : ∀ a o, H1 a = some o → Ff (fun a => g.B a ∨ a = D) as2 O (L2.wipe σ vs) a → Ff g.B as1 O σ a := fun a o h z => by
      rcases z with (z | z) | z | z
      · exact .inl z
      · rw [z, nD] at h; cases h
      · exact ffs0 a o h (.inr (.inl z))
      · exact .inr (.inr ((own1 a).mp z))
    by_cases hlt : i < ds.length
    · refine .inr ⟨wk.go i H2 stay0 hlt, ?_⟩
      rw [List.drop_eq_getElem_cons hlt] at q2
      obtain ⟨ρ3, e3, q3⟩ := (Ev.bnd q2).lift
      have q3 := Ev.bnd q3
      refine ⟨fun H3 => ∃ as2 st2 acc accD, SRep X.K as2 st2 H3 ∧ Grow as1 H1 as2 H3 ∧ H3 D = some (.lst acc) ∧ D ∉ as2 ∧ acc.length ≤ 100 * (i + 1) ∧
        Reps X.K (Ff (fun a => g.B a ∨ a = D) as2 O (L2.wipe σ vs)) as2 H3 acc accD ∧ Ev (compL2 (wipeD g.ρ vs) t fc fi1 vs1 t1 fc1 fe (ds.drop (i + 1)) st2) (fun ys st' => ∀ as' v H', Grow g.as H as' H' → SRep X.K as' st' H' → Own X.K (fun a => Ff g.B as' O σ a ∨ v = .ref a) as' H' v (.lst (accD ++ ys)) → (∀ p, v = .ref p → H p = none ∧ p ∉ as') → Q v H') (Zc X.K O g.B g.H0 g.as0 Z), fun H' n => ⟨ds.length - (i + 1), by omega, rfl, hlt, n⟩, fun x H3 y => ?_⟩
      obtain ⟨sm, rx⟩ := wk.yl i H2 x H3 _ (Ff (fun a => g.B a ∨ a = D) as2 O (L2.wipe σ vs)) as2 stay0 g2.pre ffs y (List.getElem?_eq_getElem hlt)
      have s3 := s2.same sm
      have w3 := w2.grow s2 (grow_same sm) s3
      refine ⟨⟨fun a => g.B a ∨ a = D, g.H0, g.as0, as2, wipeD g.ρ vs, st2⟩, _, ρ3, ⟨w3, s3⟩, rx, e3, fun σ4 w4 o4 l4 j4 => ⟨?_, ?_⟩⟩
      · rw [wipe_same l4 j4, wipe_wipe]
      have ff4 : ∀ (as : List Addr) a, Ff (fun a => g.B a ∨ a = D) as O σ4 a ↔ Ff (fun a => g.B a ∨ a = D) as O (L2.wipe σ vs) a := fun as a => or_congr Iff.rfl (or_congr Iff.rfl (o4 a))
      have hD3 := sm D _ hD
      have g3 := g2.trans (grow_same (as := as2) sm)
      have rs3 : Reps X.K (Ff (fun a => g.B a ∨ a = D) as2 O (L2.wipe σ vs)) as2 H3 acc accD := rs.grow s2 (grow_same sm)
      have grows : ∀ {as5 : List Addr} {H5 : Hp} {st5 : Store}, Grow as2 H3 as5 H5 → SRep X.K as5 st5 H5 → H5 D = some (.lst acc) ∧ D ∉ as5 ∧ Reps X.K (Ff (fun a => g.B a ∨ a = D) as5 O (L2.wipe σ vs)) as5 H5 acc accD := by
        intro as5 H5 st5 g5 s5
        refine ⟨g5.keep D _ hD3 nA, fun z => ?_, rs3.grow s3 g5⟩
        have := g5.fre D z nA
        rw [hD3] at this; cases this
      refine ⟨⟨fun a => g.B a ∨ a = D, g.H0, g.as0, as2, ρ3, st2⟩, ⟨w4, s3⟩, Ev.mono q3 (fun k st5 q5 as5 H5 g5 s5 => ?_) fun _ _ z => z.mono fun _ z => .inl z⟩
      obtain ⟨d5, n5, r5⟩ := grows g5 s5
      cases k with
      | false =>
        exact ⟨as5, st5, acc, accD, s5, g3.trans g5, d5, n5, by omega, r5, q5⟩
      | true =>
        have w5 := w4.grow s3 g5 s5
        refine ⟨⟨fun a => g.B a ∨ a = D, g.H0, g.as0, as5, ρ3, st5⟩, ⟨w5, s5⟩, (Ev.bnd q5).mono (fun ds1 st6 q6 as6 H6 J1 g6 s6 wk1 => ?_) fun _ _ z => z.mono fun _ z => .inl z⟩
        by_cases h100 : ds1.length ≤ 100
        case neg => rw [if_neg h100] at q6; exact q6.elim
        rw [if_pos h100] at q6
        have q6 := Ev.bnd q6
        obtain ⟨d6, n6, r6⟩ := grows (g5.trans g6) s6
        have w6 := w5.grow s5 g6 s6
        have w6w : Wf X.K O (fun a => g.B a ∨ a = D) g.H0 g.as0 as6 (wipeD ρ3 vs1) (L2.wipe σ4 vs1) H6 := w6.wipe hO1
        have own4 := ownA_wipe (σ := σ4) hO1
        have gg6 : Grow as1 H1 as6 H6 := g3.trans (g5.trans g6)
        refine ⟨fun j k H7 => k = ds1.length - j ∧ j ≤ ds1.length ∧ ∃ as7 st7 acc accD, SRep X.K as7 st7 H7 ∧ Grow as1 H1 as7 H7 ∧ GrowD D as6 H6 as7 H7 ∧ Wf X.K O (fun a => g.B a ∨ a = D) g.H0 g.as0 as7 (wipeD ρ3 vs1) (L2.wipe σ4 vs1) H7 ∧ H7 D = some (.lst acc) ∧ D ∉ as7 ∧ acc.length ≤ 100 * i + j ∧
          Reps X.K (Ff (fun a => g.B a ∨ a = D) as7 O (L2.wipe σ vs)) as7 H7 acc accD ∧
          Ev (compL (wipeD ρ3 vs1) t1 fc1 fe (ds1.drop j) st7) (fun ys st8 => Ev (compL2 (wipeD g.ρ vs) t fc fi1 vs1 t1 fc1 fe (ds.drop (i + 1)) st8) (fun zs st' => ∀ as' v H', Grow g.as H as' H' → SRep X.K as' st' H' → Own X.K (fun a => Ff g.B as' O σ a ∨ v = .ref a) as' H' v (.lst (accD ++ (ys ++ zs))) → (∀ p, v = .ref p → H p = none ∧ p ∉ as') → Q v H') (Zc X.K O g.B g.H0 g.as0 Z)) (Zc X.K O g.B g.H0 g.as0 Z),
          ⟨_, rfl, Nat.zero_le _, as6, st6, acc, accD, s6, gg6, GrowD.refl, w6w, d6, n6, by omega, r6, Ev.mono q6 (fun ys st8 q8 => (Ev.bnd q8).mono (fun zs st9 q9 => q9) fun _ _ z => z) fun _ _ z => z⟩, ?_⟩
        rintro j k H7 ⟨rfl, hj, as7, st7, acc7, accD7, s7, g7, gd7, w7, hD7, nA7, hl7, rs7, q7⟩
        have stay1 : Stay (Ff (fun a => g.B a ∨ a = D) as6 O σ4) H6 H7 := ⟨fun b o h n => gd7.keep b o h (fun z => n (.inr (.inl z))) fun z => n (.inl (.inr z)), gd7.tup⟩
        have ffs1 : ∀ a o, H6 a = some o → Ff (fun a => g.B a ∨ a = D) as7 O (L2.wipe σ4 vs1) a → Ff (fun a => g.B a ∨ a = D) as6 O σ4 a := fun a o h z => by
          rcases z with z | z | z
          · exact .inl z
          · by_cases q : a ∈ as6
            · exact .inr (.inl q)
            · have := gd7.fre a z q
              rw [h] at this; cases this
          · exact .inr (.inr ((own4 a).mp z))
        by_cases hjt : j < ds1.length
        · refine .inr ⟨wk1.go j H7 stay1 hjt, ?_⟩
          rw [List.drop_eq_getElem_cons hjt] at q7
          obtain ⟨ρ8, e8, q8⟩ := (Ev.bnd q7).lift
          have q8 := Ev.bnd q8
          refine ⟨fun H8 => ∃ as7 st7 acc accD, SRep X.K as7 st7 H8 ∧ Grow as1 H1 as7 H8 ∧ GrowD D as6 H6 as7 H8 ∧ Wf X.K O (fun a => g.B a ∨ a = D) g.H0 g.as0 as7 (wipeD ρ3 vs1) (L2.wipe σ4 vs1) H8 ∧ H8 D = some (.lst acc) ∧ D ∉ as7 ∧ acc.length ≤ 100 * i + (j + 1) ∧
            Reps X.K (Ff (fun a => g.B a ∨ a = D) as7 O (L2.wipe σ vs)) as7 H8 acc accD ∧
            Ev (compL (wipeD ρ3 vs1) t1 fc1 fe (ds1.drop (j + 1)) st7) (fun ys st8 => Ev (compL2 (wipeD g.ρ vs) t fc fi1 vs1 t1 fc1 fe (ds.drop (i + 1)) st8) (fun zs st' => ∀ as' v H', Grow g.as H as' H' → SRep X.K as' st' H' → Own X.K (fun a => Ff g.B as' O σ a ∨ v = .ref a) as' H' v (.lst (accD ++ (ys ++ zs))) → (∀ p, v = .ref p → H p = none ∧ p ∉ as') → Q v H') (Zc X.K O g.B g.H0 g.as0 Z)) (Zc X.K O g.B g.H0 g.as0 Z), fun H' n => ⟨ds1.length - (j + 1), by omega, rfl, hjt, n⟩, fun x8 H8 y8 => ?_⟩
          obtain ⟨sm8, rx8⟩ := wk1.yl j H7 x8 H8 _ (Ff (fun a => g.B a ∨ a = D) as7 O (L2.wipe σ4 vs1)) as7 stay1 gd7.pre ffs1 y8 (List.getElem?_eq_getElem hjt)
          have s8 := s7.same sm8
          have w8 := w7.grow s7 (grow_same sm8) s8
          have gr8 : Grow as7 H7 as7 H8 := grow_same sm8
          have hD8 := sm8 D _ hD7
          have gd8 : GrowD D as6 H6 as7 H8 := gd7.grow nA7 ⟨_, hD7⟩ s7 gr8
          have g8 := g7.trans gr8
          have rs8 := rs7.grow s7 gr8
          refine ⟨⟨fun a => g.B a ∨ a = D, g.H0, g.as0, as7, wipeD ρ3 vs1, st7⟩, _, ρ8, ⟨w8, s8⟩, rx8, e8, fun σ9 w9 o9 l9 j9 => ⟨?_, ?_⟩⟩
          · rw [wipe_same l9 j9, wipe_wipe]
          have ff9 : ∀ (as : List Addr) a, Ff (fun a => g.B a ∨ a = D) as O σ9 a ↔ Ff (fun a => g.B a ∨ a = D) as O (L2.wipe σ vs) a := fun as a => or_congr Iff.rfl (or_congr Iff.rfl (((o9 a).trans (own4 a)).trans (o4 a)))
          have grows9 : ∀ {as5 : List Addr} {H5 : Hp} {st5 : Store}, Grow as7 H8 as5 H5 → SRep X.K as5 st5 H5 → H5 D = some (.lst acc7) ∧ D ∉ as5 ∧ Reps X.K (Ff (fun a => g.B a ∨ a = D) as5 O (L2.wipe σ vs)) as5 H5 acc7 accD7 ∧ GrowD D as6 H6 as5 H5 ∧ Wf X.K O (fun a => g.B a ∨ a = D) g.H0 g.as0 as5 (wipeD ρ3 vs1) (L2.wipe σ4 vs1) H5 := by
            intro as5 H5 st5 g5 s5
            refine ⟨g5.keep D _ hD8 nA7, fun z => ?_, rs8.grow s8 g5, gd8.grow nA7 ⟨_, hD8⟩ s8 g5, w8.grow s8 g5 s5⟩
            have := g5.fre D z nA7
            rw [hD8] at this; cases this
          refine ⟨⟨fun a => g.B a ∨ a = D, g.H0, g.as0, as7, ρ8, st7⟩, ⟨w9, s8⟩, Ev.mono q8 (fun k st10 q10 as10 H10 g10 s10 => ?_) fun _ _ z => z.mono fun _ z => .inl z⟩
          obtain ⟨d10, n10, r10, gd10, w10⟩ := grows9 g10 s10
          cases k with
          | false =>
            exact ⟨as10, st10, acc7, accD7, s10, g8.trans g10, gd10, w10, d10, n10, by omega, r10, q10⟩
          | true =>
            have w9' := w9.grow s8 g10 s10
            refine ⟨⟨fun a => g.B a ∨ a = D, g.H0, g.as0, as10, ρ8, st10⟩, ⟨w9', s10⟩, (Ev.bnd q10).mono (fun y st11 q11 as11 yv H11 g11 s11 ry => ?_) fun _ _ z => z.mono fun _ z => .inl z⟩
            have g1011 := g10.trans g11
            obtain ⟨d11, n11, r11, gd11, w11⟩ := grows9 g1011 s11
            have sl : acc7.length < sizeLine := by rw [sizeLine_eq]; omega
            have ry' : Rep X.K (Ff (fun a => g.B a ∨ a = D) as11 O (L2.wipe σ vs)) as11 H11 yv y := ry.weak fun a o _ z => (ff9 as11 a).mpr z
            have kD : ∀ b o, H11 b = some o → ¬ Ff (fun a => g.B a ∨ a = D) as11 O (L2.wipe σ vs) b → upd H11 D (.lst (acc7 ++ [yv])) b = some o := fun b o h n => by rw [upd_ne (fun (z : b = D) => n (.inl (.inr z)))]; exact h
            have kT : ∀ b o, H11 b = some o → TupO o → upd H11 D (.lst (acc7 ++ [yv])) b = some o := fun b o h t => by
              rw [upd_ne (fun (z : b = D) => by rw [z, d11] at h; cases h; exact t)]; exact h
            refine ⟨acc7, d11, sl, as11, st11, acc7 ++ [yv], accD7 ++ [y], ?_, ?_, gd11.put d11 (ntl _), w11.putB (.inr rfl) n0 n11 d11 (ntl _), upd_same, n11, by rw [List.length_append, List.length_singleton]; omega, (r11.append (.cons ry' .nil)).frame kD kT fun _ _ h => h, (Ev.bnd q11).mono (fun ys st12 q12 => Ev.mono q12 (fun zs st13 q13 as13 v13 H13 a13 b13 c13 e13 => q13 as13 v13 H13 a13 b13 (by rw [List.append_assoc] at c13; exact c13) e13) fun _ _ z => z) fun _ _ z => z⟩
            · refine s11.frame fun b o h z => ?_
              rcases z with z | z
              · rw [upd_ne (fun (y : b = D) => n11 (by rw [← y]; exact z))]; exact h
              · exact kT b o h z
            · have gg := g8.trans g1011
              exact ⟨gg.pre, fun b o h n => by rw [upd_ne (ne_of_none h nD)]; exact gg.keep b o h n, gg.fre⟩
        · have e : j = ds1.length := by omega
          subst e
          rw [List.drop_length] at q7
          refine .inl ⟨wk1.stop _ H7 stay1 rfl, as7, st7, acc7, accD7, s7, g7, hD7, nA7, by omega, rs7, ?_⟩
          exact q7
    · have e : i = ds.length := by omega
      subst e
      rw [List.drop_length] at q2
      refine .inl ⟨wk.stop _ H2 stay0 rfl, q2 as2 (.ref D) H2 (g1.trans g2) s2 ?_ fun p e => ?_⟩
      · refine .lst hD ?_
        rw [List.append_nil]
        refine rs.weak fun a o _ z => ?_
        rcases z with (z | z | z) | z
        · exact .inl (.inl z)
        · exact .inr (.inl z)
        · exact .inr (.inr ((own1 a).mpr z))
        · cases z; exact .inl (.inr rfl)
      · cases e
        exact ⟨nDH, nA⟩
theorem comp2_fin {vs : List Nat} {σ : L2.St} {H : Hp} {g : Gh} {Q : VK} (hO : ∀ i ∈ vs, i ∉ O) (hO1 : ∀ i ∈ vs1, i ∉ O) (ok : g.ok X.K O σ H)
    (q : Ev (E.comp2 fi vs t fc fi1 vs1 t1 fc1 fe g.ρ g.st) (fun d st' => ∀ as' v H', Grow g.as H as' H' → SRep X.K as' st' H' → Own X.K (fun a => Ff g.B as' O σ a ∨ v = .ref a) as' H' v d → (∀ p, v = .ref p → H p = none ∧ p ∉ as') → Q v H') (Zc X.K O g.B g.H0 g.as0 Z)) :
    tLc2 (tIc X.K O Z fi) (tG X.K O vs t) (tT X.K O Z fc) (tI X.K O Z fi1) (tG X.K O vs1 t1) (tT X.K O Z fc1) (tE X.K O Z fe) vs vs1 σ H Q :=
  ⟨g, ok, (Ev.bnd q).mono (fun ds st1 q as1 H1 J g1 s1 wk => by
    by_cases hd : ds.length ≤ 5000
    · rw [if_pos hd] at q
      exact comp2_core hO hO1 hd ok g1 s1 wk q
    · rw [if_neg hd] at q; exact q.elim) fun _ _ z => z⟩
theorem dn_comp2 (hc : X.calm = true) (hN : X.N.Nodup) (hi : DIc X O Z tg iter fi) (ok : BlkOk X.N X.env.scope scope own) (hO : ∀ i ∈ own.map (·.2), i ∉ O) (hv : ∀ i ∈ vs1, i ∈ own.map (·.2))
    (hg : ∀ (s : Shared) (H : Hp) (C : Addr) (cl : List (Str × Addr)) (fp : List Addr), DG (X.blk s H scope (compEnvC scope cl C X.env) fp) O (own.map (·.2)) tg t) (ht : ∀ (s : Shared) (H : Hp) (C : Addr) (cl : List (Str × Addr)) (fp : List Addr), DTs (X.blk s H scope (compEnvC scope cl C X.env) fp) O Z ifs fc)
    (hi1 : ∀ (s : Shared) (H : Hp) (C : Addr) (cl : List (Str × Addr)) (fp : List Addr), DI (X.blk s H scope (compEnvC scope cl C X.env) fp) O Z tg1 iter1 fi1)
    (hg1 : ∀ (s : Shared) (H : Hp) (C : Addr) (cl : List (Str × Addr)) (fp : List Addr), DG (X.blk s H scope (compEnvC scope cl C X.env) fp) O vs1 tg1 t1) (ht1 : ∀ (s : Shared) (H : Hp) (C : Addr) (cl : List (Str × Addr)) (fp : List Addr), DTs (X.blk s H scope (compEnvC scope cl C X.env) fp) O Z ifs1 fc1)
    (he : ∀ (s : Shared) (H : Hp) (C : Addr) (cl : List (Str × Addr)) (fp : List Addr), DE (X.blk s H scope (compEnvC scope cl C X.env) fp) O Z elt fe) (hs : ∀ x, foldedSetIterable iter X.env x = pure x := by intro _; rfl) (hs1 : ∀ env x, foldedSetIterable iter1 env x = pure x := by intro _ _; rfl) :
    DN X O Z (.ListComp elt [⟨tg, iter, ifs, 0⟩, ⟨tg1, iter1, ifs1, 0⟩] scope pos) (E.comp2 fi (own.map (·.2)) t fc fi1 vs1 t1 fc1 fe) :=
  PE.imp (pe_lc2 hc hN hi ok hv hg ht hi1 hg1 ht1 he hs hs1) fun σ H Q ⟨g, ok, q⟩ => comp2_fin hO (fun i hi => hO i (hv i hi)) ok q
theorem ds_setComp2 (i : Nat) {y : Str} {py spos : Pos} (hyO : i ∉ O) (hc : X.calm = true) (hN : X.N.Nodup) (hy : X.N[i]? = some y) (hyl : X.env.scope.names.lookup y = some .local)
    (hsw : swapsWith (.ListComp elt [⟨tg, iter, ifs, 0⟩, ⟨tg1, iter1, ifs1, 0⟩] scope pos) (some (.Name y py)) spos.line X.env = pure true) (hi : DIc X O Z tg iter fi) (ok : BlkOk X.N X.env.scope scope own) (hO : ∀ i ∈ own.map (·.2), i ∉ O) (hv : ∀ i ∈ vs1, i ∈ own.map (·.2))
    (hg : ∀ (s : Shared) (H : Hp) (C : Addr) (cl : List (Str × Addr)) (fp : List Addr), DG (X.blk s H scope (compEnvC scope cl C X.env) fp) O (own.map (·.2)) tg t) (ht : ∀ (s : Shared) (H : Hp) (C : Addr) (cl : List (Str × Addr)) (fp : List Addr), DTs (X.blk s H scope (compEnvC scope cl C X.env) fp) O Z ifs fc)
    (hi1 : ∀ (s : Shared) (H : Hp) (C : Addr) (cl : List (Str × Addr)) (fp : List Addr), DI (X.blk s H scope (compEnvC scope cl C X.env) fp) O Z tg1 iter1 fi1)
    (hg1 : ∀ (s : Shared) (H : Hp) (C : Addr) (cl : List (Str × Addr)) (fp : List Addr), DG (X.blk s H scope (compEnvC scope cl C X.env) fp) O vs1 tg1 t1) (ht1 : ∀ (s : Shared) (H : Hp) (C : Addr) (cl : List (Str × Addr)) (fp : List Addr), DTs (X.blk s H scope (compEnvC scope cl C X.env) fp) O Z ifs1 fc1)
    (he : ∀ (s : Shared) (H : Hp) (C : Addr) (cl : List (Str × Addr)) (fp : List Addr), DE (X.blk s H scope (compEnvC scope cl C X.env) fp) O Z elt fe) (hs : ∀ x, foldedSetIterable iter X.env x = pure x := by intro _; rfl) (hs1 : ∀ env x, foldedSetIterable iter1 env x = pure x := by intro _ _; rfl) :
    DS X O Z (.Assign [.Name y py] (.ListComp elt [⟨tg, iter, ifs, 0⟩, ⟨tg1, iter1, ifs1, 0⟩] scope pos) spos) (S.set i (E.comp2 fi (own.map (·.2)) t fc fi1 vs1 t1 fc1 fe)) :=
  PS.imp (ps_setLc2 hc hN hy hyl hsw hi ok hv hg ht hi1 hg1 ht1 he hs hs1) fun D σ H ⟨g, ok, q⟩ => by
    refine comp2_fin (X := X) (Z := Z) hO (fun i hi => hO i (hv i hi)) ok ((Ev.bnd q).mono (fun d st' q as' v H' gr s r n => ?_) fun _ _ z => z)
    have nF : ∀ p, v = .ref p → ¬ Ff g.B as' O σ p := fun p e z => by
      obtain ⟨n1, n2⟩ := n p e
      rcases z with z | z | ⟨i, hi, z⟩
      · obtain ⟨o, z⟩ := ok.wf.trB p z; rw [n1] at z; cases z
      · exact n2 z
      · obtain ⟨_, _, _, o, z, _⟩ := ok.wf.slot i p hi z; rw [n1] at z; cases z
    have r' : Rep X.K (Ff g.B as' O σ) as' H' v d := by
      cases r with
      | lst h r => exact .lst (.inl ⟨nF _ rfl, .inl h⟩) (r.weak fun _ _ _ z => .inl z)
      | dct h o r => exact .dct (nF _ rfl) (.inl h) o (r.weak fun _ _ _ z => .inl z)
      | sca r _ => exact r.weak fun _ _ _ z => .inl z
    exact q as' _ H' ((gr.step s).trans (Step.set hyO _)) ((ok.wf.grow ok.sr gr s).set hyO r') s
theorem ds_setComp2N (i : Nat) {y : Str} {py spos : Pos} (hyO : i ∈ O) (hc : X.calm = true) (hN : X.N.Nodup) (hy : X.N[i]? = some y) (hyl : X.env.scope.names.lookup y = some .local)
    (hsw : swapsWith (.ListComp elt [⟨tg, iter, ifs, 0⟩, ⟨tg1, iter1, ifs1, 0⟩] scope pos) (some (.Name y py)) spos.line X.env = pure true) (hi : DIc X O Z tg iter fi) (ok : BlkOk X.N X.env.scope scope own) (hO : ∀ i ∈ own.map (·.2), i ∉ O) (hv : ∀ i ∈ vs1, i ∈ own.map (·.2))
    (hg : ∀ (s : Shared) (H : Hp) (C : Addr) (cl : List (Str × Addr)) (fp : List Addr), DG (X.blk s H scope (compEnvC scope cl C X.env) fp) O (own.map (·.2)) tg t) (ht : ∀ (s : Shared) (H : Hp) (C : Addr) (cl : List (Str × Addr)) (fp : List Addr), DTs (X.blk s H scope (compEnvC scope cl C X.env) fp) O Z ifs fc)
    (hi1 : ∀ (s : Shared) (H : Hp) (C : Addr) (cl : List (Str × Addr)) (fp : List Addr), DI (X.blk s H scope (compEnvC scope cl C X.env) fp) O Z tg1 iter1 fi1)
    (hg1 : ∀ (s : Shared) (H : Hp) (C : Addr) (cl : List (Str × Addr)) (fp : List Addr), DG (X.blk s H scope (compEnvC scope cl C X.env) fp) O vs1 tg1 t1) (ht1 : ∀ (s : Shared) (H : Hp) (C : Addr) (cl : List (Str × Addr)) (fp : List Addr), DTs (X.blk s H scope (compEnvC scope cl C X.env) fp) O Z ifs1 fc1)
    (he : ∀ (s : Shared) (H : Hp) (C : Addr) (cl : List (Str × Addr)) (fp : List Addr), DE (X.blk s H scope (compEnvC scope cl C X.env) fp) O Z elt fe) (hs : ∀ x, foldedSetIterable iter X.env x = pure x := by intro _; rfl) (hs1 : ∀ env x, foldedSetIterable iter1 env x = pure x := by intro _ _; rfl) :
    DS X O Z (.Assign [.Name y py] (.ListComp elt [⟨tg, iter, ifs, 0⟩, ⟨tg1, iter1, ifs1, 0⟩] scope pos) spos) (S.set i (E.comp2 fi (own.map (·.2)) t fc fi1 vs1 t1 fc1 fe)) :=
  PS.imp (ps_setLc2 hc hN hy hyl hsw hi ok hv hg ht hi1 hg1 ht1 he hs hs1) fun D σ H ⟨g, ok, q⟩ => by
    refine comp2_fin (X := X) (Z := Z) hO (fun i hi => hO i (hv i hi)) ok ((Ev.bnd q).mono (fun d st' q as' v H' gr s r n => ?_) fun _ _ z => z)
    obtain ⟨w, sp⟩ := ok.wf.setN ok.sr gr s hyO r n
    exact q as' _ H' sp w s
end
end G
end L2
end G47_
section G48_
set_option Elab.async false
set_option linter.all false
set_option maxRecDepth 100000
set_option maxHeartbeats 1000000
namespace L2
namespace G
open PySem PySem.Spec PyProof.Rows
/-! ### told(lambda: f(..)): a def that calls what it got, within a try -/
/-- the call of what was got, first thing in the def: m is what it does -/
def tTh (K : PySem.W.Frag) (B : Addr → Prop) (as : List Addr) (H0 : Hp) (st : Store) (f : Addr) (L : Nat) (W : WX) (m : M D) : TE := fun σ H Q => σ[0]? = some (some (.ref f)) ∧ H = H0 ∧
  Ev (m st) (fun d st' => ∀ as' v H', Grow as H0 as' H' → SRep K as' st' H' → Rep K (fun a => B a ∨ a ∈ as') as' H' v d → Q v H')
    (fun x st' => ∀ as' H' cls d, Grow as H0 as' H' → SRep K as' st' H' → ExR K (fun a => B a ∨ a ∈ as') as' H' cls d x → ∀ σ' : L2.St, σ'.length = L → W cls d σ' H')
def oneM (m : M D) : M D := bnd m fun d => ret (.lst [d])
section
variable {K : PySem.W.Frag} {B : Addr → Prop} {as as' : List Addr} {H0 H' : Hp} {st st' : Store}
theorem B_there (tr : ∀ a, B a → ∃ o, H0 a = some o) (gr : Grow as H0 as' H') (s : SRep K as' st' H') : ∀ a, B a → ∃ o, H' a = some o := fun a z => by
  obtain ⟨o, h⟩ := tr a z
  by_cases q : a ∈ as
  · obtain ⟨o', h', _⟩ := s.mem (gr.sub q)
    exact ⟨o', h'⟩
  · exact ⟨o, gr.keep a o h q⟩
end
theorem th_one {X : Cx} {e : Expr} {pos : Pos} {B : Addr → Prop} {as : List Addr} {H0 : Hp} {st : Store} {f : Addr} {L : Nat} {W : WX} {m : M D} (tr : ∀ a, B a → ∃ o, H0 a = some o) (h : PE X e (tTh X.K B as H0 st f L W m))
    (hs : starEach [e] X.env = (false, eval e X.env) :: starEach [] X.env := by rfl) : PE X (.List [e] pos) (tTh X.K B as H0 st f L W (oneM m)) := PE.imp (pe_lst (pa_cons h pa_nil hs)) fun σ H Q ⟨h1, h2, q⟩ => by
  refine ⟨h1, h2, (Ev.bnd q).mono (fun d st' q as' v H' gr s rv => ⟨by rw [sizeLine_eq]; simp, fun p np => ?_⟩) fun _ _ z => z⟩
  have nF : ¬ (B p ∨ p ∈ as') := fun z => by
    rcases z with z | z
    · obtain ⟨o, z⟩ := B_there tr gr s p z
      rw [np] at z; cases z
    · obtain ⟨o, z, _⟩ := s.mem z
      rw [np] at z; cases z
  exact q as' _ _ (gr.trans (Grow.new np)) (s.new np) (.lst (.inl ⟨nF, .inl upd_same⟩) (.cons (rv.frame (fun b o e _ => by rw [upd_ne (ne_of_none e np)]; exact e) (fun b o e _ => by rw [upd_ne (ne_of_none e np)]; exact e) fun _ _ h => h) .nil))
/-- try: return m() / except C as n: h -/
def toldM (tab : List (Str × Bool)) (L : Nat) (h : Ex → SD) (m : M D) : M D := fun st => match m st with
  | .ok d st' => .ok d st'
  | .exc x st' => (match tab.lookup x.cls with
    | some true => (match h x (List.replicate L none) st' with
      | .ok (.ret d, _) st2 => .ok d st2
      | _ => .bad)
    | some false => .exc x st'
    | none => .bad)
  | .bad => .bad
theorem wf_none {K : PySem.W.Frag} {B : Addr → Prop} {as as' : List Addr} {H0 H' : Hp} {st' : Store} {σ : L2.St} {L : Nat} (tr : ∀ a, B a → ∃ o, H0 a = some o) (gr : Grow as H0 as' H') (s : SRep K as' st' H') (hl : σ.length = L) :
    Wf K [] B H0 as as' (List.replicate L none) σ H' := by
  refine ⟨by rw [hl, List.length_replicate], fun i d e _ => ?_, fun i d e m => (by cases m), fun i a m => (by cases m), fun i j a m => (by cases m), B_there tr gr s, gr⟩
  rw [List.getElem?_replicate] at e
  split at e <;> cases e
section
variable {X : Cx} {n c : Str} {i : Nat} {suite : List Stmt} {b₀ : Stmt} {np pos pos' p3 : Pos} {tab : List (Str × Bool)} {h : Ex → SD} {e0 : Expr} {E : XK} {B : Addr → Prop} {as : List Addr} {H0 : Hp} {st : Store} {f : Addr} {m : M D}
theorem told_try (hs : X.stack = X.env :: X.outer) (hf : X.env.frame = some X.env.locals) (hN : X.N.Nodup) (hi : X.N[i]? = some n) (hln : X.env.kindOf n = some .local) (hg : Gl X c) (hm : X.mg c = some (.ref (He.ga X.K c))) (hd : (c == ("__debug__" : Str)) = false)
    (ht : TabX X.K c tab) (tk : Takes X (fun cls d _ H => E cls d H)) (tr : ∀ a, B a → ∃ o, H0 a = some o)
    (hb : ∀ (W : WX) (pn : List (Addr × Obj)) (xe : Value → Shared → Prop), Takes (X.tr pn xe) W → PE (X.tr pn xe) e0 (tTh X.K B as H0 st f X.N.length W m))
    (hsu : ∀ (a : Addr) (oe : Obj) (cls : Value) (d : Option Addr) (pn : List (Addr × Obj)), L2.Zc cls d oe → (∃ vs, oe.data = .fields vs) → PSs (X.suite a ((a, oe) :: pn)) (b₀ :: suite) (tH X.K [] i a cls d h)) :
    PS X (.Try [.Return (some e0) p3] [.ExceptHandler (some (.Name c np)) (some n) (b₀ :: suite) pos'] [] [] pos) (fun D σ H => σ[0]? = some (some (.ref f)) ∧ H = H0 ∧
      Ev (toldM tab X.N.length h m st) (fun d st' => ∀ as' v H', Grow as H0 as' H' → SRep X.K as' st' H' → Rep X.K (fun a => B a ∨ a ∈ as') as' H' v d → D.rt v H')
        (fun x st' => ∀ as' H' cls d, Grow as H0 as' H' → SRep X.K as' st' H' → ExR X.K (fun a => B a ∨ a ∈ as') as' H' cls d x → E cls d H')) := by
  refine PS.imp (ps_try_as (tb := fun W D σ H => tTh X.K B as H0 st f X.N.length W m σ H D.rt) hs hf hN hi hln ⟨hg, hd, .inl hm⟩ tk (fun W pn xe t _ => pss_one (ps_ret (hb W pn xe t))) hsu) fun D σ H ⟨h1, h2, q⟩ => ⟨h1, h2, ?_⟩
  unfold toldM at q
  cases em : m st with
  | ok d st' => rw [em] at q; exact q
  | bad => rw [em] at q; exact q
  | exc x st' =>
    rw [em] at q
    dsimp only at q
    intro as' H' cls d gr s ex σ' hl
    have ex0 := ex
    obtain ⟨ec, _⟩ := ex0
    cases el : tab.lookup x.cls with
    | none => rw [el] at q; exact q.elim
    | some bb =>
      rw [el] at q
      have hx : PySem.W.exmOne X.K cls (.ref (He.ga X.K c)) = some bb := by rw [ec]; exact ht _ (PySem.mem_of_lookup el)
      refine ⟨bb, hx, fun eb => ?_, fun eb => ?_⟩
      · subst eb
        dsimp only at q
        intro a na
        have hlt : i < σ'.length := by rw [hl]; exact (List.getElem?_eq_some_iff.mp hi).1
        refine ⟨⟨B, H0, as, as', List.replicate X.N.length none, st'⟩, x, ⟨⟨wf_none tr gr s (by rw [List.length_set, hl]), s⟩, by rw [List.getElem?_set_self hlt], ?_⟩, ?_⟩
        · exact ex.weak fun a o _ z => by
            rcases z with z | z | ⟨_, z, _⟩
            · exact .inl z
            · exact .inr z
            · cases z
        · show Ev (h x (List.replicate X.N.length none) st') _ _
          cases eh : h x (List.replicate X.N.length none) st' with
          | bad => rw [eh] at q; exact q.elim
          | exc y st2 => rw [eh] at q; exact q.elim
          | ok r st2 =>
            rw [eh] at q
            obtain ⟨fl, ρ2⟩ := r
            cases fl with
            | ret u => exact fun as2 σ2 H2 sp2 w2 s2 v rv => q as2 v H2 w2.gr s2 rv
            | next => exact q.elim
            | brk => exact q.elim
            | cont => exact q.elim
      · subst eb
        exact q as' H' cls d gr s ex
end
/-- what the caller promises of what it hands over -/
def ThAct (P : Program) (w : World) (K : PySem.W.Frag) (mg : Str → Option Value) (base : Heap) (k : Nat) (A : Around) (outer : List PySem.Env) (s : Shared) (H : Hp) (f : Addr) (B : Addr → Prop) (as : List Addr) (st : Store) (m : M D) : Prop :=
  ∀ (Eg : XK) (Ng : List Str) (qg : Str) (sg : Scope) (g : Addr) (cdg : Value) (a : Str) (pn : List (Addr × Obj)) (xe : Value → Shared → Prop) (W : WX) (p1 p2 : Pos), Takes ((cxOf (L2.CX P w) P w K mg base Ng qg sg g cdg A outer s H Eg).tr pn xe) W → Rm (k + 1) (A.deeper (envOfC qg sg s.heap.objs.size g cdg)) →
    Ng[0]? = some a → Vis sg a → (a == ("__debug__" : Str)) = false → (a == ("__classdict__" : Str)) = false → PE ((cxOf (L2.CX P w) P w K mg base Ng qg sg g cdg A outer s H Eg).tr pn xe) (.Call (.Name a p1) [] [] p2) (tTh K B as H st f Ng.length W m)
/-- a def that takes a lambda: k: the depth of what the lambda does -/
structure ThF (P : Program) (w : World) (K : PySem.W.Frag) (mg : Str → Option Value) (base : Heap) (y : Str) (Φ : M D → M D) : Prop where
  ex : ∃ g : Addr, mg y = some (.ref g) ∧ PySem.W.keepIn K (.ref g) = true ∧ ∀ (k : Nat) (A : Around) (outer : List PySem.Env) (s : Shared) (H : Hp) (f : Addr) (Q : VK) (E : XK) (B : Addr → Prop) (as : List Addr) (st : Store) (m : M D), Rm (k + 2) A → Env0 P w K mg base A outer s H →
    (∀ a, B a → ∃ o, H a = some o) → SRep K as st H → ThAct P w K mg base k A outer s H f B as st m →
    Ev (Φ m st) (fun d st' => ∀ as' v H', Grow as H as' H' → SRep K as' st' H' → Rep K (fun a => B a ∨ a ∈ as') as' H' v d → Q v H') (fun x st' => ∀ as' H' cls d, Grow as H as' H' → SRep K as' st' H' → ExR K (fun a => B a ∨ a ∈ as') as' H' cls d x → E cls d H') →
    codeAny (model P w) A (.call (.ref g) ⟨[.ref f], []⟩) (CR (L2.CX P w) outer P w H s Q E) s
theorem thF_of {P : Program} {w : World} {K : PySem.W.Frag} {mg : Str → Option Value} {base : Heap} {y a n c : Str} {stm : Stmt} {fd : FuncData} {N : List Str} {i : Nat} {np pos pos' p3 : Pos} {b₀ : Stmt} {suite : List Stmt} {e0 : Expr} {tab : List (Str × Bool)} {h : Ex → SD} {w0 : M D → M D}
    (F : FunD K y y (defArgs stm) (defBody stm) (defScope stm) [] [] (He.fAd K (y, none)) fd) (hmg : mg y = some (.ref (He.fAd K (y, none)))) (S : FnScope N [a] (defScope stm)) (hb : ∀ (kV doc pm : Value) (an : Option Addr) (cdv ct : Value) (us : List Value), us.length = ([a] : List Str).length → bindArgs (PySem.W.fnOf y y (defArgs stm) (defBody stm) (defScope stm) .none kV doc pm an cdv ct) ⟨us, []⟩ = pure (([a] : List Str).zip us))
    (hbody : defBody stm = [.Try [.Return (some e0) p3] [.ExceptHandler (some (.Name c np)) (some n) (b₀ :: suite) pos'] [] [] pos])
    (hN : N.Nodup) (h0 : N[0]? = some a) (hva : Vis (defScope stm) a) (hda : (a == ("__debug__" : Str)) = false) (hca : (a == ("__classdict__" : Str)) = false) (hi : N[i]? = some n) (hln : (defScope stm).names.lookup n = some .local) (hgl : (defScope stm).names.lookup c = some .globalImplicit) (hm : mg c = some (.ref (He.ga K c))) (hd : (c == ("__debug__" : Str)) = false) (ht : TabX K c tab)
    (he : ∀ (cdv : Value) (A : Around) (outer : List PySem.Env) (s : Shared) (H : Hp) (E : XK) (pn : List (Addr × Obj)) (xe : Value → Shared → Prop) (B : Addr → Prop) (as : List Addr) (st : Store) (f : Addr) (W : WX) (m : M D), (∀ p1 p2, PE ((cxOf (L2.CX P w) P w K mg base N y (defScope stm) (He.fAd K (y, none)) cdv A outer s H E).tr pn xe) (.Call (.Name a p1) [] [] p2) (tTh K B as H st f N.length W m)) → (∀ a, B a → ∃ o, H a = some o) →
      PE ((cxOf (L2.CX P w) P w K mg base N y (defScope stm) (He.fAd K (y, none)) cdv A outer s H E).tr pn xe) e0 (tTh K B as H st f N.length W (w0 m)))
    (hsu : ∀ (cdv : Value) (A : Around) (outer : List PySem.Env) (s : Shared) (H : Hp) (E : XK) (a : Addr) (oe : Obj) (cls : Value) (d : Option Addr) (pn : List (Addr × Obj)), L2.Zc cls d oe → (∃ vs, oe.data = .fields vs) → PSs ((cxOf (L2.CX P w) P w K mg base N y (defScope stm) (He.fAd K (y, none)) cdv A outer s H E).suite a ((a, oe) :: pn)) (b₀ :: suite) (tH K [] i a cls d h)) :
    ThF P w K mg base y (fun m => toldM tab N.length h (w0 m)) := by
  obtain ⟨oc, od, dV, kV, doc, pm, an, cdv, ct, osl, rfl, lk, hcd, _, _⟩ := id F.ex
  refine ⟨_, hmg, F.kp, fun k A outer s H f Q E B as st m hr e0' tr sr act q => ?_⟩
  refine LamX.run_ofS (N := N) (ps := [a]) (us := [.ref f]) (vs := [.ref f]) lk hcd S hr.rm e0' (F.bindsN hb s [.ref f] (e0'.mod.kin.keeps fun b o e => (e0'.bs b o e).1) rfl) (.cons rfl .nil) rfl fun hr' => ?_
  have rm' : Rm (k + 1) (A.deeper (envOfC y (defScope stm) s.heap.objs.size (He.fAd K (y, none)) cdv)) := ⟨hr', hr.gd⟩
  have hp := pss_one (told_try (p3 := p3) (np := np) (pos := pos) (pos' := pos') (X := cxOf (L2.CX P w) P w K mg base N y (defScope stm) (He.fAd K (y, none)) cdv A outer s H E) (i := i) (tab := tab) (E := E) (B := B) (as := as) (H0 := H) (st := st) (f := f) (m := w0 m) rfl rfl hN hi hln hgl hm hd ht (takes_of rfl rfl rfl rfl) tr
      (fun W pn xe t => he cdv A outer s H E pn xe B as st f W m (fun p1 p2 => act E N y (defScope stm) _ cdv a pn xe W p1 p2 t rm' h0 hva hda hca) tr)
      (fun a oe cls d pn hz hf => hsu cdv A outer s H E a oe cls d pn hz hf))
  rw [← hbody] at hp
  refine ⟨_, hp, ?_, rfl, q⟩
  cases N with
  | nil => cases h0
  | cons x N => rfl
/-! ### the caller -/
theorem takes_len {X : Cx} {W : WX} (t : Takes X W) : Takes X (fun cls d σ H => σ.length = X.N.length → W cls d σ H) := fun u s' ⟨a, B, sI, pins, σ, H, cls, d, e, I, nb, up, sky, na, os, ag, w⟩ =>
  t u s' ⟨a, B, sI, pins, σ, H, cls, d, e, I, nb, up, sky, na, os, ag, w I.len⟩
/-- the lambda is called by the def that got it: what its body does is told of the def's own room -/
theorem act_rm {X : Cx} {pins : List (Addr × Obj)} {σ : L2.St} {H : Hp} {s : Shared} {Eg : XK} {Ng : List Str} {qg q : Str} {sg : Scope} {g f c' : Addr} {cdg pm ctv : Value} {params : Arguments} {body : Expr} {scope : Scope} {k : Nat} {a : Str} {pn : List (Addr × Obj)} {xe : Value → Shared → Prop} {W : WX} {E : XK} {tb : TE} {p1 p2 : Pos}
    (I : Inv X pins σ H s) (hq : X.env.qual ++ "<lambda>" = q) (L : LamX.LamS X.env.scope scope) (hf : s.heap.get? f = some (PySem.W.kla_obj "<lambda>" q params body scope (cloFrom X.env.cells scope.names []) pm c' ctv)) (hfn : H f = none) (hfr : f ∉ frs X.stack)
    (hbind : bindArgs (PySem.W.kla_fn "<lambda>" q params body scope (cloFrom X.env.cells scope.names []) pm (.ref c') ctv) ⟨[], []⟩ = pure [])
    (tk : Takes ((cxOf (L2.CX X.prog X.w) X.prog X.w X.K X.mg X.base Ng qg sg g cdg X.A X.stack s H Eg).tr pn xe) W) (hW : ∀ cls d σ' H', E cls d H' → W cls d σ' H') (hr : Rm (k + 1) (X.A.deeper (envOfC qg sg s.heap.objs.size g cdg)))
    (hbody : ∀ (A : Around) (outer : List PySem.Env) (s : Shared) (H : Hp), Rm k (A.deeper (LamX.lamEnv X scope s.heap.objs.size f c')) → PE (LamX.lamCx X A outer s H E scope f c') body tb)
    (hN : Ng[0]? = some a) (hv : Vis sg a) (hd : (a == ("__debug__" : Str)) = false) (hcd : (a == ("__classdict__" : Str)) = false) :
    PE ((cxOf (L2.CX X.prog X.w) X.prog X.w X.K X.mg X.base Ng qg sg g cdg X.A X.stack s H Eg).tr pn xe) (.Call (.Name a p1) [] [] p2)
      (fun σZ HZ Q => σZ[0]? = some (some (.ref f)) ∧ HZ c' = some (LamX.CodeO c' q) ∧ tb σ HZ Q) := by
  subst hq
  refine ⟨fun pinsZ sZ σZ HZ Q J ⟨slot0, code, wish⟩ => ?_⟩
  have fetch := (pe_var (pos := p1) (i := 0) hN hv hd hcd).run pinsZ sZ σZ HZ (fun v H1 => v = .ref f ∧ H1 = HZ) J ⟨.ref f, slot0, rfl, rfl⟩
  refine wpAny_Call_Name_kw (thn fetch fun u s1 ⟨v, H1, J1, r1, ev, eH⟩ => ?_)
  subst ev eH
  obtain rfl : u = Value.ref f := r1
  have keepf := J1.base.keep f _ hf hfn hfr (fun z => nomatch (show f ∈ ([] : List Addr) from z))
  refine PySem.W.callWith_F0 ⟨_, _, _, _, keepf⟩ ?_
  obtain ⟨⟨oc, vs, t, hoc, hdc, hvc⟩, _, _⟩ := J1.hok c' _ code
  have inner : codeAny (model X.prog X.w) (X.A.deeper (envOfC qg sg s.heap.objs.size g cdg)) (.call (.ref f) ⟨[], []⟩) (CR (L2.CX X.prog X.w) (envOfC qg sg s.heap.objs.size g cdg :: X.stack) X.prog X.w H1 s1 Q E) s1 := by
    refine PySem.W.kla_callFunE hr.rm.depth keepf rfl L.co L.gen rfl ⟨c', oc, vs, t, rfl, hoc, hdc, hvc⟩ ?_
    rw [hbind]
    refine wpAny_pure (wpAny_newFunctionEnv (fun y hy => (L.own y hy).2) (fun y hy => absurd hy (by simp)) (fun h₁ hns hsb => ⟨J1.nolimit.fresh _ hsb, ?_⟩) L.kind)
    show codeAny _ _ (.expr body (LamX.lamEnv X scope s1.heap.objs.size f c')) _ _
    have grown : ∀ b o, s1.heap.get? b = some o → h₁.get? b = some o := fun b o e => hsb.extBut b o (Nat.ne_of_lt (Heap.lt_size e)) (Heap.get?_push_of_some _ e)
    have J2 := LamX.lam_start2 (E := E) (f := f) (c' := c') (tk := s1.toks + ([] : List (Str × Value)).length) I L J1.env0 hr.rm.hd J1.base hns grown
    refine PySem.W.kla_codeExpr (wpAny_mono ((hbody _ _ s1 H1 (hr.deeper _)).run [] _ _ H1 Q J2 wish) (fun v s' ⟨w', H', J', rv, done⟩ => ⟨w', H', J'.os, J'.bare, J'.base, J'.hok, rv, done⟩) fun e s' out => out)
  refine wpAny_call (codeAny_mono inner fun r s' res => ?_)
  cases r with
  | error e => exact passes_call tk hW pinsZ σZ H1 s1 e s' J1 res
  | ok fl =>
    cases fl with
    | ret u => exact J1.after res
    | _ => exact False.elim res
def E.thunk (x : Str) (Φ : M D → M D) (f : Env → M D) : Env → M D := fun ρ st => if hasTab x st = true then noexc (Φ (f ρ)) st else .bad
section
variable {X : Cx} {O : List Nat} {Z : ZT} {p pos lpos : Pos}
theorem de_thunk {x y : Str} {k : Nat} {Φ : M D → M D} {params : Arguments} {body : Expr} {scope : Scope} {g : Env → M D} (T : ThF X.prog X.w X.K X.mg X.base y Φ) (hqual : X.env.qual = x ++ (".<locals>." : Str)) (hcode : X.env.code = .ref (He.cT X.K (x, none)).1)
    (TB : LamX.TabB X.base X.mg (He.cT X.K (x, none)).1 (He.cT X.K (x, none)).2) (hg : Gl X y) (L : LamX.LamS X.env.scope scope) (hdef : defaultsOf params X.env = ([], []))
    (hbind : ∀ (q : Str) (cl : List (Str × Addr)) (pm cv ctv : Value), bindArgs (PySem.W.kla_fn "<lambda>" q params body scope cl pm cv ctv) ⟨[], []⟩ = pure [])
    (hr : Rm (k + 2) X.A)
    (hbody : ∀ (A : Around) (outer : List PySem.Env) (s : Shared) (H : Hp) (E : XK) (f c' : Addr), Rm k (A.deeper (LamX.lamEnv X scope s.heap.objs.size f c')) → Takes (LamX.lamCx X A outer s H E scope f c') (fun cls d _ H => E cls d H) → PE (LamX.lamCx X A outer s H E scope f c') body (tEx X.K O (fun cls d _ H => E cls d H) g))
    (hdb : (y == ("__debug__" : Str)) = false := by decide) :
    DE X O Z (.Call (.Name y p) [.Lambda params body scope lpos] [] pos) (E.thunk x Φ g) := by
  obtain ⟨ga, hm, hk, run⟩ := T.ex
  refine ⟨fun pins s σ H Q I ⟨gh, ok, q⟩ => ?_⟩
  unfold E.thunk at q
  by_cases hc : hasTab x gh.st = true
  case neg => rw [if_neg hc] at q; exact q.elim
  rw [if_pos hc] at q
  obtain ⟨n, hn, hst, hT⟩ := ok.sr.tab hc
  have hq' : X.env.qual ++ ("<lambda>" : Str) = x ++ (".<locals>." : Str) ++ ("<lambda>" : Str) := by rw [hqual]
  refine wpAny_Call_Name_kw (ld_glob I hg hm ?_ hdb)
  refine PySem.W.callWith_K (h₀ := X.base) I.ok.mod.kin hk ?_ (by rfl) (by rfl)
  show wpAny _ _ (spliced ((false, eval (.Lambda params body scope lpos) X.env) :: backTo pos (starEach [] X.env))) _ _ s
  refine Calls.spliced_cons (lam_make3 I TB hcode hq' hT hdef (L.has I.ok) fun f c' pm ctv H1 s' I1 md hT2 hf hfn hfr hsz => ?_)
  refine Calls.spliced_nil ⟨I1.kIn, ?_⟩
  obtain ⟨sr1, gr1⟩ := ok.sr.made hn hst md hT2
  have ok1 := ok.step gr1 sr1
  have rc : codeAny (model X.prog X.w) X.A (.call (.ref ga) ⟨[.ref f], []⟩) (CR (L2.CX X.prog X.w) X.stack X.prog X.w H1 s' Q XE0) s' := by
    refine run k X.A X.stack s' H1 f Q XE0 (fun a => gh.B a ∨ ownA O σ a) gh.as gh.st (g gh.ρ) hr I1.env0 (fun a z => ?_) sr1 ?_ ?_
    · rcases z with z | z
      · exact ok1.wf.tr sr1 a (.inl z)
      · exact ok1.wf.tr sr1 a (.inr (.inr z))
    · intro Eg Ng qg sg gg cdg a pn xe W p1 p2 tk hr' h0 hva hda hca
      have hp := act_rm (tb := tEx X.K O (fun cls d _ H => ∀ σ' : L2.St, σ'.length = Ng.length → W cls d σ' H) g) (Eg := Eg) (k := k) (W := fun cls d σ H => σ.length = Ng.length → W cls d σ H) (E := fun cls d H => ∀ σ' : L2.St, σ'.length = Ng.length → W cls d σ' H) (p1 := p1) (p2 := p2) I1 hq' L hf hfn hfr (hbind _ _ _ _ _) (takes_len tk) (fun cls d σ' H' z => z σ') hr'
        (fun A outer s H hr2 => hbody A outer s H _ f c' hr2 (takes_of rfl rfl rfl rfl)) h0 hva hda hca
      · refine PE.imp hp fun σZ HZ QZ ⟨h1, h2, q2⟩ => ⟨h1, ?_, gh, ?_, ?_⟩
        · rw [h2]; exact md.code
        · rw [h2]; exact ok1
        · rw [h2]
          refine Ev.mono q2 (fun d st' q as' v H' gr s rv => q as' v H' gr s (rv.weak fun a o _ z => ?_)) fun x st' z as' H' cls d gr s ex => z as' H' cls d gr s (ex.weak fun a o _ z => ?_)
          · rcases z with (z | z) | z
            · exact .inl z
            · exact .inr (.inr z)
            · exact .inr (.inl z)
          · rcases z with (z | z) | z
            · exact .inl z
            · exact .inr (.inr z)
            · exact .inr (.inl z)
    · unfold noexc at q
      cases em : Φ (g gh.ρ) gh.st with
      | bad => rw [em] at q; exact q.elim
      | exc x st' => rw [em] at q; exact q.elim
      | ok d st' =>
        rw [em] at q
        exact fun as' v H' gr s rv => q as' v H' (gr1.trans gr) s (rv.weak fun a o _ z => by
          rcases z with z | z | z
          · exact .inl (.inl z)
          · exact .inr z
          · exact .inl (.inr z))
  refine wpAny_call (codeAny_mono rc fun r s2 hq => ?_)
  cases r with
  | error e => exact pass_none _ _ _ _ _ I1 hq
  | ok fl =>
    cases fl with
    | ret u => exact I1.after hq
    | next => exact False.elim hq
    | brk => exact False.elim hq
    | cont => exact False.elim hq
end
end G
end L2
end G48_
section G49_
set_option Elab.async false
set_option linter.all false
set_option maxRecDepth 100000
set_option maxHeartbeats 1000000
namespace L2
namespace G
open PySem PySem.Spec PyProof.Rows
/-! ### tuples of the text -/
def gtV : D → V
  | .int i => .int i
  | .str x => .str x
  | .bl b => .bl b
  | _ => .non
def gtS : D → Bool
  | .int _ => true
  | .str _ => true
  | .bl _ => true
  | .non => true
  | _ => false
def itsB : List D → List Value → Bool
  | [], [] => true
  | d :: ds, u :: us => gtS d && (He.relB (gtV d) u && itsB ds us)
  | _, _ => false
def gtB (K : PySem.W.Frag) (x : Str) (ds : List D) : Bool := match K.lookup (He.ga K x) with
  | some ⟨.type c, none, .seq its _, _⟩ => decide (c = "tuple") && (decide (its.size ≤ 1000) && itsB ds its.toList)
  | _ => false
structure GT (K : PySem.W.Frag) (x : Str) (ds : List D) : Prop where
  ex : ∃ (o : Obj) (its : Array Value) (n : Nat), K.lookup (He.ga K x) = some o ∧ o.cls = .type "tuple" ∧ o.dict = none ∧ o.data = .seq its n ∧ its.size ≤ sizeLine ∧ Vals (ds.map gtV) its.toList
  re : ∀ (F : Addr → Prop) (as : List Addr) (H : Hp), Reps K F as H (ds.map gtV) ds
theorem itsB_ok {K : PySem.W.Frag} : ∀ {ds : List D} {us : List Value}, itsB ds us = true → Vals (ds.map gtV) us ∧ ∀ (F : Addr → Prop) (as : List Addr) (H : Hp), Reps K F as H (ds.map gtV) ds
  | [], [], _ => ⟨.nil, fun _ _ _ => .nil⟩
  | [], _ :: _, h => by cases h
  | _ :: _, [], h => by cases h
  | d :: ds, u :: us, h => by
    obtain ⟨h1, h⟩ := He.ba h
    obtain ⟨h2, h3⟩ := He.ba h
    obtain ⟨a, b⟩ := itsB_ok (K := K) h3
    refine ⟨.cons (He.relB_ok h2) a, fun F as H => .cons ?_ (b F as H)⟩
    cases d with
    | int i => exact .int i
    | str x => exact .str x
    | bl b => exact .bl b
    | non => exact .non
    | _ => cases h1
theorem gtB_ok {K : PySem.W.Frag} {x : Str} {ds : List D} (h : gtB K x ds = true) : GT K x ds := by
  unfold gtB at h
  split at h
  · rename_i c its n sl q
    obtain ⟨h1, h⟩ := He.ba h
    obtain ⟨h2, h3⟩ := He.ba h
    have e : c = "tuple" := of_decide_eq_true h1
    subst e
    obtain ⟨a, b⟩ := itsB_ok (K := K) h3
    exact ⟨⟨_, its, n, q, rfl, rfl, rfl, by have := of_decide_eq_true h2; rw [sizeLine_eq]; omega, a⟩, b⟩
  · cases h
section
variable {X : Cx} {O : List Nat} {Z : ZT} {x : Str} {pos : Pos}
theorem de_gtup {ds : List D} (hg : Gl X x) (hm : X.mg x = some (.ref (He.ga X.K x))) (T : GT X.K x ds) (hd : (x == ("__debug__" : Str)) = false := by decide) : DE X O Z (.Name x pos) (E.cst (.ftup ds)) :=
  PE.imp (pe_glob (v := .ref (He.ga X.K x)) hg hm rfl hd) fun σ H Q ⟨g, ok, q⟩ => by
    obtain ⟨o, its, n, h1, h2, h3, h4, h5, h6⟩ := T.ex
    exact q _ _ H (Grow.refl _ _) ok.sr (.ftup (.inr ⟨o, its, n, h1, h2, h3, h4, h5, h6⟩) (T.re _ _ _))
end
/-! ### d.get(e), d a dict of the text from texts to ints -/
def kvB (kvs : List (Str × Int)) : List (Str × He.Dv) := kvs.map fun p => (p.1, .int p.2)
structure KD (K : PySem.W.Frag) (w : World) (x : Str) (kvs : List (Str × Int)) : Prop where
  ex : ∃ es n, KDict K w (He.ga K x) es n
  ns : ∀ z : Str, ∃ r, PySem.W.nsIn K (He.ga K x) z = some r ∧ (∀ i, kvs.lookup z = some i → ∃ t, r = some (.int i t)) ∧ (kvs.lookup z = none → r = none)
theorem keys_str {P : Params} : ∀ {l : List DictEntry} {ks : List Str}, l.map He.keyOf = He.keysIn P ks → ∀ e ∈ l, ∃ x t, e.key = .str x t ∧ x ∈ ks
  | [], _, _, e, he => by cases he
  | _ :: _, [], h, _, _ => by cases h
  | d :: l, k :: ks, h, e, he => by
    have h1 : He.keyOf d :: l.map He.keyOf = some (k, PyData.keyHash P k) :: He.keysIn P ks := h
    injection h1 with h2 h3
    rcases List.mem_cons.mp he with rfl | he
    · unfold He.keyOf at h2
      split at h2
      · rename_i x t q
        have := (Prod.mk.inj (Option.some.inj h2)).1
        subst this
        exact ⟨_, _, q, .head _⟩
      · cases h2
    · obtain ⟨x, t, a, b⟩ := keys_str h3 e he
      exact ⟨x, t, a, .tail _ b⟩
theorem kd_of {K : PySem.W.Frag} {w : World} {x : Str} {kvs : List (Str × Int)} (h : He.dicW K (He.ga K x) = some (He.keysIn w.params (kvs.map (·.1)))) (hv : He.valsB K (He.ga K x) (kvB kvs) = true) : KD K w x kvs := by
  obtain ⟨es, n, D⟩ := He.dicW_ok h
  refine ⟨⟨es, n, D⟩, fun z => ?_⟩
  cases hl : kvs.lookup z with
  | some i =>
    obtain ⟨u, e, r⟩ := He.valsB_ok hv (q := (z, .int i)) (by unfold kvB; exact List.mem_map.mpr ⟨(z, i), PySem.mem_of_lookup hl, rfl⟩)
    refine ⟨some u, e, fun j hj => ?_, fun c => by cases c⟩
    cases hj
    obtain ⟨t, rfl⟩ := r
    exact ⟨t, rfl⟩
  | none =>
    refine ⟨none, ?_, fun i c => (by cases c), fun _ => rfl⟩
    have hk : es.toList.map He.keyOf = He.keysIn w.params (kvs.map (·.1)) := by
      unfold He.dicW at h
      rw [D.at_] at h
      dsimp only at h
      split at h
      · exact Option.some.inj h
      · cases h
    have ks := keys_str hk
    have nz : z ∉ kvs.map (·.1) := fun m => by
      obtain ⟨p, hp, e⟩ := List.mem_map.mp m
      have : ∀ {l : List (Str × Int)}, p ∈ l → l.lookup z ≠ none := by
        intro l
        induction l with
        | nil => intro h; cases h
        | cons q l ih =>
          intro h
          obtain ⟨a, b⟩ := q
          unfold List.lookup
          split
          · simp
          · rename_i ne
            rcases List.mem_cons.mp h with rfl | h
            · simp at e; subst e; simp at ne
            · exact ih h
      exact this hp hl
    unfold PySem.W.nsIn
    rw [D.at_]
    dsimp only
    have f : es.toList.find? (·.key.isStr z) = none := by
      rw [List.find?_eq_none]
      intro e he c
      obtain ⟨y, t, ek, my⟩ := ks e he
      rw [ek] at c
      have : y = z := by simpa [Value.isStr] using c
      subst this
      exact nz my
    rw [f]
    dsimp only
    rw [if_neg]
    intro c
    obtain ⟨e, he, c⟩ := List.any_eq_true.mp c
    obtain ⟨y, t, ek, my⟩ := ks e he
    unfold DictEntry.refKey at c
    rw [ek] at c
    cases c
theorem tab_of {fa : List He.Fa} {fn : List He.DefD} {ts : List He.Tab} {w : World} {K : PySem.W.Frag} (c : He.SaysT fa fn ts w K) (i : Nat) {t : He.Tab} (h : ts[i]? = some t) : He.dicW K (t.1 K) = some (He.keysIn w.params t.2) := by
  have e : ts.map (fun t => He.dicW K (t.1 K)) = ts.map fun t => some (He.keysIn w.params t.2) := congrArg (fun z : He.AlT => z.2) c
  have e2 : (ts.map fun t => He.dicW K (t.1 K))[i]? = (ts.map fun t => some (He.keysIn w.params t.2))[i]? := by rw [e]
  rw [List.getElem?_map, List.getElem?_map, h] at e2
  exact Option.some.inj e2
def kgetD (kvs : List (Str × Int)) : D → Option D
  | .str z => some (match kvs.lookup z with
    | some i => .int i
    | none => .non)
  | _ => none
section
variable {X : Cx} {O : List Nat} {Z : ZT} {x : Str} {e : Expr} {p apos cpos : Pos} {fe : Env → M D}
theorem de_kget {kvs : List (Str × Int)} (hg : Gl X x) (hm : X.mg x = some (.ref (He.ga X.K x))) (T : KD X.K X.w x kvs) (he : DU X O Z e fe) (hd : (x == ("__debug__" : Str)) = false := by decide) (hbase : attributeBase (.Name x p) "get" X.env (eval (.Name x p) X.env) = eval (.Name x p) X.env := by rfl)
    (hfew : ((backTo cpos (starEach [e] X.env)).all (fun x => !x.1) && (backToKw cpos (keywordEach [] X.env)).all (fun x => x.1.isSome)
      && decide (([e] : List Expr).length + ([] : List Keyword).length + (if ([] : List Keyword).isEmpty then 0 else 1) < 30)) = true := by rfl)
    (hline : (apos.endLine == cpos.line) = true := by rfl) (ht : backTo cpos (starEach [e] X.env) = [(false, eval e X.env)] := by rfl) :
    DE X O Z (.Call (.Attribute (.Name x p) "get" apos) [e] [] cpos) (E.op1 (kgetD kvs) fe) := by
  obtain ⟨es, n, D⟩ := T.ex
  refine ⟨fun pins s σ H Q I h => ?_⟩
  refine wpAny_Call_method hbase hfew hline PySem.F.plainAttrs_dict PySem.F.slot_dict_get PySem.F.type_dict_get (ld_glob I hg hm ?_ hd)
  have mp := PySem.W.mapOf_K (prog := X.prog) (w := X.w) I.kIn D.at_ D.lit
  refine ⟨mp.typeIs, fun b q => ?_, ?_⟩
  · cases q
    exact ⟨_, I.kIn _ _ D.at_, rfl⟩
  rw [ht]
  obtain ⟨g, ok, q⟩ := h
  have hq : tU X.K O Z fe σ H fun v H' => ∃ d st' as', Grow g.as H as' H' ∧ SRep X.K as' st' H' ∧ RepT X.K (Ff g.B as' O σ) as' H' v d ∧ Ev (lift (kgetD kvs d) st') (fun d st' => ∀ as' v H', Grow g.as H as' H' → SRep X.K as' st' H' → Rep X.K (Ff g.B as' O σ) as' H' v d → Q v H') (Zc X.K O g.B g.H0 g.as0 Z) :=
    ⟨g, ok, (Ev.bnd q).mono (fun d st' q as' v H' gr s r => ⟨d, st', as', gr, s, r, q⟩) fun _ _ z => z⟩
  refine Calls.callWith_builtin rfl (Calls.evalArgs_plain (Calls.spliced_cons (thn (he.run pins s σ H _ I hq) fun iv s2 ⟨y, H2, I2, ry, d, st', as', gr, sr, rd, q⟩ => Calls.spliced_nil ?_)))
  obtain ⟨r, er, q⟩ := q.lift
  cases d with
  | str z =>
    cases er
    have ey : y = .str z := by
      cases rd with
      | rep r => cases r; rfl
      | own r _ => cases r with | sca r _ => cases r; rfl
    subst ey
    obtain ⟨t, rfl⟩ := ry
    obtain ⟨ro, e1, e2, e3⟩ := T.ns z
    refine PySem.call_meetsIn PySem.F.slot_dict_get (PySem.W.mapOf_K (prog := X.prog) (w := X.w) I2.kIn D.at_ D.lit).typeIs PySem.F.entry_dict_get (PySem.F.args_dict_get_2 _ _) (PySem.meets_dict_get (PySem.strKind X.prog X.w) (He.ga X.K x) (PySem.strKind_is X.prog X.w z t) D.low) ⟨_, PySem.W.mapOf_K (prog := X.prog) (w := X.w) I2.kIn D.at_ D.lit, ?_⟩
    rw [PySem.W.find_K D.at_ e1]
    cases hl : kvs.lookup z with
    | some i =>
      obtain ⟨t2, rfl⟩ := e2 i hl
      rw [hl] at q
      exact ⟨.int i, H2, I2.tok _, ⟨t2, rfl⟩, q as' _ H2 gr sr (.int i)⟩
    | none =>
      rw [e3 hl]
      rw [hl] at q
      exact ⟨.non, H2, I2.tok _, rfl, q as' _ H2 gr sr .non⟩
  | _ => cases er
end
end G
end L2
end G49_
section G50_
set_option Elab.async false
set_option linter.all false
set_option maxRecDepth 100000
set_option maxHeartbeats 1000000
namespace L2
namespace G
open PySem PySem.Spec PyProof.Rows
/-! ### lists of the store: o.append(e), tuple(o) -/
def S.sapp (fo fe : Env → M D) : SD := fun ρ => bnd (fo ρ) fun x st => match x, cellOf x st with
  | .ref n, some (.lst _) => bnd (fe ρ) (fun v st' => match cellOf (.ref n) st' with
    | some (.lst ds) => if v.imm = true ∧ ds.length < LIM then .ok (.next, ρ) (st'.set n (.lst (ds ++ [v]))) else .bad
    | _ => .bad) st
  | _, _ => .bad
def E.stup (fa : Env → M D) : Env → M D := fun ρ => bnd (fa ρ) fun x st => match cellOf x st with
  | some (.lst ds) => .ok (.tup ds) st
  | _ => .bad
section
variable {X : Cx} {O : List Nat} {Z : ZT} {e a o : Expr} {fa fo fe : Env → M D} {pos p apos cpos : Pos}
theorem ds_sapp (ho : DU X O Z o fo) (he : DE X O Z e fe)
    (hbase : attributeBase o "append" X.env (eval o X.env) = eval o X.env := by rfl) (hline : (apos.endLine == cpos.line) = true := by rfl) (hs1 : starEach [e] X.env = (false, eval e X.env) :: starEach [] X.env := by rfl)
    (hfew : ((backTo cpos (starEach [e] X.env)).all (fun x => !x.1) && (backToKw cpos (keywordEach [] X.env)).all (fun x => x.1.isSome)
      && decide (([e] : List Expr).length + ([] : List Keyword).length + (if ([] : List Keyword).isEmpty then 0 else 1) < 30)) = true := by rfl) :
    DS X O Z (.Expr (.Call (.Attribute o "append" apos) [e] [] cpos) pos) (S.sapp fo fe) := by
  refine PS.imp (ps_expr (pe_bm PySem.F.plainAttrs_list PySem.F.slot_list_append PySem.F.type_list_append mt_append ho (pa_cons he pa_nil hs1) hbase hfew hline hs1) rfl) fun D σ H ⟨g, ok, q⟩ => ?_
  refine ⟨g, ok, (Ev.bnd q).mono (fun d st1 q as1 v H1 g1 s1 r1 => ?_) fun _ _ z => z⟩
  cases hc : cellOf d st1 with
  | none =>
    rw [hc] at q
    cases d <;> exact q.elim
  | some c =>
    obtain ⟨n, a, rfl, rfl, hp, hst, cc⟩ := ref_cell s1 r1 hc
    rw [hc] at q
    cases c with
    | dct _ _ _ => exact q.elim
    | tbl _ => exact q.elim
    | lst ds0 =>
      dsimp only at q
      obtain ⟨ws0, h0, _⟩ := cc
      refine ⟨.inl ⟨rfl, _, .inl (.inl h0)⟩, g.at as1 st1, ok.step g1 s1, (Ev.bnd q).mono (fun d2 st2 q as2 v2 H2 g2 s2 r2 => ?_) fun _ _ z => z⟩
      cases hc2 : cellOf (.ref n) st2 with
      | none => rw [hc2] at q; exact q.elim
      | some c2 =>
        rw [hc2] at q
        have hp2 : as2[n]? = some a := g2.pre n a hp
        obtain ⟨n', a', en, ea, hp', hst', cc2⟩ := ref_cell (F := Ff g.B as2 O σ) s2 (RepT.rep (Rep.ref hp2)) hc2
        cases en
        cases ea
        cases c2 with
        | dct _ _ _ => exact q.elim
        | tbl _ => exact q.elim
        | lst ds =>
          dsimp only at q
          split at q
          · rename_i him
            obtain ⟨ws, h1, h3⟩ := cc2
            have rv' : Rep X.K (fun _ => True) as2 H2 v2 d2 := r2.of_imm him.1
            have kt : ∀ b u, H2 b = some u → TupO u → upd H2 a (.lst (ws ++ [v2])) b = some u := fun b u e t => by rw [upd_ne (fun (z : b = a) => by rw [z, h1] at e; cases e; exact t)]; exact e
            obtain ⟨sp, w, s4⟩ := cell_fin (c := .lst (ds ++ [d2])) (o := .lst (ws ++ [v2])) ok (g1.trans g2) s2 hp2 ⟨_, upd_same, (h3.append (.cons rv' .nil)).frame (fun _ _ _ n => absurd trivial n) kt fun _ _ h => h⟩
            exact ⟨a, ws, v2, rfl, rfl, h1, by rw [h3.length]; exact Nat.lt_trans him.2 lim_line, q as2 σ _ sp w s4⟩
          · exact q.elim
theorem de_stup (hg : Gl X "tuple") (hm : X.mg "tuple" = none) (ha : DU X O Z a fa) (hs : starEach [a] X.env = (false, eval a X.env) :: starEach [] X.env := by rfl) (hpl : (backTo pos (starEach [] X.env)).any (·.1) = false := by rfl) :
    DE X O Z (.Call (.Name "tuple" p) [a] [] pos) (E.stup fa) := PE.imp (pe_callTy call_tuple_of hg hm (by rfl) (pa_cons ha pa_nil hs) (by decide) (by decide) hs hpl) fun σ H Q ⟨g, ok, q⟩ =>
  ⟨g, ok, (Ev.bnd q).mono (fun d st' q as' v H' gr s r => by
    cases hc : cellOf d st' with
    | none => rw [hc] at q; exact q.elim
    | some c =>
      rw [hc] at q
      cases c with
      | dct _ _ _ => exact q.elim
      | tbl _ => exact q.elim
      | lst ds =>
        obtain ⟨n, p, rfl, rfl, hp, hst, ws, h1, h3⟩ := ref_cell s r hc
        exact ⟨p, ws, rfl, .inl ⟨.inl (.inl h1), fun p2 np => q as' _ _ (gr.trans (Grow.new np)) (s.new np) (.tup upd_same ((h3.all).frame (fun b o e _ => by rw [upd_ne (ne_of_none e np)]; exact e) (fun b o e _ => by rw [upd_ne (ne_of_none e np)]; exact e) fun _ _ h => h))⟩⟩) fun _ _ z => z⟩
end
/-! ### what is owned is frozen, for the rest of a def that ends by a return -/
def S.fz (b : SD) : SD := fun ρ st => match b ρ st with
  | .ok (.ret d, _) st' => .ok (.ret d, List.replicate ρ.length none) st'
  | _ => .bad
theorem Wf.freeze {K : PySem.W.Frag} {O : List Nat} {B : Addr → Prop} {H0 : Hp} {as0 as : List Addr} {ρ : Env} {σ : L2.St} {H : Hp} (i : Nat) (w : Wf K O B H0 as0 as ρ σ H) (hn : O.Nodup) : Wf K (O.erase i) B H0 as0 as ρ σ H := by
  have sub : ∀ {j}, j ∈ O.erase i → j ∈ O := fun {j} h => List.mem_of_mem_erase h
  have ffw : ∀ a o, H a = some o → Ff B as (O.erase i) σ a → Ff B as O σ a := fun a o _ z => by
    rcases z with z | z | ⟨j, hj, z⟩
    · exact .inl z
    · exact .inr (.inl z)
    · exact .inr (.inr ⟨j, sub hj, z⟩)
  refine ⟨w.len, fun j d e nj => ?_, fun j d e m => ?_, fun j a m e => w.slot j a (sub m) e, fun j k a m1 m2 e1 e2 => w.dis j k a (sub m1) (sub m2) e1 e2, w.trB, w.gr⟩
  · by_cases hj : j ∈ O
    · have ej : j = i := by
        by_cases z : j = i
        · exact z
        · exact absurd ((List.mem_erase_of_ne z).mpr hj) nj
      subst ej
      obtain ⟨v, h, r⟩ := w.own j d e hj
      have nF : ∀ p, v = .ref p → ¬ Ff B as (O.erase j) σ p := fun p ev z => by
        subst ev
        obtain ⟨_, n2, n3, _⟩ := w.slot j p hj h
        rcases z with z | z | ⟨k, hk, z⟩
        · exact n3 z
        · exact n2 z
        · have := w.dis j k p hj (sub hk) h z
          subst this
          exact (List.Nodup.not_mem_erase hn) hk
      refine ⟨v, h, ?_⟩
      cases r with
      | lst hh r => exact .lst (.inl ⟨nF _ rfl, .inl hh⟩) (r.weak ffw)
      | dct hh o r => exact .dct (nF _ rfl) (.inl hh) o (r.weak ffw)
      | sca r q => exact r.weak ffw
    · obtain ⟨v, h, r⟩ := w.var j d e hj
      exact ⟨v, h, r.weak ffw⟩
  · obtain ⟨v, h, r⟩ := w.own j d e (sub m)
    refine ⟨v, h, ?_⟩
    cases r with
    | lst hh r => exact .lst hh (r.weak ffw)
    | dct hh o r => exact .dct hh o (r.weak ffw)
    | sca r q => exact .sca (r.weak ffw) q
section
variable {X : Cx} {O : List Nat} {Z : ZT} {ss : List Stmt} {b : SD}
theorem dss_fz (i : Nat) (hn : O.Nodup) (h : DSs X (O.erase i) Z0 ss b) : DSs X O Z ss (S.fz b) := PSs.imp h fun D σ H ⟨g, ok, q⟩ => by
  refine ⟨g, ⟨ok.wf.freeze i hn, ok.sr⟩, ?_⟩
  unfold S.fz at q
  cases eb : b g.ρ g.st with
  | bad => rw [eb] at q; exact q.elim
  | exc x st' => rw [eb] at q; exact q.elim
  | ok r st' =>
    rw [eb] at q
    obtain ⟨fl, ρ'⟩ := r
    cases fl with
    | ret d =>
      intro as' σ' H' sp w s v rv
      have none_at : ∀ (j : Nat) (a : V), (List.replicate σ.length (none : Option V))[j]? ≠ some (some a) := fun j a z => by
        rw [List.getElem?_replicate] at z
        split at z <;> cases z
      refine q as' (List.replicate σ.length none) H' ⟨sp.pre, fun b o h n no => sp.keep b o h n fun ⟨j, hj, z⟩ => no ⟨j, List.mem_of_mem_erase hj, z⟩, sp.fre, fun a ⟨j, _, z⟩ => absurd z (none_at j _), sp.trk⟩
        ⟨by rw [List.length_replicate, List.length_replicate, ok.wf.len], fun j d e _ => ?_, fun j d e _ => ?_, fun j a _ e => absurd e (none_at j _), fun j k a _ _ e => absurd e (none_at j _), w.trB, w.gr⟩ s v rv
      · rw [List.getElem?_replicate] at e
        split at e <;> cases e
      · rw [List.getElem?_replicate] at e
        split at e <;> cases e
    | next => exact q.elim
    | brk => exact q.elim
    | cont => exact q.elim
end
end G
end L2
end G50_
section G51_
set_option Elab.async false
set_option linter.all false
set_option maxRecDepth 100000
set_option maxHeartbeats 1000000
namespace L2
namespace G
open PySem PySem.Spec PyProof.Rows
/-! ### try with several named clauses -/
abbrev Cl := Value × Nat × (Addr → Value → Option Addr → TS)
/-- what named clauses wish, one behind the other -/
def wCs (K : PySem.W.Frag) (Wo : WX) (D : Ends) : List Cl → WX
  | [] => Wo
  | q :: r => wAs K q.1 q.2.1 q.2.2 (wCs K Wo D r) D
inductive CsOk (X : Cx) : List ExceptHandler → List Cl → Prop
  | nil : CsOk X [] []
  | cons {x n : Str} {c : Value} {i : Nat} {t : Addr → Value → Option Addr → TS} {b0 : Stmt} {bs : List Stmt} {p p' : Pos} {hds : List ExceptHandler} {l : List Cl} (nm : Names X x c) (hi : X.N[i]? = some n) (hl : X.env.kindOf n = some .local)
      (su : ∀ (a : Addr) (oe : Obj) (k : Value) (d : Option Addr) (pn : List (Addr × Obj)), L2.Zc k d oe → (∃ vs, oe.data = .fields vs) → PSs (X.suite a ((a, oe) :: pn)) (b0 :: bs) (t a k d)) (r : CsOk X hds l) : CsOk X (.ExceptHandler (some (.Name x p)) (some n) (b0 :: bs) p' :: hds) ((c, i, t) :: l)
section
variable {X : Cx} {body : List Stmt} {h0 : ExceptHandler} {hds : List ExceptHandler} {l : List Cl} {pos : Pos} {tb : WX → TS} {Wo : WX}
theorem ps_tryN (st : X.stack = X.env :: X.outer) (fr : X.env.frame = some X.env.locals) (nd : X.N.Nodup) (tk : Takes X Wo)
    (bo : ∀ (W : WX) (pn : List (Addr × Obj)) (xe : Value → Shared → Prop), Takes (X.tr pn xe) W → PassesOwn (model X.prog X.w) X.A X.env xe → PSs (X.tr pn xe) body (tb W))
    (cs : CsOk X (h0 :: hds) l) : PS X (.Try body (h0 :: hds) [] [] pos) (fun D σ H => tb (wCs X.K Wo D l) D σ H) := by
  refine ⟨fun pins s σ H D J0 wish => ?_⟩
  have Xok := J0.ok
  have frX : X.A.frames = some (X.env :: X.outer) := by rw [Xok.frames, st]
  refine wpAny_Try_except (wpAny_mono ((bo (wCs X.K Wo D l) (X.pn ++ pins) (fun e z => wpAny (model X.prog X.w) X.A (noteFrame e X.env) (fun _ z => wpAny (model X.prog X.w) X.A (setFlight e none) (fun _ z =>
    wpAny (model X.prog X.w) X.A (handleBy e X.env (h0 :: hds)) (SP X pins D) X.xe z) X.xe z) X.xe z) (fun u z1 caught => ?_) PassesOwn.looking).run [] s σ H D (J0.toTry _) wish) (fun fl z1 done => ?_) fun e z he => he)
  · obtain ⟨a, B, sJ, pins1, σ1, H1, k, d, rfl, Jt, nb, up, sky, na, os, ag, w⟩ := caught
    have J1 : Inv X pins σ1 H1 sJ := Jt.ofTry Xok
    have skyX : Sky B (X.env :: X.outer) a (L2.Zc k d) X.env.locals z1.heap := by rw [← st]; exact sky
    show wpAny (model X.prog X.w) X.A (noteFrame (.ref a) X.env) _ _ _
    refine Sky.land Zc.steady frX fr skyX fun g3 f3 u3 => ?_
    have J3 : Inv X pins σ1 H1 { z1 with heap := g3 } := J1.landed nb f3.1 (up.trans u3) os ag
    obtain ⟨o3, v3, e3, c3, d3⟩ := f3.there
    have nfr : a ∉ frs (X.env :: X.outer) := fun m => by
      obtain ⟨_, o', e', no⟩ := f3.2.2.1.mem m
      rw [e3] at e'; cases e'
      exact no _ d3
    have nL : a ≠ X.env.locals := fun q => nfr (List.mem_filterMap.mpr ⟨X.env, .head _, by rw [fr, q]⟩)
    have nF : a ∉ X.fs := fun m => by
      obtain ⟨e, me, q⟩ := List.mem_filterMap.mp m
      exact nfr (List.mem_filterMap.mpr ⟨e, .tail _ me, q⟩)
    have S3 := J3.suite e3 d3 na nL nF
    have go : ∀ {hs : List ExceptHandler} {ls : List Cl}, CsOk X hs ls → wCs X.K Wo D ls k d σ1 H1 → wpAny (model X.prog X.w) X.A (handleBy (.ref a) X.env hs) (SP X pins D) X.xe { z1 with heap := g3 } := by
      intro hs ls ok
      induction ok with
      | nil =>
        intro w
        refine wpAny_handleBy_nil ?_
        obtain ⟨_, _, _, oe, vs, T, oT, _, he, _, hd, h1, _⟩ := id f3
        unfold PySem.passOn
        refine wpAny_bind (wpAny_field he hd h1 ?_)
        rw [if_neg (show ¬ ((Value.ref T == Value.none) = true) by simp)]
        have fin : wpAny (model X.prog X.w) X.A (setFlight (.ref a) X.env.frame) (fun _ z => wpAny (model X.prog X.w) X.A (throw (.ref a) : Sem Flow) (SP X pins D) X.xe z) X.xe { z1 with heap := g3 } := by
          rw [fr]
          exact HandSPX.setFlight_upZ f3 fun g4 up4 u4 => wpAny_throw (tk _ _ ⟨a, B, sJ, pins, σ1, H1, k, d, rfl, J1, nb, (up.trans u3).trans u4, .inr (.inr (by rw [st]; exact up4)), na, os, ag, w⟩)
        first
          | exact wpAny_bind (wpAny_pure (wpAny_bind fin))
          | exact wpAny_bind fin
      | @cons x n c i t b0 bs p p' hs2 l2 nm hi hl su r ih =>
        intro w
        obtain ⟨b, hb, yes, no⟩ := w
        refine wpAny_handleBy_cons (codeAny_handlers_test ?_) (by intro q; cases q)
        have LT : PySem.W.Looks (model X.prog X.w) g3 (typeOf (.ref a)) k := fun A Q E s kp q => wpAny_typeOf_ref (kp _ _ e3) (by rw [c3.1]; exact q)
        have LM := PySem.W.exm_one (M := model X.prog X.w) J3.kIn LT hb
        have test : ∀ {Q : Value → Shared → Prop} {E : Value → Shared → Prop}, Q c { z1 with heap := g3 } → wpAny (model X.prog X.w) (X.A.mark (some (.ref a))) (eval (.Name x p) X.env) Q E { z1 with heap := g3 } := fun {Q E} q => by
          obtain ⟨g, dbg, m | ⟨m, v, nn⟩⟩ := nm
          · exact ld_glob (X := X.suite a ((a, o3) :: (X.pn ++ pins))) S3 g m q dbg
          · exact ld_blt (X := X.suite a ((a, o3) :: (X.pn ++ pins))) S3 g m v q nn dbg
        refine test (LM.here ?_)
        cases b with
        | false => exact ih (no rfl)
        | true =>
          refine codeAny_handlers_suite_as (HandSPX.lands_againZ f3 fun g4 f4 u4 => ?_)
          have J4 : Inv X pins σ1 H1 { z1 with heap := g4 } := J1.landed nb f4.1 ((up.trans u3).trans u4) os ag
          obtain ⟨o4, v4, e4, c4, d4⟩ := f4.there
          refine store_ok (X := X.suite a ((a, o4) :: (X.pn ++ pins))) (v := .ref a) (J4.suite e4 d4 na nL nF) nd hi (.inl hl) rfl (fun z5 S5 => ?_) (.inr hl)
          refine wpAny_mono ((su a o4 k d (X.pn ++ pins) c4 ⟨_, d4⟩).run [] z5 _ H1 _ S5 (yes rfl a na)) (fun fl z6 q => ?_) fun _ _ q => False.elim q
          have out : ∀ {σ6 : L2.St} {H6 : Hp} {Q : Shared → Prop}, Inv (X.suite a ((a, o4) :: (X.pn ++ pins))) [] σ6 H6 z6 → (∀ z, Inv X pins (σ6.set i none) H6 z → Q z) →
              wpAny (model X.prog X.w) X.A (do bindName X.env n .none; unbindBehindTheSuite X.env n p') (fun _ z => Q z) X.xe z6 := fun {_ _ _} S6 hq => gone_ok (S6.unsuite Xok) nd hi hl hq
          cases fl with
          | next => obtain ⟨_, _, S6, q6⟩ := q; exact out S6 fun _ J7 => ⟨_, _, J7, q6⟩
          | brk => obtain ⟨_, _, S6, q6⟩ := q; exact out S6 fun _ J7 => ⟨_, _, J7, q6⟩
          | cont => obtain ⟨_, _, S6, q6⟩ := q; exact out S6 fun _ J7 => ⟨_, _, J7, q6⟩
          | ret u => obtain ⟨_, _, _, S6, r6, q6⟩ := q; exact out S6 fun _ J7 => ⟨_, _, _, J7, r6, q6⟩
    exact go cs w
  · cases fl with
    | next => obtain ⟨_, _, J', q⟩ := done; exact wpAny_execs_nil ⟨_, _, J'.ofTry Xok, q⟩
    | brk => obtain ⟨_, _, J', q⟩ := done; exact ⟨_, _, J'.ofTry Xok, q⟩
    | cont => obtain ⟨_, _, J', q⟩ := done; exact ⟨_, _, J'.ofTry Xok, q⟩
    | ret u => obtain ⟨_, _, _, J', r, q⟩ := done; exact ⟨_, _, _, J'.ofTry Xok, r, q⟩
end
end G
end L2
end G51_
section G52_
set_option Elab.async false
set_option linter.all false
set_option maxRecDepth 100000
set_option maxHeartbeats 1000000
namespace L2
namespace G
open PySem PySem.Spec PyProof.Rows
/-! ### defs that call what they got within a try with several clauses -/
abbrev ClD := List (Str × Bool) × (Ex → SD)
def retM (L : Nat) (f : SD) : M D := fun st => match f (List.replicate L none) st with
  | .ok (.ret d, _) st2 => .ok d st2
  | _ => .bad
def pickM (L : Nat) : List ClD → Ex → M D
  | [], x, st => .exc x st
  | q :: r, x, st => match q.1.lookup x.cls with
    | some true => retM L (q.2 x) st
    | some false => pickM L r x st
    | none => .bad
def toldN (L : Nat) (cs : List ClD) (aft : D → M D) (m : M D) : M D := fun st => match m st with
  | .ok d st' => aft d st'
  | .exc x st' => pickM L cs x st'
  | .bad => .bad
inductive ClsD (X : Cx) : List ExceptHandler → List Cl → List ClD → Prop
  | nil : ClsD X [] [] []
  | cons {c n : Str} {i : Nat} {tab : List (Str × Bool)} {h : Ex → SD} {b0 : Stmt} {bs : List Stmt} {p p' : Pos} {hds : List ExceptHandler} {l : List Cl} {cs : List ClD} (hg : Gl X c) (hm : X.mg c = some (.ref (He.ga X.K c))) (hd : (c == ("__debug__" : Str)) = false) (ht : TabX X.K c tab)
      (hi : X.N[i]? = some n) (hl : X.env.kindOf n = some .local)
      (su : ∀ (a : Addr) (oe : Obj) (k : Value) (d : Option Addr) (pn : List (Addr × Obj)), L2.Zc k d oe → (∃ vs, oe.data = .fields vs) → PSs (X.suite a ((a, oe) :: pn)) (b0 :: bs) (tH X.K [] i a k d h)) (r : ClsD X hds l cs) :
      ClsD X (.ExceptHandler (some (.Name c p)) (some n) (b0 :: bs) p' :: hds) ((.ref (He.ga X.K c), i, fun a k d => tH X.K [] i a k d h) :: l) ((tab, h) :: cs)
theorem ClsD.ok {X : Cx} {hds : List ExceptHandler} {l : List Cl} {cs : List ClD} (h : ClsD X hds l cs) : CsOk X hds l := by
  induction h with
  | nil => exact .nil
  | cons hg hm hd ht hi hl su r ih => exact .cons ⟨hg, hd, .inl hm⟩ hi hl su ih
section
variable {X : Cx} {E : XK} {B : Addr → Prop} {as : List Addr} {H0 : Hp}
/-- what is told of a result of the def -/
abbrev TellR (K : PySem.W.Frag) (B : Addr → Prop) (as : List Addr) (H0 : Hp) (rt : VK) : D → Store → Prop := fun d st' => ∀ as' v H', Grow as H0 as' H' → SRep K as' st' H' → Rep K (fun a => B a ∨ a ∈ as') as' H' v d → rt v H'
abbrev TellX (K : PySem.W.Frag) (B : Addr → Prop) (as : List Addr) (H0 : Hp) (E : XK) : Ex → Store → Prop := fun x st' => ∀ as' H' cls d, Grow as H0 as' H' → SRep K as' st' H' → ExR K (fun a => B a ∨ a ∈ as') as' H' cls d x → E cls d H'
theorem pick_ok {hds : List ExceptHandler} {l : List Cl} {cs : List ClD} {st' : Store} {x : Ex} {as' : List Addr} {H' : Hp} {k : Value} {d : Option Addr} {σ' : L2.St} {Dn : Ends} (h : ClsD X hds l cs) (tr : ∀ a, B a → ∃ o, H0 a = some o) (gr : Grow as H0 as' H') (s : SRep X.K as' st' H')
    (ex : ExR X.K (fun a => B a ∨ a ∈ as') as' H' k d x) (hl : σ'.length = X.N.length) (q : Ev (pickM X.N.length cs x st') (TellR X.K B as H0 Dn.rt) (TellX X.K B as H0 E)) : wCs X.K (fun k d _ H => E k d H) Dn l k d σ' H' := by
  induction h with
  | nil => exact q as' H' k d gr s ex
  | @cons c n i tab h b0 bs p p' hds l cs hg hm hd ht hi hln su r ih =>
    obtain ⟨ec, _⟩ := id ex
    unfold pickM at q
    dsimp only at q
    cases el : tab.lookup x.cls with
    | none => rw [el] at q; exact q.elim
    | some bb =>
      rw [el] at q
      refine ⟨bb, by rw [ec]; exact ht _ (PySem.mem_of_lookup el), fun eb => ?_, fun eb => ?_⟩
      · subst eb
        dsimp only at q
        intro a na
        have hlt : i < σ'.length := by rw [hl]; exact (List.getElem?_eq_some_iff.mp hi).1
        refine ⟨⟨B, H0, as, as', List.replicate X.N.length none, st'⟩, x, ⟨⟨wf_none tr gr s (by rw [List.length_set, hl]), s⟩, by rw [List.getElem?_set_self hlt], ?_⟩, ?_⟩
        · exact ex.weak fun a o _ z => by
            rcases z with z | z | ⟨_, z, _⟩
            · exact .inl z
            · exact .inr z
            · cases z
        · show Ev (h x (List.replicate X.N.length none) st') _ _
          unfold retM at q
          cases eh : h x (List.replicate X.N.length none) st' with
          | bad => rw [eh] at q; exact q.elim
          | exc y st2 => rw [eh] at q; exact q.elim
          | ok r st2 =>
            rw [eh] at q
            obtain ⟨fl, ρ2⟩ := r
            cases fl with
            | ret u => exact fun as2 σ2 H2 sp2 w2 s2 v rv => q as2 v H2 w2.gr s2 rv
            | next => exact q.elim
            | brk => exact q.elim
            | cont => exact q.elim
      · subst eb
        exact ih q
variable {h0 : ExceptHandler} {hds : List ExceptHandler} {l : List Cl} {cs : List ClD} {pos p3 : Pos} {e0 : Expr} {st : Store} {f : Addr} {m : M D}
theorem told_ret (hs : X.stack = X.env :: X.outer) (hf : X.env.frame = some X.env.locals) (hN : X.N.Nodup) (tk : Takes X (fun k d _ H => E k d H)) (tr : ∀ a, B a → ∃ o, H0 a = some o)
    (hb : ∀ (W : WX) (pn : List (Addr × Obj)) (xe : Value → Shared → Prop), Takes (X.tr pn xe) W → PE (X.tr pn xe) e0 (tTh X.K B as H0 st f X.N.length W m)) (hc : ClsD X (h0 :: hds) l cs) :
    PSs X [.Try [.Return (some e0) p3] (h0 :: hds) [] [] pos] (fun D σ H => σ[0]? = some (some (.ref f)) ∧ σ.length = X.N.length ∧ H = H0 ∧ Ev (toldN X.N.length cs ret m st) (TellR X.K B as H0 D.rt) (TellX X.K B as H0 E)) := by
  refine PSs.imp (pss_one (ps_tryN (tb := fun W D σ H => tTh X.K B as H0 st f X.N.length W m σ H D.rt) hs hf hN tk (fun W pn xe t _ => pss_one (ps_ret (hb W pn xe t))) hc.ok)) fun D σ H ⟨h1, _, h2, q⟩ => ⟨h1, h2, ?_⟩
  unfold toldN at q
  cases em : m st with
  | ok d st' => rw [em] at q; exact q
  | bad => rw [em] at q; exact q
  | exc x st' =>
    rw [em] at q
    exact fun as' H' k d gr s ex σ' hl => pick_ok hc tr gr s ex hl q
theorem told_expr {rest : List Stmt} {dr : SD} (hs : X.stack = X.env :: X.outer) (hf : X.env.frame = some X.env.locals) (hN : X.N.Nodup) (tk : Takes X (fun k d _ H => E k d H)) (tr : ∀ a, B a → ∃ o, H0 a = some o)
    (hb : ∀ (W : WX) (pn : List (Addr × Obj)) (xe : Value → Shared → Prop), Takes (X.tr pn xe) W → PE (X.tr pn xe) e0 (tTh X.K B as H0 st f X.N.length W m)) (hc : ClsD X (h0 :: hds) l cs) (hr : DSs X [] Z0 rest dr)
    (hw : ∀ pn xe, swapsWith e0 none p3.line (X.tr pn xe).env = pure false := by intro _ _; rfl) :
    PSs X (.Try [.Expr e0 p3] (h0 :: hds) [] [] pos :: rest) (fun D σ H => σ[0]? = some (some (.ref f)) ∧ σ.length = X.N.length ∧ H = H0 ∧ Ev (toldN X.N.length cs (fun _ => retM X.N.length dr) m st) (TellR X.K B as H0 D.rt) (TellX X.K B as H0 E)) := by
  refine PSs.imp (pss_cons (ps_tryN (tb := fun W D σ H => tTh X.K B as H0 st f X.N.length W m σ H fun _ H' => D.nx σ H') hs hf hN tk (fun W pn xe t _ => pss_one (ps_expr (hb W pn xe t) (hw pn xe))) hc.ok) hr) fun D σ H ⟨h1, hl, h2, q⟩ => ⟨h1, h2, ?_⟩
  unfold toldN at q
  cases em : m st with
  | bad => rw [em] at q; exact q
  | exc x st' =>
    rw [em] at q
    exact fun as' H' k d gr s ex σ' hl => pick_ok (Dn := { D with nx := _ }) hc tr gr s ex hl q
  | ok d st' =>
    rw [em] at q
    intro as' v H' gr s rv
    refine ⟨⟨B, H0, as, as', List.replicate X.N.length none, st'⟩, ⟨wf_none tr gr s hl, s⟩, ?_⟩
    show Ev (dr (List.replicate X.N.length none) st') _ _
    change Ev (retM X.N.length dr st') _ _ at q
    unfold retM at q
    cases eh : dr (List.replicate X.N.length none) st' with
    | bad => rw [eh] at q; exact q.elim
    | exc y st2 => rw [eh] at q; exact q.elim
    | ok r st2 =>
      rw [eh] at q
      obtain ⟨fl, ρ2⟩ := r
      cases fl with
      | ret u => exact fun as2 σ2 H2 sp2 w2 s2 v rv => q as2 v H2 w2.gr s2 rv
      | next => exact q.elim
      | brk => exact q.elim
      | cont => exact q.elim
end
theorem thF_gen {P : Program} {w : World} {K : PySem.W.Frag} {mg : Str → Option Value} {base : Heap} {y a : Str} {stm : Stmt} {fd : FuncData} {N : List Str} {Φ : M D → M D}
    (F : FunD K y y (defArgs stm) (defBody stm) (defScope stm) [] [] (He.fAd K (y, none)) fd) (hmg : mg y = some (.ref (He.fAd K (y, none)))) (S : FnScope N [a] (defScope stm)) (hb : ∀ (kV doc pm : Value) (an : Option Addr) (cdv ct : Value) (us : List Value), us.length = ([a] : List Str).length → bindArgs (PySem.W.fnOf y y (defArgs stm) (defBody stm) (defScope stm) .none kV doc pm an cdv ct) ⟨us, []⟩ = pure (([a] : List Str).zip us))
    (h0 : N[0]? = some a) (hva : Vis (defScope stm) a) (hda : (a == ("__debug__" : Str)) = false) (hca : (a == ("__classdict__" : Str)) = false)
    (hp : ∀ (cdv : Value) (A : Around) (outer : List PySem.Env) (s : Shared) (H : Hp) (E : XK) (B : Addr → Prop) (as : List Addr) (st : Store) (f : Addr) (m : M D), (∀ a, B a → ∃ o, H a = some o) →
      (∀ (W : WX) (pn : List (Addr × Obj)) (xe : Value → Shared → Prop) (p1 p2 : Pos), Takes ((cxOf (L2.CX P w) P w K mg base N y (defScope stm) (He.fAd K (y, none)) cdv A outer s H E).tr pn xe) W → PE ((cxOf (L2.CX P w) P w K mg base N y (defScope stm) (He.fAd K (y, none)) cdv A outer s H E).tr pn xe) (.Call (.Name a p1) [] [] p2) (tTh K B as H st f N.length W m)) →
      PSs (cxOf (L2.CX P w) P w K mg base N y (defScope stm) (He.fAd K (y, none)) cdv A outer s H E) (defBody stm) (fun D σ H' => σ[0]? = some (some (.ref f)) ∧ σ.length = N.length ∧ H' = H ∧ Ev (Φ m st) (TellR K B as H D.rt) (TellX K B as H E))) :
    ThF P w K mg base y Φ := by
  obtain ⟨oc, od, dV, kV, doc, pm, an, cdv, ct, osl, rfl, lk, hcd, _, _⟩ := id F.ex
  refine ⟨_, hmg, F.kp, fun k A outer s H f Q E B as st m hr e0' tr sr act q => ?_⟩
  refine LamX.run_ofS (N := N) (ps := [a]) (us := [.ref f]) (vs := [.ref f]) lk hcd S hr.rm e0' (F.bindsN hb s [.ref f] (e0'.mod.kin.keeps fun b o e => (e0'.bs b o e).1) rfl) (.cons rfl .nil) rfl fun hr' => ?_
  have rm' : Rm (k + 1) (A.deeper (envOfC y (defScope stm) s.heap.objs.size (He.fAd K (y, none)) cdv)) := ⟨hr', hr.gd⟩
  have hl : 0 < N.length := (List.getElem?_eq_some_iff.mp h0).1
  refine ⟨_, hp cdv A outer s H E B as st f m tr fun W pn xe p1 p2 t => act E N y (defScope stm) _ cdv a pn xe W p1 p2 t rm' h0 hva hda hca, ?_, ?_, rfl, q⟩
  · cases N with
    | nil => cases h0
    | cons x N => rfl
  · cases N with
    | nil => cases h0
    | cons x N => simp [start]
end G
end L2
end G52_
section G53_
set_option Elab.async false
set_option linter.all false
set_option maxRecDepth 100000
set_option maxHeartbeats 2000000
namespace L2
namespace G
open PySem PySem.Spec PyProof.Rows
/-! ### a lambda with one default, handed to a def -/
section
variable {X : Cx} {pins : List (Addr × Obj)} {σ : L2.St} {H : Hp} {s : Shared}
theorem lam_makeD {c P : Addr} {q : Str} {params : Arguments} {body : Expr} {scope : Scope} {pos : Pos} {de : Expr} {z : Int} {E : Value → Shared → Prop} {Q : Value → Shared → Prop}
    (I : Inv X pins σ H s) (TB : LamX.TabB X.base X.mg c P) (hcode : X.env.code = .ref c) (hq : X.env.qual ++ "<lambda>" = q) (hT : LamX.TabS H P q)
    (hde : PE X de (tC (.int z))) (hdd : params.defaults = [de]) (hk0 : params.kw_defaults = []) (hxe : ∀ e s', X.xe e s' → E e s') (hfree : ∀ y ∈ scope.names, y.2 = .free → ∃ c, X.env.cells.lookup y.1 = some c)
    (h : ∀ (f c' t0 : Addr) (doc pm ctv u : Value) (H1 : Hp) (s' : Shared), Inv X pins σ H1 s' → Made H P q H1 c' → LamX.TabS H1 P q →
      s'.heap.get? f = some (PySem.W.kdv_obj "<lambda>" q params (.expr body) scope (cloFrom X.env.cells scope.names []) (.ref t0) doc pm c' ctv) → s'.heap.get? t0 = some (PySem.W.kdv_tup [u]) → RelV (.int z) u →
      H1 f = none → H1 t0 = none → f ∉ frs X.stack → t0 ∉ frs X.stack → Q (.ref f) s') :
    wpAny (model X.prog X.w) X.A (eval (.Lambda params body scope pos) X.env) Q E s := by
  subst hq
  refine PySem.W.kdv_lam (by rw [hdd]; rfl) hk0 ?_
  rw [hdd]
  refine PySem.W.kdv_all1 (wpAny_mono (hde.run pins s σ H (fun v H1 => v = .int z ∧ H1 = H) I ⟨rfl, rfl⟩) (fun u s1 ⟨v, H1, I1, rv, ev, eH⟩ => PySem.W.kdv_all0 ?_) hxe)
  subst ev eH
  rw [PySem.makeFunction_eq]
  simp only [List.zip_nil_right, List.filterMap_nil, List.isEmpty_nil, List.isEmpty_cons, if_true, pure_bind, Bool.false_eq_true, if_false]
  refine wpAny_bind (wpAny_newTextTuple ?_)
  obtain ⟨ps, hP, ht, ha⟩ := hT
  have hsz0 : s1.heap.objs.size < (s1.heap.push (PySem.W.kdv_tup [u])).objs.size := by rw [Heap.size_push]; omega
  have I2 : Inv X pins σ H1 { s1 with heap := s1.heap.push (PySem.W.kdv_tup [u]) } := I1.kept fun b o e => Heap.get?_push_of_some _ e
  have t0at : (s1.heap.push (PySem.W.kdv_tup [u])).get? s1.heap.objs.size = some (PySem.W.kdv_tup [u]) := Heap.get?_push_size _ rfl
  have tabAt : (s1.heap.push (PySem.W.kdv_tup [u])).get? P = some { cls := .none, data := .fields ps } := I2.hok P _ hP
  have notFrame : ∀ f, s1.heap.objs.size ≤ f → f ∉ frs X.stack := fun f hf z => by
    rcases List.mem_cons.mp (I1.stkSub _ z) with e | e
    · exact Nat.lt_irrefl _ (Nat.lt_of_lt_of_le (show f < _ by rw [e]; exact I1.lt) hf)
    · exact I1.nofs hf e
  cases among : codeAmong pos ps.toList with
  | some cv =>
    obtain ⟨c', e, known⟩ := ha pos cv among
    subst e
    refine PySem.W.kdv_makeTailHit (mg := X.mg) (c := c) (P := P) (ps := ps) (closure_ok hfree) I2.ok.glob (I2.mod.glob.keeps I2.bk) hcode (TB.code.keeps I2.bk) tabAt ht among (TB.bm.keeps I2.bk)
      fun ctv doc h' tk hx hsz => ?_
    exact h h'.objs.size c' s1.heap.objs.size doc ((X.mg "__name__").getD .none) ctv u H1 _ (I2.kept fun b o e => Heap.get?_push_of_some _ (hx b o e)) (.hit known) ⟨ps, hP, ht, ha⟩ (Heap.get?_push_size _ rfl) (Heap.get?_push_of_some _ (hx _ _ t0at)) rv (I2.hok.fresh hsz) (I1.hok.fresh (Nat.le_refl _)) (notFrame _ (Nat.le_trans (Nat.le_of_lt hsz0) hsz)) (notFrame _ (Nat.le_refl _))
  | none =>
    refine PySem.W.kdv_makeTail (mg := X.mg) (c := c) (P := P) (ps := ps) (closure_ok hfree) I2.ok.glob (I2.mod.glob.keeps I2.bk) hcode (TB.code.keeps I2.bk) tabAt ht among TB.gP (TB.bm.keeps I2.bk)
      fun c' ctv doc h' tk hx hge hlt hrec htb => ?_
    obtain ⟨c2, oc, vs, t, e2, hoc, hd, hv⟩ := hrec
    cases e2
    have grown0 : (s1.heap.push (PySem.W.kdv_tup [u])).objs.size ≤ h'.objs.size := Nat.le_trans hge (Nat.le_of_lt hlt)
    have grown : s1.heap.objs.size ≤ h'.objs.size := Nat.le_trans (Nat.le_of_lt hsz0) grown0
    have isNew : H1 c' = none := I2.hok.fresh hge
    let fo : Obj := PySem.W.kdv_obj "<lambda>" (X.env.qual ++ "<lambda>") params (.expr body) scope (cloFrom X.env.cells scope.names []) (.ref s1.heap.objs.size) doc ((X.mg "__name__").getD .none) c' ctv
    let row : Array Value := #[rawInt pos.line, rawInt pos.col, .ref c']
    have J := LamX.inv_table (t' := tk) (more := row) (h' := h'.push fo) I2 hP (fun b o hb e => Heap.get?_push_of_some _ (hx b o hb e)) (Heap.get?_push_of_some _ htb) hge
      ⟨oc, vs, t, Heap.get?_push_of_some _ hoc, hd, hv⟩
    have listed : (ps ++ row).toList = ps.toList ++ [rawInt pos.line, rawInt pos.col, .ref c'] := by simp [row]
    have t0P : s1.heap.objs.size ≠ P := fun z => by
      have := I1.hok.fresh (Nat.le_refl s1.heap.objs.size)
      rw [z, hP] at this; cases this
    refine h h'.objs.size c' s1.heap.objs.size doc ((X.mg "__name__").getD .none) ctv u _ _ J (.new hP isNew) ⟨ps ++ row, by rw [upd_ne (ne_of_none hP isNew), upd_same], by rw [listed]; exact PySem.TriplesOk_snoc _ _ _ _ ht, fun p' cv hcv => ?_⟩ (Heap.get?_push_size _ rfl) (Heap.get?_push_of_some _ (hx _ _ t0P t0at)) rv ?_ ?_ (notFrame _ grown) (notFrame _ (Nat.le_refl _))
    · rw [listed] at hcv
      rcases LamX.among_app _ ht hcv with z | z
      · obtain ⟨c0, e1, e2⟩ := ha p' cv z
        refine ⟨c0, e1, ?_⟩
        rw [upd_ne (ne_of_none e2 isNew), upd_ne (fun z => by rw [z, hP] at e2; exact LamX.codeO_ne ps (Option.some.inj e2).symm)]
        exact e2
      · exact ⟨c', z, upd_same⟩
    · rw [upd_ne (Nat.ne_of_gt hlt), upd_ne (Nat.ne_of_gt (Nat.lt_of_lt_of_le (Heap.lt_size tabAt) grown0))]
      exact I2.hok.fresh grown0
    · rw [upd_ne (Nat.ne_of_lt (Nat.lt_of_lt_of_le hsz0 hge)), upd_ne t0P]
      exact I1.hok.fresh (Nat.le_refl _)
end
section
variable {X : Cx} {pins : List (Addr × Obj)} {σ : L2.St} {H HZ : Hp} {s s1 : Shared} {scope : Scope} {a : Str}
theorem lam_start3 {A : Around} {outer : List PySem.Env} {E : XK} {f c' : Addr} {h₁ : Heap} {tk i : Nat} {v : V} {u : Value} (I : Inv X pins σ H s) (L : LamS1 X.env.scope scope a)
    (e0 : Env0 X.prog X.w X.K X.mg X.base A outer s1 HZ) (hd : A.handled = none) (un : Un (frs X.stack) [] H HZ s.heap s1.heap) (hns : h₁.Ns s1.heap.objs.size fun y => [(a, u)].reverse.lookup y) (kp : ∀ b o, s1.heap.get? b = some o → h₁.get? b = some o)
    (hN : X.N.Nodup) (hi : X.N[i]? = some a) (rv : RelV v u) :
    Inv (LamX.lamCx X A outer s1 HZ E scope f c') [] (σ.set i (some v)) HZ { s1 with heap := h₁, toks := tk } := by
  have hfree := L.has I.ok
  let cl := cloFrom X.env.cells scope.names []
  have outerCell : ∀ {y c}, cl.lookup y = some c → X.env.cells.lookup y = some c := fun {y c} e => by
    rcases cloFrom_mem (PySem.mem_of_lookup e) with hm | ⟨h1, h2⟩
    · cases hm
    · obtain ⟨c1, hc⟩ := hfree _ h1 rfl
      have hc : X.env.cells.lookup y = some c1 := hc
      have e2 : c = c1 := by rw [h2, hc]; rfl
      rw [e2]; exact hc
  have found : ∀ {y}, scope.names.lookup y = some .free → ∃ c, cl.lookup y = some c := fun {y} hl =>
    mem_lookup (cloFrom_has (cells := X.env.cells) (acc := []) (PySem.mem_of_lookup hl : (y, NameKind.free) ∈ scope.names))
  have still : ∀ {c : Addr} {v : Option Value}, H c = none → s.heap.IsCell c v → h₁.IsCell c v := fun {c v} n ⟨o, ho, hd⟩ => by
    obtain ⟨sl, q⟩ := un.any ho n (by simp)
    exact ⟨_, kp _ _ q, hd⟩
  have none_ex : ∀ b : Addr, b ∉ (LamX.lamCx X A outer s1 HZ E scope f c').ex := fun b z => absurd (show b ∈ ([] : List Addr) from z) (by simp)
  have hiσ : i < σ.length := by rw [I.len]; exact (List.getElem?_eq_some_iff.mp hi).1
  refine ⟨⟨e0.mod, L.kind, rfl, rfl, Nat.le_refl _, fun y z c e1 e2 => I.ok.inj y z c (outerCell e1) (outerCell e2), fun y hy => ?_, fun y c z _ => ?_, fun _ => hd, Around.frames_deeper e0.frames, .inr ⟨rfl, rfl⟩,
      fun b z => absurd z (none_ex b), e0.bs, e0.bsz, fun b _ _ => none_ex b, fun b z => absurd z (none_ex b), e0.funs, e0.frf⟩,
    rfl, e0.bare, Un.kept kp, ⟨_, hns, fun j y v' e1 e2 e3 => ?_⟩, fun y c e => ?_, e0.hok.fresh (Nat.le_refl _), fun y c e => ?_, fun q hq => absurd (show q ∈ ([] : List (Addr × Obj)) ++ [] from hq) (by simp), e0.hok.kept kp,
    by rw [List.length_set]; exact I.len⟩
  · rcases (show scope.names.lookup y = some .cell ∨ scope.names.lookup y = some .free from hy) with hy | hy
    · exact absurd rfl (L.own _ (PySem.mem_of_lookup hy)).2
    · exact found hy
  · exact absurd (show false = true from z) Bool.false_ne_true
  · rcases (show Vis scope y from e3) with k | k | k
    · have ey : y = a := (L.own _ (PySem.mem_of_lookup k)).1 rfl
      subst ey
      cases nodup_ix hN e1 hi
      rw [List.getElem?_set_self hiσ] at e2
      cases e2
      exact ⟨u, rv, .inl ⟨k, by simp⟩⟩
    · exact absurd rfl (L.own _ (PySem.mem_of_lookup k)).2
    · have ne : i ≠ j := fun z => by
        subst z
        have : X.N[i]? = some y := e1
        rw [hi] at this
        cases this
        rw [L.par] at k; cases k
      rw [List.getElem?_set_ne ne] at e2
      obtain ⟨m, hn, hl⟩ := I.loc
      have seen : Vis X.env.scope y := (L.free _ (PySem.mem_of_lookup k) rfl).elim (fun k => .inr (.inl k)) (fun k => .inr (.inr k))
      obtain ⟨w', r, q⟩ := hl j y v' e1 e2 seen
      obtain ⟨c2, h2⟩ := found k
      refine ⟨w', r, .inr ⟨.inr k, c2, h2, ?_⟩⟩
      have c1 := outerCell h2
      rcases q with ⟨k', _⟩ | ⟨_, c3, e', z⟩
      · have k' : X.env.scope.names.lookup y = some .local := k'
        rcases L.free _ (PySem.mem_of_lookup k) rfl with k2 | k2
        · rw [show X.env.scope.names.lookup y = _ from k2] at k'; cases k'
        · rw [show X.env.scope.names.lookup y = _ from k2] at k'; cases k'
      · rw [c1] at e'
        cases e'
        exact still (I.freeC y _ c1) z
  · obtain ⟨w', z⟩ := I.cell y c (outerCell e)
    exact ⟨w', still (I.freeC y c (outerCell e)) z⟩
  · obtain ⟨v, o, ho, hd⟩ := I.cell y c (outerCell e)
    exact un.free c o ho (I.freeC y c (outerCell e)) (by simp)
/-- the lambda is called by the def that got it -/
theorem act_rmD {Eg : XK} {Ng : List Str} {qg q : Str} {sg : Scope} {g f c' t0 : Addr} {cdg doc pm ctv u : Value} {params : Arguments} {body : Expr} {k i : Nat} {b : Str} {z : Int} {pn : List (Addr × Obj)} {xe : Value → Shared → Prop} {W : WX} {E : XK} {tb : TE} {p1 p2 : Pos} {kb : Option (Array Value) → Sem (List (Str × Value))}
    (I : Inv X pins σ H s) (hq : X.env.qual ++ "<lambda>" = q) (L : LamS1 X.env.scope scope a) (hf : s.heap.get? f = some (PySem.W.kdv_obj "<lambda>" q params (.expr body) scope (cloFrom X.env.cells scope.names []) (.ref t0) doc pm c' ctv)) (ht0 : s.heap.get? t0 = some (PySem.W.kdv_tup [u])) (ru : RelV (.int z) u) (hfn : H f = none) (htn : H t0 = none) (hfr : f ∉ frs X.stack) (htr : t0 ∉ frs X.stack)
    (hb1 : bindArgs (PySem.W.kdv_fn "<lambda>" q params (.expr body) scope (cloFrom X.env.cells scope.names []) (.ref t0) doc pm (.ref c') ctv) ⟨[], []⟩ = seqItems? (.ref t0) >>= kb) (hb2 : kb (some #[u]) = pure [(a, u)])
    (tk : Takes ((cxOf (L2.CX X.prog X.w) X.prog X.w X.K X.mg X.base Ng qg sg g cdg X.A X.stack s H Eg).tr pn xe) W) (hW : ∀ cls d σ' H', E cls d H' → W cls d σ' H') (hr : Rm (k + 1) (X.A.deeper (envOfC qg sg s.heap.objs.size g cdg)))
    (hNN : X.N.Nodup) (hi : X.N[i]? = some a)
    (hbody : ∀ (A : Around) (outer : List PySem.Env) (s : Shared) (H : Hp), Rm k (A.deeper (LamX.lamEnv X scope s.heap.objs.size f c')) → PE (LamX.lamCx X A outer s H E scope f c') body tb)
    (hN : Ng[0]? = some b) (hv : Vis sg b) (hd : (b == ("__debug__" : Str)) = false) (hcd : (b == ("__classdict__" : Str)) = false) :
    PE ((cxOf (L2.CX X.prog X.w) X.prog X.w X.K X.mg X.base Ng qg sg g cdg X.A X.stack s H Eg).tr pn xe) (.Call (.Name b p1) [] [] p2)
      (fun σZ HZ Q => σZ[0]? = some (some (.ref f)) ∧ HZ c' = some (LamX.CodeO c' q) ∧ tb (σ.set i (some (.int z))) HZ Q) := by
  subst hq
  refine ⟨fun pinsZ sZ σZ HZ Q J ⟨slot0, code, wish⟩ => ?_⟩
  have fetch := (pe_var (pos := p1) (i := 0) hN hv hd hcd).run pinsZ sZ σZ HZ (fun v H1 => v = .ref f ∧ H1 = HZ) J ⟨.ref f, slot0, rfl, rfl⟩
  refine wpAny_Call_Name_kw (thn fetch fun u' s1 ⟨v, H1, J1, r1, ev, eH⟩ => ?_)
  subst ev eH
  obtain rfl : u' = Value.ref f := r1
  have keepf := J1.base.keep f _ hf hfn hfr (fun z => nomatch (show f ∈ ([] : List Addr) from z))
  have keept := J1.base.keep t0 _ ht0 htn htr (fun z => nomatch (show t0 ∈ ([] : List Addr) from z))
  refine PySem.W.callWith_F0 ⟨_, _, _, _, keepf⟩ ?_
  obtain ⟨⟨oc, vs, t, hoc, hdc, hvc⟩, _, _⟩ := J1.hok c' _ code
  have inner : codeAny (model X.prog X.w) (X.A.deeper (envOfC qg sg s.heap.objs.size g cdg)) (.call (.ref f) ⟨[], []⟩) (CR (L2.CX X.prog X.w) (envOfC qg sg s.heap.objs.size g cdg :: X.stack) X.prog X.w H1 s1 Q E) s1 := by
    refine PySem.W.kla_callFunE hr.rm.depth keepf rfl L.co L.gen rfl ⟨c', oc, vs, t, rfl, hoc, hdc, hvc⟩ ?_
    refine (BindsTo.of_defaults (T := t0) (items := #[u]) rfl keept rfl hb1 hb2) _ _ _ _ ?_
    refine wpAny_newFunctionEnv (fun y hy => (L.own y hy).2) (fun y hy => ?_) (fun h₁ hns hsb => ⟨J1.nolimit.fresh _ hsb, ?_⟩) L.kind
    · rw [List.mem_singleton.mp hy]; exact L.par
    show codeAny _ _ (.expr body (LamX.lamEnv X scope s1.heap.objs.size f c')) _ _
    have grown : ∀ b o, s1.heap.get? b = some o → h₁.get? b = some o := fun b o e => hsb.extBut b o (Nat.ne_of_lt (Heap.lt_size e)) (Heap.get?_push_of_some _ e)
    have J2 := lam_start3 (E := E) (f := f) (c' := c') (tk := s1.toks + [(a, u)].length) I L J1.env0 hr.rm.hd J1.base hns grown hNN hi ru
    refine PySem.W.kla_codeExpr (wpAny_mono ((hbody _ _ s1 H1 (hr.deeper _)).run [] _ _ H1 Q J2 wish) (fun v s' ⟨w', H', J', rv, done⟩ => ⟨w', H', J'.os, J'.bare, J'.base, J'.hok, rv, done⟩) fun e s' out => out)
  refine wpAny_call (codeAny_mono inner fun r s' res => ?_)
  cases r with
  | error e => exact passes_call tk hW pinsZ σZ H1 s1 e s' J1 res
  | ok fl =>
    cases fl with
    | ret u => exact J1.after res
    | _ => exact False.elim res
end
section
variable {X : Cx} {O : List Nat} {Z : ZT} {p pos lpos : Pos}
theorem de_thunkD {x y a : Str} (i : Nat) {k : Nat} {z : Int} {de : Expr} {Φ : M D → M D} {params : Arguments} {body : Expr} {scope : Scope} {g : Env → M D} (T : ThF X.prog X.w X.K X.mg X.base y Φ) (hqual : X.env.qual = x ++ (".<locals>." : Str)) (hcode : X.env.code = .ref (He.cT X.K (x, none)).1)
    (TB : LamX.TabB X.base X.mg (He.cT X.K (x, none)).1 (He.cT X.K (x, none)).2) (hg : Gl X y) (hO : i ∉ O) (hi : X.N[i]? = some a) (hN : X.N.Nodup) (L : LamS1 X.env.scope scope a)
    (hde : PE X de (tC (.int z))) (hdd : params.defaults = [de]) (hk0 : params.kw_defaults = [])
    (hbind : ∀ (q : Str) (cl : List (Str × Addr)) (t0 : Addr) (doc pm cv ctv : Value), ∃ kb, bindArgs (PySem.W.kdv_fn "<lambda>" q params (.expr body) scope cl (.ref t0) doc pm cv ctv) ⟨[], []⟩ = seqItems? (.ref t0) >>= kb ∧ ∀ u, kb (some #[u]) = pure [(a, u)])
    (hr : Rm (k + 2) X.A)
    (hbody : ∀ (A : Around) (outer : List PySem.Env) (s : Shared) (H : Hp) (E : XK) (f c' : Addr), Rm k (A.deeper (LamX.lamEnv X scope s.heap.objs.size f c')) → Takes (LamX.lamCx X A outer s H E scope f c') (fun cls d _ H => E cls d H) → PE (LamX.lamCx X A outer s H E scope f c') body (tEx X.K O (fun cls d _ H => E cls d H) g))
    (hdb : (y == ("__debug__" : Str)) = false := by decide) :
    DE X O Z (.Call (.Name y p) [.Lambda params body scope lpos] [] pos) (E.thunk x Φ (fun ρ => g (ρ.set i (some (.int z))))) := by
  obtain ⟨ga, hm, hk, run⟩ := T.ex
  refine ⟨fun pins s σ H Q I ⟨gh, ok, q⟩ => ?_⟩
  unfold E.thunk at q
  by_cases hc : hasTab x gh.st = true
  case neg => rw [if_neg hc] at q; exact q.elim
  rw [if_pos hc] at q
  obtain ⟨n, hn, hst, hT⟩ := ok.sr.tab hc
  have hq' : X.env.qual ++ ("<lambda>" : Str) = x ++ (".<locals>." : Str) ++ ("<lambda>" : Str) := by rw [hqual]
  refine wpAny_Call_Name_kw (ld_glob I hg hm ?_ hdb)
  refine PySem.W.callWith_K (h₀ := X.base) I.ok.mod.kin hk ?_ (by rfl) (by rfl)
  show wpAny _ _ (spliced ((false, eval (.Lambda params body scope lpos) X.env) :: backTo pos (starEach [] X.env))) _ _ s
  refine Calls.spliced_cons (lam_makeD I TB hcode hq' hT hde hdd hk0 (fun _ _ e => e) (L.has I.ok) fun f c' t0 doc pm ctv u H1 s' I1 md hT2 hf ht0 ru hfn htn hfr htr => ?_)
  refine Calls.spliced_nil ⟨I1.kIn, ?_⟩
  obtain ⟨sr1, gr1⟩ := ok.sr.made hn hst md hT2
  have ok1 := ok.step gr1 sr1
  have rc : codeAny (model X.prog X.w) X.A (.call (.ref ga) ⟨[.ref f], []⟩) (CR (L2.CX X.prog X.w) X.stack X.prog X.w H1 s' Q XE0) s' := by
    refine run k X.A X.stack s' H1 f Q XE0 (fun a => gh.B a ∨ ownA O σ a) gh.as gh.st (g (gh.ρ.set i (some (.int z)))) hr I1.env0 (fun a z => ?_) sr1 ?_ ?_
    · rcases z with z | z
      · exact ok1.wf.tr sr1 a (.inl z)
      · exact ok1.wf.tr sr1 a (.inr (.inr z))
    · intro Eg Ng qg sg gg cdg b pn xe W p1 p2 tk hr' h0 hva hda hca
      obtain ⟨kb, hb1, hb2⟩ := hbind (x ++ (".<locals>." : Str) ++ ("<lambda>" : Str)) (cloFrom X.env.cells scope.names []) t0 doc pm (.ref c') ctv
      have hp := act_rmD (i := i) (tb := tEx X.K O (fun cls d _ H => ∀ σ' : L2.St, σ'.length = Ng.length → W cls d σ' H) g) (Eg := Eg) (k := k) (W := fun cls d σ H => σ.length = Ng.length → W cls d σ H) (E := fun cls d H => ∀ σ' : L2.St, σ'.length = Ng.length → W cls d σ' H) (p1 := p1) (p2 := p2) I1 hq' L hf ht0 ru hfn htn hfr htr hb1 (hb2 u) (takes_len tk) (fun cls d σ' H' z => z σ') hr' hN hi
        (fun A outer s H hr2 => hbody A outer s H _ f c' hr2 (takes_of rfl rfl rfl rfl)) h0 hva hda hca
      · refine PE.imp hp fun σZ HZ QZ ⟨h1, h2, q2⟩ => ⟨h1, ?_, ⟨gh.B, gh.H0, gh.as0, gh.as, gh.ρ.set i (some (.int z)), gh.st⟩, ?_, ?_⟩
        · rw [h2]; exact md.code
        · rw [h2]; exact ⟨ok1.wf.set hO (.int z), sr1⟩
        · rw [h2]
          have eF : ∀ as' a, Ff gh.B as' O (σ.set i (some (.int z))) a → gh.B a ∨ a ∈ as' ∨ ownA O σ a := fun as' a h => by
            rw [ff_set hO] at h; exact h
          refine Ev.mono q2 (fun d st' q as' v H' gr s rv => q as' v H' gr s (rv.weak fun a o _ z => ?_)) fun x st' z as' H' cls d gr s ex => z as' H' cls d gr s (ex.weak fun a o _ z => ?_)
          · rw [ff_set hO]
            rcases z with (z | z) | z
            · exact .inl z
            · exact .inr (.inr z)
            · exact .inr (.inl z)
          · rw [ff_set hO]
            rcases z with (z | z) | z
            · exact .inl z
            · exact .inr (.inr z)
            · exact .inr (.inl z)
    · unfold noexc at q
      cases em : Φ (g (gh.ρ.set i (some (.int z)))) gh.st with
      | bad => rw [em] at q; exact q.elim
      | exc x st' => rw [em] at q; exact q.elim
      | ok d st' =>
        rw [em] at q
        exact fun as' v H' gr s rv => q as' v H' (gr1.trans gr) s (rv.weak fun a o _ z => by
          rcases z with z | z | z
          · exact .inl (.inl z)
          · exact .inr z
          · exact .inl (.inr z))
  refine wpAny_call (codeAny_mono rc fun r s2 hq => ?_)
  cases r with
  | error e => exact pass_none _ _ _ _ _ I1 hq
  | ok fl =>
    cases fl with
    | ret u => exact I1.after hq
    | next => exact False.elim hq
    | brk => exact False.elim hq
    | cont => exact False.elim hq
end
end G
end L2
end G53_
section G54_
set_option Elab.async false
set_option linter.all false
set_option maxRecDepth 100000
set_option maxHeartbeats 2000000
namespace L2
namespace G
open PySem PySem.Spec PyProof.Rows
/-! ### tuple(range(n)), list(range(n)) -/
def rgT1 : List D → Option D
  | [.int j] => if -1000000 ≤ j ∧ j ≤ 1000000 then some (.tup (rangeD 0 j)) else none
  | _ => none
def rgT2 : List D → Option D
  | [.int i, .int j] => if -1000000 ≤ i ∧ i ≤ 1000000 ∧ -1000000 ≤ j ∧ j ≤ 1000000 then some (.tup (rangeD i j)) else none
  | _ => none
section
variable {X : Cx} {O : List Nat} {Z : ZT} {a b : Expr} {fa fb : Env → M D} {pos : Pos}
theorem dn_listRange1 {p p2 pos2 : Pos} (hc : X.calm = true) (hg : Gl X "list") (hm : X.mg "list" = none) (hg2 : Gl X "range") (hm2 : X.mg "range" = none) (ha : DU X O Z a fa) (hs1 : starEach [.Call (.Name "range" p2) [a] [] pos2] X.env = (false, eval (.Call (.Name "range" p2) [a] [] pos2) X.env) :: starEach [] X.env := by rfl)
    (na : starEach [a] X.env = (false, eval a X.env) :: starEach [] X.env := by rfl) :
    DN X O Z (.Call (.Name "list" p) [.Call (.Name "range" p2) [a] [] pos2] [] pos) (E.blt rgL1 (A.cons fa A.nil)) := PE.imp (pe_listRg hc hg hm (prg_1 hg2 hm2 ha na) hs1) fun σ H Q ⟨g, ok, q⟩ => by
  have q := Ev.bnd q
  refine ⟨g, ok, (Ev.bnd q).mono (fun d1 st1 q as1 v1 H1 g1 s1 r1 => ?_) fun _ _ z => z⟩
  obtain ⟨d, e, q⟩ := Ev.lift (o := rgL1 [d1]) (s := st1) q
  unfold rgL1 at e
  split at e
  · rename_i j h
    cases h
    split at e
    · rename_i h
      cases e
      have ok2 := ok.step g1 s1
      refine ⟨j, r1.t_int, ⟨by omega, by omega, by omega, by omega, by omega⟩, fun p np => ?_⟩
      refine q as1 _ _ (g1.trans (Grow.new np)) (s1.new np) (Own.newL np (reps_rg 0 j)) fun p' z => ?_
      cases z
      have na := not_as ok2 np
      exact ⟨fresh_back (K := X.K) (σ := σ) (st1 := st1) g1 np na, na⟩
    · cases e
  · cases e
theorem de_tupRange1 {p p2 pos2 : Pos} (hc : X.calm = true) (hg : Gl X "tuple") (hm : X.mg "tuple" = none) (hg2 : Gl X "range") (hm2 : X.mg "range" = none) (ha : DU X O Z a fa) (hs1 : starEach [.Call (.Name "range" p2) [a] [] pos2] X.env = (false, eval (.Call (.Name "range" p2) [a] [] pos2) X.env) :: starEach [] X.env := by rfl)
    (na : starEach [a] X.env = (false, eval a X.env) :: starEach [] X.env := by rfl) :
    DE X O Z (.Call (.Name "tuple" p) [.Call (.Name "range" p2) [a] [] pos2] [] pos) (E.blt rgT1 (A.cons fa A.nil)) := PE.imp (pe_tupRg hc hg hm (prg_1 hg2 hm2 ha na) hs1) fun σ H Q ⟨g, ok, q⟩ => by
  have q := Ev.bnd q
  refine ⟨g, ok, (Ev.bnd q).mono (fun d1 st1 q as1 v1 H1 g1 s1 r1 => ?_) fun _ _ z => z⟩
  obtain ⟨d, e, q⟩ := Ev.lift (o := rgT1 [d1]) (s := st1) q
  unfold rgT1 at e
  split at e
  · rename_i j h
    cases h
    split at e
    · rename_i h
      cases e
      refine ⟨j, r1.t_int, ⟨by omega, by omega, by omega, by omega, by omega⟩, fun p np => ?_⟩
      exact q as1 _ _ (g1.trans (Grow.new np)) (s1.new np) (.newT np (reps_rg 0 j))
    · cases e
  · cases e
theorem de_tupRange2 {p p2 pos2 : Pos} (hc : X.calm = true) (hg : Gl X "tuple") (hm : X.mg "tuple" = none) (hg2 : Gl X "range") (hm2 : X.mg "range" = none) (ha : DU X O Z a fa) (hb : DU X O Z b fb) (hs1 : starEach [.Call (.Name "range" p2) [a, b] [] pos2] X.env = (false, eval (.Call (.Name "range" p2) [a, b] [] pos2) X.env) :: starEach [] X.env := by rfl)
    (na : starEach [a, b] X.env = (false, eval a X.env) :: starEach [b] X.env := by rfl) (nb : starEach [b] X.env = (false, eval b X.env) :: starEach [] X.env := by rfl) (hp : (backTo pos2 (starEach [b] X.env)).any (·.1) = false := by rfl) :
    DE X O Z (.Call (.Name "tuple" p) [.Call (.Name "range" p2) [a, b] [] pos2] [] pos) (E.blt rgT2 (A.cons fa (A.cons fb A.nil))) := PE.imp (pe_tupRg hc hg hm (prg_2 hg2 hm2 ha hb na nb hp) hs1) fun σ H Q ⟨g, ok, q⟩ => by
  have q := Ev.bnd q
  refine ⟨g, ok, (Ev.bnd q).mono (fun d1 st1 q as1 v1 H1 g1 s1 r1 => ⟨g.at as1 st1, ok.step g1 s1, (Ev.bnd (Ev.bnd q)).mono (fun d2 st2 q as2 v2 H2 g2 s2 r2 => ?_) fun _ _ z => z⟩) fun _ _ z => z⟩
  obtain ⟨d, e, q⟩ := Ev.lift (o := rgT2 [d1, d2]) (s := st2) q
  unfold rgT2 at e
  split at e
  · rename_i i j h
    cases h
    split at e
    · rename_i h
      cases e
      refine ⟨i, j, r1.t_int, r2.t_int, ⟨by omega, by omega, by omega, by omega, by omega⟩, fun p np => ?_⟩
      exact q as2 _ _ ((g1.trans g2).trans (Grow.new np)) (s2.new np) (.newT np (reps_rg i j))
    · cases e
  · cases e
end
end G
end L2
end G54_
section G55_
set_option Elab.async false
set_option linter.all false
set_option maxRecDepth 100000
set_option maxHeartbeats 2000000
namespace L2
namespace G
open PySem PySem.Spec PyProof.Rows
/-! ### the end with tables of the text -/
theorem law_atT {l : PySem.W.OpenLaw} {w : World} {K : PySem.W.Frag} {k : Nat} {mg : Str → Option Value} {f : Addr} {h : Heap} {fd : FuncData} {fa : List He.Fa} {fn : List He.DefD} {ts : List He.Tab} {tf : List He.Defn} {ex : PySem.W.Frag → Bool} {φ : List D → M D}
    (X : K.In h) (c : He.SaysX fa fn ts tf ex w h K) (hnd : (tf.map fun p => (He.cT K p).2).Nodup) (htf : ∀ p ∈ tf, p.2 = none) (hb : ∀ (s : Shared) (u : Value), BindsTo s fd ⟨[u], []⟩ [("script", u)])
    (hl : ∀ ns : List Int, ns.length ≤ 63 → (∀ z ∈ ns, Builtin.Int.intBits z ≤ 1048576) → ∃ st', φ [.lst (ns.map .int)] (tf.map fun p => .tbl p.1) = .ok (.bl true) st')
    (hF : ∀ base : Heap, K.In base → base.Ns mainGlobals mg → (∀ p ∈ tf.map (He.cT K), LamX.TabB base mg p.1 p.2) → FnG l.prog w K mg base k f fd ["script"] (spD K 1 φ)) :
    LawG l w K k 63 "script" mg f h := by
  have inT : ∀ p ∈ tf.map (He.cT K), ∃ d ∈ tf, He.cT K d = p := fun p hp => List.mem_map.mp hp
  refine ⟨fd, tf.map (He.cT K), spD K 1 φ, fun p hp => ?_, fun p hp => ?_, fun p hp => ?_, hb, fun H a ns hn hbits hT hS => ?_, hF⟩
  · obtain ⟨d, hd, rfl⟩ := inT p hp; exact c.empty d hd
  · obtain ⟨d, hd, rfl⟩ := inT p hp; exact c.out d hd
  · obtain ⟨d, hd, rfl⟩ := inT p hp; exact PySem.W.codeHd_of_K X (c.hd d hd)
  · have hT' : ∀ d ∈ tf, H (He.cT K d).2 = some (.tbl #[]) := fun d hd => hT _ (List.mem_map.mpr ⟨d, hd, rfl⟩)
    have notTab : ∀ xs, Rd H a (.lst xs) → a ∉ tf.map fun p => (He.cT K p).2 := fun xs r z => by
      obtain ⟨d, hd, e⟩ := List.mem_map.mp z
      have e : (He.cT K d).2 = a := e
      have q := hT' d hd
      rw [e] at q
      rcases r with r | ⟨o, r⟩
      · rw [r] at q; cases q
      · rw [r] at q; cases q
    refine ⟨fun _ => False, tf.map fun p => (He.cT K p).2, tf.map fun p => .tbl p.1, [.lst (ns.map .int)], rfl, fun _ z => z.elim, ⟨hnd, by simp, fun i b cl hb hc => ?_⟩, .cons (.lst (xs := ns.map V.int) ?_ ?_) .nil, ?_⟩
    · rw [List.getElem?_map] at hb hc
      cases q : tf[i]? with
      | none => rw [q] at hb; cases hb
      | some d =>
        rw [q] at hb hc
        cases hb; cases hc
        have hd : d ∈ tf := List.mem_of_getElem? q
        have e : d = (d.1, none) := by rw [← htf d hd]
        refine ⟨by show (He.cT K d).2 = (He.cT K (d.1, none)).2; rw [← e], LamX.TabS.nil (hT' d hd)⟩
    · rcases hS with r | r
      · exact .inl ⟨fun z => z.elim id fun z => notTab _ r z, r⟩
      · exact .inr r
    · clear hS hn hbits
      induction ns with
      | nil => exact .nil
      | cons n ns ih => exact .cons (.int n) ih
    · obtain ⟨st', e⟩ := hl ns hn hbits
      rw [e]
      intro as' v H' _ _ r
      cases r
      rfl
/-- a world whose word on specials that raise is known -/
def setFt (w : World) (b : Bool) : World := { w with params := { w.params with followText := fun s => if s = "special-get-raises" then b else w.params.followText s } }
theorem setFt_eq (w : World) : setFt w (w.params.followText "special-get-raises") = w := by
  have e : (fun s => if s = "special-get-raises" then w.params.followText "special-get-raises" else w.params.followText s) = w.params.followText := by
    funext s
    by_cases h : s = "special-get-raises"
    · rw [if_pos h, h]
    · rw [if_neg h]
  unfold setFt
  rw [e]
theorem both_ft {p : World → Prop} (h : ∀ w b, p (setFt w b)) (w : World) : p w := by
  have := h w (w.params.followText "special-get-raises")
  rw [setFt_eq] at this
  exact this
end G
end L2
end G55_
section G56_
set_option Elab.async false
set_option linter.all false
set_option maxRecDepth 100000
set_option maxHeartbeats 2000000
namespace L2
namespace G
open PySem PySem.Spec PySem.Calls PyProof.Rows
/-! ### sorted(xs, key=f): the turns -/
theorem vals_snoc : ∀ {xs : List V} {us : List Value} {x : V} {u : Value}, Vals xs us → RelV x u → Vals (xs ++ [x]) (us ++ [u])
  | _, _, _, _, .nil, h => .cons h .nil
  | _, _, _, _, .cons a b, h => .cons a (vals_snoc b h)
theorem each_dp {X : Cx} {pins : List (Addr × Obj)} {σ : L2.St} {H : Hp} {s : Shared} (I : Inv X pins σ H s) : ∀ {ys : List V} {us : List Value} {kz : List PyData}, DpAll X.K H ys kz → Vals ys us → PySem.W.EachIs (fun v k => ∃ as, Reads s.heap v k as) us kz
  | [], _, _, d, r => by cases r; cases d; exact .nil
  | y :: ys, _, _, d, r => by
    cases r with
    | cons h t =>
      cases d with
      | cons d1 d2 => exact .cons (Dp.reads I _ _ _ d1 h) (each_dp I d2 t)
theorem each_zip : ∀ {xs : List V} {us : List Value} {kz : List PyData}, Vals xs us → xs.length = kz.length → PySem.W.EachIs (fun v (b : V × PyData) => RelV b.1 v) us (xs.zip kz)
  | _, _, [], .nil, _ => .nil
  | _, _, _ :: _, .nil, h => by simp at h
  | _, _, [], .cons _ _, h => by simp at h
  | _, _, _ :: _, .cons a b, h => .cons a (each_zip b (by simpa using h))
theorem vals_each2 : ∀ {bs : List (V × PyData)} {its : List Value}, PySem.W.EachIs (fun v (b : V × PyData) => RelV b.1 v) its bs → Vals (bs.map (·.1)) its
  | [], _, r => by cases r; exact .nil
  | b :: bs, _, r => by cases r with | cons h t => exact .cons h (vals_each2 t)
theorem zip_snd : ∀ {xs : List V} {kz : List PyData}, xs.length = kz.length → (xs.zip kz).map (·.2) = kz
  | [], [], _ => rfl
  | [], _ :: _, h => by simp at h
  | _ :: _, [], h => by simp at h
  | x :: xs, k :: kz, h => by rw [List.zip_cons_cons, List.map_cons, zip_snd (xs := xs) (kz := kz) (by simpa using h)]
section
variable {X : Cx} {pins : List (Addr × Obj)} {σ : L2.St}
/-- how the items stand at last -/
def byKey (xs : List V) (kz : List PyData) : List V := ((xs.zip kz).mergeSort (PySem.W.dataLe false fun b => b.2)).map (·.1)
theorem sort_key {l fq : Addr} {fo : Obj} {xs : List V} {H : Hp} {s : Shared} {Q : VK} (kz : List PyData) (Pv : Nat → List V → Hp → Prop) (I : Inv X pins σ H s) (pv : Pv 0 [] H) (hl : SqL X.K H l xs) (hlen : xs.length = kz.length)
    (hpf : (fq, fo) ∈ pins)
    (hdp : ∀ ys H, Pv xs.length ys H → DpAll X.K H ys kz) (hal : PySem.W.AllAlike kz) (hsk : PySem.W.Sortable kz) (hu : ∀ d, d ∈ kz → X.A.units + 2 + d.depth < cLine)
    (turn : ∀ (j : Nat) (x : V) (u : Value) (ys : List V) (H : Hp) (s : Shared) (more : List (Addr × Obj)), xs[j]? = some x → Pv j ys H → Inv X (more ++ pins) σ H s → RelV x u →
      wpAny (model X.prog X.w) X.A.in1.in1 (call (.ref fq) [u]) (EP X (more ++ pins) σ fun y H' => Pv (j + 1) (ys ++ [y]) H') (fun _ _ => False) s)
    (hQ : ∀ ys H' p, Pv xs.length ys H' → H' p = none → Q (.ref p) (upd H' p (.lst (byKey xs kz)))) :
    wpAny (model X.prog X.w) X.A (call (.builtin "sorted") [.ref l] [(Str.ofString "key", .ref fq)]) (EP X pins σ Q) X.xe s := by
  obtain ⟨its, rvs, plain, hz⟩ := I.list hl
  have ln : xs.length = its.length := rvs.length
  have hZ : its.length ≤ sizeLine := by rw [← ln]; exact hz
  refine PySem.W.sorted_of_sort (vs := its) plain.isList hZ rfl (fun x => rfl) fun E' => ?_
  rw [ksk_t1]
  let a : Addr := s.heap.objs.size + 1
  have ho := PySem.W.copyHeap_at s.heap its
  have ha : a < (PySem.W.copyHeap s.heap its).objs.size := Heap.lt_size ho
  obtain ⟨e1, ho1⟩ : ∃ e1, ((PySem.W.copyHeap s.heap its).update a (Obj.mapSeq fun _ => (#[] : Array Value))).get? a = some (seqObj "list" #[] e1) := ⟨_, get?_update_seq ho fun _ => #[]⟩
  have hkS : (((PySem.W.copyHeap s.heap its).update a (Obj.mapSeq fun _ => (#[] : Array Value))).push (seqObj "tuple" its.toArray 0)).objs.size = (PySem.W.copyHeap s.heap its).objs.size + 1 := by rw [size_push', Heap.size_update]
  unfold ksk_tree
  refine wpAny_bind (listItems_at ho rfl ?_)
  refine wpAny_bind (listUpdate_at ho rfl ?_ (by rw [List.size_toArray]; exact hZ) (Nat.zero_le _))
  refine wpAny_bind (seqEpoch_at ho1 rfl ?_)
  refine wpAny_bind (wpAny_newTuple ?_ (by show its.length ≤ _; exact hZ))
  refine wpAny_bind (wpAny_newList ?_ (Nat.zero_le _))
  refine wpAny_holding ?_
  let kS : Addr := (((PySem.W.copyHeap s.heap its).update a (Obj.mapSeq fun _ => (#[] : Array Value))).push (seqObj "tuple" its.toArray 0)).objs.size
  let h2 : Heap := (((PySem.W.copyHeap s.heap its).update a (Obj.mapSeq fun _ => (#[] : Array Value))).push (seqObj "tuple" its.toArray 0)).push (seqObj "list" #[] 0)
  have old : ∀ b o, s.heap.get? b = some o → h2.get? b = some o := fun b o q =>
    PySem.W.sortingHeap_old (h := PySem.W.copyHeap s.heap its) (a := a) (vs := its) (Nat.ne_of_lt (Nat.lt_succ_of_lt (Heap.lt_size q))) (PySem.W.copyHeap_old q)
  have hka : kS ≠ a := by show (((PySem.W.copyHeap s.heap its).update a _).push _).objs.size ≠ a; rw [hkS]; exact Nat.ne_of_gt (Nat.lt_succ_of_lt ha)
  have I2 : Inv X pins σ H { s with heap := h2 } := I.kept old
  have le1 : s.heap.objs.size ≤ a := Nat.le_succ _
  have le2 : s.heap.objs.size ≤ kS := by show _ ≤ (((PySem.W.copyHeap s.heap its).update a _).push _).objs.size; rw [hkS]; exact Nat.le_succ_of_le (Nat.le_trans le1 (Nat.le_of_lt ha))
  have fa : FpOk X pins H a := I.fpOk le1 (I.hok.fresh le1)
  have fk : FpOk X pins H kS := I.fpOk le2 (I.hok.fresh le2)
  have nk : h2.get? kS = some (seqObj "list" #[] 0) := Heap.get?_push_size _ rfl
  have na : h2.get? a = some (seqObj "list" #[] e1) := Heap.get?_push_of_some _ (Heap.get?_push_of_some _ ho1)
  show wpAny (model X.prog X.w) X.A.in1.in1 (ksk_rest a (.ref fq) false its.toArray e1 (.ref kS)) _ _ { s with heap := h2 }
  unfold ksk_rest
  refine wpAny_bind (wpAny_rule ?_)
  first
    | rw [List.forIn_toArray]
    | (rw [← Array.forIn_toList]; simp only [List.toList_toArray])
    | rw [← Array.forIn_toList]
  refine wpAny_bind (ksk_fold (fun i s' => ∃ H' kA e ys, Inv X pins σ H' s' ∧ Pv i ys H' ∧ FpOk X pins H' kS ∧ FpOk X pins H' a ∧ s'.heap.get? kS = some (seqObj "list" kA e) ∧ s'.heap.get? a = some (seqObj "list" #[] e1) ∧ Vals ys kA.toList ∧ ys.length = i) its 0 { s with heap := h2 }
    ⟨H, #[], 0, [], I2, pv, fk, fa, nk, na, .nil, rfl⟩ ?step ?done)
  case step =>
    rintro j u s' hu' ⟨H', kA, e, ys, I', pv', fk', fa', nk', na', hv, hy⟩
    simp only [Nat.zero_add] at pv' hy ⊢
    have hj : j < its.length := (List.getElem?_eq_some_iff.mp hu').1
    obtain ⟨x, hx, rx⟩ : ∃ x, xs[j]? = some x ∧ RelV x u := by
      have hx : xs[j]? = some xs[j] := List.getElem?_eq_getElem (by omega)
      obtain ⟨u', hu2, r'⟩ := rvs.get hx
      rw [hu'] at hu2; cases hu2
      exact ⟨_, hx, r'⟩
    have I3 := Inv.two I' fk' fa' nk' na' (fun v z => by cases z) (fun v z => by cases z)
    refine wpAny_bind (wpAny_attempt (wpAny_mono (turn j x u ys H' s' [(kS, _), (a, _)] hx pv' I3 rx) (fun v s2 he => ?_) fun _ _ hF => hF.elim))
    obtain ⟨y, H2, I4, ry, pv2⟩ := he
    obtain ⟨I5, ⟨gk2, nk2⟩, ga2, na2⟩ := Inv.untwo I4
    try dsimp only
    have fk2 : FpOk X pins H2 kS := FpOk.heap fk' nk2
    have fa2 : FpOk X pins H2 a := FpOk.heap fa' na2
    have s1 := Heap.SameBut.update s2.heap kS (Obj.mapSeq (·.push v))
    obtain ⟨c2, hc2⟩ : ∃ c2, (s2.heap.update kS (Obj.mapSeq (·.push v))).get? kS = some (seqObj "list" (kA.push v) c2) := ⟨_, get?_update_seq gk2 (·.push v)⟩
    have hz2 : kA.size ≤ its.length := by
      have h1 : ys.length = kA.toList.length := Vals.length hv
      have h0 : kA.toList.length = kA.size := Array.length_toList
      omega
    refine wpAny_bind (listUpdate_at gk2 rfl ?_ (Nat.le_trans hz2 hZ) (Nat.le_trans (Nat.le_of_eq (Array.size_push ..)) (Nat.succ_le_succ (Nat.le_trans hz2 hZ))))
    refine wpAny_pure ⟨rfl, H2, kA.push v, c2, ys ++ [y], Inv.turn I5 fk2 fun b o hb q => (s1.2 b hb).trans q, pv2, fk2, fa2, hc2, (s1.2 a hka.symm).trans ga2, ?_, by rw [List.length_append, List.length_singleton, hy]⟩
    rw [show (kA.push v).toList = kA.toList ++ [v] by simp]
    exact vals_snoc hv ry
  case done =>
    rintro s' ⟨H', kA, e, ys, I', pv', fk', fa', nk', na', hv, hy⟩
    simp only [Nat.zero_add] at pv' hy
    rw [← ln] at pv'
    have hk := each_dp I' (hdp ys H' pv') hv
    have hsz : kA.size = its.length := by
      have h1 : ys.length = kA.toList.length := Vals.length hv
      have h0 : kA.toList.length = kA.size := Array.length_toList
      omega
    try dsimp only
    refine wpAny_bind (listItems_at nk' rfl ?_)
    refine PySem.W.keyH_end (κ := PySem.W.dataKind s'.heap kz) (h₁ := PySem.W.hideAll s'.heap [kS]) (fun b o hb q => PySem.W.of_hideAll _ q) (PySem.W.hideAll_none _ (.head _)) nk' na' hka (PySem.W.SortsAt.data (s := s') hk hal hsk fun d hd => hu d hd) hsz hZ fun h3 tk3 c k3 n3 => ⟨rfl, ?_⟩
    have ko : PySem.W.KeyedOut false ((xs.zip kz).map (·.2)) its (PySem.W.sortVals (PySem.W.dataKind s'.heap kz) false kA.toList its) := by
      rw [zip_snd hlen]
      exact ⟨s'.heap, kA.toList, hal, rfl, hk⟩
    have eo := PySem.W.keyedOut_each (·.2) ko (each_zip rvs hlen)
    have vo := vals_each2 eo
    have I6 : Inv X pins σ H' { s' with heap := h3, toks := tk3 } := I'.turnedL (ch := [kS, a]) (fun b o hb q => k3 b o (fun z => hb (by simp [z])) (PySem.W.hideAll_get _ q fun z => hb (by simp at z; simp [z]))) fun b hb => by
      simp only [List.mem_cons, List.not_mem_nil, or_false] at hb
      rcases hb with rfl | rfl
      · exact fk'
      · exact fa'
    refine ⟨.ref a, upd H' a (.lst (byKey xs kz)), I6.take (t' := tk3) (h' := h3) (fun b o _ q => q) fa' ⟨?_, _, c, vo, n3⟩, rfl, hQ ys H' a pv' fa'.1⟩
    show (byKey xs kz).length ≤ sizeLine
    unfold byKey
    rw [List.length_map, List.length_mergeSort, List.length_zip]
    omega
end
end G
end L2
end G56_
section G57_
set_option Elab.async false
set_option linter.all false
set_option maxRecDepth 100000
set_option maxHeartbeats 2000000
namespace L2
namespace G
open PySem PySem.Spec PyProof.Rows
/-! ### sorted(e, key=lambda a: b) -/
def keysD (ρ : Env) (i : Nat) (g : Env → M D) : List D → M (List D)
  | [] => ret []
  | d :: ds => bnd (g (List.set ρ i (some d))) fun k => bnd (keysD ρ i g ds) fun ks => ret (k :: ks)
/-- keys that compare: rows of ints, not empty -/
def rowK : D → Bool
  | .tup (x :: xs) => (x :: xs).all (D.is .i)
  | _ => false
def sortBy (ks ds : List D) : List D := ((ds.zip ks).mergeSort fun a b => leD' a.2 b.2).map (·.1)
def E.sortKey (x : Str) (i : Nat) (f g : Env → M D) : Env → M D := fun ρ => bnd (f ρ) fun d => match d with
  | .lst ds => fun st => if hasTab x st = true then bnd (noexc (keysD ρ i g ds)) (fun ks => if (ks.all rowK && D.okds 59 ks) = true then ret (.lst (sortBy ks ds)) else bad) st else .bad
  | _ => bad
theorem keysD_len {ρ : Env} {i : Nat} {g : Env → M D} : ∀ (ds : List D) (st : Store) (ks : List D) (st' : Store), keysD ρ i g ds st = .ok ks st' → ks.length = ds.length
  | [], st, ks, st', h => by cases h; rfl
  | d :: ds, st, ks, st', h => by
    unfold keysD bnd at h
    cases e1 : g (List.set ρ i (some d)) st with
    | ok k s1 =>
      rw [e1] at h
      dsimp only at h
      cases e2 : keysD ρ i g ds s1 with
      | ok ks2 s2 =>
        rw [e2] at h
        have h : Res.ok (k :: ks2) s2 = Res.ok ks st' := h
        injection h with h1 h2
        subst h1
        rw [List.length_cons, List.length_cons, keysD_len ds s1 ks2 s2 e2]
      | exc _ _ => rw [e2] at h; cases h
      | bad => rw [e2] at h; cases h
    | exc _ _ => rw [e1] at h; cases h
    | bad => rw [e1] at h; cases h
theorem row_py {k : D} (h : rowK k = true) : D.is (.t .i) k = true ∧ ∃ x r, k.py = .tuple (x :: r) := by
  cases k with
  | tup xs =>
    cases xs with
    | nil => cases h
    | cons x xs => exact ⟨by simpa [D.is, rowK] using h, x.py, D.pys xs, by simp [D.py, D.pys]⟩
  | _ => cases h
theorem rows_alike {ks : List D} (h : ks.all rowK = true) : PySem.W.AllAlike (ks.map D.py) ∧ PySem.W.Sortable (ks.map D.py) := by
  rw [List.all_eq_true] at h
  refine ⟨fun d hd d' hd' => ?_, .inl fun d hd => ?_⟩
  · obtain ⟨x, hx, rfl⟩ := List.mem_map.mp hd
    obtain ⟨y, hy, rfl⟩ := List.mem_map.mp hd'
    exact is_alike (row_py (h x hx)).1 (row_py (h y hy)).1
  · obtain ⟨x, hx, rfl⟩ := List.mem_map.mp hd
    exact (row_py (h x hx)).2
theorem reps_by {K : PySem.W.Frag} {F : Addr → Prop} {as : List Addr} {H : Hp} {xs : List V} {ds ks : List D} (r : Reps K F as H xs ds) (hk : ks.length = ds.length) : Reps K F as H (byKey xs (ks.map D.py)) (sortBy ks ds) := by
  have lx : xs.length = ds.length := r.length
  obtain ⟨e1, e2, e3⟩ := r.zip
  let bs : List ((V × D) × D) := (xs.zip ds).zip ks
  have z1 : xs.zip (ks.map D.py) = bs.map fun b => (b.1.1, b.2.py) := by
    apply List.ext_getElem
    · simp [bs, lx, hk]
    · intro i h1 h2
      simp [bs]
  have z2 : ds.zip ks = bs.map fun b => (b.1.2, b.2) := by
    apply List.ext_getElem
    · simp [bs, lx, hk]
    · intro i h1 h2
      simp [bs]
  have m1 : (bs.mergeSort fun a b => leD' a.2 b.2).map (fun b => (b.1.1, b.2.py)) = (bs.map fun b => (b.1.1, b.2.py)).mergeSort (PySem.W.dataLe false fun b => b.2) := List.map_mergeSort fun _ _ _ _ => rfl
  have m2 : (bs.mergeSort fun a b => leD' a.2 b.2).map (fun b => (b.1.2, b.2)) = (bs.map fun b => (b.1.2, b.2)).mergeSort fun a b => leD' a.2 b.2 := List.map_mergeSort fun _ _ _ _ => rfl
  have s1 : byKey xs (ks.map D.py) = ((bs.mergeSort fun a b => leD' a.2 b.2).map (·.1)).map (·.1) := by
    unfold byKey
    rw [z1, ← m1, List.map_map, List.map_map]; rfl
  have s2 : sortBy ks ds = ((bs.mergeSort fun a b => leD' a.2 b.2).map (·.1)).map (·.2) := by
    unfold sortBy
    rw [z2, ← m2, List.map_map, List.map_map]; rfl
  rw [s1, s2]
  refine reps_of fun b hb => ?_
  obtain ⟨c, hc, rfl⟩ := List.mem_map.mp hb
  have := List.mem_mergeSort.mp hc
  exact e3 c.1 (List.of_mem_zip this).1
theorem pysD_map (ds : List D) : D.pys ds = ds.map D.py := by
  induction ds with
  | nil => simp [D.pys]
  | cons d ds ih => simp [D.pys, ih]
section
variable {X : Cx} {pins : List (Addr × Obj)} {σ : L2.St} {H : Hp} {s : Shared} {scope : Scope} {a : Str}
/-- the lambda is called, from list.sort within sorted -/
theorem lam_call2 {f c' : Addr} {pm ctv : Value} {params : Arguments} {body : Expr} {k i : Nat} {q : Str} {tb : TE} {v : V} {u : Value} {Q : VK} (I : Inv X pins σ H s) (hq : X.env.qual ++ "<lambda>" = q) (L : LamS1 X.env.scope scope a)
    (hf : s.heap.get? f = some (PySem.W.kla_obj "<lambda>" q params body scope (cloFrom X.env.cells scope.names []) pm c' ctv)) (hc : H c' = some (LamX.CodeO c' q))
    (hbind : ∀ u, bindArgs (PySem.W.kla_fn "<lambda>" q params body scope (cloFrom X.env.cells scope.names []) pm (.ref c') ctv) ⟨[u], []⟩ = pure [(a, u)])
    (hr : Rm (k + 3) X.A) (hN : X.N.Nodup) (hi : X.N[i]? = some a) (rv : RelV v u)
    (hbody : ∀ (A : Around) (outer : List PySem.Env) (s : Shared) (H : Hp), Rm k (A.deeper (LamX.lamEnv X scope s.heap.objs.size f c')) → PE (LamX.lamCx X A outer s H C8.E0 scope f c').nox body tb) (ht : tb (σ.set i (some v)) H Q) :
    wpAny (model X.prog X.w) X.A.in1.in1 (call (.ref f) [u]) (EP X pins σ Q) (fun _ _ => False) s := by
  subst hq
  have hr1 : Rm (k + 1) X.A.in1.in1 := hr.in1.in1
  obtain ⟨⟨oc, vs, t, hoc, hdc, hvc⟩, _, _⟩ := I.hok c' _ hc
  have e0 : Env0 X.prog X.w X.K X.mg X.base X.A.in1.in1 X.stack s H := by
    have e := I.env0
    exact ⟨e.frames, e.mod, e.bs, e.bsz, e.funs, e.frf, e.hok, e.bare⟩
  have rc : codeAny (model X.prog X.w) X.A.in1.in1 (.call (.ref f) ⟨[u], []⟩) (CR C8.CX0 X.stack X.prog X.w H s Q C8.E0) s := by
    refine PySem.W.kla_callFunE hr1.rm.depth hf rfl L.co L.gen rfl ⟨c', oc, vs, t, rfl, hoc, hdc, hvc⟩ ?_
    rw [hbind]
    refine wpAny_pure (wpAny_newFunctionEnv (fun y hy => (L.own y hy).2) (fun y hy => ?_) (fun h₁ hns hsb => ⟨I.nolimit.fresh _ hsb, ?_⟩) L.kind)
    · rw [List.mem_singleton.mp hy]; exact L.par
    show codeAny _ _ (.expr body (LamX.lamEnv X scope s.heap.objs.size f c')) _ _
    have kp : ∀ b o, s.heap.get? b = some o → h₁.get? b = some o := fun b o e => hsb.extBut b o (Nat.ne_of_lt (Heap.lt_size e)) (Heap.get?_push_of_some _ e)
    have J : Inv (LamX.lamCx X X.A.in1.in1 X.stack s H C8.E0 scope f c').nox [] (σ.set i (some v)) H { s with heap := h₁, toks := s.toks + [(a, u)].length } :=
      (lam_start1 (E := C8.E0) (f := f) (c' := c') (tk := s.toks + [(a, u)].length) I L e0 hr1.rm.hd hns kp hN hi rv).wish _
    refine PySem.W.kla_codeExpr (wpAny_mono ((hbody _ _ s H (hr1.deeper _)).run [] _ _ H Q J ht) (fun v s' hq => ?_) fun e s' hq => (show False from hq).elim)
    obtain ⟨w', H', J', rv, q⟩ := hq
    exact ⟨w', H', J'.os, J'.bare, J'.base, J'.hok, rv, q⟩
  refine wpAny_call (codeAny_mono rc fun r s' hq => ?_)
  cases r with
  | error e => exact (show False from hq).elim
  | ok fl =>
    cases fl with
    | ret u => exact I.after hq
    | _ => exact False.elim hq
end
section
variable {X : Cx} {O : List Nat} {Z : ZT} {e : Expr} {f g : Env → M D} {p pos lpos kpos : Pos}
theorem dn_sortKey {x a : Str} (i : Nat) {k : Nat} {params : Arguments} {body : Expr} {scope : Scope} (hqual : X.env.qual = x ++ (".<locals>." : Str)) (hcode : X.env.code = .ref (He.cT X.K (x, none)).1)
    (TB : LamX.TabB X.base X.mg (He.cT X.K (x, none)).1 (He.cT X.K (x, none)).2) (hg : Gl X "sorted") (hm : X.mg "sorted" = none) (hO : i ∉ O) (hi : X.N[i]? = some a) (hN : X.N.Nodup) (hu : X.A.units + 65 < cLine)
    (L : LamS1 X.env.scope scope a) (hdef : defaultsOf params X.env = ([], []))
    (hbind : ∀ (q : Str) (cl : List (Str × Addr)) (pm cv ctv : Value) (u : Value), bindArgs (PySem.W.kla_fn "<lambda>" q params body scope cl pm cv ctv) ⟨[u], []⟩ = pure [(a, u)])
    (hr : Rm (k + 3) X.A) (he : DU X O Z e f)
    (hbody : ∀ (A : Around) (outer : List PySem.Env) (s : Shared) (H : Hp) (fa c' : Addr), Rm k (A.deeper (LamX.lamEnv X scope s.heap.objs.size fa c')) → DE (LamX.lamCx X A outer s H C8.E0 scope fa c').nox O Z0 body g)
    (hs : starEach [e] X.env = (false, eval e X.env) :: starEach [] X.env := by rfl) :
    DN X O Z (.Call (.Name "sorted" p) [e] [⟨some "key", .Lambda params body scope lpos, kpos⟩] pos) (E.sortKey x i f g) := by
  refine ⟨fun pins s σ H Q I ⟨gh, ok, q⟩ => ?_⟩
  refine wpAny_Call_Name_kw (ld_blt I hg hm (by rfl) ?_)
  refine PyProof.Rows.callWith_kw ?_ (by rw [hs]; rfl) (by rw [hs]; rfl) rfl rfl
  have hargs : PA X [e] (tCons (tU X.K O Z f) tNil) := pa_cons he pa_nil hs
  refine thn (hargs.run pos pins s σ H (fun vs H' => ∃ d st' as' v, vs = [v] ∧ Grow gh.as H as' H' ∧ SRep X.K as' st' H' ∧ RepT X.K (Ff gh.B as' O σ) as' H' v d ∧ Ev ((match d with
    | .lst ds => fun st => if hasTab x st = true then bnd (noexc (keysD gh.ρ i g ds)) (fun ks => if (ks.all rowK && D.okds 59 ks) = true then ret (.lst (sortBy ks ds)) else bad) st else .bad
    | _ => bad : M D) st') (fun d st' => ∀ as' v H', Grow gh.as H as' H' → SRep X.K as' st' H' → Own X.K (fun a => Ff gh.B as' O σ a ∨ v = .ref a) as' H' v d → (∀ p, v = .ref p → H p = none ∧ p ∉ as') → Q v H') (Zc X.K O gh.B gh.H0 gh.as0 Z)) I
    ⟨gh, ok, (Ev.bnd q).mono (fun d st' q as' v H' gr s r => ⟨d, st', as', v, rfl, gr, s, r, q⟩) fun _ _ z => z⟩) fun us s1 ⟨vs, H1, I1, r1, q1⟩ => ?_
  obtain ⟨d, st1, as1, v, rfl, gr1, sr1, rv, q⟩ := q1
  cases d with
  | lst ds =>
    dsimp only at q
    by_cases hc : hasTab x st1 = true
    · rw [if_pos hc] at q
      obtain ⟨n, hn, hst, hT⟩ := sr1.tab hc
      show wpAny _ _ (evalAll [do let v ← eval (.Lambda params body scope lpos) X.env; standAt pos; pure v]) _ _ s1
      have hq' : X.env.qual ++ ("<lambda>" : Str) = x ++ (".<locals>." : Str) ++ ("<lambda>" : Str) := by rw [hqual]
      refine wpAny_evalAll_cons (wpAny_bind (lam_make3 I1 TB hcode hq' hT hdef (L.has I1.ok) fun fq c' pm ctv H2 s2 I2 md hT2 hf hfn hfr hsz => wpAny_bind (wpAny_standAt (wpAny_pure (wpAny_evalAll_nil ?_)))))
      obtain ⟨sr2, gr2⟩ := sr1.made hn hst md hT2
      have rv2 := rv.grow sr1 gr2
      obtain ⟨l, xs, rfl, rxs, sq⟩ := rv2.lst_at sr2
      have eu : us = [.ref l] := by
        cases r1 with
        | cons r1 rest => cases rest; cases r1; rfl
      subst eu
      let fo : Obj := PySem.W.kla_obj "<lambda>" (x ++ (".<locals>." : Str) ++ ("<lambda>" : Str)) params body scope (cloFrom X.env.cells scope.names []) pm c' ctv
      have fp : FpOk X pins H2 fq := I1.fpOk hsz hfn
      have I3 : Inv X ((fq, fo) :: pins) σ H2 s2 := I2.pins_of fun p hp => by
        rcases List.mem_cons.mp hp with rfl | hp
        · exact ⟨hf, hfn, fp.2.1, fp.2.2.1, fun v z => by cases z⟩
        · exact I2.pin p (List.mem_append_right _ hp)
      show wpAny _ _ (call (.builtin "sorted") [.ref l] [(Str.ofString "key", .ref fq)]) _ _ s2
      have q := Ev.bnd q
      unfold noexc at q
      cases ek : keysD gh.ρ i g ds st1 with
      | ok ks stF =>
        rw [ek] at q
        dsimp only at q
        by_cases hk : (ks.all rowK && D.okds 59 ks) = true
        · have q : Ev ((if (ks.all rowK && D.okds 59 ks) = true then ret (.lst (sortBy ks ds)) else bad : M D) stF) _ _ := q
          rw [if_pos hk] at q
          rw [Bool.and_eq_true] at hk
          have lk := keysD_len ds st1 ks stF ek
          have lx : xs.length = ds.length := rxs.length
          obtain ⟨al, so⟩ := rows_alike hk.1
          let Pv : Nat → List V → Hp → Prop := fun j ys H => ∃ as' st', Grow as1 H2 as' H ∧ SRep X.K as' st' H ∧ keysD gh.ρ i g (ds.drop j) st' = .ok (ks.drop j) stF ∧ H c' = some (LamX.CodeO c' (x ++ (".<locals>." : Str) ++ ("<lambda>" : Str))) ∧ Reps X.K (Ff gh.B as' O σ) as' H ys (ks.take j)
          refine wpAny_mono (sort_key (fo := fo) (l := l) (fq := fq) (xs := xs) (Q := Q) (ks.map D.py) Pv I3 ⟨as1, st1, Grow.refl _ _, sr2, ek, md.code, by rw [List.take_zero]; exact .nil⟩ (sq as1 H2 (Grow.refl _ _)) (by rw [List.length_map]; omega) (.head _) ?_ al so ?_ ?_ ?_) (fun v s' h => ?_) fun _ _ z => z
          · intro ys H ⟨as', st', g', s', _, _, rr⟩
            rw [List.take_of_length_le (by omega)] at rr
            rw [← pysD_map]
            exact rr.dp hk.2
          · intro d hd
            obtain ⟨y, hy, rfl⟩ := List.mem_map.mp hd
            have := (D.okd_lay (okds_mem hk.2 y hy)).2
            omega
          · intro j y u ys H s more hy ⟨as', st', g', s', ek', hcode', rr⟩ I ry
            have hj : j < ds.length := by rw [← lx]; exact (List.getElem?_eq_some_iff.mp hy).1
            have hfm : s.heap.get? fq = some fo := (I.pin (fq, fo) (List.mem_append_right _ (List.mem_append_right _ (.head _)))).1
            have ok2 := ((ok.step gr1 sr1).step gr2 sr2).step g' s'
            obtain ⟨d, hd, rd⟩ := (rxs.grow sr2 g').get hy
            refine lam_call2 (i := i) (v := y) (tb := tE X.K O Z0 g) I hq' L hfm hcode' (hbind _ _ _ _ _) hr hN hi ry (fun A outer s H hr' => hbody A outer s H fq c' hr') ?_
            refine ⟨⟨gh.B, gh.H0, gh.as0, as', List.set gh.ρ i (some d), st'⟩, ⟨ok2.wf.set hO rd, s'⟩, ?_⟩
            rw [List.drop_eq_getElem_cons hj] at ek'
            have ed : ds[j] = d := by rw [List.getElem?_eq_getElem hj] at hd; exact Option.some.inj hd
            rw [ed] at ek'
            have hjk : j < ks.length := by rw [lk]; exact hj
            rw [List.drop_eq_getElem_cons hjk] at ek'
            unfold keysD bnd at ek'
            cases e1 : g (List.set gh.ρ i (some d)) st' with
            | ok kk s1' =>
              rw [e1] at ek'
              dsimp only at ek'
              cases e2 : keysD gh.ρ i g (ds.drop (j + 1)) s1' with
              | ok ks2 s2' =>
                rw [e2] at ek'
                have ek' : Res.ok (kk :: ks2) s2' = Res.ok (ks[j] :: ks.drop (j + 1)) stF := ek'
                injection ek' with e3 e4
                injection e3 with e5 e6
                subst e4
                intro as2 w H' g2 s2 rw'
                rw [ff_set hO] at rw'
                refine ⟨as2, s1', g'.trans g2, s2, by rw [e2, e6], g2.keep _ _ hcode' fun z => ?_, ?_⟩
                · obtain ⟨o, ho, nt⟩ := s'.mem z
                  rw [hcode'] at ho; cases ho
                  exact nt trivial
                · have et : ks.take (j + 1) = ks.take j ++ [kk] := by rw [List.take_add_one, List.getElem?_eq_getElem hjk, e5]; rfl
                  rw [et]
                  exact (rr.grow s' g2).append (.cons rw' .nil)
              | exc _ _ => rw [e2] at ek'; cases ek'
              | bad => rw [e2] at ek'; cases ek'
            | exc _ _ => rw [e1] at ek'; cases ek'
            | bad => rw [e1] at ek'; cases ek'
          · intro ys H' pp ⟨as', st', g', s', ek', _, _⟩ np
            have e1 : ds.drop xs.length = [] := List.drop_eq_nil_of_le (by omega)
            have e2 : ks.drop xs.length = [] := List.drop_eq_nil_of_le (by omega)
            rw [e1, e2] at ek'
            cases ek'
            have rr := reps_by (rxs.grow sr2 g') lk
            have ok2 := ((ok.step gr1 sr1).step gr2 sr2).step g' s'
            have gg := (gr1.trans gr2).trans g'
            refine q as' _ _ (gg.trans (Grow.new np)) (s'.new np) (Own.newL np rr) fun p' z => ?_
            cases z
            have na := not_as ok2 np
            exact ⟨fresh_back (K := X.K) (σ := σ) (st1 := stF) gg np na, na⟩
          · obtain ⟨w, H', I', rw', qw⟩ := h
            exact ⟨w, H', I'.pins_of fun p hp => I'.pin p (List.mem_append_right _ (.tail _ hp)), rw', qw⟩
        · have q : Ev ((if (ks.all rowK && D.okds 59 ks) = true then ret (.lst (sortBy ks ds)) else bad : M D) stF) _ _ := q
          rw [if_neg hk] at q
          exact q.elim
      | exc _ _ => rw [ek] at q; exact q.elim
      | bad => rw [ek] at q; exact q.elim
    · rw [if_neg hc] at q; exact q.elim
  | _ => exact q.elim
end
end G
end L2
end G57_
section G58_
set_option Elab.async false
set_option linter.all false
set_option maxRecDepth 100000
set_option maxHeartbeats 2000000
namespace L2
namespace G
open PySem PySem.Spec PyProof.Rows
section
variable {X : Cx} {O : List Nat} {Z : ZT} {a b e tg : Expr} {fa fb f : Env → M D} {t : D → Env → Option Env} {vs : List Nat} {pos px py pt pt2 : Pos} {kt k2 : Nat}
/-! ### x, y = l.pop() -/
theorem ds_popT (i : Nat) {x : Str} {p apos cpos : Pos} (hO : i ∈ O) (hx : X.N[i]? = some x) (hv : Vis X.env.scope x) (hg : DG X O vs tg t)
    (hs : swapsWithSole [tg] (.Call (.Attribute (.Name x p) "pop" apos) [] [] cpos) pos.line X.env = pure false := by rfl) (hw : swappedStores [tg] (.Call (.Attribute (.Name x p) "pop" apos) [] [] cpos) X.env = pure none := by rfl)
    (h1 : (assignEach [tg] X.env).map (·.2) = [assign tg X.env] := by rfl)
    (hd : (x == ("__debug__" : Str)) = false := by decide) (hcd : (x == ("__classdict__" : Str)) = false := by decide)
    (hbase : attributeBase (.Name x p) "pop" X.env (eval (.Name x p) X.env) = eval (.Name x p) X.env := by rfl) (hline : (apos.endLine == cpos.line) = true := by rfl) :
    DS X O Z (.Assign [tg] (.Call (.Attribute (.Name x p) "pop" apos) [] [] cpos) pos) (S.popG i t) := by
  refine PS.imp (ps_asg (pe_bm0 PySem.F.plainAttrs_list PySem.F.slot_list_pop PySem.F.type_list_pop mt_pop (pe_var (i := i) hx hv hd hcd) hbase hline) hg hs hw h1) fun D σ H ⟨g, ok, q⟩ => ?_
  unfold S.popG at q
  obtain ⟨ds, er, q⟩ := slot_lst q
  obtain ⟨p, vs, hσ, hp, rs⟩ := ok.wf.lst_at hO er
  cases hd : ds[ds.length - 1]? with
  | none => rw [hd] at q; exact q.elim
  | some d =>
    rw [hd] at q
    obtain ⟨ρ', e, q⟩ := (Ev.bnd q).lift
    obtain ⟨y, hy, ry⟩ := rs.get' hd
    refine ⟨.ref p, hσ, .inl ⟨rfl, _, .inl (.inl hp)⟩, p, vs, y, rfl, rfl, hp, by rw [rs.length]; exact hy, ?_⟩
    obtain ⟨w, s, sp⟩ := ok.wf.write (d := .lst ds.dropLast) (o := .lst vs.dropLast) ok.sr hO hσ (fun z => z) (.inl ⟨_, _, rfl, rfl, rs.dropLast⟩)
    exact ⟨g.on g.as (List.set g.ρ i (some (.lst ds.dropLast))) g.st, d, ρ', ⟨w, s⟩, own_write (g := g) (d' := d) ok hO hσ hp ry, e, fun σ' w' o l j => q g.as σ' _ (sp.trans (step_tgt o)) w' s⟩
/-! ### [x, ..] * e -/
theorem dn_mulE (ha : DN X O Z a fa) (hb : DE X O Z b fb) : DN X O Z (.BinOp a .Mult b pos) (E.op2 mulL fa fb) := PE.imp (pe_op op_rep ha hb) fun σ H Q ⟨g, ok, q⟩ => by
  refine ⟨g, ok, (Ev.bnd q).mono (fun d1 st1 q as1 v1 H1 g1 s1 r1 f1 => ⟨g.at as1 st1, ok.step g1 s1, (Ev.bnd q).mono (fun d2 st2 q as2 v2 H2 g2 s2 r2 => ?_) fun _ _ z => z⟩) fun _ _ z => z⟩
  obtain ⟨d, e, q⟩ := q.lift
  cases d1 with
  | lst xs =>
    cases d2 with
    | int kk =>
      unfold mulL at e
      dsimp only at e
      split at e
      · rename_i h
        cases e
        have ok2 := (ok.step g1 s1).step g2 s2
        cases r1 with
        | sca r z => cases r with
          | lst h r => exact absurd rfl (z _)
        | @lst p vs ds hp r =>
          have na1 := (f1 p rfl).2
          have hp2 : H2 p = some (.lst vs) := g2.keep p _ hp na1
          have ev2 : v2 = .int kk := by cases r2; rfl
          subst ev2
          have rl := r.length
          refine ⟨p, kk, vs, rfl, rfl, hp2, by omega, by omega, ?_, fun p2 np => ?_⟩
          · have : vs.length * kk.toNat ≤ 1000 * 1000 := Nat.mul_le_mul (by omega) (by omega)
            have := line_million
            omega
          have g12 := g1.trans g2
          have rs2 := (r.weak (F' := Ff g.B as1 O σ) fun a o _ z => .inl z).grow s1 g2
          refine q as2 _ _ (g12.trans (Grow.new np)) (s2.new np) (Own.newL np (rs2.rep kk.toNat)) fun p' z => ?_
          cases z
          have na := not_as ok2 np
          exact ⟨fresh_back (K := X.K) (σ := σ) (st1 := st2) g12 np na, na⟩
      · cases e
    | _ => cases e
  | _ => cases e
/-! ### x, y = a, {}: y a cell -/
theorem Own.new {K : PySem.W.Frag} {F : Addr → Prop} {as : List Addr} {H : Hp} {v : V} {d : D} {p : Addr} {o : HO} (r : Own K F as H v d) (n : H p = none) : Own K F as (upd H p o) v d := by
  have k1 : ∀ c o', H c = some o' → ¬ F c → upd H p o c = some o' := fun c o' e _ => by rw [upd_ne (ne_of_none e n)]; exact e
  have k2 : ∀ c o', H c = some o' → TupO o' → upd H p o c = some o' := fun c o' e _ => by rw [upd_ne (ne_of_none e n)]; exact e
  cases r with
  | lst h r => exact .lst (by rw [upd_ne (ne_of_none h n)]; exact h) (r.frame k1 k2 fun _ _ h => h)
  | dct h o r => exact .dct (by rw [upd_ne (ne_of_none h n)]; exact h) o (r.frame k1 k2 fun _ _ h => h)
  | sca r q => exact .sca (r.frame k1 k2 fun _ _ h => h) q
theorem ds_parENc (i j : Nat) {x y : Str} (hiO : i ∉ O) (hjO : j ∈ O) (hc : X.calm = true) (hN : X.N.Nodup) (hi : X.N[i]? = some x) (hj : X.N[j]? = some y)
    (hx : Loc X.env.scope x) (hy : Loc X.env.scope y) (ha : DE X O Z a fa) (hb : DN X O Z b fb)
    (hw : swappedStores [.Tuple [.Name x px, .Name y py] kt pt] (.Tuple [a, b] k2 pt2) X.env = pure none := by rfl)
    (hs : swapsWithSole [.Tuple [.Name x px, .Name y py] kt pt] (.Tuple [a, b] k2 pt2) pos.line X.env = pure false := by rfl)
    (hf1 : X.fn x = true ∨ X.env.scope.names.lookup x = some .local := by first | exact .inl rfl | exact .inr rfl | assumption)
    (hf2 : X.fn y = true ∨ X.env.scope.names.lookup y = some .local := by first | exact .inl rfl | exact .inr rfl | assumption)
    (hs1 : starEach [a, b] X.env = (false, eval a X.env) :: starEach [b] X.env := by rfl) (hs2 : starEach [b] X.env = (false, eval b X.env) :: starEach [] X.env := by rfl) :
    DS X O Z (.Assign [.Tuple [.Name x px, .Name y py] kt pt] (.Tuple [a, b] k2 pt2) pos) (S.par i j fa fb) := PS.imp (ps_asg (pe_tup (pa_cons ha (pa_cons hb pa_nil hs2) hs1)) (pg_tup hc (pgs_cons (pg_name hN hi hx hf1) (pgs_cons (pg_name hN hj hy hf2) pgs_nil))) hs hw) fun D σ H ⟨g, ok, q⟩ =>
  ⟨g, ok, (Ev.bnd q).mono (fun d1 st1 q as1 v1 H1 g1 s1 r1 => ⟨g.at as1 st1, ok.step g1 s1, (Ev.bnd q).mono (fun d2 st2 q as2 v2 H2 g2 s2 r2 n2 => ⟨by rw [sizeLine_eq]; simp, fun p np => ⟨p, [v1, v2], rfl, .inl (.inl upd_same), rfl, v1, [v2], rfl, v2, [], rfl, rfl, by
    have w1 := (ok.step g1 s1).wf.set hiO r1
    have r2' : Own X.K (fun a => Ff g.B as2 O (σ.set i (some v1)) a ∨ v2 = .ref a) as2 (upd H2 p (.tup [v1, v2])) v2 d2 := by rw [ff_set hiO]; exact r2.new np
    obtain ⟨w3, sp⟩ := w1.setN s1 (g2.trans (Grow.new np)) (s2.new np) hjO r2' n2
    exact q as2 _ _ (((g1.step s1).trans (Step.set hiO _)).trans sp) w3 (s2.new np)⟩⟩) fun _ _ z => z⟩) fun _ _ z => z⟩
end
/-! ### xs[l::c] of a list -/
def pickIx (l st : Option Int) (n : Nat) : List Nat := sliceRange (sliceBounds l none st n).1 (sliceBounds l none st n).2.1 (sliceBounds l none st n).2.2
def pickL {α : Type} (l st : Option Int) (xs : List α) : List α := (pickIx l st xs.length).filterMap (xs[·]?)
theorem vals_pick {xs : List V} {us : List Value} (r : Vals xs us) : ∀ I : List Nat, Vals (I.filterMap (xs[·]?)) (I.filterMap (us[·]?))
  | [] => .nil
  | i :: I => by
    cases h : xs[i]? with
    | none =>
      have : us[i]? = none := by
        rw [List.getElem?_eq_none_iff] at h ⊢
        have := Vals.length r
        omega
      simp only [List.filterMap_cons, h, this]
      exact vals_pick r I
    | some x =>
      obtain ⟨u, hu, ru⟩ := r.get h
      simp only [List.filterMap_cons, h, hu]
      exact .cons ru (vals_pick r I)
theorem reps_pick {K : PySem.W.Frag} {F : Addr → Prop} {as : List Addr} {H : Hp} {xs : List V} {ds : List D} (r : Reps K F as H xs ds) : ∀ I : List Nat, Reps K F as H (I.filterMap (xs[·]?)) (I.filterMap (ds[·]?))
  | [] => .nil
  | i :: I => by
    cases h : xs[i]? with
    | none =>
      have : ds[i]? = none := by
        rw [List.getElem?_eq_none_iff] at h ⊢
        have := r.length
        omega
      simp only [List.filterMap_cons, h, this]
      exact reps_pick r I
    | some x =>
      obtain ⟨u, hu, ru⟩ := r.get h
      simp only [List.filterMap_cons, h, hu]
      exact .cons ru (reps_pick r I)
theorem pick_len {α : Type} (l st : Option Int) (xs : List α) (h : (pickIx l st xs.length).length ≤ sizeLine) : (pickL l st xs).length ≤ sizeLine := Nat.le_trans (List.length_filterMap_le _ _) h
section
variable {X : Cx} {O : List Nat} {Z : ZT} {e : Expr} {f : Env → M D} {pos p1 p3 : Pos} {k : Nat} {lo : Option Expr}
def tStepL (K : PySem.W.Frag) (l : Option Int) (c : Int) (te : TE) : TE := fun σ H Q => te σ H fun x H1 => ∃ a xs, x = .ref a ∧ SqL K H1 a xs ∧ (pickIx l (some c) xs.length).length ≤ sizeLine ∧ ∀ p, H1 p = none → Q (.ref p) (upd H1 p (.lst (pickL l (some c) xs)))
theorem pe_stepL {te : TE} {l : Option Int} {c : Int} (h0 : c ≠ 0) (he : PE X e te) (hl : PO X lo (fun _ H Q => Q l H)) : PE X (.Subscript e (.Slice lo none (some (.Constant (.int c) k p1)) p3) pos) (tStepL X.K l c te) := by
  refine ⟨fun pins s σ H Q I h => ?_⟩
  refine Subscript_ (thn (he.run pins s σ H _ I h) fun v s1 ⟨x, H1, I1, r1, q1⟩ => ?_)
  obtain ⟨a, xs, ex, hx, hpk, q⟩ := q1
  subst ex
  cases r1
  have hst : PO X (some (.Constant (.int c) k p1)) (tPart (tC (.int c))) := po_some pe_int
  refine wpAny_Slice (thn (hl.run pins s1 σ H1 (fun o H2 => o = l ∧ H2 = H1) I1 ⟨rfl, rfl⟩) fun vl s2 ⟨l', H2, I2, pl, el, e2⟩ => ?_)
  subst el e2
  refine thn (po_none.run pins s2 σ H2 (fun o H3 => o = none ∧ H3 = H2) I2 ⟨rfl, rfl⟩) fun vu s3 ⟨u, H3, I3, pu, eu, e3⟩ => ?_
  subst eu e3
  refine thn (hst.run pins s3 σ H3 (fun o H4 => o = some c ∧ H4 = H3) I3 ⟨c, rfl, rfl, rfl⟩) fun vs s4 ⟨o, H4, I4, ps, eo, e4⟩ => ?_
  subst eo e4
  have I5 : Inv X pins σ H4 { s4 with heap := s4.heap.push { cls := .type "slice", data := .fields #[vl, vu, vs] } } := I4.kept (t' := s4.toks) fun b ob q => Heap.get?_push_of_some _ q
  obtain ⟨its, r, ht, hz⟩ := I5.list hx
  have hlen := r.length
  show wpAny (model X.prog X.w) X.A (subscriptTail e (.Slice lo none (some (.Constant (.int c) k p1)) p3) (.ref a) (.ref s4.heap.objs.size)) (EP X pins σ Q) X.xe { s4 with heap := s4.heap.push { cls := .type "slice", data := .fields #[vl, vu, vs] } }
  refine tail_any (ops := [.ref a, .ref s4.heap.objs.size]) ht.isList.typeIs (PySem.slot_list_getitem.lookup) ?_ (by with_unfolding_all rfl)
  refine wpAny_getItem_list_slice ht.isList (Heap.IsSliceOf.new _ vl vu vs) pl pu ps (by simpa using h0) ?_ (by rw [List.size_toArray]; omega)
  have hp : slicePick its.toArray l' none (some c) = (pickL l' (some c) its).toArray := by
    unfold slicePick pickL pickIx
    simp
  rw [hp]
  refine ⟨.ref _, _, I5.laid (t' := s4.toks) (o := .lst (pickL l' (some c) xs)) (fun b ob q => Heap.get?_push_of_some _ q) (Nat.le_refl _) ?_, rfl, q _ (I5.hok.fresh (Nat.le_refl _))⟩
  refine ⟨pick_len _ _ _ hpk, pickL l' (some c) its, 0, ?_, Heap.get?_push_size _ rfl⟩
  unfold pickL
  rw [← hlen]
  exact vals_pick r _
def stepLD (l : Option Int) (c : Int) : D → Option D
  | .lst ds => if (pickIx l (some c) ds.length).length ≤ 1000000 then some (.lst (pickL l (some c) ds)) else none
  | _ => none
theorem dn_stepL {l : Option Int} {c : Int} (h0 : c ≠ 0) (hl : PO X lo (fun _ H Q => Q l H)) (h : DU X O Z e f) : DN X O Z (.Subscript e (.Slice lo none (some (.Constant (.int c) k p1)) p3) pos) (E.op1 (stepLD l c) f) := PE.imp (pe_stepL h0 h hl) fun σ H Q ⟨g, ok, q⟩ => by
  refine ⟨g, ok, (Ev.bnd q).mono (fun d st' q as' v H' gr s r => ?_) fun _ _ z => z⟩
  obtain ⟨d', e, q⟩ := q.lift
  cases d with
  | lst ds =>
    unfold stepLD at e
    dsimp only at e
    split at e
    · rename_i hk
      cases e
      obtain ⟨a, xs, rfl, rxs, sq⟩ := r.lst_at s
      have ln := rxs.length
      refine ⟨a, xs, rfl, sq as' H' (Grow.refl _ _), by rw [ln]; exact Nat.le_trans hk (by have := line_million; omega), fun p np => ?_⟩
      have rr : Reps X.K (Ff g.B as' O σ) as' H' (pickL l (some c) xs) (pickL l (some c) ds) := by
        unfold pickL
        rw [ln]
        exact reps_pick rxs _
      have ok2 := ok.step gr s
      refine q as' _ _ (gr.trans (Grow.new np)) (s.new np) (Own.newL np rr) fun p' z => ?_
      cases z
      have na := not_as ok2 np
      exact ⟨fresh_back (K := X.K) (σ := σ) (st1 := st') gr np na, na⟩
    · cases e
  | _ => cases e
theorem po_n : PO X none (fun _ H Q => Q none H) := po_none
theorem po_c {i : Int} {j : Nat} {pp : Pos} : PO X (some (.Constant (.int i) j pp)) (fun _ H Q => Q (some i) H) := ⟨fun pins s σ H Q I h => (po_some (e := .Constant (.int i) j pp) pe_int).run pins s σ H Q I ⟨i, rfl, h⟩⟩
end
end G
end L2
end G58_
section G59_

set_option Elab.async false
set_option linter.all false
set_option maxRecDepth 100000
set_option maxHeartbeats 2000000
namespace L2
namespace G
open PySem PySem.Spec PyProof.Rows
/-! ### a, b, c = x, y, z -/
def S.par3 (i j l : Nat) (fa fb fc : Env → M D) : SD := fun ρ => bnd (fa ρ) fun x => bnd (fb ρ) fun y => bnd (fc ρ) fun z => G.ret (.next, List.set (List.set (List.set ρ i (some x)) j (some y)) l (some z))
section
variable {X : Cx} {O : List Nat} {Z : ZT} {a b c : Expr} {fa fb fc : Env → M D} {px py pz pt pos : Pos} {kt k2 : Nat} {pt2 : Pos}
theorem ds_par3 (i j l : Nat) {x y z : Str} (hiO : i ∉ O) (hjO : j ∉ O) (hlO : l ∉ O) (hc : X.calm = true) (hN : X.N.Nodup) (hi : X.N[i]? = some x) (hj : X.N[j]? = some y) (hl : X.N[l]? = some z) (hij : i ≠ j) (hil : i ≠ l) (hjl : j ≠ l)
    (hx : X.env.scope.names.lookup x = some .local) (hy : X.env.scope.names.lookup y = some .local) (hz : X.env.scope.names.lookup z = some .local) (ha : DE X O Z a fa) (hb : DE X O Z b fb) (hcc : DE X O Z c fc)
    (hw : swappedStores [.Tuple [.Name x px, .Name y py, .Name z pz] kt pt] (.Tuple [a, b, c] k2 pt2) X.env = pure (some [x, y, z]))
    (hs : swapsWithSole [.Tuple [.Name x px, .Name y py, .Name z pz] kt pt] (.Tuple [a, b, c] k2 pt2) pos.line X.env = pure false := by rfl)
    (hs1 : starEach [a, b, c] X.env = (false, eval a X.env) :: starEach [b, c] X.env := by rfl) (hs2 : starEach [b, c] X.env = (false, eval b X.env) :: starEach [c] X.env := by rfl) (hs3 : starEach [c] X.env = (false, eval c X.env) :: starEach [] X.env := by rfl) :
    DS X O Z (.Assign [.Tuple [.Name x px, .Name y py, .Name z pz] kt pt] (.Tuple [a, b, c] k2 pt2) pos) (S.par3 i j l fa fb fc) := PS.imp (ps_par3 hc hN hi hj hl hij hil hjl hx hy hz (pa_cons ha (pa_cons hb (pa_cons hcc pa_nil hs3) hs2) hs1) hw hs) fun D σ H ⟨g, ok, q⟩ =>
  ⟨g, ok, (Ev.bnd q).mono (fun d1 st1 q as1 v1 H1 g1 s1 r1 => ⟨g.at as1 st1, ok.step g1 s1, (Ev.bnd q).mono (fun d2 st2 q as2 v2 H2 g2 s2 r2 => ⟨(g.at as1 st1).at as2 st2, (ok.step g1 s1).step g2 s2, (Ev.bnd q).mono (fun d3 st3 q as3 v3 H3 g3 s3 r3 => ⟨v1, v2, v3, rfl, by
    have w2 := (((ok.step g1 s1).step g2 s2).step g3 s3).wf
    have w3 := w2.set hiO ((r1.grow s1 g2).grow s2 g3)
    have r2' : Rep X.K (Ff g.B as3 O (σ.set i (some v1))) as3 H3 v2 d2 := by rw [ff_set hiO]; exact r2.grow s2 g3
    have w4 := w3.set hjO r2'
    have r3' : Rep X.K (Ff g.B as3 O ((σ.set i (some v1)).set j (some v2))) as3 H3 v3 d3 := by rw [ff_set hjO, ff_set hiO]; exact r3
    exact q as3 _ H3 ((((g1.trans g2).trans g3).step s3).trans ((Step.set hiO _).trans ((Step.set hjO _).trans (Step.set hlO _)))) (w4.set hlO r3') s3⟩) fun _ _ z => z⟩) fun _ _ z => z⟩) fun _ _ z => z⟩
end
/-! ### sorting that the kernel can run -/
def mergeF {α : Type} (le : α → α → Bool) : Nat → List α → List α → List α
  | 0, _, _ => []
  | _ + 1, [], ys => ys
  | _ + 1, x :: xs, [] => x :: xs
  | n + 1, x :: xs, y :: ys => if le x y = true then x :: mergeF le n xs (y :: ys) else y :: mergeF le n (x :: xs) ys
theorem mergeF_eq {α : Type} (le : α → α → Bool) : ∀ (n : Nat) (xs ys : List α), xs.length + ys.length < n → mergeF le n xs ys = List.merge xs ys le
  | 0, _, _, h => by omega
  | n + 1, [], ys, _ => by simp [mergeF]
  | n + 1, x :: xs, [], _ => by simp [mergeF]
  | n + 1, x :: xs, y :: ys, h => by
    simp only [List.length_cons] at h
    unfold mergeF
    rw [List.cons_merge_cons]
    rw [mergeF_eq le n xs (y :: ys) (by simp only [List.length_cons]; omega), mergeF_eq le n (x :: xs) ys (by simp only [List.length_cons]; omega)]
def msF {α : Type} (le : α → α → Bool) : Nat → List α → List α
  | 0, l => l
  | _ + 1, [] => []
  | _ + 1, [a] => [a]
  | n + 1, a :: b :: xs => mergeF le (xs.length + 3) (msF le n ((a :: b :: xs).take ((xs.length + 3) / 2))) (msF le n ((a :: b :: xs).drop ((xs.length + 3) / 2)))
theorem msF_eq {α : Type} (le : α → α → Bool) : ∀ (n : Nat) (l : List α), l.length ≤ n → msF le n l = l.mergeSort le
  | 0, l, h => by
    cases l with
    | nil => simp [msF]
    | cons a l => simp at h
  | n + 1, [], _ => by simp [msF]
  | n + 1, [a], _ => by simp [msF]
  | n + 1, a :: b :: xs, h => by
    simp only [List.length_cons] at h
    unfold msF
    rw [List.mergeSort]
    simp only [List.MergeSort.Internal.splitInTwo_fst, List.MergeSort.Internal.splitInTwo_snd, List.length_cons]
    rw [msF_eq le n _ (by simp only [List.length_take, List.length_cons]; omega), msF_eq le n _ (by simp only [List.length_drop, List.length_cons]; omega)]
    rw [mergeF_eq le _ _ _ (by simp only [List.length_mergeSort, List.length_take, List.length_drop, List.length_cons]; omega)]
theorem ms_msF {α : Type} (l : List α) (le : α → α → Bool) : l.mergeSort le = msF le l.length l := (msF_eq le _ l (Nat.le_refl _)).symm
def sortLF (ds : List D) : Option (List D) := if (shapes.any fun sh => ds.all (D.is sh)) && D.okds 59 ds then some (msF leD' ds.length ds) else none
def sortedF : List D → Option D
  | [.lst ds] => (sortLF ds).map .lst
  | [.dct true ks _] => (sortLF ks).map .lst
  | [.dct false ks _] => if ks.length < 64 ∧ (intsD ks).isSome = true then some (.lst (msF leD' ks.length ks)) else none
  | _ => none
theorem sortLF_eq : sortL = sortLF := by
  funext ds
  unfold sortL sortLF
  rw [ms_msF]
theorem sortedF_eq : sortedD3 = sortedF := by
  funext xs
  unfold sortedD3 sortedF
  simp only [sortLF_eq, ms_msF]
  all_goals rfl
def sortByF (ks ds : List D) : List D := (msF (fun a b => leD' a.2 b.2) (ds.zip ks).length (ds.zip ks)).map (·.1)
theorem sortByF_eq : sortBy = sortByF := by
  funext ks ds
  unfold sortBy sortByF
  rw [ms_msF]
def E.sortKeyF (x : Str) (i : Nat) (f g : Env → M D) : Env → M D := fun ρ => bnd (f ρ) fun d => match d with
  | .lst ds => fun st => if hasTab x st = true then bnd (noexc (keysD ρ i g ds)) (fun ks => if (ks.all rowK && D.okds 59 ks) = true then ret (.lst (sortByF ks ds)) else bad) st else .bad
  | _ => bad
theorem sortKeyF_eq : E.sortKey = E.sortKeyF := by
  funext x i f g
  unfold E.sortKey E.sortKeyF
  rw [sortByF_eq]
  all_goals rfl
end G
end L2
end G59_
section G60_
set_option Elab.async false
set_option linter.all false
set_option maxRecDepth 100000
set_option maxHeartbeats 2000000
namespace L2
namespace G
open PySem PySem.Spec PyProof.Rows
/-! ### sorted, as the kernel can run it -/
theorem b_sortedF {X : Cx} (hcalm : X.calm = true) (hu : X.A.units + 65 < cLine) : BlN X (.builtin "sorted") sortedF := sortedF_eq ▸ b_sorted3 hcalm hu
theorem dn_conv {X : Cx} {O : List Nat} {Z : ZT} {e : Expr} {f f' : Env → M D} (h : DN X O Z e f) (q : f = f') : DN X O Z e f' := q ▸ h
end G
end L2
end G60_
section G61_
set_option Elab.async false
set_option linter.all false
set_option maxRecDepth 100000
set_option maxHeartbeats 2000000
namespace L2
namespace G
open PySem PySem.Spec PyProof.Rows
/-! ### list of a dict -/
/-- items that are a dict's keys, one by one -/
theorem keys_vals {kvs : List (Key × V)} {ps : List (Key × Value)} {its : Array Value} (r : KV kvs ps) (hn : its.size = ps.length) (hk : ∀ (j : Nat) (u : Value), its[j]? = some u → ∃ k y, ps[j]? = some (k, y) ∧ keyIs k u = true) : Vals (kvs.map fun p => kV p.1) its.toList := by
  have hlen : kvs.length = ps.length := Paired.length r
  apply vals_of_at
  · simp [hlen, hn]
  intro j x u hx hu
  rw [Array.getElem?_toList] at hu
  rcases hk j u hu with ⟨k, y, hp, hi⟩
  rw [List.getElem?_map, Option.map_eq_some_iff] at hx
  rcases hx with ⟨q, hq, rfl⟩
  have hkey : (kvs.map (·.1))[j]? = (ps.map (·.1))[j]? := by rw [KV.keys r]
  simp only [List.getElem?_map, hq, hp, Option.map_some, Option.some.injEq] at hkey
  rw [hkey]
  exact keyIs_rel hi
theorem call_list_dKR {X : Cx} (calm : X.calm = true) : CallR X (.type "list") (fun xs H Q => ∃ p kvs, xs = [.ref p] ∧ Rd H p (.dK kvs) ∧ ∀ q, H q = none → Q (.ref q) (upd H q (.lst (kvs.map fun kv => kV kv.1)))) := fun pins s σ H xs us Q I rs ⟨p, kvs, ex, rd, fin⟩ => by
  subst ex
  cases rs with
  | cons r1 r0 =>
    cases r0
    cases r1
    rcases rd.ok I.hok with ⟨few, own, ps, rk, laid⟩
    rcases laid.dictAt with ⟨ep, there⟩
    have same : kvs.length = ps.length := Paired.length rk
    apply PySem.W.kdl_call (PySem.W.kdl_dict (knd := mixKind X.prog X.w) (kvs := ps) (ep := ep) own) (I.ok.hd calm) there
    · omega
    intro h' tk its c kept new acc
    have ob : ObjOk X.prog X.w (upd H s.heap.objs.size (.lst (kvs.map fun kv => kV kv.1))) h' s.heap.objs.size (.lst (kvs.map fun kv => kV kv.1)) := ⟨by simpa using few, its.toList, c, keys_vals rk acc.1 acc.2, by simpa using new⟩
    exact ⟨.ref s.heap.objs.size, _, I.laid kept (Nat.le_refl _) ob, rfl, fin _ (I.hok.fresh (Nat.le_refl _))⟩
def listD2 : List D → Option D
  | [.lst ds] => some (.lst ds)
  | [.tup ds] => some (.lst ds)
  | [.dct false ks _] => some (.lst ks)
  | _ => none
theorem b_list2 {X : Cx} (hc : X.calm = true) : BlN X (.type "list") listD2 := by
  obtain ⟨r1, c1, h1⟩ := b_list (X := X)
  refine ⟨_, c1.or (call_list_dKR hc), fun F as H xs ds d Q tr r e q => ?_⟩
  unfold listD2 at e
  split at e
  · exact .inl (h1 F as H xs _ d Q tr r e q)
  · exact .inl (h1 F as H xs _ d Q tr r e q)
  · cases e
    obtain ⟨v, rfl, rv⟩ := repTs1 r
    obtain ⟨a, o, us, rfl, hs, dd, rs⟩ := rv.t_dct
    rcases dd with ⟨kvs, _, rfl, rfl, rfl⟩ | ⟨_, z, _⟩
    · refine .inr ⟨a, kvs, rfl, hs, fun p np => q _ _ (same_new np) ?_ fun p' z => by cases z; exact np⟩
      have e1 : (kvs.map fun kv => kV kv.1) = (kvs.map (·.1)).map kV := by rw [List.map_map] <;> rfl
      have e2 : (kvs.map fun p => kD p.1) = (kvs.map (·.1)).map kD := by rw [List.map_map] <;> rfl
      rw [e1, e2]
      exact Own.newL np (reps_keys _)
    · cases z
  · cases e
/-! ### a list, a tuple compared with an empty one: nothing in it is looked at -/
def SqE (K : PySem.W.Frag) (H : Hp) (x y : V) (b : Bool) : Prop := (∃ a c xs, x = .ref a ∧ y = .ref c ∧ SqL K H a xs ∧ SqL K H c [] ∧ b = xs.isEmpty) ∨ ∃ a c xs, x = .ref a ∧ y = .ref c ∧ SqT K H a xs ∧ SqT K H c [] ∧ b = xs.isEmpty
theorem vals_nil {us : List Value} (r : Vals [] us) : us = [] := by cases r; rfl
theorem plainL_is {h : Heap} {a : Addr} {vs : Array Value} (p : PlainL h a vs) : h.IsList a vs := p.isList
theorem op_eqE {X : Cx} (hu : X.A.units < cLine) : OpR X (compareOp .Eq) (fun x y H Q => ∃ b, SqE X.K H x y b ∧ Q (.bl b) H) := by
  intro pins s σ H x y v u Q I rx ry h
  obtain ⟨b, h, q⟩ := h
  rcases h with ⟨a, c, xs, rfl, rfl, h1, h2, rfl⟩ | ⟨a, c, xs, rfl, rfl, h1, h2, rfl⟩
  · obtain rfl : v = Value.ref a := rx
    obtain rfl : u = Value.ref c := ry
    obtain ⟨us, r1, p1, _⟩ := I.list h1
    obtain ⟨ws, r2, p2, _⟩ := I.list h2
    cases vals_nil r2
    cases xs with
    | nil =>
      cases vals_nil r1
      exact SeqAt.RcAt.lists (e := fun _ => true) p1.isList p2.isList rfl hu (fun j h => by simp at h) X.prog X.w _ _ ⟨.bl _, H, I, rfl, q⟩
    | cons x0 xs =>
      have hl : us.length = xs.length + 1 := by have := r1.length; simpa using this.symm
      exact SeqAt.RcAt.lists_lengths p1.isList p2.isList (by simp [hl]) hu X.prog X.w _ _ ⟨.bl _, H, I, rfl, q⟩
  · obtain rfl : v = Value.ref a := rx
    obtain rfl : u = Value.ref c := ry
    obtain ⟨us, r1, ⟨o1, q1, q2, q3, q4⟩, _⟩ := I.tuple h1
    obtain ⟨ws, r2, ⟨o2, w1, w2, w3, w4⟩, _⟩ := I.tuple h2
    cases vals_nil r2
    have k := SeqAt.RcAt.tuples (e := fun _ => true) ⟨o1, q1, q2, q3, q4⟩ ⟨o2, w1, w2, w3, w4⟩ hu (fun j h h' => by simp at h') X.prog X.w (Q := EP X pins σ Q) (E := X.xe)
    refine k ?_
    have e : ((List.range (min us.toArray.size ([] : List Value).toArray.size)).all (fun _ => true) && us.toArray.size == ([] : List Value).toArray.size) = xs.isEmpty := by
      have hl : us.length = xs.length := r1.length.symm
      cases xs <;> simp at hl <;> simp [hl]
    rw [e]
    exact ⟨.bl _, H, I, rfl, q⟩
theorem op_neE {X : Cx} (hu : X.A.units < cLine) : OpR X (compareOp .NotEq) (fun x y H Q => ∃ b, SqE X.K H x y b ∧ Q (.bl (!b)) H) := by
  intro pins s σ H x y v u Q I rx ry h
  obtain ⟨b, h, q⟩ := h
  rcases h with ⟨a, c, xs, rfl, rfl, h1, h2, rfl⟩ | ⟨a, c, xs, rfl, rfl, h1, h2, rfl⟩
  · obtain rfl : v = Value.ref a := rx
    obtain rfl : u = Value.ref c := ry
    obtain ⟨us, r1, p1, _⟩ := I.list h1
    obtain ⟨ws, r2, p2, _⟩ := I.list h2
    cases vals_nil r2
    cases xs with
    | nil =>
      cases vals_nil r1
      exact SeqAt.RcNeAt.lists (e := fun _ => true) p1.isList p2.isList rfl hu (fun j h => by simp at h) X.prog X.w _ _ ⟨.bl _, H, I, rfl, q⟩
    | cons x0 xs =>
      have hl : us.length = xs.length + 1 := by have := r1.length; simpa using this.symm
      exact SeqAt.RcNeAt.lists_lengths p1.isList p2.isList (by simp [hl]) hu X.prog X.w _ _ ⟨.bl _, H, I, rfl, q⟩
  · obtain rfl : v = Value.ref a := rx
    obtain rfl : u = Value.ref c := ry
    obtain ⟨us, r1, ⟨o1, q1, q2, q3, q4⟩, _⟩ := I.tuple h1
    obtain ⟨ws, r2, ⟨o2, w1, w2, w3, w4⟩, _⟩ := I.tuple h2
    cases vals_nil r2
    have k := SeqAt.RcNeAt.tuples (e := fun _ => true) ⟨o1, q1, q2, q3, q4⟩ ⟨o2, w1, w2, w3, w4⟩ hu (fun j h h' => by simp at h') X.prog X.w (Q := EP X pins σ Q) (E := X.xe)
    refine k ?_
    have e : ((List.range (min us.toArray.size ([] : List Value).toArray.size)).all (fun _ => true) && us.toArray.size == ([] : List Value).toArray.size) = xs.isEmpty := by
      have hl : us.length = xs.length := r1.length.symm
      cases xs <;> simp at hl <;> simp [hl]
    rw [e]
    exact ⟨.bl _, H, I, rfl, q⟩
def emp : D → D → Option Bool
  | .lst ds, .lst [] => some ds.isEmpty
  | .tup ds, .tup [] => some ds.isEmpty
  | .ftup ds, .tup [] => some ds.isEmpty
  | _, _ => none
theorem isEmpty_len {α β : Type} {a : List α} {b : List β} (h : a.length = b.length) : a.isEmpty = b.isEmpty := by cases a <;> cases b <;> simp at h ⊢
theorem emp_sq {K : PySem.W.Frag} {F : Addr → Prop} {as : List Addr} {H : Hp} {x y : V} {d1 d2 : D} {b : Bool} (r1 : RepT K F as H x d1) (r2 : RepT K F as H y d2) (e : emp d1 d2 = some b) : SqE K H x y b := by
  unfold emp at e
  split at e
  · cases e
    obtain ⟨a, xs, rfl, h1, q1⟩ := r1.t_lst
    obtain ⟨c, ys, rfl, h2, q2⟩ := r2.t_lst
    cases q2
    exact .inl ⟨a, c, xs, rfl, rfl, h1, h2, isEmpty_len q1.length.symm⟩
  · cases e
    obtain ⟨a, xs, rfl, h1, q1⟩ := r1.t_tup
    obtain ⟨c, ys, rfl, h2, q2⟩ := r2.t_tup
    cases q2
    exact .inr ⟨a, c, xs, rfl, rfl, SqT.of h1, SqT.of h2, isEmpty_len q1.length.symm⟩
  · cases e
    obtain ⟨a, xs, rfl, h1, q1⟩ := r1.t_ftup
    obtain ⟨c, ys, rfl, h2, q2⟩ := r2.t_tup
    cases q2
    exact .inr ⟨a, c, xs, rfl, rfl, h1.sq, SqT.of h2, isEmpty_len q1.length.symm⟩
  · cases e
def eqE (a b : D) : Option D := match emp a b with
  | some k => some (.bl k)
  | none => eqD a b
def neE (a b : D) : Option D := match emp a b with
  | some k => some (.bl (!k))
  | none => neD a b
theorem o_eqE {X : Cx} (hu : X.A.units + 65 < cLine) : Op2 X (compareOp .Eq) eqE := by
  obtain ⟨r, h, k⟩ := o_eq (X := X) hu
  refine ⟨_, h.or (op_eqE (by omega)), fun F as H x y d1 d2 d Q tr r1 r2 e q => ?_⟩
  unfold eqE at e
  split at e
  · rename_i b eb
    cases e
    exact .inr ⟨b, emp_sq r1 r2 eb, q _ H (Same.refl _) (.bl _)⟩
  · exact .inl (k F as H x y d1 d2 d Q tr r1 r2 e q)
theorem o_neE {X : Cx} (hu : X.A.units + 65 < cLine) : Op2 X (compareOp .NotEq) neE := by
  obtain ⟨r, h, k⟩ := o_ne (X := X) hu
  refine ⟨_, h.or (op_neE (by omega)), fun F as H x y d1 d2 d Q tr r1 r2 e q => ?_⟩
  unfold neE at e
  split at e
  · rename_i b eb
    cases e
    exact .inr ⟨b, emp_sq r1 r2 eb, q _ H (Same.refl _) (.bl _)⟩
  · exact .inl (k F as H x y d1 d2 d Q tr r1 r2 e q)
end G
end L2
end G61_
section GP1_
set_option Elab.async false
set_option linter.all false
set_option maxRecDepth 100000
set_option maxHeartbeats 1000000
namespace L2
namespace G
open PySem PySem.Spec PyProof.Rows
/-! ### how denotations are computed -/
section
variable {α β γ : Type}
@[simp] theorem bnd_ret (a : α) (k : α → M β) : bnd (ret a) k = k a := rfl
@[simp] theorem bnd_bad (k : α → M β) : bnd (bad : M α) k = bad := rfl
@[simp] theorem bnd_bnd (m : M α) (k : α → M β) (l : β → M γ) : bnd (bnd m k) l = bnd m fun a => bnd (k a) l := by
  funext s
  unfold bnd
  cases m s <;> rfl
@[simp] theorem lift_some (a : α) : lift (some a) = ret a := rfl
@[simp] theorem lift_none : lift (none : Option α) = bad := rfl
@[simp] theorem noexc_ret (a : α) : noexc (ret a) = ret a := rfl
def run (m : M α) (st : Store) : Res α := m st
@[simp] theorem run_ret (a : α) (st : Store) : run (ret a) st = .ok a st := rfl
theorem run_bnd {m : M α} {k : α → M β} {st st' : Store} {a : α} (h : run m st = .ok a st') : run (bnd m k) st = run (k a) st' := by
  unfold run bnd at *; rw [h]
theorem run_noexc {m : M α} {st st' : Store} {a : α} (h : run m st = .ok a st') : run (noexc m) st = .ok a st' := by
  unfold run noexc at *; rw [h]
def fnM (m : M (Fl × Env)) : M D := fun s => match m s with
  | .ok q s' => (match q.1 with
    | .ret d => .ok d s'
    | .next => .ok .non s'
    | _ => .bad)
  | .exc x s' => .exc x s'
  | .bad => .bad
theorem fnD_eq (N : Nat) (b : SD) (ds : List D) : fnD N b ds = fnM (b (ds.map some ++ List.replicate (N - ds.length) none)) := rfl
@[simp] theorem fnM_ret (d : D) (ρ : Env) : fnM (ret (.ret d, ρ)) = ret d := rfl
@[simp] theorem fnM_next (ρ : Env) : fnM (ret (.next, ρ)) = ret .non := rfl
@[simp] theorem fnM_bnd (m : M α) (k : α → M (Fl × Env)) : fnM (bnd m k) = bnd m fun a => fnM (k a) := by
  funext s
  unfold fnM bnd
  cases m s <;> rfl
end
section
variable (a b c : Env → M D) (r : Env → M (List D)) (ρ : Env) (s t : SD) (g h : D → D → Option D) (g1 : D → Option D) (gl : List D → Option D) (tt uu : Env → M Bool)
@[simp] theorem u_cst (d : D) : E.cst d ρ = ret d := rfl
@[simp] theorem u_op2 : E.op2 g a b ρ = bnd (a ρ) fun x => bnd (b ρ) fun y => lift (g x y) := rfl
@[simp] theorem u_op1 : E.op1 g1 a ρ = bnd (a ρ) fun x => lift (g1 x) := rfl
@[simp] theorem u_nil : A.nil ρ = ret [] := rfl
@[simp] theorem u_cons : A.cons a r ρ = bnd (a ρ) fun x => bnd (r ρ) fun xs => ret (x :: xs) := rfl
@[simp] theorem u_tup : E.tup r ρ = bnd (r ρ) fun xs => ret (.tup xs) := rfl
@[simp] theorem u_lst : E.lst r ρ = bnd (r ρ) fun xs => ret (.lst xs) := rfl
@[simp] theorem u_val : T.val a ρ = bnd (a ρ) fun x => match x with
  | .bl b => ret b
  | _ => bad := rfl
@[simp] theorem u_tnot : T.not tt ρ = bnd (tt ρ) fun b => ret (!b) := rfl
@[simp] theorem u_tand : T.and tt uu ρ = bnd (tt ρ) fun x => if x = true then uu ρ else ret false := rfl
@[simp] theorem u_tor : T.or tt uu ρ = bnd (tt ρ) fun x => if x = true then ret true else uu ρ := rfl
@[simp] theorem u_tyes : T.yes ρ = ret true := rfl
@[simp] theorem u_and : E.and a b ρ = bnd (a ρ) fun x => match x with
  | .bl true => b ρ
  | .bl false => ret (.bl false)
  | _ => bad := rfl
@[simp] theorem u_or : E.or a b ρ = bnd (a ρ) fun x => match x with
  | .bl false => b ρ
  | .bl true => ret (.bl true)
  | _ => bad := rfl
@[simp] theorem u_not : E.not a ρ = bnd (a ρ) fun x => match x with
  | .bl b => ret (.bl (!b))
  | _ => bad := rfl
@[simp] theorem u_ifx : E.ifx tt a b ρ = bnd (tt ρ) fun c => if c = true then a ρ else b ρ := rfl
@[simp] theorem u_blt : E.blt gl r ρ = bnd (r ρ) fun xs => lift (gl xs) := rfl
@[simp] theorem u_app (φ : List D → M D) : E.app φ r ρ = bnd (r ρ) fun xs => noexc (φ xs) := rfl
@[simp] theorem u_ix : E.ix a b ρ = bnd (a ρ) fun x => bnd (b ρ) fun y => lift (ixD' x y) := rfl
@[simp] theorem u_chain : E.chain g h a b c ρ = bnd (a ρ) fun x => bnd (b ρ) fun y => bnd (lift (g x y)) fun z => match z with
  | .bl true => bnd (c ρ) fun w => lift (h y w)
  | .bl false => ret (.bl false)
  | _ => bad := rfl
@[simp] theorem u_oNone : E.oNone ρ = ret none := rfl
@[simp] theorem u_oSome : E.oSome a ρ = bnd (a ρ) fun d => match d with
  | .int i => ret (some i)
  | _ => bad := rfl
@[simp] theorem u_slice (l u : Env → M (Option Int)) : E.slice a l u ρ = bnd (a ρ) fun d => bnd (l ρ) fun l => bnd (u ρ) fun h => lift (sliceD d l h) := rfl
@[simp] theorem u_iseq : I.seq a ρ = bnd (a ρ) fun d => lift (seqD d) := rfl
@[simp] theorem u_irange (f : List D → Option (List D)) : I.range f r ρ = bnd (r ρ) fun xs => lift (f xs) := rfl
@[simp] theorem u_ion (f : List D → Option (List D)) : I.on f r ρ = bnd (r ρ) fun xs => lift (f xs) := rfl
@[simp] theorem u_comp (i : Env → M (List D)) (vs : List Nat) (tg : D → Env → Option Env) : E.comp i vs tg tt a ρ = bnd (i ρ) fun ds => bnd (compL (wipeD ρ vs) tg tt a ds) fun rs => ret (.lst rs) := rfl
@[simp] theorem u_star : A.star a r ρ = bnd (a ρ) fun d => bnd (lift (seqD d)) fun xs => bnd (r ρ) fun ys => if xs.length + ys.length < LIM then ret (xs ++ ys) else bad := rfl
@[simp] theorem u_seq : S.seq s t ρ = bnd (s ρ) fun q => match q.1 with
  | .next => t q.2
  | .brk => ret (.brk, q.2)
  | .cont => ret (.cont, q.2)
  | .ret d => ret (.ret d, q.2) := rfl
@[simp] theorem u_snil : S.nil ρ = ret (.next, ρ) := rfl
@[simp] theorem u_sbad : S.bad ρ = bad := rfl
@[simp] theorem u_sret : S.ret a ρ = bnd (a ρ) fun d => ret (.ret d, ρ) := rfl
@[simp] theorem u_sretN : S.retN ρ = ret (.ret .non, ρ) := rfl
@[simp] theorem u_sexpr : S.expr a ρ = bnd (a ρ) fun _ => ret (.next, ρ) := rfl
@[simp] theorem u_site : S.ite tt s t ρ = bnd (tt ρ) fun c => if c = true then s ρ else t ρ := rfl
@[simp] theorem u_sset (i : Nat) : S.set i a ρ = bnd (a ρ) fun d => ret (.next, List.set ρ i (some d)) := rfl
@[simp] theorem u_spar (i j : Nat) : S.par i j a b ρ = bnd (a ρ) fun x => bnd (b ρ) fun y => ret (.next, List.set (List.set ρ i (some x)) j (some y)) := rfl
@[simp] theorem u_sasg (tg : D → Env → Option Env) : S.asg a tg ρ = bnd (a ρ) fun d => bnd (lift (tg d ρ)) fun ρ' => ret (.next, ρ') := rfl
@[simp] theorem u_sfor (i : Env → M (List D)) (tg : D → Env → Option Env) : S.for_ i tg s ρ = bnd (i ρ) fun ds => forL tg s ds ρ := rfl
@[simp] theorem u_gname (i : Nat) (d : D) : Gt.name i d ρ = some (List.set ρ i (some d)) := rfl
@[simp] theorem u_gnil : Gt.nil [] ρ = some ρ := rfl
@[simp] theorem u_gcons (t : D → Env → Option Env) (u : List D → Env → Option Env) (d : D) (r : List D) : Gt.cons t u (d :: r) ρ = (t d ρ).bind (u r) := rfl
@[simp] theorem u_gtup (n : Nat) (u : List D → Env → Option Env) (ds : List D) : Gt.tup n u (.tup ds) ρ = if ds.length = n then u ds ρ else none := rfl
@[simp] theorem u_var0 (o : D) (ρ : Env) : E.var 0 (some o :: ρ) = ret o := rfl
@[simp] theorem u_varS (i : Nat) (o : Option D) (ρ : Env) : E.var (i + 1) (o :: ρ) = E.var i ρ := rfl
@[simp] theorem u_wipe0 : wipeD ρ [] = ρ := rfl
@[simp] theorem u_wipeS (v : Nat) (vs : List Nat) : wipeD ρ (v :: vs) = List.set (wipeD ρ vs) v none := rfl
end
@[simp] theorem seqD_lst (l : List D) : seqD (.lst l) = some l := rfl
@[simp] theorem seqD_tup (l : List D) : seqD (.tup l) = some l := rfl
/-! ### statements, one after another -/
section
variable {s t : SD} {ρ ρ' : Env} {st st' st1 : Store} {d x y : D} {e a b : Env → M D} {i : Nat} {tt : Env → M Bool} {q : Bool}
theorem fn_step (h : run (s ρ) st = .ok (.next, ρ') st') : run (fnM (S.seq s t ρ)) st = run (fnM (t ρ')) st' := by
  have e : S.seq s t ρ = bnd (s ρ) _ := rfl
  rw [e, fnM_bnd, run_bnd h]
theorem fn_ret (h : run (s ρ) st = .ok (.ret d, ρ') st') : run (fnM (S.seq s t ρ)) st = .ok d st' := by
  have e : S.seq s t ρ = bnd (s ρ) _ := rfl
  rw [e, fnM_bnd, run_bnd h]
  rfl
theorem seq_step (h : run (s ρ) st = .ok (.next, ρ') st') : run (S.seq s t ρ) st = run (t ρ') st' := by
  have e : S.seq s t ρ = bnd (s ρ) _ := rfl
  rw [e, run_bnd h]
theorem seq_ret (h : run (s ρ) st = .ok (.ret d, ρ') st') : run (S.seq s t ρ) st = .ok (.ret d, ρ') st' := by
  have e : S.seq s t ρ = bnd (s ρ) _ := rfl
  rw [e, run_bnd h]
  rfl
theorem set_run (h : run (e ρ) st = .ok d st') : run (S.set i e ρ) st = .ok (.next, List.set ρ i (some d)) st' := by
  have q : S.set i e ρ = bnd (e ρ) _ := rfl
  rw [q, run_bnd h]
  rfl
theorem ret_run (h : run (e ρ) st = .ok d st') : run (S.ret e ρ) st = .ok (.ret d, ρ) st' := by
  have q : S.ret e ρ = bnd (e ρ) _ := rfl
  rw [q, run_bnd h]
  rfl
theorem ite_run (h : run (tt ρ) st = .ok q st') : run (S.ite tt s t ρ) st = run (if q = true then s ρ else t ρ) st' := by
  have z : S.ite tt s t ρ = bnd (tt ρ) _ := rfl
  rw [z, run_bnd h]
theorem val_run (h : run (e ρ) st = .ok (.bl q) st') : run (T.val e ρ) st = .ok q st' := by
  have z : T.val e ρ = bnd (e ρ) _ := rfl
  rw [z, run_bnd h]
  rfl
theorem op2_run {g : D → D → Option D} (ha : run (a ρ) st = .ok x st') (hb : run (b ρ) st' = .ok y st1) (hg : g x y = some d) : run (E.op2 g a b ρ) st = .ok d st1 := by
  have z : E.op2 g a b ρ = bnd (a ρ) _ := rfl
  rw [z, run_bnd ha, run_bnd hb, hg]
  rfl
theorem var_run {o : D} (h : ρ[i]? = some (some o)) : run (E.var i ρ) st = .ok o st := by
  unfold run E.var
  rw [h]
  rfl
theorem cst_run : run (E.cst d ρ) st = .ok d st := rfl
theorem pure_run (h : e ρ = ret d) : run (e ρ) st = .ok d st := by rw [h]; rfl
theorem blt1_run {g : List D → Option D} (h : run (e ρ) st = .ok x st') (hg : g [x] = some d) : run (E.blt g (A.cons e A.nil) ρ) st = .ok d st' := by
  have z : E.blt g (A.cons e A.nil) ρ = bnd (bnd (e ρ) _) _ := rfl
  rw [z, bnd_bnd, run_bnd h]
  simp [hg]
theorem app1_run {φ : List D → M D} (h : run (e ρ) st = .ok x st') (hg : run (φ [x]) st' = .ok d st1) : run (E.app φ (A.cons e A.nil) ρ) st = .ok d st1 := by
  have z : E.app φ (A.cons e A.nil) ρ = bnd (bnd (e ρ) _) _ := rfl
  rw [z, bnd_bnd, run_bnd h]
  simp [run_noexc hg]
theorem app2_run {φ : List D → M D} {st2 : Store} (ha : run (a ρ) st = .ok x st') (hb : run (b ρ) st' = .ok y st1) (hg : run (φ [x, y]) st1 = .ok d st2) : run (E.app φ (A.cons a (A.cons b A.nil)) ρ) st = .ok d st2 := by
  have z : E.app φ (A.cons a (A.cons b A.nil)) ρ = bnd (bnd (a ρ) _) _ := rfl
  rw [z, bnd_bnd, run_bnd ha]
  have z2 : A.cons b A.nil ρ = bnd (b ρ) _ := rfl
  rw [z2, bnd_bnd, bnd_bnd, run_bnd hb]
  simp [run_noexc hg]
end
/-! ### comprehensions, loops -/
theorem compL_pure {ρ : Env} {t : D → Env → Option Env} {c : Env → M Bool} {e : Env → M D} (ρ' : D → Env) (p : D → Bool) (g : D → D) : ∀ ds : List D, (∀ d ∈ ds, t d ρ = some (ρ' d) ∧ c (ρ' d) = ret (p d) ∧ (p d = true → e (ρ' d) = ret (g d))) →
    compL ρ t c e ds = ret ((ds.filter p).map g)
  | [], _ => rfl
  | d :: ds, h => by
    obtain ⟨h1, h2, h3⟩ := h d (.head _)
    unfold compL
    rw [h1, lift_some, bnd_ret, h2, bnd_ret, compL_pure ρ' p g ds fun x hx => h x (.tail _ hx)]
    cases q : p d with
    | true => rw [if_pos rfl, h3 q]; simp [q]
    | false => simp [q]
theorem compL_map {α : Type} {ρ : Env} {t : D → Env → Option Env} {c : Env → M Bool} {e : Env → M D} (f : α → D) (ρ' : α → Env) (p : α → Bool) (g : α → D) : ∀ l : List α, (∀ x ∈ l, t (f x) ρ = some (ρ' x) ∧ c (ρ' x) = ret (p x) ∧ (p x = true → e (ρ' x) = ret (g x))) →
    compL ρ t c e (l.map f) = ret ((l.filter p).map g)
  | [], _ => rfl
  | x :: l, h => by
    obtain ⟨h1, h2, h3⟩ := h x (.head _)
    rw [List.map_cons]
    unfold compL
    rw [h1, lift_some, bnd_ret, h2, bnd_ret, compL_map f ρ' p g l fun x hx => h x (.tail _ hx)]
    cases q : p x with
    | true => rw [if_pos rfl, h3 q]; simp [q]
    | false => simp [q]
theorem compL_all {α : Type} {ρ : Env} {t : D → Env → Option Env} {e : Env → M D} (f : α → D) (ρ' : α → Env) (g : α → D) : ∀ l : List α, (∀ x ∈ l, t (f x) ρ = some (ρ' x) ∧ e (ρ' x) = ret (g x)) →
    compL ρ t T.yes e (l.map f) = ret (l.map g)
  | [], _ => rfl
  | x :: l, h => by
    obtain ⟨h1, h3⟩ := h x (.head _)
    rw [List.map_cons]
    unfold compL
    rw [h1, lift_some, bnd_ret, u_tyes, bnd_ret, compL_all f ρ' g l fun x hx => h x (.tail _ hx), if_pos rfl, h3]
    rfl
theorem zipD_map {α β : Type} (f : α → D) (g : β → D) : ∀ (a : List α) (b : List β), zipD (a.map f) (b.map g) = (a.zip b).map fun p => .tup [f p.1, g p.2]
  | [], _ => by simp [zipD]
  | _ :: _, [] => by simp [zipD]
  | x :: a, y :: b => by simp [zipD, zipD_map f g a b]
theorem enumD_map {α : Type} (f : α → D) : ∀ (l : List α) (k : Nat), enumD (k : Int) (l.map f) = (l.zipIdx k).map fun p => .tup [.int p.2, f p.1]
  | [], _ => by simp [enumD]
  | x :: l, k => by
    have := enumD_map f l (k + 1)
    simp only [List.map_cons, enumD, List.zipIdx_cons]
    rw [← this]
    rfl
/-- a walk that goes through -/
theorem forL_pure {t : D → Env → Option Env} {b : SD} (f : D → Env → Env) : ∀ (ds : List D) (ρ : Env) (Inv : Env → Prop), Inv ρ → (∀ d ∈ ds, ∀ ρ, Inv ρ → Inv (f d ρ) ∧ ∃ ρ1, t d ρ = some ρ1 ∧ b ρ1 = ret (.next, f d ρ)) → forL t b ds ρ = ret (.next, ds.foldl (fun ρ d => f d ρ) ρ)
  | [], ρ, _, _, _ => rfl
  | d :: ds, ρ, Inv, h0, h => by
    obtain ⟨h1, ρ1, h2, h3⟩ := h d (.head _) ρ h0
    unfold forL
    rw [h2, lift_some, bnd_ret, h3, bnd_ret]
    exact forL_pure f ds _ Inv h1 fun x hx => h x (.tail _ hx)
/-! ### ints, clauses, bundles as data -/
abbrev cl (c : List Int) : D := .tup (c.map .int)
abbrev li (c : List Int) : D := .lst (c.map .int)
abbrev bu (n : Int) (cs : List (List Int)) : D := .tup [.int n, .tup (cs.map cl)]
theorem eqvAll_ints : ∀ a b : List Int, PyData.eqvAll (D.pys (a.map .int)) (D.pys (b.map .int)) = decide (a = b)
  | [], [] => by simp [D.pys, PyData.eqvAll]
  | [], _ :: _ => by simp [D.pys, PyData.eqvAll]
  | _ :: _, [] => by simp [D.pys, PyData.eqvAll]
  | x :: a, y :: b => by
    simp only [List.map_cons, D.pys, PyData.eqvAll, D.py, PyData.eqv, eqvAll_ints a b]
    by_cases h : x = y <;> simp [h]
theorem eqvAll_cls : ∀ a b : List (List Int), PyData.eqvAll (D.pys (a.map cl)) (D.pys (b.map cl)) = decide (a = b)
  | [], [] => by simp [D.pys, PyData.eqvAll]
  | [], _ :: _ => by simp [D.pys, PyData.eqvAll]
  | _ :: _, [] => by simp [D.pys, PyData.eqvAll]
  | x :: a, y :: b => by
    simp only [List.map_cons, D.pys, PyData.eqvAll, D.py, PyData.eqv, eqvAll_cls a b, eqvAll_ints]
    by_cases h : x = y <;> simp [h]
@[simp] theorem eq_int (a b : Int) : D.eq (.int a) (.int b) = decide (a = b) := by unfold D.eq; simp only [D.py, PyData.eqv]; by_cases h : a = b <;> simp [h]
@[simp] theorem eq_cl (a b : List Int) : D.eq (cl a) (cl b) = decide (a = b) := by unfold D.eq; simp only [D.py, PyData.eqv, eqvAll_ints]
@[simp] theorem eq_li (a b : List Int) : D.eq (li a) (li b) = decide (a = b) := by unfold D.eq; simp only [D.py, PyData.eqv, eqvAll_ints]
@[simp] theorem eq_bu (n m : Int) (a b : List (List Int)) : D.eq (bu n a) (bu m b) = (decide (n = m) && decide (a = b)) := by
  unfold D.eq; simp only [D.py, D.pys, PyData.eqv, PyData.eqvAll, eqvAll_cls, Bool.and_true]
  by_cases h : n = m <;> simp [h]
theorem okds_ints (n : Nat) : ∀ a : List Int, D.okds n (a.map .int) = true
  | [] => by simp [D.okds]
  | x :: a => by simp [D.okds, D.okd, okds_ints n a]
@[simp] theorem okd_int (n : Nat) (i : Int) : D.okd n (.int i) = true := by simp [D.okd]
@[simp] theorem okd_cl (n : Nat) (a : List Int) : D.okd (n + 1) (cl a) = true := by simp [D.okd, okds_ints]
@[simp] theorem okd_li (n : Nat) (a : List Int) : D.okd (n + 1) (li a) = true := by simp [D.okd, okds_ints]
theorem okds_cls (n : Nat) : ∀ a : List (List Int), D.okds (n + 1) (a.map cl) = true
  | [] => by simp [D.okds]
  | x :: a => by simp [D.okds, okds_cls n a]
@[simp] theorem okd_bu (n : Nat) (i : Int) (a : List (List Int)) : D.okd (n + 3) (bu i a) = true := by simp [D.okd, D.okds, okds_cls]
theorem inL_int (x : Int) (a : List Int) : inL (.int x) (a.map .int) = decide (x ∈ a) := by
  unfold inL
  induction a with
  | nil => simp
  | cons y a ih =>
    rw [List.map_cons, List.any_cons, ih, eq_int]
    by_cases h : y = x
    · simp [h]
    · have h' : ¬ x = y := fun z => h z.symm
      simp [h, h']
@[simp] theorem inD_cl (x : Int) (a : List Int) : inD (.int x) (cl a) = some (.bl (decide (x ∈ a))) := by simp [inD, seqD, okds_ints, inL_int]
@[simp] theorem inD_li (x : Int) (a : List Int) : inD (.int x) (li a) = some (.bl (decide (x ∈ a))) := by simp [inD, seqD, okds_ints, inL_int]
@[simp] theorem notInD_cl (x : Int) (a : List Int) : notInD (.int x) (cl a) = some (.bl (!decide (x ∈ a))) := by simp [notInD, seqD, okds_ints, inL_int]
@[simp] theorem notInD_li (x : Int) (a : List Int) : notInD (.int x) (li a) = some (.bl (!decide (x ∈ a))) := by simp [notInD, seqD, okds_ints, inL_int]
theorem bools_map (p : α → Bool) : ∀ l : List α, bools (l.map fun x => .bl (p x)) = some (l.map p)
  | [] => rfl
  | x :: l => by simp [bools, bools_map p l]
theorem filter_map_comm {α β : Type} (f : α → β) (p : β → Bool) (l : List α) : (l.map f).filter p = (l.filter fun x => p (f x)).map f := by
  induction l with
  | nil => rfl
  | cons x l ih => simp only [List.map_cons, List.filter_cons, ih]; split <;> simp
end G
end L2
end GP1_
section GP2_
set_option Elab.async false
set_option linter.all false
set_option maxRecDepth 100000
set_option maxHeartbeats 1000000
namespace L2
namespace G
open PySem PySem.Spec PyProof.Rows
/-! ### rows of ints in order -/
def ltI : List Int → List Int → Bool
  | [], [] => false
  | [], _ :: _ => true
  | _ :: _, [] => false
  | x :: a, y :: b => decide (x < y) || (!decide (y < x) && ltI a b)
theorem toks_lt : ∀ a b : List Int, PyProof.Rows.lexLt itemOrd (PySem.W.keyToksAll (D.pys (a.map .int))) (PySem.W.keyToksAll (D.pys (b.map .int))) = ltI a b
  | [], [] => rfl
  | [], _ :: _ => rfl
  | _ :: _, [] => rfl
  | x :: a, y :: b => by
    have ih := toks_lt a b
    simp only [List.map_cons, D.pys, PySem.W.keyToksAll, D.py, PySem.W.keyToks, List.singleton_append]
    rw [lex_cons, lex_cons, ih]
    show (decide ((1 : Int) < 1) || (!decide ((1 : Int) < 1) && (decide (x < y) || (!decide (y < x) && ltI a b)))) = _
    simp [ltI]
theorem leD_cl (a b : List Int) : leD' (cl a) (cl b) = !ltI b a := by
  show (!PyProof.Rows.lexLt itemOrd (PySem.W.keyToksAll (D.pys (b.map .int))) (PySem.W.keyToksAll (D.pys (a.map .int)))) = _
  rw [toks_lt]
theorem lexGe_eq : ∀ a b : List Int, lexGe a b = !ltI a b
  | [], [] => rfl
  | [], _ :: _ => rfl
  | _ :: _, [] => rfl
  | x :: a, y :: b => by
    unfold lexGe ltI
    rw [lexGe_eq a b]
    by_cases h : x = y
    · subst h; simp
    · rw [if_neg h]
      by_cases l : x < y
      · have : ¬ y ≤ x := by omega
        simp [l, this]
      · have l2 : y < x := by omega
        have : y ≤ x := by omega
        simp [l, l2, this]
def leI (a b : List Int) : Bool := !ltI b a
theorem ltI_irrefl : ∀ a : List Int, ltI a a = false
  | [] => rfl
  | x :: a => by simp [ltI, ltI_irrefl a]
theorem ltI_trans : ∀ a b c : List Int, ltI a b = true → ltI b c = true → ltI a c = true
  | [], [], c, h, _ => by cases h
  | [], _ :: _, [], _, h => by cases h
  | [], _ :: _, _ :: _, _, _ => rfl
  | _ :: _, [], _, h, _ => by cases h
  | _ :: _, _ :: _, [], _, h => by cases h
  | x :: a, y :: b, z :: c, h1, h2 => by
    have ih := ltI_trans a b c
    simp only [ltI, Bool.or_eq_true, Bool.and_eq_true, decide_eq_true_eq, Bool.not_eq_true', decide_eq_false_iff_not] at h1 h2 ⊢
    rcases h1 with h1 | ⟨h1, h1'⟩ <;> rcases h2 with h2 | ⟨h2, h2'⟩
    · exact .inl (by omega)
    · exact .inl (by omega)
    · exact .inl (by omega)
    · by_cases l : x < z
      · exact .inl l
      · exact .inr ⟨by omega, ih h1' h2'⟩
theorem ltI_tri : ∀ a b : List Int, ltI a b = false → ltI b a = false → a = b
  | [], [], _, _ => rfl
  | [], _ :: _, h, _ => by cases h
  | _ :: _, [], _, h => by cases h
  | x :: a, y :: b, h1, h2 => by
    simp only [ltI, Bool.or_eq_false_iff, decide_eq_false_iff_not] at h1 h2
    have e : x = y := by omega
    subst e
    have := ltI_tri a b (by simpa using h1.2) (by simpa using h2.2)
    rw [this]
theorem ltI_asymm {a b : List Int} (h : ltI a b = true) : ltI b a = false := by
  cases q : ltI b a with
  | false => rfl
  | true => have := ltI_trans a b a h q; rw [ltI_irrefl] at this; cases this
theorem leI_trans (a b c : List Int) (h1 : leI a b = true) (h2 : leI b c = true) : leI a c = true := by
  unfold leI at *
  simp only [Bool.not_eq_true'] at *
  cases q : ltI c a with
  | false => rfl
  | true =>
    -- c < a; b ≤ c, a ≤ b
    cases l : ltI b c with
    | true => have := ltI_trans b c a l q; rw [h1] at this; cases this
    | false =>
      have e := ltI_tri b c l h2
      subst e
      rw [q] at h1; cases h1
theorem leI_total (a b : List Int) : (leI a b || leI b a) = true := by
  unfold leI
  cases h : ltI b a with
  | false => rfl
  | true => simp [ltI_asymm h]
theorem sort_cls (l : List (List Int)) : (l.map cl).mergeSort leD' = (l.mergeSort leI).map cl := by
  rw [List.map_mergeSort (r := leI) (s := leD')]
  intro a _ b _
  rw [leD_cl]; rfl
theorem sortL_cls (l : List (List Int)) : sortL (l.map cl) = some ((l.mergeSort leI).map cl) := by
  unfold sortL
  have h1 : (shapes.any fun sh => (l.map cl).all (D.is sh)) = true := by
    refine List.any_eq_true.mpr ⟨.t .i, by simp [shapes], ?_⟩
    rw [List.all_eq_true]
    intro d hd
    obtain ⟨c, _, rfl⟩ := List.mem_map.mp hd
    simp only [cl, D.is]
    rw [List.all_eq_true]
    intro e he
    obtain ⟨x, _, rfl⟩ := List.mem_map.mp he
    rfl
  rw [h1, okds_cls, sort_cls]
  rfl
/-- sorted, and none twice -/
theorem sorted_strict {l : List (List Int)} (nd : l.Nodup) : (l.mergeSort leI).Pairwise fun a b => ltI a b = true := by
  have h1 := List.pairwise_mergeSort leI_trans leI_total l
  have h2 : (l.mergeSort leI).Nodup := (List.mergeSort_perm l leI).nodup_iff.mpr nd
  have := h1.and h2
  refine this.imp fun {a b} h => ?_
  cases q : ltI a b with
  | true => rfl
  | false =>
    have : ltI b a = false := by have := h.1; unfold leI at this; simpa using this
    exact absurd (ltI_tri a b q this) h.2
end G
end L2
end GP2_
section GP3_
set_option Elab.async false
set_option linter.all false
set_option maxRecDepth 100000
set_option maxHeartbeats 1000000
namespace L2
namespace G
open PySem PySem.Spec PyProof.Rows
/-! ### data without frozen tuples, dicts, cells -/
mutual
def D.nf : D → Bool
  | .tup xs => D.nfs xs
  | .lst xs => D.nfs xs
  | .ftup _ => false
  | .dct _ _ _ => false
  | .ref _ => false
  | _ => true
def D.nfs : List D → Bool
  | [] => true
  | d :: ds => d.nf && D.nfs ds
end
theorem nfs_mem {ds : List D} (h : D.nfs ds = true) : ∀ d ∈ ds, d.nf = true := by
  induction ds with
  | nil => intro d hd; cases hd
  | cons x ds ih =>
    simp only [D.nfs, Bool.and_eq_true] at h
    intro d hd
    rcases List.mem_cons.mp hd with rfl | hd
    · exact h.1
    · exact ih h.2 d hd
end G
end L2
end GP3_
section GP4_
set_option Elab.async false
set_option linter.all false
set_option maxRecDepth 100000
set_option maxHeartbeats 2000000
namespace L2
namespace G
open PySem PySem.Spec PyProof.Rows
/-! ### how statements run; data of any kind -/
def nameOf (i : Int) : Int := if i < 0 then -i else i
def meets (s c : List Int) : Bool := c.any fun x => decide (x ∈ s)
def touches (s c : List Int) : Bool := c.any fun x => decide (x ∈ s) || decide (-x ∈ s)
def rising (l : List Int) : Bool := (l.zip l.tail).all fun p => decide (p.1 < p.2)
def litOk (n x : Int) : Bool := decide (1 ≤ nameOf x) && decide (nameOf x ≤ n)
def isCl (n : Int) (c : List Int) : Bool := c.all (litOk n) && rising (c.map nameOf)
theorem mem_zipIdx' {α : Type} {l : List α} {x : α} {i k : Nat} (h : (x, i) ∈ l.zipIdx k) : k ≤ i ∧ l[i - k]? = some x := by
  rw [List.mem_zipIdx_iff_le_and_getElem?_sub] at h
  exact h
theorem ints_map : ∀ l : List Int, intsD (l.map .int) = some l
  | [] => rfl
  | x :: l => by simp [intsD, ints_map l]
theorem ix_tup {α : Type} (f : α → D) {l : List α} {j : Nat} {x : α} (h : l[j]? = some x) : ixD' (.tup (l.map f)) (.int j) = some (f x) := by
  obtain ⟨hj, e⟩ := List.getElem?_eq_some_iff.mp h
  show atI (l.map f) j = _
  unfold atI ixN
  rw [if_pos (by omega), if_pos (by rw [List.length_map]; omega)]
  simp [h]
def firstSome {α β : Type} (f : α → Option β) : List α → Option β
  | [] => none
  | x :: xs => (match f x with
    | some y => some y
    | none => firstSome f xs)
/-- a walk that may end with an answer -/
theorem forL_find {α : Type} {t : D → Env → Option Env} {b : SD} (f : α → D) (ans : α → Option D) (Inv : Env → Prop) (st : Store) : ∀ (l : List α) (ρ : Env), Inv ρ → (∀ x ∈ l, ∀ ρ, Inv ρ → ∃ ρ1 ρ2, t (f x) ρ = some ρ1 ∧ (match ans x with
      | none => run (b ρ1) st = .ok (.next, ρ2) st ∧ Inv ρ2
      | some d => run (b ρ1) st = .ok (.ret d, ρ2) st)) →
    ∃ ρ', (match firstSome ans l with
      | none => run (forL t b (l.map f) ρ) st = .ok (.next, ρ') st ∧ Inv ρ'
      | some d => run (forL t b (l.map f) ρ) st = .ok (.ret d, ρ') st)
  | [], ρ, h, _ => ⟨ρ, rfl, h⟩
  | x :: l, ρ, h, hs => by
    obtain ⟨ρ1, ρ2, h1, h2⟩ := hs x (.head _) ρ h
    simp only [List.map_cons, firstSome]
    unfold forL
    rw [h1, lift_some, bnd_ret]
    cases a : ans x with
    | none =>
      rw [a] at h2
      obtain ⟨h2, h3⟩ := h2
      have := forL_find f ans Inv st l ρ2 h3 fun x hx => hs x (.tail _ hx)
      rw [run_bnd h2]
      exact this
    | some d =>
      rw [a] at h2
      exact ⟨ρ2, by rw [run_bnd h2]; rfl⟩
def upto (n : Int) : List Int := (List.range n.toNat).map fun k : Nat => (k : Int) + 1
theorem mem_upto {n x : Int} : x ∈ upto n ↔ 1 ≤ x ∧ x ≤ n := by
  unfold upto
  simp only [List.mem_map, List.mem_range]
  constructor
  · rintro ⟨k, hk, rfl⟩; omega
  · rintro ⟨h1, h2⟩; exact ⟨(x - 1).toNat, by omega, by omega⟩
theorem upto_sorted (n : Int) : (upto n).Pairwise (· < ·) := by
  unfold upto
  rw [List.pairwise_map]
  exact (List.pairwise_lt_range (n := n.toNat)).imp fun {a b} h => by omega
theorem rangeD_upto (n : Int) : rangeD 1 (n + 1) = (upto n).map .int := by
  unfold rangeD upto
  rw [List.map_map]
  have : (n + 1 - 1).toNat = n.toNat := by congr 1; omega
  rw [this]
  apply List.map_congr_left
  intro k _
  show D.int (1 + (k : Int)) = D.int ((k : Int) + 1)
  congr 1; omega
theorem rng2_upto {n : Int} (h1 : 1 ≤ n) (h2 : n ≤ 7) : rng2 [.int 1, .int (n + 1)] = some ((upto n).map .int) := by
  show (if -1000000 ≤ (1 : Int) ∧ (1 : Int) ≤ 1000000 ∧ -1000000 ≤ n + 1 ∧ n + 1 ≤ 1000000 then some (rangeD 1 (n + 1)) else none) = _
  rw [if_pos (by omega), rangeD_upto]
def mixed (c k : Int) : Int := (c % 2147483647 * (48271 + 2 * k * k) + 69621 * k + 11) % 2147483647 * 69621 % 2147483629
theorem p64 : (2 : Int) ^ 64 = 18446744073709551616 := by decide
theorem mul_ok {i j : Int} (h : (-18446744073709551616 < i ∧ i < 18446744073709551616) ∨ (-18446744073709551616 < j ∧ j < 18446744073709551616)) : mulD (.int i) (.int j) = some (.int (i * j)) := if_pos (by rw [p64]; exact h)
theorem mod_ok {i j : Int} (h : 0 < j) : modD (.int i) (.int j) = some (.int (i % j)) := if_pos h
theorem add_ok (i j : Int) : addD (.int i) (.int j) = some (.int (i + j)) := rfl
theorem int_ok (i : Int) : intD [.int i] = some (.int i) := rfl
theorem fdiv_ok {i j : Int} (h : 0 < j ∧ j < 1073741824) : fdivD (.int i) (.int j) = some (.int (i / j)) := if_pos h
theorem run_bnd' {α β : Type} {m : M α} {k : α → M β} {st : Store} : run (bnd m k) st = match run m st with
  | .ok a s' => run (k a) s'
  | .exc x s' => .exc x s'
  | .bad => .bad := rfl
def BIG : Nat := 1000000000000
theorem ix_run {a b : Env → M D} {ρ : Env} {st st' st1 : Store} {x y d : D} (ha : run (a ρ) st = .ok x st') (hb : run (b ρ) st' = .ok y st1) (hg : ixD' x y = some d) : run (E.ix a b ρ) st = .ok d st1 := op2_run ha hb hg
theorem erase_map {α β : Type} (f : α → β) : ∀ (l : List α) (j : Nat), (l.map f).eraseIdx j = (l.eraseIdx j).map f
  | [], _ => by simp
  | x :: l, 0 => by simp
  | x :: l, j + 1 => by simp [erase_map f l j]
theorem for_step {t : D → Env → Option Env} {b : SD} {d : D} {r : List D} {ρ ρ1 ρ2 : Env} {st st' : Store} (h1 : t d ρ = some ρ1) (h2 : run (b ρ1) st = .ok (.next, ρ2) st') : run (forL t b (d :: r) ρ) st = run (forL t b r ρ2) st' := by
  have z : forL t b (d :: r) ρ = bnd (lift (t d ρ)) _ := rfl
  rw [z, h1, lift_some, bnd_ret, run_bnd h2]
theorem rng1_ok {m : Int} (h0 : 0 ≤ m) (h1 : m ≤ 1000) : ∃ ds, rng1 [.int m] = some ds ∧ ds.length = m.toNat := by
  refine ⟨rangeD 0 m, ?_, ?_⟩
  · show (if -1000000 ≤ m ∧ m ≤ 1000000 then some (rangeD 0 m) else none) = _
    rw [if_pos (by omega)]
  · unfold rangeD; simp
theorem litOk_pos {N x : Int} (h1 : 1 ≤ x) (h2 : x ≤ N) : litOk N x = true ∧ litOk N (0 - x) = true ∧ nameOf x = x ∧ nameOf (0 - x) = x := by
  have e1 : nameOf x = x := by unfold nameOf; rw [if_neg (by omega)]
  have e2 : nameOf (0 - x) = x := by unfold nameOf; rw [if_pos (by omega)]; omega
  refine ⟨?_, ?_, e1, e2⟩ <;> simp only [litOk, e1, e2, Bool.and_eq_true, decide_eq_true_eq] <;> omega
theorem par_run {i j : Nat} {a b : Env → M D} {ρ : Env} {st st1 st2 : Store} {x y : D} (ha : run (a ρ) st = .ok x st1) (hb : run (b ρ) st1 = .ok y st2) : run (S.par i j a b ρ) st = .ok (.next, List.set (List.set ρ i (some x)) j (some y)) st2 := by
  have z : S.par i j a b ρ = bnd (a ρ) _ := rfl
  rw [z, run_bnd ha, run_bnd hb]
  rfl
theorem tup_run {r : Env → M (List D)} {ρ : Env} {st st1 : Store} {xs : List D} (h : run (r ρ) st = .ok xs st1) : run (E.tup r ρ) st = .ok (.tup xs) st1 := by
  have z : E.tup r ρ = bnd (r ρ) _ := rfl
  rw [z, run_bnd h]
  rfl
theorem range_run {e : Env → M D} {ρ : Env} {st st1 : Store} {m : Int} {ds : List D} (h : run (e ρ) st = .ok (.int m) st1) (hd : rng1 [.int m] = some ds) : run (I.range rng1 (A.cons e A.nil) ρ) st = .ok ds st1 := by
  have z : I.range rng1 (A.cons e A.nil) ρ = bnd (bnd (e ρ) _) _ := rfl
  rw [z, bnd_bnd, run_bnd h]
  simp [hd]
theorem for_run {i : Env → M (List D)} {t : D → Env → Option Env} {b : SD} {ρ ρ' : Env} {st st1 st2 : Store} {ds : List D} {f : Fl} (h : run (i ρ) st = .ok ds st1) (hf : run (forL t b ds ρ) st1 = .ok (f, ρ') st2) : run (S.for_ i t b ρ) st = .ok (f, ρ') st2 := by
  rw [u_sfor, run_bnd h]; exact hf
theorem pow_ok : powD (.int 10) (.int 18) = some (.int 1000000000000000000) := by
  show (if (0 : Int) ≤ 18 ∧ (18 : Int) ≤ 1000000 ∧ (10 : Int).natAbs < 2 ^ 64 then some (D.int (10 ^ (18 : Int).toNat)) else none) = _
  rw [if_pos (by decide)]
  congr 2
theorem imms_ints : ∀ l : List Int, D.imms (l.map .int) = true
  | [] => rfl
  | x :: l => by simp [D.imms, D.imm, imms_ints l]
def lefts (l : List Int) : List Int := l.map fun c => if 1000000000000000000 ≤ c then c else 0
def cellsOf (ns : List Int) : List Int := if ns = [] then [0] else ns
theorem any_of {α : Type} (p : α → Bool) (l : List α) : anyD [.lst (l.map fun x => D.bl (p x))] = some (.bl (l.any p)) := by
  show Option.map (fun bs => D.bl (bs.any id)) (bools (l.map fun x => D.bl (p x))) = _
  rw [bools_map]
  simp [Function.comp_def]
theorem all_of {α : Type} (p : α → Bool) (l : List α) : allD [.lst (l.map fun x => D.bl (p x))] = some (.bl (l.all p)) := by
  show Option.map (fun bs => D.bl (bs.all id)) (bools (l.map fun x => D.bl (p x))) = _
  rw [bools_map]
  simp [Function.comp_def]
theorem fn1 (N : Nat) (b : SD) (a : D) : fnD (N + 1) b [a] = fnM (b (some a :: List.replicate N none)) := rfl
theorem fn2 (N : Nat) (b : SD) (a c : D) : fnD (N + 2) b [a, c] = fnM (b (some a :: some c :: List.replicate N none)) := rfl
theorem fn3 (N : Nat) (b : SD) (a c d : D) : fnD (N + 3) b [a, c, d] = fnM (b (some a :: some c :: some d :: List.replicate N none)) := rfl
theorem forL_all {t : D → Env → Option Env} {b : SD} (Inv : Env → Prop) (p : D → Bool) : ∀ (ds : List D) (ρ : Env), Inv ρ → (∀ d ∈ ds, ∀ ρ, Inv ρ → ∃ ρ1, t d ρ = some ρ1 ∧ (p d = true → ∃ ρ2, b ρ1 = ret (.next, ρ2) ∧ Inv ρ2) ∧ (p d = false → ∃ ρ2, b ρ1 = ret (.ret (.bl false), ρ2))) →
    (ds.all p = true ∧ ∃ ρ', forL t b ds ρ = ret (.next, ρ') ∧ Inv ρ') ∨ (ds.all p = false ∧ ∃ ρ', forL t b ds ρ = ret (.ret (.bl false), ρ'))
  | [], ρ, h, _ => .inl ⟨rfl, ρ, rfl, h⟩
  | d :: ds, ρ, h, k => by
    obtain ⟨ρ1, e1, kt, kf⟩ := k d (.head _) ρ h
    cases hp : p d with
    | true =>
      obtain ⟨ρ2, e2, h2⟩ := kt hp
      rcases forL_all Inv p ds ρ2 h2 fun x hx => k x (.tail _ hx) with ⟨q, ρ', e3, h3⟩ | ⟨q, ρ', e3⟩
      · refine .inl ⟨by rw [List.all_cons, hp, q]; rfl, ρ', ?_, h3⟩
        unfold forL
        rw [e1, lift_some, bnd_ret, e2, bnd_ret]
        exact e3
      · refine .inr ⟨by rw [List.all_cons, hp, q]; rfl, ρ', ?_⟩
        unfold forL
        rw [e1, lift_some, bnd_ret, e2, bnd_ret]
        exact e3
    | false =>
      obtain ⟨ρ2, e2⟩ := kf hp
      refine .inr ⟨by rw [List.all_cons, hp]; rfl, ρ2, ?_⟩
      unfold forL
      rw [e1, lift_some, bnd_ret, e2, bnd_ret]
theorem cut_from (xs : List D) (k : Nat) : cutD xs (some (k : Int)) none = xs.drop k := by
  unfold cutD
  rw [HT.sIx_nat, HT.sIx_none, List.take_of_length_le (by rw [List.length_drop]; omega)]
  by_cases h : k ≤ xs.length
  · rw [Nat.min_eq_left h]
  · rw [Nat.min_eq_right (by omega), List.drop_eq_nil_of_le (Nat.le_refl _), List.drop_eq_nil_of_le (by omega)]
theorem slice_tup (ts : List D) (a b : Option Int) : sliceD (.tup ts) a b = some (.tup (cutD ts a b)) := rfl
theorem all_ext {α : Type} {p q : α → Bool} : ∀ {l : List α}, (∀ x ∈ l, p x = q x) → l.all p = l.all q
  | [], _ => rfl
  | x :: l, h => by rw [List.all_cons, List.all_cons, h x (.head _), all_ext fun y hy => h y (.tail _ hy)]
theorem rng1_nat {k : Nat} (h : k ≤ 1000) : rng1 [.int (k : Nat)] = some ((List.range k).map fun i : Nat => .int (i : Int)) := by
  show (if -1000000 ≤ ((k : Nat) : Int) ∧ ((k : Nat) : Int) ≤ 1000000 then some (rangeD 0 k) else none) = _
  rw [if_pos (by omega)]
  unfold rangeD
  have : ((k : Int) - 0).toNat = k := by omega
  rw [this]
  congr 1
  apply List.map_congr_left
  intro i _
  show D.int (0 + (i : Int)) = D.int (i : Int)
  congr 1; omega
theorem upto_len (n : Int) : (upto n).length = n.toNat := by simp [upto]
theorem rng2_upto0 {n : Int} (h1 : 0 ≤ n) (h2 : n ≤ 7) : rng2 [.int 1, .int (n + 1)] = some ((upto n).map .int) := by
  show (if -1000000 ≤ (1 : Int) ∧ (1 : Int) ≤ 1000000 ∧ -1000000 ≤ n + 1 ∧ n + 1 ≤ 1000000 then some (rangeD 1 (n + 1)) else none) = _
  rw [if_pos (by omega), rangeD_upto]
theorem u_appX (φ : List D → M D) (r : Env → M (List D)) (ρ : Env) : E.appX φ r ρ = bnd (r ρ) fun xs => φ xs := rfl
theorem fn4 (N : Nat) (b : SD) (a c d e : D) : fnD (N + 4) b [a, c, d, e] = fnM (b (some a :: some c :: some d :: some e :: List.replicate N none)) := rfl
theorem fn5 (N : Nat) (b : SD) (a c d e f : D) : fnD (N + 5) b [a, c, d, e, f] = fnM (b (some a :: some c :: some d :: some e :: some f :: List.replicate N none)) := rfl
theorem ge_ok (a b : Int) : geD2 (.int a) (.int b) = some (.bl (decide (b ≤ a))) := rfl
theorem okd_mono {m n : Nat} (h : m ≤ n) : ∀ d : D, d.okd m = true → d.okd n = true := by
  have : ∀ k, (∀ d : D, ∀ m n, m ≤ n → sizeOf d ≤ k → d.okd m = true → d.okd n = true) := by
    intro k
    induction k with
    | zero => intro d m n _ hs _; cases d <;> simp at hs <;> omega
    | succ k ih =>
      intro d m n hmn hs hd
      have lst : ∀ (ds : List D) (m n : Nat), m ≤ n → sizeOf ds ≤ k → D.okds m ds = true → D.okds n ds = true := by
        intro ds
        induction ds with
        | nil => intro m n _ _ _; rfl
        | cons x ds ihd =>
          intro m n hmn hs h
          simp only [D.okds, Bool.and_eq_true] at h ⊢
          simp only [List.cons.sizeOf_spec] at hs
          exact ⟨ih x m n hmn (by omega) h.1, ihd m n hmn (by omega) h.2⟩
      cases d with
      | tup xs =>
        cases m with
        | zero => simp [D.okd] at hd
        | succ m => cases n with
          | zero => omega
          | succ n => simp only [D.okd] at hd ⊢; simp only [D.tup.sizeOf_spec] at hs; exact lst xs m n (by omega) (by omega) hd
      | lst xs =>
        cases m with
        | zero => simp [D.okd] at hd
        | succ m => cases n with
          | zero => omega
          | succ n => simp only [D.okd] at hd ⊢; simp only [D.lst.sizeOf_spec] at hs; exact lst xs m n (by omega) (by omega) hd
      | ftup xs =>
        cases m with
        | zero => simp [D.okd] at hd
        | succ m => cases n with
          | zero => omega
          | succ n => simp only [D.okd] at hd ⊢; simp only [D.ftup.sizeOf_spec] at hs; exact lst xs m n (by omega) (by omega) hd
      | str x => simpa [D.okd] using hd
      | dct t ks vs => simp [D.okd] at hd
      | ref j => simp [D.okd] at hd
      | _ => simp [D.okd]
  intro d
  exact this _ d m n h (Nat.le_refl _)
theorem le_ok (a b : Int) : leD (.int a) (.int b) = some (.bl (decide (a ≤ b))) := rfl
theorem sub_ok (i j : Int) : subD (.int i) (.int j) = some (.int (i - j)) := rfl
theorem eq_empty {m : Nat} {a : D} {ts : List D} (hm : m ≤ 60) (h : D.okd m (.tup (a :: ts)) = true) : eqD (.tup (a :: ts)) (.tup []) = some (.bl false) := by
  unfold eqD
  rw [okd_mono hm _ h]
  unfold D.eq
  simp [D.okd, D.okds, D.py, D.pys, PyData.eqv, PyData.eqvAll]
theorem neg_ok {i : Int} (h : (1 : Int) ≤ i ∧ i ≤ n) : litOk n i = true ∧ litOk n (0 - i) = true := by
  have a := litOk_pos h.1 h.2
  exact ⟨a.1, a.2.1⟩
theorem len_tup (ts : List D) : lenD [.tup ts] = some (.int (ts.length : Nat)) := rfl
theorem eq_ints (a b : Int) : eqD (.int a) (.int b) = some (.bl (decide (a = b))) := by simp [eqD]
theorem ne_ints (a b : Int) : neD (.int a) (.int b) = some (.bl (!decide (a = b))) := by simp [neD]
theorem forL_allR {t : D → Env → Option Env} {b : SD} {R : D} (Inv : Env → Prop) (p : D → Bool) : ∀ (ds : List D) (ρ : Env), Inv ρ → (∀ d ∈ ds, ∀ ρ, Inv ρ → ∃ ρ1, t d ρ = some ρ1 ∧ (p d = true → ∃ ρ2, b ρ1 = ret (.next, ρ2) ∧ Inv ρ2) ∧ (p d = false → ∃ ρ2, b ρ1 = ret (.ret R, ρ2))) →
    (ds.all p = true ∧ ∃ ρ', forL t b ds ρ = ret (.next, ρ') ∧ Inv ρ') ∨ (ds.all p = false ∧ ∃ ρ', forL t b ds ρ = ret (.ret R, ρ'))
  | [], ρ, h, _ => .inl ⟨rfl, ρ, rfl, h⟩
  | d :: ds, ρ, h, k => by
    obtain ⟨ρ1, e1, kt, kf⟩ := k d (.head _) ρ h
    cases hp : p d with
    | true =>
      obtain ⟨ρ2, e2, h2⟩ := kt hp
      rcases forL_allR Inv p ds ρ2 h2 fun x hx => k x (.tail _ hx) with ⟨ha, ρ', e, hi⟩ | ⟨ha, ρ', e⟩
      · refine .inl ⟨by rw [List.all_cons, hp, ha]; rfl, ρ', ?_, hi⟩
        unfold forL
        rw [e1, lift_some, bnd_ret, e2, bnd_ret]
        exact e
      · refine .inr ⟨by rw [List.all_cons, hp, ha]; rfl, ρ', ?_⟩
        unfold forL
        rw [e1, lift_some, bnd_ret, e2, bnd_ret]
        exact e
    | false =>
      obtain ⟨ρ2, e2⟩ := kf hp
      refine .inr ⟨by rw [List.all_cons, hp]; rfl, ρ2, ?_⟩
      unfold forL
      rw [e1, lift_some, bnd_ret, e2, bnd_ret]
def rz {α : Type} (x : Ex) : M α := fun st => .exc x st
theorem bnd_rz {α β : Type} (x : Ex) (k : α → M β) : bnd (rz x) k = rz x := rfl
theorem fnM_rz (x : Ex) : fnM (rz x) = rz x := rfl
theorem u_raise (x : Str) (fs : List Str) (r : Env → M (List D)) (ρ : Env) : S.raise x fs r ρ = bnd (r ρ) fun ds => rz ⟨x, fs.zip ds⟩ := rfl
theorem app3_run {φ : List D → M D} {a b c : Env → M D} {ρ : Env} {st st1 st2 st3 st4 : Store} {x y z d : D} (ha : run (a ρ) st = .ok x st1) (hb : run (b ρ) st1 = .ok y st2) (hc : run (c ρ) st2 = .ok z st3) (hg : run (φ [x, y, z]) st3 = .ok d st4) :
    run (E.app φ (A.cons a (A.cons b (A.cons c A.nil))) ρ) st = .ok d st4 := by
  have e1 : E.app φ (A.cons a (A.cons b (A.cons c A.nil))) ρ = bnd (bnd (a ρ) _) _ := rfl
  rw [e1, bnd_bnd, run_bnd ha]
  have e2 : A.cons b (A.cons c A.nil) ρ = bnd (b ρ) _ := rfl
  rw [e2, bnd_bnd, bnd_bnd, run_bnd hb]
  have e3 : A.cons c A.nil ρ = bnd (c ρ) _ := rfl
  rw [e3, bnd_bnd, bnd_bnd, run_bnd hc]
  simp [run_noexc hg]
theorem expr_run {e : Env → M D} {ρ : Env} {st st' : Store} {d : D} (h : run (e ρ) st = .ok d st') : run (S.expr e ρ) st = .ok (.next, ρ) st' := by
  have z : S.expr e ρ = bnd (e ρ) _ := rfl
  rw [z, run_bnd h]
  rfl
theorem ite_t {tt : Env → M Bool} {s t : SD} {ρ : Env} {st st' : Store} (h : run (tt ρ) st = .ok true st') : run (S.ite tt s t ρ) st = run (s ρ) st' := (ite_run h).trans rfl
theorem ite_f {tt : Env → M Bool} {s t : SD} {ρ : Env} {st st' : Store} (h : run (tt ρ) st = .ok false st') : run (S.ite tt s t ρ) st = run (t ρ) st' := (ite_run h).trans rfl
theorem or_t {a b : Env → M Bool} {ρ : Env} {st st' : Store} (ha : run (a ρ) st = .ok true st') : run (T.or a b ρ) st = .ok true st' := by
  have z : T.or a b ρ = bnd (a ρ) _ := rfl
  rw [z, run_bnd ha]
  rfl
theorem or_f {a b : Env → M Bool} {ρ : Env} {st st' : Store} (ha : run (a ρ) st = .ok false st') : run (T.or a b ρ) st = run (b ρ) st' := by
  have z : T.or a b ρ = bnd (a ρ) _ := rfl
  rw [z, run_bnd ha]
  rfl
theorem cut_sub (ts : List D) (a b : Option Int) : (cutD ts a b).Sublist ts := by
  unfold cutD
  exact (List.take_sublist _ _).trans (List.drop_sublist _ _)
theorem append_run {i : Nat} {e : Env → M D} {ρ : Env} {st st' : Store} {ds : List D} {d : D} (hi : ρ[i]? = some (some (.lst ds))) (h : run (e ρ) st = .ok d st') (hl : ds.length < 900000) : run (S.append i e ρ) st = .ok (.next, List.set ρ i (some (.lst (ds ++ [d])))) st' := by
  unfold S.append
  rw [hi]
  show run (bnd (e ρ) fun d => if ds.length < LIM then G.ret (Fl.next, List.set ρ i (some (.lst (ds ++ [d])))) else G.bad) st = _
  rw [run_bnd h, if_pos (by unfold LIM; omega)]
  rfl
theorem ifx_run {tt : Env → M Bool} {a b : Env → M D} {ρ : Env} {st st' : Store} {q : Bool} (h : run (tt ρ) st = .ok q st') : run (E.ifx tt a b ρ) st = run (if q = true then a ρ else b ρ) st' := by
  have z : E.ifx tt a b ρ = bnd (tt ρ) _ := rfl
  rw [z, run_bnd h]
theorem asg_run {e : Env → M D} {t : D → Env → Option Env} {ρ ρ' : Env} {st st1 : Store} {d : D} (h : run (e ρ) st = .ok d st1) (ht : t d ρ = some ρ') : run (S.asg e t ρ) st = .ok (.next, ρ') st1 := by
  have z : S.asg e t ρ = bnd (e ρ) _ := rfl
  rw [z, run_bnd h, ht]
  rfl
theorem add_lst' {a b : List D} (h : a.length + b.length < 900000) : addLL (.lst a) (.lst b) = some (.lst (a ++ b)) := by
  show (if _ then _ else _) = _
  rw [if_pos]
  unfold LIM
  omega
theorem add_tup {a b : List D} (h : a.length + b.length < 900000) : addD (.tup a) (.tup b) = some (.tup (a ++ b)) := by
  show (if _ then _ else _) = _
  rw [if_pos]
  unfold LIM
  omega

theorem and_t {a b : Env → M Bool} {ρ : Env} {st st' : Store} (ha : run (a ρ) st = .ok true st') : run (T.and a b ρ) st = run (b ρ) st' := by
  have z : T.and a b ρ = bnd (a ρ) _ := rfl
  rw [z, run_bnd ha]
  rfl
theorem and_f {a b : Env → M Bool} {ρ : Env} {st st' : Store} (ha : run (a ρ) st = .ok false st') : run (T.and a b ρ) st = .ok false st' := by
  have z : T.and a b ρ = bnd (a ρ) _ := rfl
  rw [z, run_bnd ha]
  rfl
theorem cons_run {a : Env → M D} {r : Env → M (List D)} {ρ : Env} {st st1 st2 : Store} {x : D} {xs : List D} (ha : run (a ρ) st = .ok x st1) (hr : run (r ρ) st1 = .ok xs st2) : run (A.cons a r ρ) st = .ok (x :: xs) st2 := by
  have z : A.cons a r ρ = bnd (a ρ) _ := rfl
  rw [z, run_bnd ha, run_bnd hr]
  rfl
theorem nil_run {ρ : Env} {st : Store} : run (A.nil ρ) st = .ok [] st := rfl
theorem lst_run {r : Env → M (List D)} {ρ : Env} {st st1 : Store} {xs : List D} (h : run (r ρ) st = .ok xs st1) : run (E.lst r ρ) st = .ok (.lst xs) st1 := by
  have z : E.lst r ρ = bnd (r ρ) _ := rfl
  rw [z, run_bnd h]
  rfl
theorem lt_ok (a b : Int) : ltD (.int a) (.int b) = some (.bl (decide (a < b))) := rfl
theorem gt_ok (a b : Int) : gtD (.int a) (.int b) = some (.bl (decide (b < a))) := rfl
theorem seq_run {e : Env → M D} {ρ : Env} {st st' : Store} {d : D} {ds : List D} (h : run (e ρ) st = .ok d st') (hd : seqD d = some ds) : run (I.seq e ρ) st = .ok ds st' := by
  have z : I.seq e ρ = bnd (e ρ) _ := rfl
  rw [z, run_bnd h, hd]
  rfl
theorem comp_run {i : Env → M (List D)} {vs : List Nat} {t : D → Env → Option Env} {cc : Env → M Bool} {e : Env → M D} {ρ : Env} {st st1 st2 : Store} {ds rs : List D} (hi : run (i ρ) st = .ok ds st1) (hr : run (compL (wipeD ρ vs) t cc e ds) st1 = .ok rs st2) : run (E.comp i vs t cc e ρ) st = .ok (.lst rs) st2 := by
  have z : E.comp i vs t cc e ρ = bnd (i ρ) _ := rfl
  rw [z, run_bnd hi, run_bnd hr]
  rfl
theorem list_tup (ts : List D) : listD [.tup ts] = some (.lst ts) := rfl
theorem rev_tup (ts : List D) : revD (.tup ts) = some (.tup ts.reverse) := rfl
theorem neS_same (s : Str) : neS (.str s) (.str s) = some (.bl false) := by simp [neS]
theorem eqS_same (s : Str) : eqS (.str s) (.str s) = some (.bl true) := by simp [eqS]
theorem thunk_run {x : Str} {Φ : M D → M D} {f : Env → M D} {ρ : Env} {st : Store} {d : D} (ht : hasTab x st = true) (h : Φ (f ρ) = ret d) : run (E.thunk x Φ f ρ) st = .ok d st := by
  show E.thunk x Φ f ρ st = _
  unfold E.thunk
  rw [if_pos ht, h]
  rfl
theorem appX_run {φ : List D → M D} {r : Env → M (List D)} {ρ : Env} {st st1 st2 : Store} {xs : List D} {d : D} (h : run (r ρ) st = .ok xs st1) (hg : run (φ xs) st1 = .ok d st2) : run (E.appX φ r ρ) st = .ok d st2 := by
  have z : E.appX φ r ρ = bnd (r ρ) _ := rfl
  rw [z, run_bnd h]
  exact hg
/-- a walk under an invariant that knows how many turns are left -/
theorem forL_inv {t : D → Env → Option Env} {b : SD} (I : Nat → Env → Store → Prop) : ∀ (ds : List D) (ρ : Env) (st : Store), (∀ d ∈ ds, ∀ k ρ st, I (k + 1) ρ st → ∃ ρ1 ρ2 st2, t d ρ = some ρ1 ∧ run (b ρ1) st = .ok (.next, ρ2) st2 ∧ I k ρ2 st2) → I ds.length ρ st → ∃ ρ' st', run (forL t b ds ρ) st = .ok (.next, ρ') st' ∧ I 0 ρ' st'
  | [], ρ, st, _, h0 => ⟨ρ, st, rfl, h0⟩
  | d :: ds, ρ, st, h, h0 => by
    obtain ⟨ρ1, ρ2, st2, h1, h2, h3⟩ := h d (.head _) ds.length ρ st h0
    obtain ⟨ρ', st', h4, h5⟩ := forL_inv I ds ρ2 st2 (fun x hx => h x (.tail _ hx)) h3
    exact ⟨ρ', st', (for_step h1 h2).trans h4, h5⟩
theorem exc_bnd {α β : Type} {m : M α} {k : α → M β} {st st' : Store} {x : Ex} (h : run m st = .exc x st') : run (bnd m k) st = .exc x st' := by
  unfold run bnd at *; rw [h]
theorem fnM_exc {m : M (Fl × Env)} {st st' : Store} {x : Ex} (h : run m st = .exc x st') : run (fnM m) st = .exc x st' := by
  unfold run fnM at *; rw [h]
theorem seq_exc {s t : SD} {ρ : Env} {st st' : Store} {x : Ex} (h : run (s ρ) st = .exc x st') : run (S.seq s t ρ) st = .exc x st' := exc_bnd h
theorem expr_exc {e : Env → M D} {ρ : Env} {st st' : Store} {x : Ex} (h : run (e ρ) st = .exc x st') : run (S.expr e ρ) st = .exc x st' := exc_bnd h
theorem set_exc {e : Env → M D} {i : Nat} {ρ : Env} {st st' : Store} {x : Ex} (h : run (e ρ) st = .exc x st') : run (S.set i e ρ) st = .exc x st' := exc_bnd h
theorem ret_exc {e : Env → M D} {ρ : Env} {st st' : Store} {x : Ex} (h : run (e ρ) st = .exc x st') : run (S.ret e ρ) st = .exc x st' := exc_bnd h
theorem appX_exc {φ : List D → M D} {r : Env → M (List D)} {ρ : Env} {st st1 st2 : Store} {xs : List D} {x : Ex} (h : run (r ρ) st = .ok xs st1) (hg : run (φ xs) st1 = .exc x st2) : run (E.appX φ r ρ) st = .exc x st2 := by
  have z : E.appX φ r ρ = bnd (r ρ) _ := rfl
  rw [z, run_bnd h]
  exact hg
theorem op2_exc1 {g : D → D → Option D} {a b : Env → M D} {ρ : Env} {st st' : Store} {x : Ex} (h : run (a ρ) st = .exc x st') : run (E.op2 g a b ρ) st = .exc x st' := exc_bnd h
theorem thunk_runS {x : Str} {Φ : M D → M D} {f : Env → M D} {ρ : Env} {st st' : Store} {d : D} (ht : hasTab x st = true) (h : run (Φ (f ρ)) st = .ok d st') : run (E.thunk x Φ f ρ) st = .ok d st' := by
  show E.thunk x Φ f ρ st = _
  unfold E.thunk
  rw [if_pos ht]
  exact run_noexc h
theorem appN_run {φ : List D → M D} {r : Env → M (List D)} {ρ : Env} {st : Store} {xs : List D} (h : r ρ = ret xs) : run (E.appN φ r ρ) st = run (φ xs) st := by
  have z : E.appN φ r ρ = bnd (noexc (r ρ)) _ := rfl
  rw [z, h]
  rfl
end G
end L2
end GP4_
section GP5_
set_option Elab.async false
set_option linter.all false
set_option maxRecDepth 100000
set_option maxHeartbeats 2000000
namespace L2
namespace G
open PySem PySem.Spec PyProof.Rows
/-! ### what a run ends with -/
def Wp {α : Type} (m : M α) (st : Store) (P : α → Store → Prop) : Prop := ∃ a st', m st = .ok a st' ∧ P a st'
section
variable {α β : Type} {m : M α} {k : α → M β} {st st' : Store} {P : α → Store → Prop} {Q : β → Store → Prop} {a : α}
theorem Wp_bnd : Wp (bnd m k) st Q ↔ Wp m st fun a s => Wp (k a) s Q := by
  unfold Wp bnd
  constructor
  · rintro ⟨b, s, h, q⟩
    cases e : m st with
    | ok a s1 => rw [e] at h; exact ⟨a, s1, rfl, b, s, h, q⟩
    | exc x s1 => rw [e] at h; cases h
    | bad => rw [e] at h; cases h
  · rintro ⟨a, s1, e, b, s, h, q⟩
    exact ⟨b, s, by rw [e]; exact h, q⟩
theorem Wp_ret : Wp (ret a) st P ↔ P a st := ⟨fun ⟨_, _, h, q⟩ => (by cases h; exact q), fun q => ⟨a, st, rfl, q⟩⟩
theorem Wp_lift {o : Option α} : Wp (lift o) st P ↔ ∃ a, o = some a ∧ P a st := by
  cases o with
  | none => exact ⟨fun ⟨_, _, h, _⟩ => (by cases h), fun ⟨_, h, _⟩ => (by cases h)⟩
  | some a => exact ⟨fun ⟨_, _, h, q⟩ => (by cases h; exact ⟨a, rfl, q⟩), fun ⟨b, h, q⟩ => (by cases h; exact ⟨a, st, rfl, q⟩)⟩
theorem Wp_noexc : Wp (noexc m) st P ↔ Wp m st P := by
  unfold Wp noexc
  constructor
  · rintro ⟨b, s, h, q⟩
    cases e : m st with
    | ok a s1 => rw [e] at h; exact ⟨b, s, h, q⟩
    | exc x s1 => rw [e] at h; cases h
    | bad => rw [e] at h; cases h
  · rintro ⟨a, s1, e, q⟩
    exact ⟨a, s1, by rw [e], q⟩
theorem Wp_bad : Wp (bad : M α) st P ↔ False := ⟨fun ⟨_, _, h, _⟩ => (by cases h), False.elim⟩
theorem Wp.mono {P' : α → Store → Prop} (h : Wp m st P) (k : ∀ a s, P a s → P' a s) : Wp m st P' := let ⟨a, s, e, q⟩ := h; ⟨a, s, e, k a s q⟩
theorem Wp.of_run (h : run m st = .ok a st') (q : P a st') : Wp m st P := ⟨a, st', h, q⟩
theorem Wp.ofEq (h : m = ret a) (q : P a st) : Wp m st P := ⟨a, st, by rw [h]; rfl, q⟩
theorem Wp.run (h : Wp m st P) : ∃ a st', run m st = .ok a st' ∧ P a st' := h
theorem Wp_fnM {m : M (Fl × Env)} {P : D → Store → Prop} : Wp (fnM m) st P ↔ Wp m st fun q s => match q.1 with
    | .ret d => P d s
    | .next => P .non s
    | _ => False := by
  unfold Wp fnM
  constructor
  · rintro ⟨b, s, h, q⟩
    cases e : m st with
    | ok a s1 =>
      rw [e] at h
      dsimp only at h
      refine ⟨a, s1, rfl, ?_⟩
      cases e1 : a.1 with
      | ret d => rw [e1] at h; cases h; rw [e1]; exact q
      | next => rw [e1] at h; cases h; rw [e1]; exact q
      | brk => rw [e1] at h; cases h
      | cont => rw [e1] at h; cases h
    | exc x s1 => rw [e] at h; cases h
    | bad => rw [e] at h; cases h
  · rintro ⟨a, s1, e, q⟩
    cases e1 : a.1 with
    | ret d => rw [e1] at q; exact ⟨d, s1, by rw [e]; dsimp only; rw [e1], q⟩
    | next => rw [e1] at q; exact ⟨.non, s1, by rw [e]; dsimp only; rw [e1], q⟩
    | brk => rw [e1] at q; exact q.elim
    | cont => rw [e1] at q; exact q.elim
theorem Wp_ite {c : Prop} [Decidable c] {m n : M α} : Wp (if c then m else n) st P ↔ (c → Wp m st P) ∧ (¬ c → Wp n st P) := by
  by_cases h : c
  · rw [if_pos h]; exact ⟨fun q => ⟨fun _ => q, fun z => absurd h z⟩, fun q => q.1 h⟩
  · rw [if_neg h]; exact ⟨fun q => ⟨fun z => absurd z h, fun _ => q⟩, fun q => q.2 h⟩
end
section
variable {e : Env → M D} {ρ : Env} {st : Store} {i : Nat} {ds : List D} {P : Fl × Env → Store → Prop} {t : D → Env → Option Env} {b : SD}
theorem Wp_append (hi : ρ[i]? = some (some (.lst ds))) (hl : ds.length < LIM) (h : Wp (e ρ) st fun d s => P (.next, List.set ρ i (some (.lst (ds ++ [d])))) s) : Wp (S.append i e ρ) st P := by
  unfold S.append
  rw [hi]
  exact Wp_bnd.mpr (h.mono fun d s q => by rw [if_pos hl]; exact Wp_ret.mpr q)
theorem Wp_thunk {x : Str} {Φ : M D → M D} {f : Env → M D} {P : D → Store → Prop} (ht : hasTab x st = true) (h : Wp (Φ (f ρ)) st P) : Wp (E.thunk x Φ f ρ) st P := by
  obtain ⟨a, s, e, q⟩ := h
  exact ⟨a, s, thunk_runS ht e, q⟩
/-- a walk: an invariant, turns left; it may end by a return -/
theorem Wp_forL (I : Nat → Env → Store → Prop) (R : D → Store → Prop) : ∀ (ds : List D) (ρ : Env) (st : Store), I ds.length ρ st → (∀ d ∈ ds, ∀ k ρ st, I (k + 1) ρ st → Wp (bnd (lift (t d ρ)) b) st fun q s => match q.1 with
      | .next => I k q.2 s
      | .cont => I k q.2 s
      | .ret d => R d s
      | .brk => False) →
    Wp (forL t b ds ρ) st fun q s => match q.1 with
      | .next => I 0 q.2 s
      | .ret d => R d s
      | _ => False
  | [], ρ, st, h0, _ => Wp_ret.mpr h0
  | d :: ds, ρ, st, h0, h => by
    unfold forL
    have h1 := Wp_bnd.mp (h d (.head _) ds.length ρ st h0)
    refine Wp_bnd.mpr (h1.mono fun ρ1 s1 h2 => Wp_bnd.mpr (h2.mono fun q s2 h3 => ?_))
    obtain ⟨f, ρ2⟩ := q
    cases f with
    | next => exact Wp_forL I R ds ρ2 s2 h3 fun x hx => h x (.tail _ hx)
    | cont => exact Wp_forL I R ds ρ2 s2 h3 fun x hx => h x (.tail _ hx)
    | ret d => exact Wp_ret.mpr h3
    | brk => exact h3.elim
end
theorem par3_run {i j l : Nat} {a b c : Env → M D} {ρ : Env} {st st1 st2 st3 : Store} {x y z : D} (ha : run (a ρ) st = .ok x st1) (hb : run (b ρ) st1 = .ok y st2) (hc : run (c ρ) st2 = .ok z st3) : run (S.par3 i j l a b c ρ) st = .ok (.next, List.set (List.set (List.set ρ i (some x)) j (some y)) l (some z)) st3 := by
  have e : S.par3 i j l a b c ρ = bnd (a ρ) _ := rfl
  rw [e, run_bnd ha, run_bnd hb, run_bnd hc]
  rfl
theorem app0_run {φ : List D → M D} {ρ : Env} {st st' : Store} {d : D} (h : run (φ []) st = .ok d st') : run (E.app φ A.nil ρ) st = .ok d st' := by
  have z : E.app φ A.nil ρ = noexc (φ []) := rfl
  rw [z]
  exact run_noexc h
theorem eand_t {a b : Env → M D} {ρ : Env} {st st' : Store} (ha : run (a ρ) st = .ok (.bl true) st') : run (E.and a b ρ) st = run (b ρ) st' := by
  have z : E.and a b ρ = bnd (a ρ) _ := rfl
  rw [z, run_bnd ha]
/-! ### the rest of a def, by its goal -/
section
variable {s t b : SD} {ρ ρ' : Env} {st st' st1 : Store} {d : D} {i : Env → M (List D)} {tg : D → Env → Option Env} {ds : List D}
theorem fn_stepE (h : run (s ρ) st = .ok (.next, ρ') st') (k : ∃ st2, run (fnM (t ρ')) st' = .ok d st2) : ∃ st2, run (fnM (S.seq s t ρ)) st = .ok d st2 := by
  obtain ⟨st2, k⟩ := k
  exact ⟨st2, (fn_step h).trans k⟩
theorem fn_forE (I : Nat → Env → Store → Prop) (hi : run (i ρ) st = .ok ds st1) (h0 : I ds.length ρ st1) (hb : ∀ x ∈ ds, ∀ k ρ st, I (k + 1) ρ st → ∃ ρ1 ρ2 st2, tg x ρ = some ρ1 ∧ run (b ρ1) st = .ok (.next, ρ2) st2 ∧ I k ρ2 st2)
    (hs : ∀ ρ' st', I 0 ρ' st' → ∃ st2, run (fnM (t ρ')) st' = .ok d st2) : ∃ st2, run (fnM (S.seq (S.for_ i tg b) t ρ)) st = .ok d st2 := by
  obtain ⟨ρ', st', h1, h2⟩ := forL_inv I ds ρ st1 hb h0
  exact fn_stepE (for_run hi h1) (hs ρ' st' h2)
end
end G
end L2
end GP5_
section W_k26_
set_option Elab.async false
set_option linter.all false
set_option maxRecDepth 100000
set_option maxHeartbeats 0
namespace L2
namespace G
namespace K26
open PySem PySem.Spec PyProof.Rows
def top (i : Nat) : Stmt := PySem.Challenge.pw_idleclauses_k26_terms_refused.main.body.getD i (.Pass ⟨0, 0, 0, 0⟩)

theorem sc_er_BadTerm : FnScope ["self", "path"] ["self", "path"] (defScope (inClass (top 11) 0)) := ⟨rfl, rfl, rfl, by decide +kernel, rfl, by decide +kernel, by decide +kernel⟩
theorem er_BadTerm {P : Program} {w : World} {K : PySem.W.Frag} {mg : Str → Option Value} {base : Heap} (C : ErC K "BadTerm" ["path"]) (B : ErB K "ClauseError") (m : mg "BadTerm" = some (.ref (He.ga K "BadTerm"))) (m0 : mg "ClauseError" = some (.ref (He.ga K "ClauseError")))
    (F : ∃ fd, FunD K "__init__" "BadTerm.__init__" (defArgs (inClass (top 11) 0)) (defBody (inClass (top 11) 0)) (defScope (inClass (top 11) 0)) [] [] (He.fAd K ("BadTerm", some "__init__")) fd) : Er1 P w K mg base "BadTerm" "path" := by
  obtain ⟨fd, F⟩ := F
  exact er1_of (z := "no term") (c0 := "ClauseError") C B m m0 F sc_er_BadTerm (fun _ _ _ _ _ _ us hl => match us, hl with | [_, _], _ => rfl)
    (fun cdv A outer s H E => pss_cons (ps_expr (pe_ceinit rfl m0 B.r B.v (pa_cons (pe_var (i := 0) rfl (by first | exact Or.inl rfl | exact Or.inr (Or.inl rfl) | exact Or.inr (Or.inr rfl))) (pa_cons pe_str pa_nil)))) (pss_cons (ps_ost (pe_var (i := 0) rfl (by first | exact Or.inl rfl | exact Or.inr (Or.inl rfl) | exact Or.inr (Or.inr rfl))) (pe_var (i := 1) rfl (by first | exact Or.inl rfl | exact Or.inr (Or.inl rfl) | exact Or.inr (Or.inr rfl)))) pss_nil))
/-! ### law_begin -/
def d_law_begin : SD :=
    (S.begin (E.ifx (T.val (E.op2 neE (E.var 0) (E.lst A.nil))) (E.blt listD2 (A.cons (E.var 0) A.nil)) (E.lst (A.cons (E.cst (.int 0)) A.nil))) (E.alloc (E.comp (I.own 1) [2] (Gt.name 2) T.yes (E.ifx (T.val (E.op2 geD2 (E.var 2) (E.op2 powD (E.cst (.int 10)) (E.cst (.int 18))))) (E.var 2) (E.cst (.int 0))))))
def φ_law_begin : List D → M D := fnD 3 d_law_begin
theorem sc_law_begin : FnScope ["script", "cells", "cell"] ["script"] (defScope (top 68)) := ⟨rfl, rfl, rfl, by decide +kernel, rfl, by decide +kernel, by decide +kernel⟩
theorem fc_law_begin {P : Program} {w : World} {K : PySem.W.Frag} {mg : Str → Option Value} {base : Heap} (F : Fnc1 K mg "_law_begin" (top 68)) (m_list : mg "list" = none) : Fc P w K mg base "_law_begin" 1 1 φ_law_begin := by
  refine Fnc1.fc F sc_law_begin (O := [1]) (by decide) (k := 0) (fun cdv A outer s H E Z hcdv hr tk => ?_) (fun _ _ _ _ _ _ us hl => match us, hl with | [_], _ => rfl)
  have nd := sc_law_begin.nd
  exact (dss_begin nd rfl (Or.inl rfl) (by first | exact Or.inl rfl | exact Or.inr (Or.inl rfl) | exact Or.inr (Or.inr rfl)) (dn_ifx (dt_cmp (o_neE (r65 hr)) (DE.du (de_var 0)) (DN.du (dn_lst da_nil (Len.ok len_nil))) rfl) (dn_bltT (b_list2 rfl) rfl m_list (by rfl) (dau_cons (DE.du (de_var 0)) dau_nil)) (dn_lst (da_cons (DN.de dn_int) da_nil) (Len.ok (len_cons len_nil)))) (de_alloc (dn_comp (own := [("cell", 2)]) rfl nd (dic_own 1 (by decide) rfl (by first | exact Or.inl rfl | exact Or.inr (Or.inl rfl) | exact Or.inr (Or.inr rfl))) (blkOk_by (by rfl)) (by decide) (fun _ _ _ _ _ => (dg_name 2 (by decide) (by decide) nd rfl (by first | exact Or.inl rfl | exact Or.inr rfl))) (fun _ _ _ _ _ => dts_nil) (fun _ _ _ _ _ => (de_ifx (dt_cmp (o_ge2 (r0 hr)) (DE.du (de_var 2)) (DE.du (de_bin o_pow (DN.du dn_int) (DN.du dn_int))) rfl) (de_var 2) (DN.de dn_int))))))
/-! ### law_forms -/
def d_law_forms : SD :=
    (S.seq (S.set 0 (E.tup (A.cons (E.cst (.str "clause")) (A.cons (E.cst (.int 2)) (A.cons (E.tup (A.cons (E.cst (.int 1)) A.nil)) A.nil)))))
    (S.seq (S.set 1 (E.lst (A.cons (E.cst .non) (A.cons (E.cst (.int 5)) (A.cons (E.cst (.str "clause")) (A.cons (E.tup A.nil) (A.cons (E.lst (A.cons (E.cst (.str "clause")) (A.cons (E.cst (.int 1)) (A.cons (E.tup (A.cons (E.cst (.int 1)) A.nil)) A.nil)))) (A.cons (E.tup (A.cons (E.cst (.str "Clause")) (A.cons (E.cst (.int 1)) (A.cons (E.tup (A.cons (E.cst (.int 1)) A.nil)) A.nil)))) (A.cons (E.tup (A.cons (E.cst (.str "clause")) (A.cons (E.cst (.int 1)) A.nil))) (A.cons (E.tup (A.cons (E.cst (.str "clause")) (A.cons (E.cst (.int 1)) (A.cons (E.tup (A.cons (E.cst (.int 1)) A.nil)) (A.cons (E.cst (.int 0)) A.nil))))) (A.cons (E.cst (.dct false [] [])) A.nil)))))))))))
    (S.seq (S.set 1 (E.op2 addLL (E.var 1) (E.lst (A.cons (E.tup (A.cons (E.cst (.int 5)) (A.cons (E.cst (.int 1)) (A.cons (E.tup (A.cons (E.cst (.int 1)) A.nil)) A.nil)))) (A.cons (E.tup (A.cons (E.cst (.str "both")) (A.cons (E.var 0) A.nil))) (A.cons (E.tup (A.cons (E.cst (.str "beside")) (A.cons (E.var 0) (A.cons (E.var 0) (A.cons (E.var 0) A.nil))))) (A.cons (E.tup (A.cons (E.cst (.str "turned")) (A.cons (E.var 0) A.nil))) (A.cons (E.tup (A.cons (E.cst (.str "same")) (A.cons (E.cst (.int 2)) (A.cons (E.cst (.int 1)) A.nil)))) (A.cons (E.tup (A.cons (E.cst .non) A.nil)) A.nil)))))))))
    (S.seq (S.for_ (I.seq (E.tup (A.cons (E.cst (.int 0)) (A.cons (E.cst (.int 8)) (A.cons (E.cst (.bl true)) (A.cons (E.cst (.str "1")) (A.cons (E.cst .non) (A.cons (E.op1 negD (E.cst (.int 1))) A.nil)))))))) (Gt.name 2)
    (S.seq (S.set 1 (E.op2 addLL (E.var 1) (E.lst (A.cons (E.tup (A.cons (E.cst (.str "clause")) (A.cons (E.var 2) (A.cons (E.tup A.nil) A.nil)))) (A.cons (E.tup (A.cons (E.cst (.str "one")) (A.cons (E.var 2) (A.cons (E.tup (A.cons (E.cst (.int 1)) (A.cons (E.cst (.int 2)) A.nil))) A.nil)))) (A.cons (E.tup (A.cons (E.cst (.str "most")) (A.cons (E.var 2) (A.cons (E.tup (A.cons (E.cst (.int 1)) (A.cons (E.cst (.int 2)) A.nil))) A.nil)))) (A.cons (E.tup (A.cons (E.cst (.str "same")) (A.cons (E.var 2) (A.cons (E.cst (.int 1)) (A.cons (E.cst (.int 2)) A.nil))))) A.nil)))))))
    S.nil))
    (S.seq (S.for_ (I.seq (E.tup (A.cons (E.cst .non) (A.cons (E.lst (A.cons (E.cst (.int 1)) A.nil)) (A.cons (E.tup (A.cons (E.cst (.int 0)) A.nil)) (A.cons (E.tup (A.cons (E.cst (.int 2)) A.nil)) (A.cons (E.tup (A.cons (E.cst (.int 1)) (A.cons (E.cst (.int 1)) A.nil))) (A.cons (E.tup (A.cons (E.cst (.int 1)) (A.cons (E.op1 negD (E.cst (.int 1))) A.nil))) (A.cons (E.tup (A.cons (E.cst (.bl true)) A.nil)) (A.cons (E.tup (A.cons (E.cst (.str "1")) A.nil)) (A.cons (E.cst (.int 1)) A.nil))))))))))) (Gt.name 2)
    (S.seq (S.set 1 (E.op2 addLL (E.var 1) (E.lst (A.cons (E.tup (A.cons (E.cst (.str "clause")) (A.cons (E.cst (.int 1)) (A.cons (E.var 2) A.nil)))) (A.cons (E.tup (A.cons (E.cst (.str "most")) (A.cons (E.cst (.int 1)) (A.cons (E.var 2) A.nil)))) A.nil)))))
    S.nil))
    (S.seq (S.set 1 (E.op2 addLL (E.var 1) (E.lst (A.cons (E.tup (A.cons (E.cst (.str "one")) (A.cons (E.cst (.int 7)) (A.cons (E.tup (A.cons (E.cst (.int 1)) A.nil)) A.nil)))) (A.cons (E.tup (A.cons (E.cst (.str "one")) (A.cons (E.cst (.int 7)) (A.cons (E.tup (A.cons (E.cst (.int 1)) (A.cons (E.cst (.int 2)) (A.cons (E.cst (.int 3)) (A.cons (E.cst (.int 4)) (A.cons (E.cst (.int 5)) (A.cons (E.cst (.int 6)) A.nil))))))) A.nil)))) (A.cons (E.tup (A.cons (E.cst (.str "most")) (A.cons (E.cst (.int 7)) (A.cons (E.tup A.nil) A.nil)))) (A.cons (E.tup (A.cons (E.cst (.str "one")) (A.cons (E.cst (.int 3)) (A.cons (E.tup (A.cons (E.cst (.int 2)) (A.cons (E.cst (.int 1)) A.nil))) A.nil)))) (A.cons (E.tup (A.cons (E.cst (.str "most")) (A.cons (E.cst (.int 2)) (A.cons (E.tup (A.cons (E.cst (.int 1)) (A.cons (E.cst (.int 3)) A.nil))) A.nil)))) A.nil))))))))
    (S.seq (S.for_ (I.seq (E.tup (A.cons (E.cst (.int 0)) (A.cons (E.cst (.int 3)) (A.cons (E.cst (.bl true)) (A.cons (E.cst (.str "1")) (A.cons (E.cst .non) (A.cons (E.op1 negD (E.cst (.int 3))) (A.cons (E.cst (.int 1)) (A.cons (E.op1 negD (E.cst (.int 1))) A.nil)))))))))) (Gt.name 2)
    (S.seq (S.set 1 (E.op2 addLL (E.var 1) (E.lst (A.cons (E.tup (A.cons (E.cst (.str "same")) (A.cons (E.cst (.int 2)) (A.cons (E.cst (.int 1)) (A.cons (E.var 2) A.nil))))) (A.cons (E.tup (A.cons (E.cst (.str "same")) (A.cons (E.cst (.int 2)) (A.cons (E.var 2) (A.cons (E.cst (.int 1)) A.nil))))) A.nil)))))
    S.nil))
    (S.seq (S.for_ (I.seq (E.tup (A.cons (E.cst .non) (A.cons (E.lst (A.cons (E.cst (.int 1)) A.nil)) (A.cons (E.tup (A.cons (E.cst (.int 0)) A.nil)) (A.cons (E.tup (A.cons (E.cst (.int 8)) A.nil)) (A.cons (E.tup (A.cons (E.cst (.int 1)) (A.cons (E.cst (.int 1)) A.nil))) (A.cons (E.tup (A.cons (E.cst (.int 2)) (A.cons (E.cst (.int 1)) A.nil))) (A.cons (E.tup (A.cons (E.op1 negD (E.cst (.int 1))) A.nil)) (A.cons (E.tup (A.cons (E.cst (.bl true)) A.nil)) (A.cons (E.cst (.int 1)) A.nil))))))))))) (Gt.name 2)
    (S.seq (S.set 1 (E.op2 addLL (E.var 1) (E.lst (A.cons (E.tup (A.cons (E.cst (.str "turned")) (A.cons (E.var 0) (A.cons (E.var 2) A.nil)))) (A.cons (E.tup (A.cons (E.cst (.str "crossed")) (A.cons (E.var 0) (A.cons (E.var 2) A.nil)))) A.nil)))))
    S.nil))
    (S.seq (S.for_ (I.seq (E.tup (A.cons (E.cst .non) (A.cons (E.lst (A.cons (E.cst (.int 1)) A.nil)) (A.cons (E.tup (A.cons (E.cst (.int 0)) A.nil)) (A.cons (E.tup (A.cons (E.cst (.int 8)) A.nil)) (A.cons (E.tup (A.cons (E.cst (.int 1)) (A.cons (E.op1 negD (E.cst (.int 1))) A.nil))) (A.cons (E.tup (A.cons (E.cst (.int 2)) (A.cons (E.cst (.int 1)) A.nil))) (A.cons (E.tup (A.cons (E.cst (.bl true)) A.nil)) (A.cons (E.tup (A.cons (E.cst (.str "1")) A.nil)) A.nil)))))))))) (Gt.name 2)
    (S.seq (S.append 1 (E.tup (A.cons (E.cst (.str "set")) (A.cons (E.var 0) (A.cons (E.var 2) A.nil)))))
    S.nil))
    (S.seq (S.for_ (I.seq (E.tup (A.cons (E.cst (.int 0)) (A.cons (E.cst (.int 8)) (A.cons (E.cst (.bl true)) (A.cons (E.cst .non) (A.cons (E.cst (.str "2")) (A.cons (E.cst (.int 1)) A.nil)))))))) (Gt.name 2)
    (S.seq (S.append 1 (E.tup (A.cons (E.cst (.str "merged")) (A.cons (E.var 0) (A.cons (E.cst (.int 1)) (A.cons (E.var 2) A.nil))))))
    S.nil))
    (S.seq (S.set 1 (E.op2 addLL (E.var 1) (E.lst (A.cons (E.tup (A.cons (E.cst (.str "merged")) (A.cons (E.var 0) (A.cons (E.cst (.int 0)) (A.cons (E.cst (.int 2)) A.nil))))) (A.cons (E.tup (A.cons (E.cst (.str "merged")) (A.cons (E.var 0) (A.cons (E.cst (.int 2)) (A.cons (E.cst (.int 1)) A.nil))))) (A.cons (E.tup (A.cons (E.cst (.str "merged")) (A.cons (E.var 0) (A.cons (E.cst (.bl true)) (A.cons (E.cst (.int 2)) A.nil))))) (A.cons (E.tup (A.cons (E.cst (.str "merged")) (A.cons (E.var 0) (A.cons (E.cst (.int 2)) (A.cons (E.cst (.int 2)) A.nil))))) A.nil)))))))
    (S.seq (S.for_ (I.seq (E.tup (A.cons (E.cst .non) (A.cons (E.lst (A.cons (E.cst (.int 0)) A.nil)) (A.cons (E.tup (A.cons (E.op1 negD (E.cst (.int 1))) A.nil)) (A.cons (E.tup (A.cons (E.cst (.int 16)) A.nil)) (A.cons (E.tup (A.cons (E.cst (.int 0)) (A.cons (E.cst (.int 0)) A.nil))) (A.cons (E.tup (A.cons (E.cst (.int 1)) (A.cons (E.cst (.int 0)) A.nil))) (A.cons (E.tup (A.cons (E.cst (.bl true)) A.nil)) (A.cons (E.cst (.int 0)) A.nil)))))))))) (Gt.name 2)
    (S.seq (S.append 1 (E.tup (A.cons (E.cst (.str "without")) (A.cons (E.var 0) (A.cons (E.var 2) A.nil)))))
    S.nil))
    (S.seq (S.ret (E.var 1))
    S.nil)))))))))))))
def φ_law_forms : List D → M D := fnD 3 d_law_forms
theorem sc_law_forms : FnScope ["one", "found", "odd"] [] (defScope (top 72)) := ⟨rfl, rfl, rfl, by decide +kernel, rfl, by decide +kernel, by decide +kernel⟩
theorem fc_law_forms {P : Program} {w : World} {K : PySem.W.Frag} {mg : Str → Option Value} {base : Heap} (F : Fnc1 K mg "_law_forms" (top 72))  : Fc P w K mg base "_law_forms" 0 1 φ_law_forms := by
  refine Fnc1.fc F sc_law_forms (O := [1]) (by decide) (k := 0) (fun cdv A outer s H E Z hcdv hr tk => ?_) (fun _ _ _ _ _ _ us hl => match us, hl with | [], _ => rfl)
  have nd := sc_law_forms.nd
  exact (dss_cons (ds_set 0 (by decide) nd rfl (Or.inl rfl) (de_tup (da_cons (DN.de dn_str) (da_cons (DN.de dn_int) (da_cons (de_tup (da_cons (DN.de dn_int) da_nil) (Len.ok (len_cons len_nil))) da_nil))) (Len.ok (len_cons (len_cons (len_cons len_nil))))))
    (dss_cons (ds_setN 1 (by decide) nd rfl (Or.inl rfl) (dn_lst (da_cons (DN.de dn_non) (da_cons (DN.de dn_int) (da_cons (DN.de dn_str) (da_cons (de_tup da_nil (Len.ok len_nil)) (da_cons (DN.de (dn_lst (da_cons (DN.de dn_str) (da_cons (DN.de dn_int) (da_cons (de_tup (da_cons (DN.de dn_int) da_nil) (Len.ok (len_cons len_nil))) da_nil))) (Len.ok (len_cons (len_cons (len_cons len_nil)))))) (da_cons (de_tup (da_cons (DN.de dn_str) (da_cons (DN.de dn_int) (da_cons (de_tup (da_cons (DN.de dn_int) da_nil) (Len.ok (len_cons len_nil))) da_nil))) (Len.ok (len_cons (len_cons (len_cons len_nil))))) (da_cons (de_tup (da_cons (DN.de dn_str) (da_cons (DN.de dn_int) da_nil)) (Len.ok (len_cons (len_cons len_nil)))) (da_cons (de_tup (da_cons (DN.de dn_str) (da_cons (DN.de dn_int) (da_cons (de_tup (da_cons (DN.de dn_int) da_nil) (Len.ok (len_cons len_nil))) (da_cons (DN.de dn_int) da_nil)))) (Len.ok (len_cons (len_cons (len_cons (len_cons len_nil)))))) (da_cons (DN.de dn_dictK) da_nil))))))))) (Len.ok (len_cons (len_cons (len_cons (len_cons (len_cons (len_cons (len_cons (len_cons (len_cons len_nil))))))))))))
    (dss_cons (ds_setN 1 (by decide) nd rfl (Or.inl rfl) (dn_addL (du_var 1) (DN.du (dn_lst (da_cons (de_tup (da_cons (DN.de dn_int) (da_cons (DN.de dn_int) (da_cons (de_tup (da_cons (DN.de dn_int) da_nil) (Len.ok (len_cons len_nil))) da_nil))) (Len.ok (len_cons (len_cons (len_cons len_nil))))) (da_cons (de_tup (da_cons (DN.de dn_str) (da_cons (de_var 0) da_nil)) (Len.ok (len_cons (len_cons len_nil)))) (da_cons (de_tup (da_cons (DN.de dn_str) (da_cons (de_var 0) (da_cons (de_var 0) (da_cons (de_var 0) da_nil)))) (Len.ok (len_cons (len_cons (len_cons (len_cons len_nil)))))) (da_cons (de_tup (da_cons (DN.de dn_str) (da_cons (de_var 0) da_nil)) (Len.ok (len_cons (len_cons len_nil)))) (da_cons (de_tup (da_cons (DN.de dn_str) (da_cons (DN.de dn_int) (da_cons (DN.de dn_int) da_nil))) (Len.ok (len_cons (len_cons (len_cons len_nil))))) (da_cons (de_tup (da_cons (DN.de dn_non) da_nil) (Len.ok (len_cons len_nil))) da_nil)))))) (Len.ok (len_cons (len_cons (len_cons (len_cons (len_cons (len_cons len_nil)))))))))))
    (dss_cons (ds_for (vs := [2]) (passes_of rfl) rfl (di_seq (de_tup (da_cons (DN.de dn_int) (da_cons (DN.de dn_int) (da_cons (DN.de dn_bl) (da_cons (DN.de dn_str) (da_cons (DN.de dn_non) (da_cons (DN.de (dn_neg (DN.du dn_int))) da_nil)))))) (Len.ok (len_cons (len_cons (len_cons (len_cons (len_cons (len_cons len_nil))))))))) (dg_name 2 (by decide) (by decide) nd rfl (by first | exact Or.inl rfl | exact Or.inr rfl))
    (dss_cons (ds_setN 1 (by decide) nd rfl (Or.inl rfl) (dn_addL (du_var 1) (DN.du (dn_lst (da_cons (de_tup (da_cons (DN.de dn_str) (da_cons (de_var 2) (da_cons (de_tup da_nil (Len.ok len_nil)) da_nil))) (Len.ok (len_cons (len_cons (len_cons len_nil))))) (da_cons (de_tup (da_cons (DN.de dn_str) (da_cons (de_var 2) (da_cons (de_tup (da_cons (DN.de dn_int) (da_cons (DN.de dn_int) da_nil)) (Len.ok (len_cons (len_cons len_nil)))) da_nil))) (Len.ok (len_cons (len_cons (len_cons len_nil))))) (da_cons (de_tup (da_cons (DN.de dn_str) (da_cons (de_var 2) (da_cons (de_tup (da_cons (DN.de dn_int) (da_cons (DN.de dn_int) da_nil)) (Len.ok (len_cons (len_cons len_nil)))) da_nil))) (Len.ok (len_cons (len_cons (len_cons len_nil))))) (da_cons (de_tup (da_cons (DN.de dn_str) (da_cons (de_var 2) (da_cons (DN.de dn_int) (da_cons (DN.de dn_int) da_nil)))) (Len.ok (len_cons (len_cons (len_cons (len_cons len_nil)))))) da_nil)))) (Len.ok (len_cons (len_cons (len_cons (len_cons len_nil)))))))))
    dss_nil))
    (dss_cons (ds_for (vs := [2]) (passes_of rfl) rfl (di_seq (de_tup (da_cons (DN.de dn_non) (da_cons (DN.de (dn_lst (da_cons (DN.de dn_int) da_nil) (Len.ok (len_cons len_nil)))) (da_cons (de_tup (da_cons (DN.de dn_int) da_nil) (Len.ok (len_cons len_nil))) (da_cons (de_tup (da_cons (DN.de dn_int) da_nil) (Len.ok (len_cons len_nil))) (da_cons (de_tup (da_cons (DN.de dn_int) (da_cons (DN.de dn_int) da_nil)) (Len.ok (len_cons (len_cons len_nil)))) (da_cons (de_tup (da_cons (DN.de dn_int) (da_cons (DN.de (dn_neg (DN.du dn_int))) da_nil)) (Len.ok (len_cons (len_cons len_nil)))) (da_cons (de_tup (da_cons (DN.de dn_bl) da_nil) (Len.ok (len_cons len_nil))) (da_cons (de_tup (da_cons (DN.de dn_str) da_nil) (Len.ok (len_cons len_nil))) (da_cons (DN.de dn_int) da_nil))))))))) (Len.ok (len_cons (len_cons (len_cons (len_cons (len_cons (len_cons (len_cons (len_cons (len_cons len_nil)))))))))))) (dg_name 2 (by decide) (by decide) nd rfl (by first | exact Or.inl rfl | exact Or.inr rfl))
    (dss_cons (ds_setN 1 (by decide) nd rfl (Or.inl rfl) (dn_addL (du_var 1) (DN.du (dn_lst (da_cons (de_tup (da_cons (DN.de dn_str) (da_cons (DN.de dn_int) (da_cons (de_var 2) da_nil))) (Len.ok (len_cons (len_cons (len_cons len_nil))))) (da_cons (de_tup (da_cons (DN.de dn_str) (da_cons (DN.de dn_int) (da_cons (de_var 2) da_nil))) (Len.ok (len_cons (len_cons (len_cons len_nil))))) da_nil)) (Len.ok (len_cons (len_cons len_nil)))))))
    dss_nil))
    (dss_cons (ds_setN 1 (by decide) nd rfl (Or.inl rfl) (dn_addL (du_var 1) (DN.du (dn_lst (da_cons (de_tup (da_cons (DN.de dn_str) (da_cons (DN.de dn_int) (da_cons (de_tup (da_cons (DN.de dn_int) da_nil) (Len.ok (len_cons len_nil))) da_nil))) (Len.ok (len_cons (len_cons (len_cons len_nil))))) (da_cons (de_tup (da_cons (DN.de dn_str) (da_cons (DN.de dn_int) (da_cons (de_tup (da_cons (DN.de dn_int) (da_cons (DN.de dn_int) (da_cons (DN.de dn_int) (da_cons (DN.de dn_int) (da_cons (DN.de dn_int) (da_cons (DN.de dn_int) da_nil)))))) (Len.ok (len_cons (len_cons (len_cons (len_cons (len_cons (len_cons len_nil)))))))) da_nil))) (Len.ok (len_cons (len_cons (len_cons len_nil))))) (da_cons (de_tup (da_cons (DN.de dn_str) (da_cons (DN.de dn_int) (da_cons (de_tup da_nil (Len.ok len_nil)) da_nil))) (Len.ok (len_cons (len_cons (len_cons len_nil))))) (da_cons (de_tup (da_cons (DN.de dn_str) (da_cons (DN.de dn_int) (da_cons (de_tup (da_cons (DN.de dn_int) (da_cons (DN.de dn_int) da_nil)) (Len.ok (len_cons (len_cons len_nil)))) da_nil))) (Len.ok (len_cons (len_cons (len_cons len_nil))))) (da_cons (de_tup (da_cons (DN.de dn_str) (da_cons (DN.de dn_int) (da_cons (de_tup (da_cons (DN.de dn_int) (da_cons (DN.de dn_int) da_nil)) (Len.ok (len_cons (len_cons len_nil)))) da_nil))) (Len.ok (len_cons (len_cons (len_cons len_nil))))) da_nil))))) (Len.ok (len_cons (len_cons (len_cons (len_cons (len_cons len_nil))))))))))
    (dss_cons (ds_for (vs := [2]) (passes_of rfl) rfl (di_seq (de_tup (da_cons (DN.de dn_int) (da_cons (DN.de dn_int) (da_cons (DN.de dn_bl) (da_cons (DN.de dn_str) (da_cons (DN.de dn_non) (da_cons (DN.de (dn_neg (DN.du dn_int))) (da_cons (DN.de dn_int) (da_cons (DN.de (dn_neg (DN.du dn_int))) da_nil)))))))) (Len.ok (len_cons (len_cons (len_cons (len_cons (len_cons (len_cons (len_cons (len_cons len_nil))))))))))) (dg_name 2 (by decide) (by decide) nd rfl (by first | exact Or.inl rfl | exact Or.inr rfl))
    (dss_cons (ds_setN 1 (by decide) nd rfl (Or.inl rfl) (dn_addL (du_var 1) (DN.du (dn_lst (da_cons (de_tup (da_cons (DN.de dn_str) (da_cons (DN.de dn_int) (da_cons (DN.de dn_int) (da_cons (de_var 2) da_nil)))) (Len.ok (len_cons (len_cons (len_cons (len_cons len_nil)))))) (da_cons (de_tup (da_cons (DN.de dn_str) (da_cons (DN.de dn_int) (da_cons (de_var 2) (da_cons (DN.de dn_int) da_nil)))) (Len.ok (len_cons (len_cons (len_cons (len_cons len_nil)))))) da_nil)) (Len.ok (len_cons (len_cons len_nil)))))))
    dss_nil))
    (dss_cons (ds_for (vs := [2]) (passes_of rfl) rfl (di_seq (de_tup (da_cons (DN.de dn_non) (da_cons (DN.de (dn_lst (da_cons (DN.de dn_int) da_nil) (Len.ok (len_cons len_nil)))) (da_cons (de_tup (da_cons (DN.de dn_int) da_nil) (Len.ok (len_cons len_nil))) (da_cons (de_tup (da_cons (DN.de dn_int) da_nil) (Len.ok (len_cons len_nil))) (da_cons (de_tup (da_cons (DN.de dn_int) (da_cons (DN.de dn_int) da_nil)) (Len.ok (len_cons (len_cons len_nil)))) (da_cons (de_tup (da_cons (DN.de dn_int) (da_cons (DN.de dn_int) da_nil)) (Len.ok (len_cons (len_cons len_nil)))) (da_cons (de_tup (da_cons (DN.de (dn_neg (DN.du dn_int))) da_nil) (Len.ok (len_cons len_nil))) (da_cons (de_tup (da_cons (DN.de dn_bl) da_nil) (Len.ok (len_cons len_nil))) (da_cons (DN.de dn_int) da_nil))))))))) (Len.ok (len_cons (len_cons (len_cons (len_cons (len_cons (len_cons (len_cons (len_cons (len_cons len_nil)))))))))))) (dg_name 2 (by decide) (by decide) nd rfl (by first | exact Or.inl rfl | exact Or.inr rfl))
    (dss_cons (ds_setN 1 (by decide) nd rfl (Or.inl rfl) (dn_addL (du_var 1) (DN.du (dn_lst (da_cons (de_tup (da_cons (DN.de dn_str) (da_cons (de_var 0) (da_cons (de_var 2) da_nil))) (Len.ok (len_cons (len_cons (len_cons len_nil))))) (da_cons (de_tup (da_cons (DN.de dn_str) (da_cons (de_var 0) (da_cons (de_var 2) da_nil))) (Len.ok (len_cons (len_cons (len_cons len_nil))))) da_nil)) (Len.ok (len_cons (len_cons len_nil)))))))
    dss_nil))
    (dss_cons (ds_for (vs := [2]) (passes_of rfl) rfl (di_seq (de_tup (da_cons (DN.de dn_non) (da_cons (DN.de (dn_lst (da_cons (DN.de dn_int) da_nil) (Len.ok (len_cons len_nil)))) (da_cons (de_tup (da_cons (DN.de dn_int) da_nil) (Len.ok (len_cons len_nil))) (da_cons (de_tup (da_cons (DN.de dn_int) da_nil) (Len.ok (len_cons len_nil))) (da_cons (de_tup (da_cons (DN.de dn_int) (da_cons (DN.de (dn_neg (DN.du dn_int))) da_nil)) (Len.ok (len_cons (len_cons len_nil)))) (da_cons (de_tup (da_cons (DN.de dn_int) (da_cons (DN.de dn_int) da_nil)) (Len.ok (len_cons (len_cons len_nil)))) (da_cons (de_tup (da_cons (DN.de dn_bl) da_nil) (Len.ok (len_cons len_nil))) (da_cons (de_tup (da_cons (DN.de dn_str) da_nil) (Len.ok (len_cons len_nil))) da_nil)))))))) (Len.ok (len_cons (len_cons (len_cons (len_cons (len_cons (len_cons (len_cons (len_cons len_nil))))))))))) (dg_name 2 (by decide) (by decide) nd rfl (by first | exact Or.inl rfl | exact Or.inr rfl))
    (dss_cons (ds_append 1 (by decide) rfl (by first | exact Or.inl rfl | exact Or.inr (Or.inl rfl) | exact Or.inr (Or.inr rfl)) (de_tup (da_cons (DN.de dn_str) (da_cons (de_var 0) (da_cons (de_var 2) da_nil))) (Len.ok (len_cons (len_cons (len_cons len_nil))))))
    dss_nil))
    (dss_cons (ds_for (vs := [2]) (passes_of rfl) rfl (di_seq (de_tup (da_cons (DN.de dn_int) (da_cons (DN.de dn_int) (da_cons (DN.de dn_bl) (da_cons (DN.de dn_non) (da_cons (DN.de dn_str) (da_cons (DN.de dn_int) da_nil)))))) (Len.ok (len_cons (len_cons (len_cons (len_cons (len_cons (len_cons len_nil))))))))) (dg_name 2 (by decide) (by decide) nd rfl (by first | exact Or.inl rfl | exact Or.inr rfl))
    (dss_cons (ds_append 1 (by decide) rfl (by first | exact Or.inl rfl | exact Or.inr (Or.inl rfl) | exact Or.inr (Or.inr rfl)) (de_tup (da_cons (DN.de dn_str) (da_cons (de_var 0) (da_cons (DN.de dn_int) (da_cons (de_var 2) da_nil)))) (Len.ok (len_cons (len_cons (len_cons (len_cons len_nil)))))))
    dss_nil))
    (dss_cons (ds_setN 1 (by decide) nd rfl (Or.inl rfl) (dn_addL (du_var 1) (DN.du (dn_lst (da_cons (de_tup (da_cons (DN.de dn_str) (da_cons (de_var 0) (da_cons (DN.de dn_int) (da_cons (DN.de dn_int) da_nil)))) (Len.ok (len_cons (len_cons (len_cons (len_cons len_nil)))))) (da_cons (de_tup (da_cons (DN.de dn_str) (da_cons (de_var 0) (da_cons (DN.de dn_int) (da_cons (DN.de dn_int) da_nil)))) (Len.ok (len_cons (len_cons (len_cons (len_cons len_nil)))))) (da_cons (de_tup (da_cons (DN.de dn_str) (da_cons (de_var 0) (da_cons (DN.de dn_bl) (da_cons (DN.de dn_int) da_nil)))) (Len.ok (len_cons (len_cons (len_cons (len_cons len_nil)))))) (da_cons (de_tup (da_cons (DN.de dn_str) (da_cons (de_var 0) (da_cons (DN.de dn_int) (da_cons (DN.de dn_int) da_nil)))) (Len.ok (len_cons (len_cons (len_cons (len_cons len_nil)))))) da_nil)))) (Len.ok (len_cons (len_cons (len_cons (len_cons len_nil)))))))))
    (dss_cons (ds_for (vs := [2]) (passes_of rfl) rfl (di_seq (de_tup (da_cons (DN.de dn_non) (da_cons (DN.de (dn_lst (da_cons (DN.de dn_int) da_nil) (Len.ok (len_cons len_nil)))) (da_cons (de_tup (da_cons (DN.de (dn_neg (DN.du dn_int))) da_nil) (Len.ok (len_cons len_nil))) (da_cons (de_tup (da_cons (DN.de dn_int) da_nil) (Len.ok (len_cons len_nil))) (da_cons (de_tup (da_cons (DN.de dn_int) (da_cons (DN.de dn_int) da_nil)) (Len.ok (len_cons (len_cons len_nil)))) (da_cons (de_tup (da_cons (DN.de dn_int) (da_cons (DN.de dn_int) da_nil)) (Len.ok (len_cons (len_cons len_nil)))) (da_cons (de_tup (da_cons (DN.de dn_bl) da_nil) (Len.ok (len_cons len_nil))) (da_cons (DN.de dn_int) da_nil)))))))) (Len.ok (len_cons (len_cons (len_cons (len_cons (len_cons (len_cons (len_cons (len_cons len_nil))))))))))) (dg_name 2 (by decide) (by decide) nd rfl (by first | exact Or.inl rfl | exact Or.inr rfl))
    (dss_cons (ds_append 1 (by decide) rfl (by first | exact Or.inl rfl | exact Or.inr (Or.inl rfl) | exact Or.inr (Or.inr rfl)) (de_tup (da_cons (DN.de dn_str) (da_cons (de_var 0) (da_cons (de_var 2) da_nil))) (Len.ok (len_cons (len_cons (len_cons len_nil))))))
    dss_nil))
    (dss_cons (ds_retV 1)
    dss_nil)))))))))))))
/-! ### law_bundles -/
def d_law_bundles : SD :=
    (S.seq (S.asg (E.tup (A.cons (E.tup (A.cons (E.cst (.str "clause")) (A.cons (E.cst (.int 2)) (A.cons (E.tup (A.cons (E.cst (.int 1)) A.nil)) A.nil)))) (A.cons (E.tup (A.cons (E.cst (.str "clause")) (A.cons (E.cst (.int 4)) (A.cons (E.tup A.nil) A.nil)))) (A.cons (E.tup (A.cons (E.cst (.str "most")) (A.cons (E.cst (.int 5)) (A.cons (E.tup (A.cons (E.cst (.int 1)) (A.cons (E.cst (.int 2)) (A.cons (E.cst (.int 3)) (A.cons (E.cst (.int 4)) (A.cons (E.cst (.int 5)) A.nil)))))) A.nil)))) A.nil)))) (Gt.tup 3 (Gt.cons (Gt.name 0) (Gt.cons (Gt.name 1) (Gt.cons (Gt.name 2) Gt.nil)))))
    (S.seq (S.set 3 (E.lst (A.cons (E.tup (A.cons (E.cst (.str "turned")) (A.cons (E.var 0) (A.cons (E.tup (A.cons (E.cst (.int 3)) A.nil)) A.nil)))) (A.cons (E.tup (A.cons (E.cst (.str "crossed")) (A.cons (E.var 0) (A.cons (E.tup (A.cons (E.cst (.int 1)) (A.cons (E.cst (.int 7)) A.nil))) A.nil)))) (A.cons (E.tup (A.cons (E.cst (.str "set")) (A.cons (E.var 0) (A.cons (E.tup (A.cons (E.op1 negD (E.cst (.int 3))) A.nil)) A.nil)))) (A.cons (E.tup (A.cons (E.cst (.str "merged")) (A.cons (E.var 0) (A.cons (E.cst (.int 1)) (A.cons (E.cst (.int 3)) A.nil))))) (A.cons (E.tup (A.cons (E.cst (.str "without")) (A.cons (E.var 0) (A.cons (E.tup (A.cons (E.cst (.int 1)) A.nil)) A.nil)))) A.nil)))))))
    (S.seq (S.set 3 (E.op2 addD (E.var 3) (E.lst (A.cons (E.tup (A.cons (E.cst (.str "beside")) (A.cons (E.var 1) (A.cons (E.var 1) A.nil)))) (A.cons (E.tup (A.cons (E.cst (.str "both")) (A.cons (E.var 2) (A.cons (E.tup (A.cons (E.cst (.str "most")) (A.cons (E.cst (.int 5)) (A.cons (E.tup (A.cons (E.op1 negD (E.cst (.int 1))) (A.cons (E.op1 negD (E.cst (.int 2))) (A.cons (E.op1 negD (E.cst (.int 3))) (A.cons (E.op1 negD (E.cst (.int 4))) (A.cons (E.op1 negD (E.cst (.int 5))) A.nil)))))) A.nil)))) A.nil)))) (A.cons (E.tup (A.cons (E.cst (.str "either")) (A.cons (E.var 2) (A.cons (E.var 2) A.nil)))) A.nil))))))
    (S.seq (S.ret (E.op2 addD (E.var 3) (E.lst (A.cons (E.tup (A.cons (E.cst (.str "merged")) (A.cons (E.tup (A.cons (E.cst (.str "clause")) (A.cons (E.cst (.int 1)) (A.cons (E.tup (A.cons (E.cst (.int 1)) A.nil)) A.nil)))) (A.cons (E.cst (.int 1)) (A.cons (E.cst (.int 2)) A.nil))))) (A.cons (E.tup (A.cons (E.cst (.str "without")) (A.cons (E.tup (A.cons (E.cst (.str "crossed")) (A.cons (E.var 1) (A.cons (E.tup A.nil) A.nil)))) (A.cons (E.tup (A.cons (E.cst (.int 0)) A.nil)) A.nil)))) A.nil)))))
    S.nil))))
def φ_law_bundles : List D → M D := fnD 4 d_law_bundles
theorem sc_law_bundles : FnScope ["one", "wide", "five", "found"] [] (defScope (top 73)) := ⟨rfl, rfl, rfl, by decide +kernel, rfl, by decide +kernel, by decide +kernel⟩
theorem fc_law_bundles {P : Program} {w : World} {K : PySem.W.Frag} {mg : Str → Option Value} {base : Heap} (F : Fnc1 K mg "_law_bundles" (top 73))  : Fc P w K mg base "_law_bundles" 0 1 φ_law_bundles := by
  refine Fnc1.fc F sc_law_bundles (O := []) (by decide) (k := 0) (fun cdv A outer s H E Z hcdv hr tk => ?_) (fun _ _ _ _ _ _ us hl => match us, hl with | [], _ => rfl)
  have nd := sc_law_bundles.nd
  exact (dss_cons (ds_asg (vs := [0, 1, 2]) (de_tup (da_cons (de_tup (da_cons (DN.de dn_str) (da_cons (DN.de dn_int) (da_cons (de_tup (da_cons (DN.de dn_int) da_nil) (Len.ok (len_cons len_nil))) da_nil))) (Len.ok (len_cons (len_cons (len_cons len_nil))))) (da_cons (de_tup (da_cons (DN.de dn_str) (da_cons (DN.de dn_int) (da_cons (de_tup da_nil (Len.ok len_nil)) da_nil))) (Len.ok (len_cons (len_cons (len_cons len_nil))))) (da_cons (de_tup (da_cons (DN.de dn_str) (da_cons (DN.de dn_int) (da_cons (de_tup (da_cons (DN.de dn_int) (da_cons (DN.de dn_int) (da_cons (DN.de dn_int) (da_cons (DN.de dn_int) (da_cons (DN.de dn_int) da_nil))))) (Len.ok (len_cons (len_cons (len_cons (len_cons (len_cons len_nil))))))) da_nil))) (Len.ok (len_cons (len_cons (len_cons len_nil))))) da_nil))) (Len.ok (len_cons (len_cons (len_cons len_nil))))) (dg_tup rfl (dgs_cons (dg_name 0 (by decide) (by decide) nd rfl (by first | exact Or.inl rfl | exact Or.inr rfl)) (dgs_cons (dg_name 1 (by decide) (by decide) nd rfl (by first | exact Or.inl rfl | exact Or.inr rfl)) (dgs_cons (dg_name 2 (by decide) (by decide) nd rfl (by first | exact Or.inl rfl | exact Or.inr rfl)) dgs_nil)))))
    (dss_cons (ds_set 3 (by decide) nd rfl (Or.inl rfl) (DN.de (dn_lst (da_cons (de_tup (da_cons (DN.de dn_str) (da_cons (de_var 0) (da_cons (de_tup (da_cons (DN.de dn_int) da_nil) (Len.ok (len_cons len_nil))) da_nil))) (Len.ok (len_cons (len_cons (len_cons len_nil))))) (da_cons (de_tup (da_cons (DN.de dn_str) (da_cons (de_var 0) (da_cons (de_tup (da_cons (DN.de dn_int) (da_cons (DN.de dn_int) da_nil)) (Len.ok (len_cons (len_cons len_nil)))) da_nil))) (Len.ok (len_cons (len_cons (len_cons len_nil))))) (da_cons (de_tup (da_cons (DN.de dn_str) (da_cons (de_var 0) (da_cons (de_tup (da_cons (DN.de (dn_neg (DN.du dn_int))) da_nil) (Len.ok (len_cons len_nil))) da_nil))) (Len.ok (len_cons (len_cons (len_cons len_nil))))) (da_cons (de_tup (da_cons (DN.de dn_str) (da_cons (de_var 0) (da_cons (DN.de dn_int) (da_cons (DN.de dn_int) da_nil)))) (Len.ok (len_cons (len_cons (len_cons (len_cons len_nil)))))) (da_cons (de_tup (da_cons (DN.de dn_str) (da_cons (de_var 0) (da_cons (de_tup (da_cons (DN.de dn_int) da_nil) (Len.ok (len_cons len_nil))) da_nil))) (Len.ok (len_cons (len_cons (len_cons len_nil))))) da_nil))))) (Len.ok (len_cons (len_cons (len_cons (len_cons (len_cons len_nil)))))))))
    (dss_cons (ds_set 3 (by decide) nd rfl (Or.inl rfl) (de_bin o_add (DE.du (de_var 3)) (DN.du (dn_lst (da_cons (de_tup (da_cons (DN.de dn_str) (da_cons (de_var 1) (da_cons (de_var 1) da_nil))) (Len.ok (len_cons (len_cons (len_cons len_nil))))) (da_cons (de_tup (da_cons (DN.de dn_str) (da_cons (de_var 2) (da_cons (de_tup (da_cons (DN.de dn_str) (da_cons (DN.de dn_int) (da_cons (de_tup (da_cons (DN.de (dn_neg (DN.du dn_int))) (da_cons (DN.de (dn_neg (DN.du dn_int))) (da_cons (DN.de (dn_neg (DN.du dn_int))) (da_cons (DN.de (dn_neg (DN.du dn_int))) (da_cons (DN.de (dn_neg (DN.du dn_int))) da_nil))))) (Len.ok (len_cons (len_cons (len_cons (len_cons (len_cons len_nil))))))) da_nil))) (Len.ok (len_cons (len_cons (len_cons len_nil))))) da_nil))) (Len.ok (len_cons (len_cons (len_cons len_nil))))) (da_cons (de_tup (da_cons (DN.de dn_str) (da_cons (de_var 2) (da_cons (de_var 2) da_nil))) (Len.ok (len_cons (len_cons (len_cons len_nil))))) da_nil))) (Len.ok (len_cons (len_cons (len_cons len_nil))))))))
    (dss_cons (ds_ret (de_bin o_add (DE.du (de_var 3)) (DN.du (dn_lst (da_cons (de_tup (da_cons (DN.de dn_str) (da_cons (de_tup (da_cons (DN.de dn_str) (da_cons (DN.de dn_int) (da_cons (de_tup (da_cons (DN.de dn_int) da_nil) (Len.ok (len_cons len_nil))) da_nil))) (Len.ok (len_cons (len_cons (len_cons len_nil))))) (da_cons (DN.de dn_int) (da_cons (DN.de dn_int) da_nil)))) (Len.ok (len_cons (len_cons (len_cons (len_cons len_nil)))))) (da_cons (de_tup (da_cons (DN.de dn_str) (da_cons (de_tup (da_cons (DN.de dn_str) (da_cons (de_var 1) (da_cons (de_tup da_nil (Len.ok len_nil)) da_nil))) (Len.ok (len_cons (len_cons (len_cons len_nil))))) (da_cons (de_tup (da_cons (DN.de dn_int) da_nil) (Len.ok (len_cons len_nil))) da_nil))) (Len.ok (len_cons (len_cons (len_cons len_nil))))) da_nil)) (Len.ok (len_cons (len_cons len_nil)))))))
    dss_nil))))
/-! ### law_nested -/
def d_law_nested : SD :=
    (S.seq (S.set 1 (E.tup (A.cons (E.cst (.str "clause")) (A.cons (E.cst (.int 1)) (A.cons (E.tup (A.cons (E.cst (.int 1)) A.nil)) A.nil)))))
    (S.seq (S.for_ (I.range rng1 (A.cons (E.op2 subD (E.var 0) (E.cst (.int 1))) A.nil)) (Gt.name 2)
    (S.seq (S.set 1 (E.tup (A.cons (E.cst (.str "turned")) (A.cons (E.var 1) (A.cons (E.tup A.nil) A.nil)))))
    S.nil))
    (S.seq (S.ret (E.var 1))
    S.nil)))
def φ_law_nested : List D → M D := fnD 3 d_law_nested
theorem sc_law_nested : FnScope ["many", "found", "k"] ["many"] (defScope (top 74)) := ⟨rfl, rfl, rfl, by decide +kernel, rfl, by decide +kernel, by decide +kernel⟩
theorem fc_law_nested {P : Program} {w : World} {K : PySem.W.Frag} {mg : Str → Option Value} {base : Heap} (F : Fnc1 K mg "_law_nested" (top 74)) (m_range : mg "range" = none) : Fc P w K mg base "_law_nested" 1 1 φ_law_nested := by
  refine Fnc1.fc F sc_law_nested (O := []) (by decide) (k := 0) (fun cdv A outer s H E Z hcdv hr tk => ?_) (fun _ _ _ _ _ _ us hl => match us, hl with | [_], _ => rfl)
  have nd := sc_law_nested.nd
  exact (dss_cons (ds_set 1 (by decide) nd rfl (Or.inl rfl) (de_tup (da_cons (DN.de dn_str) (da_cons (DN.de dn_int) (da_cons (de_tup (da_cons (DN.de dn_int) da_nil) (Len.ok (len_cons len_nil))) da_nil))) (Len.ok (len_cons (len_cons (len_cons len_nil))))))
    (dss_cons (ds_for (vs := [2]) (passes_of rfl) rfl (di_range1 rfl m_range (dau_cons (DE.du (de_bin o_sub (DE.du (de_var 0)) (DN.du dn_int))) dau_nil)) (dg_name 2 (by decide) (by decide) nd rfl (by first | exact Or.inl rfl | exact Or.inr rfl))
    (dss_cons (ds_set 1 (by decide) nd rfl (Or.inl rfl) (de_tup (da_cons (DN.de dn_str) (da_cons (de_var 1) (da_cons (de_tup da_nil (Len.ok len_nil)) da_nil))) (Len.ok (len_cons (len_cons (len_cons len_nil))))))
    dss_nil))
    (dss_cons (ds_ret (de_var 1))
    dss_nil)))
/-! ### is_integer -/
def d_is_integer : SD :=
    (S.seq (S.ret (E.and (E.op1 isInt (E.var 0)) (E.not (E.op1 isBool (E.var 0)))))
    S.nil)
def φ_is_integer : List D → M D := fnD 1 d_is_integer
theorem sc_is_integer : FnScope ["thing"] ["thing"] (defScope (top 1)) := ⟨rfl, rfl, rfl, by decide +kernel, rfl, by decide +kernel, by decide +kernel⟩
theorem fc_is_integer {P : Program} {w : World} {K : PySem.W.Frag} {mg : Str → Option Value} {base : Heap} (F : Fnc1 K mg "is_integer" (top 1)) (m_bool : mg "bool" = none) (m_int : mg "int" = none) (m_isinstance : mg "isinstance" = none) : Fc P w K mg base "is_integer" 1 1 φ_is_integer := by
  refine Fnc1.fc F sc_is_integer (O := []) (by decide) (k := 0) (fun cdv A outer s H E Z hcdv hr tk => ?_) (fun _ _ _ _ _ _ us hl => match us, hl with | [_], _ => rfl)
  have nd := sc_is_integer.nd
  exact (dss_cons (ds_ret (de_and (de_isi isi_int rfl m_isinstance rfl m_int (by rfl) (DE.du (de_var 0))) (de_one (de_not (de_isi isi_bool rfl m_isinstance rfl m_bool (by rfl) (DE.du (de_var 0)))))))
    dss_nil)
/-! ### is_between -/
def d_is_between : SD :=
    (S.seq (S.ret (E.and (E.app φ_is_integer (A.cons (E.var 0) A.nil)) (E.chain leD leD (E.var 1) (E.var 0) (E.var 2))))
    S.nil)
def φ_is_between : List D → M D := fnD 3 d_is_between
theorem sc_is_between : FnScope ["thing", "least", "most"] ["thing", "least", "most"] (defScope (top 2)) := ⟨rfl, rfl, rfl, by decide +kernel, rfl, by decide +kernel, by decide +kernel⟩
theorem fc_is_between {P : Program} {w : World} {K : PySem.W.Frag} {mg : Str → Option Value} {base : Heap} (F : Fnc1 K mg "is_between" (top 2)) (F_is_integer : Fc P w K mg base "is_integer" 1 1 φ_is_integer) : Fc P w K mg base "is_between" 3 2 φ_is_between := by
  refine Fnc1.fc F sc_is_between (O := []) (by decide) (k := 1) (fun cdv A outer s H E Z hcdv hr tk => ?_) (fun _ _ _ _ _ _ us hl => match us, hl with | [_, _, _], _ => rfl)
  have nd := sc_is_between.nd
  exact (dss_cons (ds_ret (de_and (de_app (Fc.dn F_is_integer) (hr.mono (by decide)) rfl (da_cons (de_var 0) da_nil) (alen_cons alen_nil)) (de_one (de_chain o_le o_le (DE.du (de_var 1)) (DE.du (de_var 0)) (DE.du (de_var 2))))))
    dss_nil)
/-! ### are_rising -/
def d_are_rising : SD :=
    (S.seq (S.ret (E.blt allD (A.cons (E.comp (I.on zp (A.cons (E.var 0) (A.cons (E.slice (E.var 0) (E.oSome (E.cst (.int 1))) E.oNone) A.nil))) [1, 2] (Gt.tup 2 (Gt.cons (Gt.name 1) (Gt.cons (Gt.name 2) Gt.nil))) T.yes (E.op2 ltD (E.var 1) (E.var 2))) A.nil)))
    S.nil)
def φ_are_rising : List D → M D := fnD 3 d_are_rising
theorem sc_are_rising : FnScope ["some", "one", "other"] ["some"] (defScope (top 3)) := ⟨rfl, rfl, rfl, by decide +kernel, rfl, by decide +kernel, by decide +kernel⟩
theorem fc_are_rising {P : Program} {w : World} {K : PySem.W.Frag} {mg : Str → Option Value} {base : Heap} (F : Fnc1 K mg "are_rising" (top 3)) (m_all : mg "all" = none) (m_zip : mg "zip" = none) : Fc P w K mg base "are_rising" 1 1 φ_are_rising := by
  refine Fnc1.fc F sc_are_rising (O := []) (by decide) (k := 0) (fun cdv A outer s H E Z hcdv hr tk => ?_) (fun _ _ _ _ _ _ us hl => match us, hl with | [_], _ => rfl)
  have nd := sc_are_rising.nd
  exact (dss_cons (ds_ret (de_bltB (b_all rfl) rfl m_all (by rfl) (dau_cons (DN.du (dn_comp (own := [("one", 1), ("other", 2)]) rfl nd (DI.c (di_zip rfl m_zip (da_cons (de_var 0) (da_cons (de_slice (DE.du (de_var 0)) (do_some (DN.du dn_int)) do_none) da_nil)))) (blkOk_by (by rfl)) (by decide) (fun _ _ _ _ _ => (dg_tup rfl (dgs_cons (dg_name 1 (by decide) (by decide) nd rfl (by first | exact Or.inl rfl | exact Or.inr rfl)) (dgs_cons (dg_name 2 (by decide) (by decide) nd rfl (by first | exact Or.inl rfl | exact Or.inr rfl)) dgs_nil)))) (fun _ _ _ _ _ => dts_nil) (fun _ _ _ _ _ => (de_cmp o_lt (DE.du (de_var 1)) (DE.du (de_var 2)) rfl)))) dau_nil)))
    dss_nil)
/-! ### is_literal -/
def d_is_literal : SD :=
    (S.seq (S.ret (E.and (E.app φ_is_integer (A.cons (E.var 1) A.nil)) (E.chain leD leD (E.cst (.int 1)) (E.blt absD (A.cons (E.var 1) A.nil)) (E.var 0))))
    S.nil)
def φ_is_literal : List D → M D := fnD 2 d_is_literal
theorem sc_is_literal : FnScope ["names", "thing"] ["names", "thing"] (defScope (top 4)) := ⟨rfl, rfl, rfl, by decide +kernel, rfl, by decide +kernel, by decide +kernel⟩
theorem fc_is_literal {P : Program} {w : World} {K : PySem.W.Frag} {mg : Str → Option Value} {base : Heap} (F : Fnc1 K mg "is_literal" (top 4)) (m_abs : mg "abs" = none) (F_is_integer : Fc P w K mg base "is_integer" 1 1 φ_is_integer) : Fc P w K mg base "is_literal" 2 2 φ_is_literal := by
  refine Fnc1.fc F sc_is_literal (O := []) (by decide) (k := 1) (fun cdv A outer s H E Z hcdv hr tk => ?_) (fun _ _ _ _ _ _ us hl => match us, hl with | [_, _], _ => rfl)
  have nd := sc_is_literal.nd
  exact (dss_cons (ds_ret (de_and (de_app (Fc.dn F_is_integer) (hr.mono (by decide)) rfl (da_cons (de_var 1) da_nil) (alen_cons alen_nil)) (de_one (de_chain o_le o_le (DN.du dn_int) (DE.du (de_bltB b_abs rfl m_abs (by rfl) (dau_cons (DE.du (de_var 1)) dau_nil))) (DE.du (de_var 0))))))
    dss_nil)
/-! ### is_clause -/
def d_is_clause : SD :=
    (S.seq (S.ite (T.or (T.not (T.val (E.op1 isTup (E.var 1)))) (T.not (T.val (E.blt allD (A.cons (E.comp (I.seq (E.var 1)) [2] (Gt.name 2) T.yes (E.app φ_is_literal (A.cons (E.var 0) (A.cons (E.var 2) A.nil)))) A.nil)))))
    (S.seq (S.ret (E.cst (.bl false)))
    S.nil)
    S.nil)
    (S.seq (S.ret (E.app φ_are_rising (A.cons (E.comp (I.seq (E.var 1)) [2] (Gt.name 2) T.yes (E.blt absD (A.cons (E.var 2) A.nil))) A.nil)))
    S.nil))
def φ_is_clause : List D → M D := fnD 3 d_is_clause
theorem sc_is_clause : FnScope ["names", "thing", "literal"] ["names", "thing"] (defScope (top 5)) := ⟨rfl, rfl, rfl, by decide +kernel, rfl, by decide +kernel, by decide +kernel⟩
theorem fc_is_clause {P : Program} {w : World} {K : PySem.W.Frag} {mg : Str → Option Value} {base : Heap} (F : Fnc1 K mg "is_clause" (top 5)) (m_abs : mg "abs" = none) (m_all : mg "all" = none) (m_isinstance : mg "isinstance" = none) (m_tuple : mg "tuple" = none) (F_are_rising : Fc P w K mg base "are_rising" 1 1 φ_are_rising) (F_is_literal : Fc P w K mg base "is_literal" 2 2 φ_is_literal) : Fc P w K mg base "is_clause" 2 3 φ_is_clause := by
  refine Fnc1.fc F sc_is_clause (O := []) (by decide) (k := 2) (fun cdv A outer s H E Z hcdv hr tk => ?_) (fun _ _ _ _ _ _ us hl => match us, hl with | [_, _], _ => rfl)
  have nd := sc_is_clause.nd
  exact (dss_cons (ds_if (dt_w (dw_or (dt_not (dt_val (de_isi isi_tuple rfl m_isinstance rfl m_tuple (by rfl) (DE.du (de_var 1))))) (dw_or1 (dt_not (dt_val (de_bltB (b_all rfl) rfl m_all (by rfl) (dau_cons (DN.du (dn_comp (own := [("literal", 2)]) rfl nd (DI.c (di_seq (de_var 1))) (blkOk_by (by rfl)) (by decide) (fun _ _ _ _ _ => (dg_name 2 (by decide) (by decide) nd rfl (by first | exact Or.inl rfl | exact Or.inr rfl))) (fun _ _ _ _ _ => dts_nil) (fun _ _ _ _ _ => (de_app (Fc.dn F_is_literal) (hr.mono (by decide)) rfl (da_cons (de_var 0) (da_cons (de_var 2) da_nil)) (alen_cons (alen_cons alen_nil)))))) dau_nil)))))))
    (dss_cons (ds_ret (DN.de dn_bl))
    dss_nil)
    dss_nil)
    (dss_cons (ds_ret (de_app (Fc.dn F_are_rising) (hr.mono (by decide)) rfl (da_cons (DN.de (dn_comp (own := [("literal", 2)]) rfl nd (DI.c (di_seq (de_var 1))) (blkOk_by (by rfl)) (by decide) (fun _ _ _ _ _ => (dg_name 2 (by decide) (by decide) nd rfl (by first | exact Or.inl rfl | exact Or.inr rfl))) (fun _ _ _ _ _ => dts_nil) (fun _ _ _ _ _ => (de_bltB b_abs rfl m_abs (by rfl) (dau_cons (DE.du (de_var 2)) dau_nil))))) da_nil) (alen_cons alen_nil)))
    dss_nil))
/-! ### is_leaf_form -/
def d_is_leaf_form : SD :=
    (S.seq (S.ite (T.not (T.val (E.app φ_is_between (A.cons (E.ix (E.var 0) (E.cst (.int 1))) (A.cons (E.cst (.int 1)) (A.cons (E.cst (.int 7)) A.nil))))))
    (S.seq (S.ret (E.cst (.bl false)))
    S.nil)
    S.nil)
    (S.seq (S.ite (T.val (E.op2 eqD (E.ix (E.var 0) (E.cst (.int 0))) (E.cst (.str "same"))))
    (S.seq (S.ret (E.and (E.app φ_is_literal (A.cons (E.ix (E.var 0) (E.cst (.int 1))) (A.cons (E.ix (E.var 0) (E.cst (.int 2))) A.nil))) (E.and (E.app φ_is_literal (A.cons (E.ix (E.var 0) (E.cst (.int 1))) (A.cons (E.ix (E.var 0) (E.cst (.int 3))) A.nil))) (E.op2 neD (E.blt absD (A.cons (E.ix (E.var 0) (E.cst (.int 2))) A.nil)) (E.blt absD (A.cons (E.ix (E.var 0) (E.cst (.int 3))) A.nil))))))
    S.nil)
    S.nil)
    (S.seq (S.ite (T.not (T.val (E.app φ_is_clause (A.cons (E.ix (E.var 0) (E.cst (.int 1))) (A.cons (E.ix (E.var 0) (E.cst (.int 2))) A.nil)))))
    (S.seq (S.ret (E.cst (.bl false)))
    S.nil)
    S.nil)
    (S.seq (S.ret (E.or (E.op2 eqD (E.ix (E.var 0) (E.cst (.int 0))) (E.cst (.str "clause"))) (E.chain leD leD (E.cst (.int 2)) (E.blt lenD (A.cons (E.ix (E.var 0) (E.cst (.int 2))) A.nil)) (E.cst (.int 5)))))
    S.nil))))
def φ_is_leaf_form : List D → M D := fnD 1 d_is_leaf_form
theorem sc_is_leaf_form : FnScope ["term"] ["term"] (defScope (top 50)) := ⟨rfl, rfl, rfl, by decide +kernel, rfl, by decide +kernel, by decide +kernel⟩
theorem fc_is_leaf_form {P : Program} {w : World} {K : PySem.W.Frag} {mg : Str → Option Value} {base : Heap} (F : Fnc1 K mg "is_leaf_form" (top 50)) (m_abs : mg "abs" = none) (m_len : mg "len" = none) (g_LEAST_LITERALS : ∃ t, mg "LEAST_LITERALS" = some (.int 2 t)) (g_MOST_LITERALS : ∃ t, mg "MOST_LITERALS" = some (.int 5 t)) (g_MOST_NAMES : ∃ t, mg "MOST_NAMES" = some (.int 7 t)) (g_CLAUSE : ∃ t, mg "CLAUSE" = some (.str "clause" t)) (g_SAME : ∃ t, mg "SAME" = some (.str "same" t)) (F_is_clause : Fc P w K mg base "is_clause" 2 3 φ_is_clause) (F_is_literal : Fc P w K mg base "is_literal" 2 2 φ_is_literal) (F_is_between : Fc P w K mg base "is_between" 3 2 φ_is_between) : Fc P w K mg base "is_leaf_form" 1 4 φ_is_leaf_form := by
  refine Fnc1.fc F sc_is_leaf_form (O := []) (by decide) (k := 3) (fun cdv A outer s H E Z hcdv hr tk => ?_) (fun _ _ _ _ _ _ us hl => match us, hl with | [_], _ => rfl)
  have nd := sc_is_leaf_form.nd
  exact (dss_cons (ds_if (dt_not (dt_val (de_app (Fc.dn F_is_between) (hr.mono (by decide)) rfl (da_cons (de_ix (DE.du (de_var 0)) (DN.du dn_int)) (da_cons (DN.de dn_int) (da_cons (DN.de (dn_gI rfl g_MOST_NAMES)) da_nil))) (alen_cons (alen_cons (alen_cons alen_nil))))))
    (dss_cons (ds_ret (DN.de dn_bl))
    dss_nil)
    dss_nil)
    (dss_cons (ds_if (dt_cmp (o_eq (r65 hr)) (DE.du (de_ix (DE.du (de_var 0)) (DN.du dn_int))) (DN.du (dn_gS rfl g_SAME)) rfl)
    (dss_cons (ds_ret (de_and (de_app (Fc.dn F_is_literal) (hr.mono (by decide)) rfl (da_cons (de_ix (DE.du (de_var 0)) (DN.du dn_int)) (da_cons (de_ix (DE.du (de_var 0)) (DN.du dn_int)) da_nil)) (alen_cons (alen_cons alen_nil))) (de_and (de_app (Fc.dn F_is_literal) (hr.mono (by decide)) rfl (da_cons (de_ix (DE.du (de_var 0)) (DN.du dn_int)) (da_cons (de_ix (DE.du (de_var 0)) (DN.du dn_int)) da_nil)) (alen_cons (alen_cons alen_nil))) (de_one (de_cmp (o_ne (r65 hr)) (DE.du (de_bltB b_abs rfl m_abs (by rfl) (dau_cons (DE.du (de_ix (DE.du (de_var 0)) (DN.du dn_int))) dau_nil))) (DE.du (de_bltB b_abs rfl m_abs (by rfl) (dau_cons (DE.du (de_ix (DE.du (de_var 0)) (DN.du dn_int))) dau_nil))) rfl)))))
    dss_nil)
    dss_nil)
    (dss_cons (ds_if (dt_not (dt_val (de_app (Fc.dn F_is_clause) (hr.mono (by decide)) rfl (da_cons (de_ix (DE.du (de_var 0)) (DN.du dn_int)) (da_cons (de_ix (DE.du (de_var 0)) (DN.du dn_int)) da_nil)) (alen_cons (alen_cons alen_nil)))))
    (dss_cons (ds_ret (DN.de dn_bl))
    dss_nil)
    dss_nil)
    (dss_cons (ds_ret (de_or (de_cmp (o_eq (r65 hr)) (DE.du (de_ix (DE.du (de_var 0)) (DN.du dn_int))) (DN.du (dn_gS rfl g_CLAUSE)) rfl) (de_one (de_chain o_le o_le (DN.du (dn_gI rfl g_LEAST_LITERALS)) (DE.du (de_bltB b_len rfl m_len (by rfl) (dau_cons (DE.du (de_ix (DE.du (de_var 0)) (DN.du dn_int))) dau_nil))) (DN.du (dn_gI rfl g_MOST_LITERALS))))))
    dss_nil))))
/-! ### are_numbers -/
def d_are_numbers : SD :=
    (S.seq (S.ite (T.or (T.not (T.val (E.op1 isTup (E.var 1)))) (T.not (T.val (E.blt allD (A.cons (E.comp (I.seq (E.var 1)) [2] (Gt.name 2) T.yes (E.app φ_is_between (A.cons (E.var 2) (A.cons (E.cst (.int 0)) (A.cons (E.op2 subD (E.var 0) (E.cst (.int 1))) A.nil))))) A.nil)))))
    (S.seq (S.ret (E.cst (.bl false)))
    S.nil)
    S.nil)
    (S.seq (S.ret (E.app φ_are_rising (A.cons (E.var 1) A.nil)))
    S.nil))
def φ_are_numbers : List D → M D := fnD 3 d_are_numbers
theorem sc_are_numbers : FnScope ["most", "thing", "one"] ["most", "thing"] (defScope (top 49)) := ⟨rfl, rfl, rfl, by decide +kernel, rfl, by decide +kernel, by decide +kernel⟩
theorem fc_are_numbers {P : Program} {w : World} {K : PySem.W.Frag} {mg : Str → Option Value} {base : Heap} (F : Fnc1 K mg "are_numbers" (top 49)) (m_all : mg "all" = none) (m_isinstance : mg "isinstance" = none) (m_tuple : mg "tuple" = none) (F_are_rising : Fc P w K mg base "are_rising" 1 1 φ_are_rising) (F_is_between : Fc P w K mg base "is_between" 3 2 φ_is_between) : Fc P w K mg base "are_numbers" 2 3 φ_are_numbers := by
  refine Fnc1.fc F sc_are_numbers (O := []) (by decide) (k := 2) (fun cdv A outer s H E Z hcdv hr tk => ?_) (fun _ _ _ _ _ _ us hl => match us, hl with | [_, _], _ => rfl)
  have nd := sc_are_numbers.nd
  exact (dss_cons (ds_if (dt_w (dw_or (dt_not (dt_val (de_isi isi_tuple rfl m_isinstance rfl m_tuple (by rfl) (DE.du (de_var 1))))) (dw_or1 (dt_not (dt_val (de_bltB (b_all rfl) rfl m_all (by rfl) (dau_cons (DN.du (dn_comp (own := [("one", 2)]) rfl nd (DI.c (di_seq (de_var 1))) (blkOk_by (by rfl)) (by decide) (fun _ _ _ _ _ => (dg_name 2 (by decide) (by decide) nd rfl (by first | exact Or.inl rfl | exact Or.inr rfl))) (fun _ _ _ _ _ => dts_nil) (fun _ _ _ _ _ => (de_app (Fc.dn F_is_between) (hr.mono (by decide)) rfl (da_cons (de_var 2) (da_cons (DN.de dn_int) (da_cons (de_bin o_sub (DE.du (de_var 0)) (DN.du dn_int)) da_nil))) (alen_cons (alen_cons (alen_cons alen_nil))))))) dau_nil)))))))
    (dss_cons (ds_ret (DN.de dn_bl))
    dss_nil)
    dss_nil)
    (dss_cons (ds_ret (de_app (Fc.dn F_are_rising) (hr.mono (by decide)) rfl (da_cons (de_var 1) da_nil) (alen_cons alen_nil)))
    dss_nil))
/-! ### is_lot -/
def d_is_lot : SD :=
    (S.seq (S.ite (T.or (T.not (T.val (E.op1 isTup (E.var 1)))) (T.not (T.val (E.blt allD (A.cons (E.comp (I.seq (E.var 1)) [2] (Gt.name 2) T.yes (E.app φ_is_between (A.cons (E.var 2) (A.cons (E.cst (.int 1)) (A.cons (E.var 0) A.nil))))) A.nil)))))
    (S.seq (S.ret (E.cst (.bl false)))
    S.nil)
    S.nil)
    (S.seq (S.ret (E.app φ_are_rising (A.cons (E.var 1) A.nil)))
    S.nil))
def φ_is_lot : List D → M D := fnD 3 d_is_lot
theorem sc_is_lot : FnScope ["names", "thing", "name"] ["names", "thing"] (defScope (top 6)) := ⟨rfl, rfl, rfl, by decide +kernel, rfl, by decide +kernel, by decide +kernel⟩
theorem fc_is_lot {P : Program} {w : World} {K : PySem.W.Frag} {mg : Str → Option Value} {base : Heap} (F : Fnc1 K mg "is_lot" (top 6)) (m_all : mg "all" = none) (m_isinstance : mg "isinstance" = none) (m_tuple : mg "tuple" = none) (F_are_rising : Fc P w K mg base "are_rising" 1 1 φ_are_rising) (F_is_between : Fc P w K mg base "is_between" 3 2 φ_is_between) : Fc P w K mg base "is_lot" 2 3 φ_is_lot := by
  refine Fnc1.fc F sc_is_lot (O := []) (by decide) (k := 2) (fun cdv A outer s H E Z hcdv hr tk => ?_) (fun _ _ _ _ _ _ us hl => match us, hl with | [_, _], _ => rfl)
  have nd := sc_is_lot.nd
  exact (dss_cons (ds_if (dt_w (dw_or (dt_not (dt_val (de_isi isi_tuple rfl m_isinstance rfl m_tuple (by rfl) (DE.du (de_var 1))))) (dw_or1 (dt_not (dt_val (de_bltB (b_all rfl) rfl m_all (by rfl) (dau_cons (DN.du (dn_comp (own := [("name", 2)]) rfl nd (DI.c (di_seq (de_var 1))) (blkOk_by (by rfl)) (by decide) (fun _ _ _ _ _ => (dg_name 2 (by decide) (by decide) nd rfl (by first | exact Or.inl rfl | exact Or.inr rfl))) (fun _ _ _ _ _ => dts_nil) (fun _ _ _ _ _ => (de_app (Fc.dn F_is_between) (hr.mono (by decide)) rfl (da_cons (de_var 2) (da_cons (DN.de dn_int) (da_cons (de_var 0) da_nil))) (alen_cons (alen_cons (alen_cons alen_nil))))))) dau_nil)))))))
    (dss_cons (ds_ret (DN.de dn_bl))
    dss_nil)
    dss_nil)
    (dss_cons (ds_ret (de_app (Fc.dn F_are_rising) (hr.mono (by decide)) rfl (da_cons (de_var 1) da_nil) (alen_cons alen_nil)))
    dss_nil))
/-! ### is_single_form -/
def d_is_single_form : SD :=
    (S.seq (S.set 1 (E.ix (E.var 0) (E.cst (.int 0))))
    (S.seq (S.ite (T.val (E.op2 eqD (E.var 1) (E.cst (.str "merged"))))
    (S.seq (S.ret (E.and (E.blt allD (A.cons (E.comp (I.seq (E.slice (E.var 0) (E.oSome (E.cst (.int 2))) E.oNone)) [2] (Gt.name 2) T.yes (E.app φ_is_between (A.cons (E.var 2) (A.cons (E.cst (.int 1)) (A.cons (E.cst (.int 7)) A.nil))))) A.nil)) (E.op2 ltD (E.ix (E.var 0) (E.cst (.int 2))) (E.ix (E.var 0) (E.cst (.int 3))))))
    S.nil)
    S.nil)
    (S.seq (S.ite (T.val (E.op2 eqD (E.var 1) (E.cst (.str "set"))))
    (S.seq (S.ret (E.app φ_is_clause (A.cons (E.cst (.int 7)) (A.cons (E.ix (E.var 0) (E.cst (.int 2))) A.nil))))
    S.nil)
    S.nil)
    (S.seq (S.ret (E.ifx (T.val (E.op2 eqD (E.var 1) (E.cst (.str "without")))) (E.app φ_are_numbers (A.cons (E.cst (.int 16)) (A.cons (E.ix (E.var 0) (E.cst (.int 2))) A.nil))) (E.app φ_is_lot (A.cons (E.cst (.int 7)) (A.cons (E.ix (E.var 0) (E.cst (.int 2))) A.nil)))))
    S.nil))))
def φ_is_single_form : List D → M D := fnD 3 d_is_single_form
theorem sc_is_single_form : FnScope ["term", "word", "one"] ["term"] (defScope (top 51)) := ⟨rfl, rfl, rfl, by decide +kernel, rfl, by decide +kernel, by decide +kernel⟩
theorem fc_is_single_form {P : Program} {w : World} {K : PySem.W.Frag} {mg : Str → Option Value} {base : Heap} (F : Fnc1 K mg "is_single_form" (top 51)) (m_all : mg "all" = none) (g_MOST_CLAUSES : ∃ t, mg "MOST_CLAUSES" = some (.int 16 t)) (g_MOST_NAMES : ∃ t, mg "MOST_NAMES" = some (.int 7 t)) (g_MERGED : ∃ t, mg "MERGED" = some (.str "merged" t)) (g_SET : ∃ t, mg "SET" = some (.str "set" t)) (g_WITHOUT : ∃ t, mg "WITHOUT" = some (.str "without" t)) (F_are_numbers : Fc P w K mg base "are_numbers" 2 3 φ_are_numbers) (F_is_lot : Fc P w K mg base "is_lot" 2 3 φ_is_lot) (F_is_clause : Fc P w K mg base "is_clause" 2 3 φ_is_clause) (F_is_between : Fc P w K mg base "is_between" 3 2 φ_is_between) : Fc P w K mg base "is_single_form" 1 4 φ_is_single_form := by
  refine Fnc1.fc F sc_is_single_form (O := []) (by decide) (k := 3) (fun cdv A outer s H E Z hcdv hr tk => ?_) (fun _ _ _ _ _ _ us hl => match us, hl with | [_], _ => rfl)
  have nd := sc_is_single_form.nd
  exact (dss_cons (ds_set 1 (by decide) nd rfl (Or.inl rfl) (de_ix (DE.du (de_var 0)) (DN.du dn_int)))
    (dss_cons (ds_if (dt_cmp (o_eq (r65 hr)) (DE.du (de_var 1)) (DN.du (dn_gS rfl g_MERGED)) rfl)
    (dss_cons (ds_ret (de_and (de_bltB (b_all rfl) rfl m_all (by rfl) (dau_cons (DN.du (dn_comp (own := [("one", 2)]) rfl nd (DI.c (di_seq (de_slice (DE.du (de_var 0)) (do_some (DN.du dn_int)) do_none))) (blkOk_by (by rfl)) (by decide) (fun _ _ _ _ _ => (dg_name 2 (by decide) (by decide) nd rfl (by first | exact Or.inl rfl | exact Or.inr rfl))) (fun _ _ _ _ _ => dts_nil) (fun _ _ _ _ _ => (de_app (Fc.dn F_is_between) (hr.mono (by decide)) rfl (da_cons (de_var 2) (da_cons (DN.de dn_int) (da_cons (DN.de (dn_gI rfl g_MOST_NAMES)) da_nil))) (alen_cons (alen_cons (alen_cons alen_nil))))))) dau_nil)) (de_one (de_cmp o_lt (DE.du (de_ix (DE.du (de_var 0)) (DN.du dn_int))) (DE.du (de_ix (DE.du (de_var 0)) (DN.du dn_int))) rfl))))
    dss_nil)
    dss_nil)
    (dss_cons (ds_if (dt_cmp (o_eq (r65 hr)) (DE.du (de_var 1)) (DN.du (dn_gS rfl g_SET)) rfl)
    (dss_cons (ds_ret (de_app (Fc.dn F_is_clause) (hr.mono (by decide)) rfl (da_cons (DN.de (dn_gI rfl g_MOST_NAMES)) (da_cons (de_ix (DE.du (de_var 0)) (DN.du dn_int)) da_nil)) (alen_cons (alen_cons alen_nil))))
    dss_nil)
    dss_nil)
    (dss_cons (ds_ret (de_ifx (dt_cmp (o_eq (r65 hr)) (DE.du (de_var 1)) (DN.du (dn_gS rfl g_WITHOUT)) rfl) (de_app (Fc.dn F_are_numbers) (hr.mono (by decide)) rfl (da_cons (DN.de (dn_gI rfl g_MOST_CLAUSES)) (da_cons (de_ix (DE.du (de_var 0)) (DN.du dn_int)) da_nil)) (alen_cons (alen_cons alen_nil))) (de_app (Fc.dn F_is_lot) (hr.mono (by decide)) rfl (da_cons (DN.de (dn_gI rfl g_MOST_NAMES)) (da_cons (de_ix (DE.du (de_var 0)) (DN.du dn_int)) da_nil)) (alen_cons (alen_cons alen_nil)))))
    dss_nil))))
/-! ### is_form -/
def d_is_form : SD :=
    (S.seq (S.ite (T.or (T.not (T.val (E.op1 isTup (E.var 0)))) (T.or (T.val (E.op2 eqE (E.var 0) (E.tup A.nil))) (T.not (T.val (E.op1 isStr (E.ix (E.var 0) (E.cst (.int 0))))))))
    (S.seq (S.ret (E.cst (.bl false)))
    S.nil)
    S.nil)
    (S.seq (S.ite (T.val (E.op2 neD (E.op1 (kgetD [("clause", 3), ("one", 3), ("most", 3), ("same", 4), ("both", 3), ("beside", 3), ("either", 3), ("turned", 3), ("crossed", 3), ("set", 3), ("merged", 4), ("without", 3)]) (E.ix (E.var 0) (E.cst (.int 0)))) (E.blt lenD (A.cons (E.var 0) A.nil))))
    (S.seq (S.ret (E.cst (.bl false)))
    S.nil)
    S.nil)
    (S.seq (S.ite (T.val (E.op2 inD (E.ix (E.var 0) (E.cst (.int 0))) (E.cst (.ftup [.str "clause", .str "one", .str "most", .str "same"]))))
    (S.seq (S.ret (E.app φ_is_leaf_form (A.cons (E.var 0) A.nil)))
    S.nil)
    S.nil)
    (S.seq (S.ret (E.or (E.op2 inD (E.ix (E.var 0) (E.cst (.int 0))) (E.cst (.ftup [.str "both", .str "beside", .str "either"]))) (E.app φ_is_single_form (A.cons (E.var 0) A.nil))))
    S.nil))))
def φ_is_form : List D → M D := fnD 1 d_is_form
theorem sc_is_form : FnScope ["term"] ["term"] (defScope (top 52)) := ⟨rfl, rfl, rfl, by decide +kernel, rfl, by decide +kernel, by decide +kernel⟩
theorem fc_is_form {P : Program} {w : World} {K : PySem.W.Frag} {mg : Str → Option Value} {base : Heap} (F : Fnc1 K mg "is_form" (top 52)) (m_isinstance : mg "isinstance" = none) (m_len : mg "len" = none) (m_str : mg "str" = none) (m_tuple : mg "tuple" = none) (MG_DOUBLE : mg "DOUBLE" = some (.ref (He.ga K "DOUBLE"))) (MG_LEAVES : mg "LEAVES" = some (.ref (He.ga K "LEAVES"))) (MG_LENGTHS : mg "LENGTHS" = some (.ref (He.ga K "LENGTHS"))) (GT_DOUBLE : GT K "DOUBLE" [.str "both", .str "beside", .str "either"]) (GT_LEAVES : GT K "LEAVES" [.str "clause", .str "one", .str "most", .str "same"]) (KD_LENGTHS : KD K w "LENGTHS" [("clause", 3), ("one", 3), ("most", 3), ("same", 4), ("both", 3), ("beside", 3), ("either", 3), ("turned", 3), ("crossed", 3), ("set", 3), ("merged", 4), ("without", 3)]) (F_is_single_form : Fc P w K mg base "is_single_form" 1 4 φ_is_single_form) (F_is_leaf_form : Fc P w K mg base "is_leaf_form" 1 4 φ_is_leaf_form) : Fc P w K mg base "is_form" 1 5 φ_is_form := by
  refine Fnc1.fc F sc_is_form (O := []) (by decide) (k := 4) (fun cdv A outer s H E Z hcdv hr tk => ?_) (fun _ _ _ _ _ _ us hl => match us, hl with | [_], _ => rfl)
  have nd := sc_is_form.nd
  exact (dss_cons (ds_if (dt_w (dw_or (dt_not (dt_val (de_isi isi_tuple rfl m_isinstance rfl m_tuple (by rfl) (DE.du (de_var 0))))) (dw_or (dt_cmp (o_eqE (r65 hr)) (DE.du (de_var 0)) (DE.du (de_tup da_nil (Len.ok len_nil))) rfl) (dw_or1 (dt_not (dt_val (de_isi isi_str rfl m_isinstance rfl m_str (by rfl) (DE.du (de_ix (DE.du (de_var 0)) (DN.du dn_int))))))))))
    (dss_cons (ds_ret (DN.de dn_bl))
    dss_nil)
    dss_nil)
    (dss_cons (ds_if (dt_cmp (o_ne (r65 hr)) (DE.du (de_kget rfl MG_LENGTHS KD_LENGTHS (DE.du (de_ix (DE.du (de_var 0)) (DN.du dn_int))))) (DE.du (de_bltB b_len rfl m_len (by rfl) (dau_cons (DE.du (de_var 0)) dau_nil))) rfl)
    (dss_cons (ds_ret (DN.de dn_bl))
    dss_nil)
    dss_nil)
    (dss_cons (ds_if (dt_cmp (o_in (r65 hr)) (DE.du (de_ix (DE.du (de_var 0)) (DN.du dn_int))) (DE.du (de_gtup rfl MG_LEAVES GT_LEAVES)) rfl)
    (dss_cons (ds_ret (de_app (Fc.dn F_is_leaf_form) (hr.mono (by decide)) rfl (da_cons (de_var 0) da_nil) (alen_cons alen_nil)))
    dss_nil)
    dss_nil)
    (dss_cons (ds_ret (de_or (de_cmp (o_in (r65 hr)) (DE.du (de_ix (DE.du (de_var 0)) (DN.du dn_int))) (DE.du (de_gtup rfl MG_DOUBLE GT_DOUBLE)) rfl) (de_one (de_app (Fc.dn F_is_single_form) (hr.mono (by decide)) rfl (da_cons (de_var 0) da_nil) (alen_cons alen_nil)))))
    dss_nil))))
/-! ### places_in -/
def d_places_in : SD :=
    (S.seq (S.ite (T.val (E.op2 inD (E.ix (E.var 0) (E.cst (.int 0))) (E.cst (.ftup [.str "both", .str "beside", .str "either"]))))
    (S.seq (S.ret (E.tup (A.cons (E.cst (.int 1)) (A.cons (E.cst (.int 2)) A.nil))))
    S.nil)
    S.nil)
    (S.seq (S.ret (E.ifx (T.val (E.op2 inD (E.ix (E.var 0) (E.cst (.int 0))) (E.cst (.ftup [.str "turned", .str "crossed", .str "set", .str "merged", .str "without"])))) (E.tup (A.cons (E.cst (.int 1)) A.nil)) (E.tup A.nil)))
    S.nil))
def φ_places_in : List D → M D := fnD 1 d_places_in
theorem sc_places_in : FnScope ["term"] ["term"] (defScope (top 53)) := ⟨rfl, rfl, rfl, by decide +kernel, rfl, by decide +kernel, by decide +kernel⟩
theorem fc_places_in {P : Program} {w : World} {K : PySem.W.Frag} {mg : Str → Option Value} {base : Heap} (F : Fnc1 K mg "places_in" (top 53)) (MG_SINGLE : mg "SINGLE" = some (.ref (He.ga K "SINGLE"))) (MG_DOUBLE : mg "DOUBLE" = some (.ref (He.ga K "DOUBLE"))) (GT_SINGLE : GT K "SINGLE" [.str "turned", .str "crossed", .str "set", .str "merged", .str "without"]) (GT_DOUBLE : GT K "DOUBLE" [.str "both", .str "beside", .str "either"]) : Fc P w K mg base "places_in" 1 1 φ_places_in := by
  refine Fnc1.fc F sc_places_in (O := []) (by decide) (k := 0) (fun cdv A outer s H E Z hcdv hr tk => ?_) (fun _ _ _ _ _ _ us hl => match us, hl with | [_], _ => rfl)
  have nd := sc_places_in.nd
  exact (dss_cons (ds_if (dt_cmp (o_in (r65 hr)) (DE.du (de_ix (DE.du (de_var 0)) (DN.du dn_int))) (DE.du (de_gtup rfl MG_DOUBLE GT_DOUBLE)) rfl)
    (dss_cons (ds_ret (de_tup (da_cons (DN.de dn_int) (da_cons (DN.de dn_int) da_nil)) (Len.ok (len_cons (len_cons len_nil)))))
    dss_nil)
    dss_nil)
    (dss_cons (ds_ret (de_ifx (dt_cmp (o_in (r65 hr)) (DE.du (de_ix (DE.du (de_var 0)) (DN.du dn_int))) (DE.du (de_gtup rfl MG_SINGLE GT_SINGLE)) rfl) (de_tup (da_cons (DN.de dn_int) da_nil) (Len.ok (len_cons len_nil))) (de_tup da_nil (Len.ok len_nil))))
    dss_nil))
/-! ### paths_in -/
def d_paths_in : SD :=
    (S.seq (S.par 1 2 (E.lst A.nil) (E.lst (A.cons (E.tup (A.cons (E.tup A.nil) (A.cons (E.var 0) A.nil))) A.nil)))
    (S.seq (whileN (T.val (E.op2 neE (E.var 2) (E.lst A.nil)))
    (S.seq (S.popG 2 (Gt.tup 2 (Gt.cons (Gt.name 3) (Gt.cons (Gt.name 4) Gt.nil))))
    (S.seq (S.ite (T.or (T.val (E.op2 eqD (E.blt lenD (A.cons (E.var 1) A.nil)) (E.cst (.int 20)))) (T.val (E.op2 geD2 (E.blt lenD (A.cons (E.var 3) A.nil)) (E.cst (.int 8)))))
    (S.seq (S.raise "BadTerm" ["path"] (A.cons (E.tup A.nil) A.nil))
    S.nil)
    S.nil)
    (S.seq (S.ite (T.not (T.val (E.app φ_is_form (A.cons (E.var 4) A.nil))))
    (S.seq (S.raise "BadTerm" ["path"] (A.cons (E.var 3) A.nil))
    S.nil)
    S.nil)
    (S.seq (S.append 1 (E.var 3))
    (S.seq (S.for_ (I.seq (E.op1 revD (E.app φ_places_in (A.cons (E.var 4) A.nil)))) (Gt.name 5)
    (S.seq (S.append 2 (E.tup (A.cons (E.tup (A.star (E.var 3) (A.cons (E.var 5) A.nil))) (A.cons (E.ix (E.var 4) (E.var 5)) A.nil))))
    S.nil))
    S.nil))))) 30)
    (S.seq (S.ret (E.var 1))
    S.nil)))
def φ_paths_in : List D → M D := fnD 6 d_paths_in
theorem sc_paths_in : FnScope ["term", "found", "waiting", "path", "here", "place"] ["term"] (defScope (top 54)) := ⟨rfl, rfl, rfl, by decide +kernel, rfl, by decide +kernel, by decide +kernel⟩
theorem fc_paths_in {P : Program} {w : World} {K : PySem.W.Frag} {mg : Str → Option Value} {base : Heap} (F : Fnc1 K mg "paths_in" (top 54)) (m_len : mg "len" = none) (g_MOST_DEEP : ∃ t, mg "MOST_DEEP" = some (.int 8 t)) (g_MOST_WORDS : ∃ t, mg "MOST_WORDS" = some (.int 20 t)) (ER_BadTerm : Er1 P w K mg base "BadTerm" "path") (F_places_in : Fc P w K mg base "places_in" 1 1 φ_places_in) (F_is_form : Fc P w K mg base "is_form" 1 5 φ_is_form) : Fc P w K mg base "paths_in" 1 6 φ_paths_in := by
  refine Fnc1.fc F sc_paths_in (O := [1, 2]) (by decide) (k := 5) (fun cdv A outer s H E Z hcdv hr tk => ?_) (fun _ _ _ _ _ _ us hl => match us, hl with | [_], _ => rfl)
  have nd := sc_paths_in.nd
  exact (dss_cons (ds_parNN 1 2 (by decide) (by decide) rfl nd rfl rfl (by decide) rfl rfl (dn_lst da_nil (Len.ok len_nil)) (dn_lst (da_cons (de_tup (da_cons (de_tup da_nil (Len.ok len_nil)) (da_cons (de_var 0) da_nil)) (Len.ok (len_cons (len_cons len_nil)))) da_nil) (Len.ok (len_cons len_nil))) (by rfl))
    (dss_cons (ds_while 30 (passes_of rfl) (dt_cmp (o_neE (r65 hr)) (du_var 2) (DN.du (dn_lst da_nil (Len.ok len_nil))) rfl)
    (dss_cons (ds_popT (vs := [3, 4]) 2 (by decide) rfl (by first | exact Or.inl rfl | exact Or.inr (Or.inl rfl) | exact Or.inr (Or.inr rfl)) (dg_tup rfl (dgs_cons (dg_name 3 (by decide) (by decide) nd rfl (by first | exact Or.inl rfl | exact Or.inr rfl)) (dgs_cons (dg_name 4 (by decide) (by decide) nd rfl (by first | exact Or.inl rfl | exact Or.inr rfl)) dgs_nil))))
    (dss_cons (ds_if (dt_w (dw_or (dt_cmp (o_eq (r65 hr)) (DE.du (de_bltB b_len rfl m_len (by rfl) (dau_cons (du_var 1) dau_nil))) (DN.du (dn_gI rfl g_MOST_WORDS)) rfl) (dw_or1 (dt_cmp (o_ge2 (r0 hr)) (DE.du (de_bltB b_len rfl m_len (by rfl) (dau_cons (DE.du (de_var 3)) dau_nil))) (DN.du (dn_gI rfl g_MOST_DEEP)) rfl))))
    (dss_cons (ds_raise1 ER_BadTerm rfl tk (hr.mono (by decide)) rfl (da_cons (de_tup da_nil (Len.ok len_nil)) da_nil))
    dss_nil)
    dss_nil)
    (dss_cons (ds_if (dt_not (dt_val (de_app (Fc.dn F_is_form) (hr.mono (by decide)) rfl (da_cons (de_var 4) da_nil) (alen_cons alen_nil))))
    (dss_cons (ds_raise1 ER_BadTerm rfl tk (hr.mono (by decide)) rfl (da_cons (de_var 3) da_nil))
    dss_nil)
    dss_nil)
    (dss_cons (ds_append 1 (by decide) rfl (by first | exact Or.inl rfl | exact Or.inr (Or.inl rfl) | exact Or.inr (Or.inr rfl)) (de_var 3))
    (dss_cons (ds_for (vs := [5]) (passes_of rfl) rfl (di_seq (de_revT (DE.du (de_app (Fc.dn F_places_in) (hr.mono (by decide)) rfl (da_cons (de_var 4) da_nil) (alen_cons alen_nil))))) (dg_name 5 (by decide) (by decide) nd rfl (by first | exact Or.inl rfl | exact Or.inr rfl))
    (dss_cons (ds_append 2 (by decide) rfl (by first | exact Or.inl rfl | exact Or.inr (Or.inl rfl) | exact Or.inr (Or.inr rfl)) (de_tup (da_cons (de_tup (da_star (DE.du (de_var 3)) (da_cons (de_var 5) da_nil)) (Len.ok len_star)) (da_cons (de_ix (DE.du (de_var 4)) (DE.du (de_var 5))) da_nil)) (Len.ok (len_cons (len_cons len_nil)))))
    dss_nil))
    dss_nil))))))
    (dss_cons (ds_retV 1)
    dss_nil)))
/-! ### term_at -/
def d_term_at : SD :=
    (S.seq (S.for_ (I.seq (E.var 1)) (Gt.name 2)
    (S.seq (S.set 0 (E.ix (E.var 0) (E.var 2)))
    S.nil))
    (S.seq (S.ret (E.var 0))
    S.nil))
def φ_term_at : List D → M D := fnD 3 d_term_at
theorem sc_term_at : FnScope ["term", "path", "place"] ["term", "path"] (defScope (top 55)) := ⟨rfl, rfl, rfl, by decide +kernel, rfl, by decide +kernel, by decide +kernel⟩
theorem fc_term_at {P : Program} {w : World} {K : PySem.W.Frag} {mg : Str → Option Value} {base : Heap} (F : Fnc1 K mg "term_at" (top 55))  : Fc P w K mg base "term_at" 2 1 φ_term_at := by
  refine Fnc1.fc F sc_term_at (O := []) (by decide) (k := 0) (fun cdv A outer s H E Z hcdv hr tk => ?_) (fun _ _ _ _ _ _ us hl => match us, hl with | [_, _], _ => rfl)
  have nd := sc_term_at.nd
  exact (dss_cons (ds_for (vs := [2]) (passes_of rfl) rfl (di_seq (de_var 1)) (dg_name 2 (by decide) (by decide) nd rfl (by first | exact Or.inl rfl | exact Or.inr rfl))
    (dss_cons (ds_set 0 (by decide) nd rfl (Or.inl rfl) (de_ix (DE.du (de_var 0)) (DE.du (de_var 2))))
    dss_nil))
    (dss_cons (ds_ret (de_var 0))
    dss_nil))
/-! ### bundle_by -/
def d_bundle_by : SD :=
    (S.seq (S.ret (E.tup (A.cons (E.var 0) (A.cons (E.blt tupleD (A.cons (E.blt sortedF (A.cons (E.dcomp true (I.seq (E.var 1)) [2] (Gt.name 2) T.yes (E.var 2) (E.cst (.bl true))) A.nil)) A.nil)) A.nil))))
    S.nil)
def φ_bundle_by : List D → M D := fnD 3 d_bundle_by
theorem sc_bundle_by : FnScope ["names", "clauses", "clause"] ["names", "clauses"] (defScope (top 18)) := ⟨rfl, rfl, rfl, by decide +kernel, rfl, by decide +kernel, by decide +kernel⟩
theorem fc_bundle_by {P : Program} {w : World} {K : PySem.W.Frag} {mg : Str → Option Value} {base : Heap} (F : Fnc1 K mg "bundle_by" (top 18)) (m_sorted : mg "sorted" = none) (m_tuple : mg "tuple" = none) : Fc P w K mg base "bundle_by" 2 1 φ_bundle_by := by
  refine Fnc1.fc F sc_bundle_by (O := []) (by decide) (k := 0) (fun cdv A outer s H E Z hcdv hr tk => ?_) (fun _ _ _ _ _ _ us hl => match us, hl with | [_, _], _ => rfl)
  have nd := sc_bundle_by.nd
  exact (dss_cons (ds_ret (de_tup (da_cons (de_var 0) (da_cons (de_bltT b_tuple rfl m_tuple (by rfl) (dau_cons (DN.du (dn_bltB (b_sortedF rfl (r65 hr)) rfl m_sorted (by rfl) (dau_cons (DN.du (dn_dcompT (own := [("clause", 2)]) (r1 hr) rfl nd (DI.c (di_seq (de_var 1))) (blkOk_by (by rfl)) (by decide) (fun _ _ _ _ _ => (dg_name 2 (by decide) (by decide) nd rfl (by first | exact Or.inl rfl | exact Or.inr rfl))) (fun _ _ _ _ _ => dts_nil) (fun _ _ _ _ _ => (de_var 2)) (fun _ _ _ _ _ => (DN.de dn_bl)))) dau_nil))) dau_nil)) da_nil)) (Len.ok (len_cons (len_cons len_nil)))))
    dss_nil)
/-! ### contrary_pairs -/
def d_contrary_pairs : SD :=
    (S.seq (S.ret (E.comp2 (I.on enm (A.cons (E.var 0) A.nil)) [1, 2, 3] (Gt.tup 2 (Gt.cons (Gt.name 1) (Gt.cons (Gt.name 2) Gt.nil))) T.yes (I.seq (E.slice (E.var 0) (E.oSome (E.op2 addD (E.var 1) (E.cst (.int 1)))) E.oNone)) [3] (Gt.name 3) T.yes (E.tup (A.cons (E.op2 subD (E.cst (.int 0)) (E.var 2)) (A.cons (E.op2 subD (E.cst (.int 0)) (E.var 3)) A.nil)))))
    S.nil)
def φ_contrary_pairs : List D → M D := fnD 4 d_contrary_pairs
theorem sc_contrary_pairs : FnScope ["clause", "spot", "one", "other"] ["clause"] (defScope (top 56)) := ⟨rfl, rfl, rfl, by decide +kernel, rfl, by decide +kernel, by decide +kernel⟩
theorem fc_contrary_pairs {P : Program} {w : World} {K : PySem.W.Frag} {mg : Str → Option Value} {base : Heap} (F : Fnc1 K mg "contrary_pairs" (top 56)) (m_enumerate : mg "enumerate" = none) : Fc P w K mg base "contrary_pairs" 1 1 φ_contrary_pairs := by
  refine Fnc1.fc F sc_contrary_pairs (O := []) (by decide) (k := 0) (fun cdv A outer s H E Z hcdv hr tk => ?_) (fun _ _ _ _ _ _ us hl => match us, hl with | [_], _ => rfl)
  have nd := sc_contrary_pairs.nd
  exact (dss_cons (ds_ret (DN.de (dn_comp2 (own := [("spot", 1), ("one", 2), ("other", 3)]) (vs1 := [3]) rfl nd (DI.c (di_enum rfl m_enumerate (da_cons (de_var 0) da_nil))) (blkOk_by (by rfl)) (by decide) (by decide) (fun _ _ _ _ _ => (dg_tup rfl (dgs_cons (dg_name 1 (by decide) (by decide) nd rfl (by first | exact Or.inl rfl | exact Or.inr rfl)) (dgs_cons (dg_name 2 (by decide) (by decide) nd rfl (by first | exact Or.inl rfl | exact Or.inr rfl)) dgs_nil)))) (fun _ _ _ _ _ => dts_nil) (fun _ _ _ _ _ => (di_seq (de_slice (DE.du (de_var 0)) (do_some (DE.du (de_bin o_add (DE.du (de_var 1)) (DN.du dn_int)))) do_none))) (fun _ _ _ _ _ => (dg_name 3 (by decide) (by decide) nd rfl (by first | exact Or.inl rfl | exact Or.inr rfl))) (fun _ _ _ _ _ => dts_nil) (fun _ _ _ _ _ => (de_tup (da_cons (de_bin o_sub (DN.du dn_int) (DE.du (de_var 2))) (da_cons (de_bin o_sub (DN.du dn_int) (DE.du (de_var 3))) da_nil)) (Len.ok (len_cons (len_cons len_nil))))))))
    dss_nil)
/-! ### by_names -/
def d_by_names : SD :=
    (S.seq (S.ret (E.blt tupleD (A.cons (E.comp (I.seq (E.blt sortedF (A.cons (E.comp (I.seq (E.var 0)) [2] (Gt.name 2) T.yes (E.tup (A.cons (E.blt absD (A.cons (E.var 2) A.nil)) (A.cons (E.var 2) A.nil)))) A.nil))) [1] (Gt.name 1) T.yes (E.ix (E.var 1) (E.cst (.int 1)))) A.nil)))
    S.nil)
def φ_by_names : List D → M D := fnD 3 d_by_names
theorem sc_by_names : FnScope ["literals", "pair", "literal"] ["literals"] (defScope (top 7)) := ⟨rfl, rfl, rfl, by decide +kernel, rfl, by decide +kernel, by decide +kernel⟩
theorem fc_by_names {P : Program} {w : World} {K : PySem.W.Frag} {mg : Str → Option Value} {base : Heap} (F : Fnc1 K mg "by_names" (top 7)) (m_abs : mg "abs" = none) (m_sorted : mg "sorted" = none) (m_tuple : mg "tuple" = none) : Fc P w K mg base "by_names" 1 1 φ_by_names := by
  refine Fnc1.fc F sc_by_names (O := []) (by decide) (k := 0) (fun cdv A outer s H E Z hcdv hr tk => ?_) (fun _ _ _ _ _ _ us hl => match us, hl with | [_], _ => rfl)
  have nd := sc_by_names.nd
  exact (dss_cons (ds_ret (de_bltT b_tuple rfl m_tuple (by rfl) (dau_cons (DN.du (dn_comp (own := [("pair", 1)]) rfl nd (DI.c (di_seq (DN.de (dn_bltB (b_sortedF rfl (r65 hr)) rfl m_sorted (by rfl) (dau_cons (DN.du (dn_comp (own := [("literal", 2)]) rfl nd (DI.c (di_seq (de_var 0))) (blkOk_by (by rfl)) (by decide) (fun _ _ _ _ _ => (dg_name 2 (by decide) (by decide) nd rfl (by first | exact Or.inl rfl | exact Or.inr rfl))) (fun _ _ _ _ _ => dts_nil) (fun _ _ _ _ _ => (de_tup (da_cons (de_bltB b_abs rfl m_abs (by rfl) (dau_cons (DE.du (de_var 2)) dau_nil)) (da_cons (de_var 2) da_nil)) (Len.ok (len_cons (len_cons len_nil))))))) dau_nil))))) (blkOk_by (by rfl)) (by decide) (fun _ _ _ _ _ => (dg_name 1 (by decide) (by decide) nd rfl (by first | exact Or.inl rfl | exact Or.inr rfl))) (fun _ _ _ _ _ => dts_nil) (fun _ _ _ _ _ => (de_ix (DE.du (de_var 1)) (DN.du dn_int))))) dau_nil)))
    dss_nil)
/-! ### leaf_bundle -/
def d_leaf_bundle : SD :=
    (S.seq (S.par3 1 2 3 (E.ix (E.var 0) (E.cst (.int 0))) (E.ix (E.var 0) (E.cst (.int 1))) (E.ix (E.var 0) (E.cst (.int 2))))
    (S.seq (S.ite (T.val (E.op2 eqD (E.var 1) (E.cst (.str "same"))))
    (S.seq (S.ret (E.app φ_bundle_by (A.cons (E.var 2) (A.cons (E.lst (A.cons (E.app φ_by_names (A.cons (E.lst (A.cons (E.ix (E.var 0) (E.cst (.int 2))) (A.cons (E.op2 subD (E.cst (.int 0)) (E.ix (E.var 0) (E.cst (.int 3)))) A.nil))) A.nil)) (A.cons (E.app φ_by_names (A.cons (E.lst (A.cons (E.op2 subD (E.cst (.int 0)) (E.ix (E.var 0) (E.cst (.int 2)))) (A.cons (E.ix (E.var 0) (E.cst (.int 3))) A.nil))) A.nil)) A.nil))) A.nil))))
    S.nil)
    S.nil)
    (S.seq (S.set 4 (E.ifx (T.val (E.op2 inD (E.var 1) (E.tup (A.cons (E.cst (.str "one")) (A.cons (E.cst (.str "most")) A.nil))))) (E.app φ_contrary_pairs (A.cons (E.var 3) A.nil)) (E.lst A.nil)))
    (S.seq (S.ret (E.app φ_bundle_by (A.cons (E.var 2) (A.cons (E.op2 addD (E.var 4) (E.op2 mulL (E.lst (A.cons (E.var 3) A.nil)) (E.blt intD (A.cons (E.op2 neD (E.var 1) (E.cst (.str "most"))) A.nil)))) A.nil))))
    S.nil))))
def φ_leaf_bundle : List D → M D := fnD 5 d_leaf_bundle
theorem sc_leaf_bundle : FnScope ["term", "word", "names", "clause", "some"] ["term"] (defScope (top 57)) := ⟨rfl, rfl, rfl, by decide +kernel, rfl, by decide +kernel, by decide +kernel⟩
theorem fc_leaf_bundle {P : Program} {w : World} {K : PySem.W.Frag} {mg : Str → Option Value} {base : Heap} (F : Fnc1 K mg "leaf_bundle" (top 57)) (m_int : mg "int" = none) (g_MOST : ∃ t, mg "MOST" = some (.str "most" t)) (g_ONE : ∃ t, mg "ONE" = some (.str "one" t)) (g_SAME : ∃ t, mg "SAME" = some (.str "same" t)) (F_bundle_by : Fc P w K mg base "bundle_by" 2 1 φ_bundle_by) (F_contrary_pairs : Fc P w K mg base "contrary_pairs" 1 1 φ_contrary_pairs) (F_by_names : Fc P w K mg base "by_names" 1 1 φ_by_names) : Fc P w K mg base "leaf_bundle" 1 2 φ_leaf_bundle := by
  refine Fnc1.fc F sc_leaf_bundle (O := []) (by decide) (k := 1) (fun cdv A outer s H E Z hcdv hr tk => ?_) (fun _ _ _ _ _ _ us hl => match us, hl with | [_], _ => rfl)
  have nd := sc_leaf_bundle.nd
  exact (dss_cons (ds_par3 1 2 3 (by decide) (by decide) (by decide) rfl nd rfl rfl rfl (by decide) (by decide) (by decide) rfl rfl rfl (de_ix (DE.du (de_var 0)) (DN.du dn_int)) (de_ix (DE.du (de_var 0)) (DN.du dn_int)) (de_ix (DE.du (de_var 0)) (DN.du dn_int)) (by rfl))
    (dss_cons (ds_if (dt_cmp (o_eq (r65 hr)) (DE.du (de_var 1)) (DN.du (dn_gS rfl g_SAME)) rfl)
    (dss_cons (ds_ret (de_app (Fc.dn F_bundle_by) (hr.mono (by decide)) rfl (da_cons (de_var 2) (da_cons (DN.de (dn_lst (da_cons (de_app (Fc.dn F_by_names) (hr.mono (by decide)) rfl (da_cons (DN.de (dn_lst (da_cons (de_ix (DE.du (de_var 0)) (DN.du dn_int)) (da_cons (de_bin o_sub (DN.du dn_int) (DE.du (de_ix (DE.du (de_var 0)) (DN.du dn_int)))) da_nil)) (Len.ok (len_cons (len_cons len_nil))))) da_nil) (alen_cons alen_nil)) (da_cons (de_app (Fc.dn F_by_names) (hr.mono (by decide)) rfl (da_cons (DN.de (dn_lst (da_cons (de_bin o_sub (DN.du dn_int) (DE.du (de_ix (DE.du (de_var 0)) (DN.du dn_int)))) (da_cons (de_ix (DE.du (de_var 0)) (DN.du dn_int)) da_nil)) (Len.ok (len_cons (len_cons len_nil))))) da_nil) (alen_cons alen_nil)) da_nil)) (Len.ok (len_cons (len_cons len_nil))))) da_nil)) (alen_cons (alen_cons alen_nil))))
    dss_nil)
    dss_nil)
    (dss_cons (ds_set 4 (by decide) nd rfl (Or.inl rfl) (de_ifx (dt_cmp (o_in (r65 hr)) (DE.du (de_var 1)) (DE.du (de_tup (da_cons (DN.de (dn_gS rfl g_ONE)) (da_cons (DN.de (dn_gS rfl g_MOST)) da_nil)) (Len.ok (len_cons (len_cons len_nil))))) rfl) (de_app (Fc.dn F_contrary_pairs) (hr.mono (by decide)) rfl (da_cons (de_var 3) da_nil) (alen_cons alen_nil)) (DN.de (dn_lst da_nil (Len.ok len_nil)))))
    (dss_cons (ds_ret (de_app (Fc.dn F_bundle_by) (hr.mono (by decide)) rfl (da_cons (de_var 2) (da_cons (de_bin o_add (DE.du (de_var 4)) (DN.du (dn_mulE (dn_lst (da_cons (de_var 3) da_nil) (Len.ok (len_cons len_nil))) (de_bltT b_int rfl m_int (by rfl) (dau_cons (DE.du (de_cmp (o_ne (r65 hr)) (DE.du (de_var 1)) (DN.du (dn_gS rfl g_MOST)) rfl)) dau_nil))))) da_nil)) (alen_cons (alen_cons alen_nil))))
    dss_nil))))
/-! ### turned_in -/
def d_turned_in : SD :=
    (S.seq (S.set 2 (E.lst A.nil))
    (S.seq (S.for_ (I.seq (E.ix (E.var 0) (E.cst (.int 1)))) (Gt.name 3)
    (S.seq (S.append 2 (E.blt tupleD (A.cons (E.comp (I.seq (E.var 3)) [4] (Gt.name 4) T.yes (E.ifx (T.val (E.op2 inD (E.blt absD (A.cons (E.var 4) A.nil)) (E.var 1))) (E.op2 subD (E.cst (.int 0)) (E.var 4)) (E.var 4))) A.nil)))
    S.nil))
    (S.seq (S.ret (E.appI φ_bundle_by (A.cons (E.ix (E.var 0) (E.cst (.int 0))) (A.cons (E.var 2) A.nil))))
    S.nil)))
def φ_turned_in : List D → M D := fnD 5 d_turned_in
theorem sc_turned_in : FnScope ["bundle", "lot", "found", "clause", "literal"] ["bundle", "lot"] (defScope (top 58)) := ⟨rfl, rfl, rfl, by decide +kernel, rfl, by decide +kernel, by decide +kernel⟩
theorem fc_turned_in {P : Program} {w : World} {K : PySem.W.Frag} {mg : Str → Option Value} {base : Heap} (F : Fnc1 K mg "turned_in" (top 58)) (m_abs : mg "abs" = none) (m_tuple : mg "tuple" = none) (F_bundle_by : Fc P w K mg base "bundle_by" 2 1 φ_bundle_by) : Fc P w K mg base "turned_in" 2 2 φ_turned_in := by
  refine Fnc1.fc F sc_turned_in (O := [2]) (by decide) (k := 1) (fun cdv A outer s H E Z hcdv hr tk => ?_) (fun _ _ _ _ _ _ us hl => match us, hl with | [_, _], _ => rfl)
  have nd := sc_turned_in.nd
  exact (dss_cons (ds_setN 2 (by decide) nd rfl (Or.inl rfl) (dn_lst da_nil (Len.ok len_nil)))
    (dss_cons (ds_for (vs := [3]) (passes_of rfl) rfl (di_seq (de_ix (DE.du (de_var 0)) (DN.du dn_int))) (dg_name 3 (by decide) (by decide) nd rfl (by first | exact Or.inl rfl | exact Or.inr rfl))
    (dss_cons (ds_append 2 (by decide) rfl (by first | exact Or.inl rfl | exact Or.inr (Or.inl rfl) | exact Or.inr (Or.inr rfl)) (de_bltT b_tuple rfl m_tuple (by rfl) (dau_cons (DN.du (dn_comp (own := [("literal", 4)]) rfl nd (DI.c (di_seq (de_var 3))) (blkOk_by (by rfl)) (by decide) (fun _ _ _ _ _ => (dg_name 4 (by decide) (by decide) nd rfl (by first | exact Or.inl rfl | exact Or.inr rfl))) (fun _ _ _ _ _ => dts_nil) (fun _ _ _ _ _ => (de_ifx (dt_cmp (o_in (r65 hr)) (DE.du (de_bltB b_abs rfl m_abs (by rfl) (dau_cons (DE.du (de_var 4)) dau_nil))) (DE.du (de_var 1)) rfl) (de_bin o_sub (DN.du dn_int) (DE.du (de_var 4))) (de_var 4))))) dau_nil)))
    dss_nil))
    (dss_cons (ds_ret (de_appI (Fc.dn F_bundle_by) (hr.mono (by decide)) rfl (dau_cons (DE.du (de_ix (DE.du (de_var 0)) (DN.du dn_int))) (dau_cons (du_var 2) dau_nil)) (alen_cons (alen_cons alen_nil))))
    dss_nil)))
/-! ### crossed_clause -/
def d_crossed_clause : SD :=
    (S.seq (S.ret (E.blt tupleD (A.cons (E.comp (I.seq (E.var 0)) [2] (Gt.name 2) (T.val (E.op2 notInD (E.blt absD (A.cons (E.var 2) A.nil)) (E.var 1))) (E.var 2)) A.nil)))
    S.nil)
def φ_crossed_clause : List D → M D := fnD 3 d_crossed_clause
theorem sc_crossed_clause : FnScope ["clause", "lot", "literal"] ["clause", "lot"] (defScope (top 15)) := ⟨rfl, rfl, rfl, by decide +kernel, rfl, by decide +kernel, by decide +kernel⟩
theorem fc_crossed_clause {P : Program} {w : World} {K : PySem.W.Frag} {mg : Str → Option Value} {base : Heap} (F : Fnc1 K mg "crossed_clause" (top 15)) (m_abs : mg "abs" = none) (m_tuple : mg "tuple" = none) : Fc P w K mg base "crossed_clause" 2 1 φ_crossed_clause := by
  refine Fnc1.fc F sc_crossed_clause (O := []) (by decide) (k := 0) (fun cdv A outer s H E Z hcdv hr tk => ?_) (fun _ _ _ _ _ _ us hl => match us, hl with | [_, _], _ => rfl)
  have nd := sc_crossed_clause.nd
  exact (dss_cons (ds_ret (de_bltT b_tuple rfl m_tuple (by rfl) (dau_cons (DN.du (dn_comp (own := [("literal", 2)]) rfl nd (DI.c (di_seq (de_var 0))) (blkOk_by (by rfl)) (by decide) (fun _ _ _ _ _ => (dg_name 2 (by decide) (by decide) nd rfl (by first | exact Or.inl rfl | exact Or.inr rfl))) (fun _ _ _ _ _ => (dts_one (dt_cmp (o_notIn (r65 hr)) (DE.du (de_bltB b_abs rfl m_abs (by rfl) (dau_cons (DE.du (de_var 2)) dau_nil))) (DE.du (de_var 1)) rfl))) (fun _ _ _ _ _ => (de_var 2)))) dau_nil)))
    dss_nil)
/-! ### crossed_in -/
def d_crossed_in : SD :=
    (S.seq (S.set 2 (E.dcomp true (I.seq (E.ix (E.var 0) (E.cst (.int 1)))) [3] (Gt.name 3) T.yes (E.app φ_crossed_clause (A.cons (E.var 3) (A.cons (E.var 1) A.nil))) (E.cst (.bl true))))
    (S.seq (S.ret (E.tup (A.cons (E.ix (E.var 0) (E.cst (.int 0))) (A.cons (E.blt tupleD (A.cons (E.blt sortedF (A.cons (E.compK 2 [3] (Gt.name 3) (T.val (E.op2 neE (E.var 3) (E.tup A.nil))) (E.var 3)) A.nil)) A.nil)) A.nil))))
    S.nil))
def φ_crossed_in : List D → M D := fnD 4 d_crossed_in
theorem sc_crossed_in : FnScope ["bundle", "lot", "some", "clause"] ["bundle", "lot"] (defScope (top 16)) := ⟨rfl, rfl, rfl, by decide +kernel, rfl, by decide +kernel, by decide +kernel⟩
theorem fc_crossed_in {P : Program} {w : World} {K : PySem.W.Frag} {mg : Str → Option Value} {base : Heap} (F : Fnc1 K mg "crossed_in" (top 16)) (m_sorted : mg "sorted" = none) (m_tuple : mg "tuple" = none) (F_crossed_clause : Fc P w K mg base "crossed_clause" 2 1 φ_crossed_clause) : Fc P w K mg base "crossed_in" 2 2 φ_crossed_in := by
  refine Fnc1.fc F sc_crossed_in (O := []) (by decide) (k := 1) (fun cdv A outer s H E Z hcdv hr tk => ?_) (fun _ _ _ _ _ _ us hl => match us, hl with | [_, _], _ => rfl)
  have nd := sc_crossed_in.nd
  exact (dss_cons (ds_setDcompT (own := [("clause", 3)]) 2 (by decide) (r1 hr) rfl nd rfl rfl (sw_trueD rfl rfl rfl (by rfl)) (DI.c (di_seq (de_ix (DE.du (de_var 0)) (DN.du dn_int)))) (blkOk_by (by rfl)) (by decide) (fun _ _ _ _ _ => (dg_name 3 (by decide) (by decide) nd rfl (by first | exact Or.inl rfl | exact Or.inr rfl))) (fun _ _ _ _ _ => dts_nil) (fun _ _ _ _ _ => (de_app (Fc.dn F_crossed_clause) (hr.mono (by decide)) rfl (da_cons (de_var 3) (da_cons (de_var 1) da_nil)) (alen_cons (alen_cons alen_nil)))) (fun _ _ _ _ _ => (DN.de dn_bl)))
    (dss_cons (ds_ret (de_tup (da_cons (de_ix (DE.du (de_var 0)) (DN.du dn_int)) (da_cons (de_bltT b_tuple rfl m_tuple (by rfl) (dau_cons (DN.du (dn_bltB (b_sortedF rfl (r65 hr)) rfl m_sorted (by rfl) (dau_cons (DN.du (dn_compK (own := [("clause", 3)]) 2 (by decide) rfl (by first | exact Or.inl rfl | exact Or.inr (Or.inl rfl) | exact Or.inr (Or.inr rfl)) rfl nd (blkOk_by (by rfl)) (by decide) (fun _ _ _ _ _ => (dg_name 3 (by decide) (by decide) nd rfl (by first | exact Or.inl rfl | exact Or.inr rfl))) (fun _ _ _ _ _ => (dts_one (dt_cmp (o_neE (r65 hr)) (DE.du (de_var 3)) (DE.du (de_tup da_nil (Len.ok len_nil))) rfl))) (fun _ _ _ _ _ => (de_var 3)))) dau_nil))) dau_nil)) da_nil)) (Len.ok (len_cons (len_cons len_nil)))))
    dss_nil))
/-! ### is_settled -/
def d_is_settled : SD :=
    (S.seq (S.ret (E.not (E.blt anyD (A.cons (E.comp (I.seq (E.var 0)) [1] (Gt.name 1) T.yes (E.op2 inD (E.op2 subD (E.cst (.int 0)) (E.var 1)) (E.var 0))) A.nil))))
    S.nil)
def φ_is_settled : List D → M D := fnD 2 d_is_settled
theorem sc_is_settled : FnScope ["literals", "literal"] ["literals"] (defScope (top 20)) := ⟨rfl, rfl, rfl, by decide +kernel, rfl, by decide +kernel, by decide +kernel⟩
theorem fc_is_settled {P : Program} {w : World} {K : PySem.W.Frag} {mg : Str → Option Value} {base : Heap} (F : Fnc1 K mg "is_settled" (top 20)) (m_any : mg "any" = none) : Fc P w K mg base "is_settled" 1 1 φ_is_settled := by
  refine Fnc1.fc F sc_is_settled (O := []) (by decide) (k := 0) (fun cdv A outer s H E Z hcdv hr tk => ?_) (fun _ _ _ _ _ _ us hl => match us, hl with | [_], _ => rfl)
  have nd := sc_is_settled.nd
  exact (dss_cons (ds_ret (de_not (de_bltB (b_any rfl) rfl m_any (by rfl) (dau_cons (DN.du (dn_comp (own := [("literal", 1)]) rfl nd (DI.c (di_seq (de_var 0))) (blkOk_by (by rfl)) (by decide) (fun _ _ _ _ _ => (dg_name 1 (by decide) (by decide) nd rfl (by first | exact Or.inl rfl | exact Or.inr rfl))) (fun _ _ _ _ _ => dts_nil) (fun _ _ _ _ _ => (de_cmp (o_in (r65 hr)) (DE.du (de_bin o_sub (DN.du dn_int) (DE.du (de_var 1)))) (DE.du (de_var 0)) rfl)))) dau_nil))))
    dss_nil)
/-! ### moved_literal -/
def d_moved_literal : SD :=
    (S.seq (S.set 3 (E.blt absD (A.cons (E.var 0) A.nil)))
    (S.seq (S.ite (T.val (E.op2 eqD (E.var 3) (E.var 2)))
    (S.seq (S.set 4 (E.var 1))
    S.nil)
    (S.seq (S.set 4 (E.ifx (T.val (E.op2 gtD (E.var 3) (E.var 2))) (E.op2 subD (E.var 3) (E.cst (.int 1))) (E.var 3)))
    S.nil))
    (S.seq (S.ret (E.ifx (T.val (E.op2 gtD (E.var 0) (E.cst (.int 0)))) (E.var 4) (E.op2 subD (E.cst (.int 0)) (E.var 4))))
    S.nil)))
def φ_moved_literal : List D → M D := fnD 5 d_moved_literal
theorem sc_moved_literal : FnScope ["literal", "one", "other", "name", "fresh"] ["literal", "one", "other"] (defScope (top 22)) := ⟨rfl, rfl, rfl, by decide +kernel, rfl, by decide +kernel, by decide +kernel⟩
theorem fc_moved_literal {P : Program} {w : World} {K : PySem.W.Frag} {mg : Str → Option Value} {base : Heap} (F : Fnc1 K mg "moved_literal" (top 22)) (m_abs : mg "abs" = none) : Fc P w K mg base "moved_literal" 3 1 φ_moved_literal := by
  refine Fnc1.fc F sc_moved_literal (O := []) (by decide) (k := 0) (fun cdv A outer s H E Z hcdv hr tk => ?_) (fun _ _ _ _ _ _ us hl => match us, hl with | [_, _, _], _ => rfl)
  have nd := sc_moved_literal.nd
  exact (dss_cons (ds_set 3 (by decide) nd rfl (Or.inl rfl) (de_bltB b_abs rfl m_abs (by rfl) (dau_cons (DE.du (de_var 0)) dau_nil)))
    (dss_cons (ds_if (dt_cmp (o_eq (r65 hr)) (DE.du (de_var 3)) (DE.du (de_var 2)) rfl)
    (dss_cons (ds_set 4 (by decide) nd rfl (Or.inl rfl) (de_var 1))
    dss_nil)
    (dss_cons (ds_set 4 (by decide) nd rfl (Or.inl rfl) (de_ifx (dt_cmp o_gt (DE.du (de_var 3)) (DE.du (de_var 2)) rfl) (de_bin o_sub (DE.du (de_var 3)) (DN.du dn_int)) (de_var 3)))
    dss_nil))
    (dss_cons (ds_ret (de_ifx (dt_cmp o_gt (DE.du (de_var 0)) (DN.du dn_int) rfl) (de_var 4) (de_bin o_sub (DN.du dn_int) (DE.du (de_var 4)))))
    dss_nil)))
/-! ### clause_of_all -/
def d_clause_of_all : SD :=
    (S.seq (S.ret (E.app φ_by_names (A.cons (E.blt listD2 (A.cons (E.dcomp false (I.seq (E.var 0)) [1] (Gt.name 1) T.yes (E.var 1) (E.cst (.bl true))) A.nil)) A.nil)))
    S.nil)
def φ_clause_of_all : List D → M D := fnD 2 d_clause_of_all
theorem sc_clause_of_all : FnScope ["literals", "literal"] ["literals"] (defScope (top 21)) := ⟨rfl, rfl, rfl, by decide +kernel, rfl, by decide +kernel, by decide +kernel⟩
theorem fc_clause_of_all {P : Program} {w : World} {K : PySem.W.Frag} {mg : Str → Option Value} {base : Heap} (F : Fnc1 K mg "clause_of_all" (top 21)) (m_list : mg "list" = none) (F_by_names : Fc P w K mg base "by_names" 1 1 φ_by_names) : Fc P w K mg base "clause_of_all" 1 2 φ_clause_of_all := by
  refine Fnc1.fc F sc_clause_of_all (O := []) (by decide) (k := 1) (fun cdv A outer s H E Z hcdv hr tk => ?_) (fun _ _ _ _ _ _ us hl => match us, hl with | [_], _ => rfl)
  have nd := sc_clause_of_all.nd
  exact (dss_cons (ds_ret (de_app (Fc.dn F_by_names) (hr.mono (by decide)) rfl (da_cons (DN.de (dn_bltT (b_list2 rfl) rfl m_list (by rfl) (dau_cons (DN.du (dn_dcompK (own := [("literal", 1)]) rfl nd (DI.c (di_seq (de_var 0))) (blkOk_by (by rfl)) (by decide) (fun _ _ _ _ _ => (dg_name 1 (by decide) (by decide) nd rfl (by first | exact Or.inl rfl | exact Or.inr rfl))) (fun _ _ _ _ _ => dts_nil) (fun _ _ _ _ _ => (de_var 1)) (fun _ _ _ _ _ => (DN.de dn_bl)))) dau_nil))) da_nil) (alen_cons alen_nil)))
    dss_nil)
/-! ### merged_in -/
def d_merged_in : SD :=
    (S.seq (S.set 3 (E.lst A.nil))
    (S.seq (S.for_ (I.seq (E.ix (E.var 0) (E.cst (.int 1)))) (Gt.name 4)
    (S.seq (S.set 5 (E.comp (I.seq (E.var 4)) [6] (Gt.name 6) T.yes (E.app φ_moved_literal (A.cons (E.var 6) (A.cons (E.var 1) (A.cons (E.var 2) A.nil))))))
    (S.seq (S.ite (T.val (E.app φ_is_settled (A.cons (E.var 5) A.nil)))
    (S.seq (S.append 3 (E.app φ_clause_of_all (A.cons (E.var 5) A.nil)))
    S.nil)
    S.nil)
    S.nil)))
    (S.seq (S.ret (E.appI φ_bundle_by (A.cons (E.op2 subD (E.ix (E.var 0) (E.cst (.int 0))) (E.cst (.int 1))) (A.cons (E.var 3) A.nil))))
    S.nil)))
def φ_merged_in : List D → M D := fnD 7 d_merged_in
theorem sc_merged_in : FnScope ["bundle", "one", "other", "found", "clause", "literals", "literal"] ["bundle", "one", "other"] (defScope (top 23)) := ⟨rfl, rfl, rfl, by decide +kernel, rfl, by decide +kernel, by decide +kernel⟩
theorem fc_merged_in {P : Program} {w : World} {K : PySem.W.Frag} {mg : Str → Option Value} {base : Heap} (F : Fnc1 K mg "merged_in" (top 23)) (F_bundle_by : Fc P w K mg base "bundle_by" 2 1 φ_bundle_by) (F_is_settled : Fc P w K mg base "is_settled" 1 1 φ_is_settled) (F_clause_of_all : Fc P w K mg base "clause_of_all" 1 2 φ_clause_of_all) (F_moved_literal : Fc P w K mg base "moved_literal" 3 1 φ_moved_literal) : Fc P w K mg base "merged_in" 3 3 φ_merged_in := by
  refine Fnc1.fc F sc_merged_in (O := [3]) (by decide) (k := 2) (fun cdv A outer s H E Z hcdv hr tk => ?_) (fun _ _ _ _ _ _ us hl => match us, hl with | [_, _, _], _ => rfl)
  have nd := sc_merged_in.nd
  exact (dss_cons (ds_setN 3 (by decide) nd rfl (Or.inl rfl) (dn_lst da_nil (Len.ok len_nil)))
    (dss_cons (ds_for (vs := [4]) (passes_of rfl) rfl (di_seq (de_ix (DE.du (de_var 0)) (DN.du dn_int))) (dg_name 4 (by decide) (by decide) nd rfl (by first | exact Or.inl rfl | exact Or.inr rfl))
    (dss_cons (ds_setComp (own := [("literal", 6)]) 5 (by decide) rfl nd rfl rfl (sw_true rfl rfl rfl (by rfl)) (DI.c (di_seq (de_var 4))) (blkOk_by (by rfl)) (by decide) (fun _ _ _ _ _ => (dg_name 6 (by decide) (by decide) nd rfl (by first | exact Or.inl rfl | exact Or.inr rfl))) (fun _ _ _ _ _ => dts_nil) (fun _ _ _ _ _ => (de_app (Fc.dn F_moved_literal) (hr.mono (by decide)) rfl (da_cons (de_var 6) (da_cons (de_var 1) (da_cons (de_var 2) da_nil))) (alen_cons (alen_cons (alen_cons alen_nil))))))
    (dss_cons (ds_if (dt_val (de_app (Fc.dn F_is_settled) (hr.mono (by decide)) rfl (da_cons (de_var 5) da_nil) (alen_cons alen_nil)))
    (dss_cons (ds_append 3 (by decide) rfl (by first | exact Or.inl rfl | exact Or.inr (Or.inl rfl) | exact Or.inr (Or.inr rfl)) (de_app (Fc.dn F_clause_of_all) (hr.mono (by decide)) rfl (da_cons (de_var 5) da_nil) (alen_cons alen_nil)))
    dss_nil)
    dss_nil)
    dss_nil)))
    (dss_cons (ds_ret (de_appI (Fc.dn F_bundle_by) (hr.mono (by decide)) rfl (dau_cons (DE.du (de_bin o_sub (DE.du (de_ix (DE.du (de_var 0)) (DN.du dn_int))) (DN.du dn_int))) (dau_cons (du_var 3) dau_nil)) (alen_cons (alen_cons alen_nil))))
    dss_nil)))
/-! ### does_meet -/
def d_does_meet : SD :=
    (S.seq (S.ret (E.blt anyD (A.cons (E.comp (I.seq (E.var 1)) [2] (Gt.name 2) T.yes (E.op2 inD (E.var 2) (E.var 0))) A.nil)))
    S.nil)
def φ_does_meet : List D → M D := fnD 3 d_does_meet
theorem sc_does_meet : FnScope ["setting", "clause", "literal"] ["setting", "clause"] (defScope (top 8)) := ⟨rfl, rfl, rfl, by decide +kernel, rfl, by decide +kernel, by decide +kernel⟩
theorem fc_does_meet {P : Program} {w : World} {K : PySem.W.Frag} {mg : Str → Option Value} {base : Heap} (F : Fnc1 K mg "does_meet" (top 8)) (m_any : mg "any" = none) : Fc P w K mg base "does_meet" 2 1 φ_does_meet := by
  refine Fnc1.fc F sc_does_meet (O := []) (by decide) (k := 0) (fun cdv A outer s H E Z hcdv hr tk => ?_) (fun _ _ _ _ _ _ us hl => match us, hl with | [_, _], _ => rfl)
  have nd := sc_does_meet.nd
  exact (dss_cons (ds_ret (de_bltB (b_any rfl) rfl m_any (by rfl) (dau_cons (DN.du (dn_comp (own := [("literal", 2)]) rfl nd (DI.c (di_seq (de_var 1))) (blkOk_by (by rfl)) (by decide) (fun _ _ _ _ _ => (dg_name 2 (by decide) (by decide) nd rfl (by first | exact Or.inl rfl | exact Or.inr rfl))) (fun _ _ _ _ _ => dts_nil) (fun _ _ _ _ _ => (de_cmp (o_in (r65 hr)) (DE.du (de_var 2)) (DE.du (de_var 0)) rfl)))) dau_nil)))
    dss_nil)
/-! ### set_in -/
def d_set_in : SD :=
    (S.seq (S.set 2 (E.comp (I.seq (E.ix (E.var 0) (E.cst (.int 1)))) [3] (Gt.name 3) (T.not (T.val (E.app φ_does_meet (A.cons (E.var 1) (A.cons (E.var 3) A.nil))))) (E.var 3)))
    (S.seq (S.ret (E.app φ_bundle_by (A.cons (E.ix (E.var 0) (E.cst (.int 0))) (A.cons (E.comp (I.seq (E.var 2)) [3] (Gt.name 3) T.yes (E.blt tupleD (A.cons (E.comp (I.seq (E.var 3)) [4] (Gt.name 4) (T.val (E.op2 notInD (E.op2 subD (E.cst (.int 0)) (E.var 4)) (E.var 1))) (E.var 4)) A.nil))) A.nil))))
    S.nil))
def φ_set_in : List D → M D := fnD 5 d_set_in
theorem sc_set_in : FnScope ["bundle", "setting", "left", "clause", "one"] ["bundle", "setting"] (defScope (top 19)) := ⟨rfl, rfl, rfl, by decide +kernel, rfl, by decide +kernel, by decide +kernel⟩
theorem fc_set_in {P : Program} {w : World} {K : PySem.W.Frag} {mg : Str → Option Value} {base : Heap} (F : Fnc1 K mg "set_in" (top 19)) (m_tuple : mg "tuple" = none) (F_bundle_by : Fc P w K mg base "bundle_by" 2 1 φ_bundle_by) (F_does_meet : Fc P w K mg base "does_meet" 2 1 φ_does_meet) : Fc P w K mg base "set_in" 2 2 φ_set_in := by
  refine Fnc1.fc F sc_set_in (O := []) (by decide) (k := 1) (fun cdv A outer s H E Z hcdv hr tk => ?_) (fun _ _ _ _ _ _ us hl => match us, hl with | [_, _], _ => rfl)
  have nd := sc_set_in.nd
  exact (dss_cons (ds_setComp (own := [("clause", 3)]) 2 (by decide) rfl nd rfl rfl (sw_true rfl rfl rfl (by rfl)) (DI.c (di_seq (de_ix (DE.du (de_var 0)) (DN.du dn_int)))) (blkOk_by (by rfl)) (by decide) (fun _ _ _ _ _ => (dg_name 3 (by decide) (by decide) nd rfl (by first | exact Or.inl rfl | exact Or.inr rfl))) (fun _ _ _ _ _ => (dts_one (dt_not (dt_val (de_app (Fc.dn F_does_meet) (hr.mono (by decide)) rfl (da_cons (de_var 1) (da_cons (de_var 3) da_nil)) (alen_cons (alen_cons alen_nil))))))) (fun _ _ _ _ _ => (de_var 3)))
    (dss_cons (ds_ret (de_app (Fc.dn F_bundle_by) (hr.mono (by decide)) rfl (da_cons (de_ix (DE.du (de_var 0)) (DN.du dn_int)) (da_cons (DN.de (dn_comp (own := [("clause", 3)]) rfl nd (DI.c (di_seq (de_var 2))) (blkOk_by (by rfl)) (by decide) (fun _ _ _ _ _ => (dg_name 3 (by decide) (by decide) nd rfl (by first | exact Or.inl rfl | exact Or.inr rfl))) (fun _ _ _ _ _ => dts_nil) (fun _ _ _ _ _ => (de_bltT b_tuple rfl m_tuple (by rfl) (dau_cons (DN.du (dn_comp (own := [("one", 4)]) rfl nd (DI.c (di_seq (de_var 3))) (blkOk_by (by rfl)) (by decide) (fun _ _ _ _ _ => (dg_name 4 (by decide) (by decide) nd rfl (by first | exact Or.inl rfl | exact Or.inr rfl))) (fun _ _ _ _ _ => (dts_one (dt_cmp (o_notIn (r65 hr)) (DE.du (de_bin o_sub (DN.du dn_int) (DE.du (de_var 4)))) (DE.du (de_var 1)) rfl))) (fun _ _ _ _ _ => (de_var 4)))) dau_nil))))) da_nil)) (alen_cons (alen_cons alen_nil))))
    dss_nil))
/-! ### changed -/
def d_changed : SD :=
    (S.seq (S.asg (E.tup (A.cons (E.ix (E.var 1) (E.cst (.int 0))) (A.cons (E.ix (E.var 1) (E.cst (.int 2))) A.nil))) (Gt.tup 2 (Gt.cons (Gt.name 2) (Gt.cons (Gt.name 3) Gt.nil))))
    (S.seq (S.ite (T.val (E.op2 eqD (E.var 2) (E.cst (.str "merged"))))
    (S.seq (S.ret (E.ifx (T.val (E.op2 leD (E.ix (E.var 1) (E.cst (.int 3))) (E.ix (E.var 0) (E.cst (.int 0))))) (E.lst (A.cons (E.app φ_merged_in (A.cons (E.var 0) (A.cons (E.ix (E.var 1) (E.cst (.int 2))) (A.cons (E.ix (E.var 1) (E.cst (.int 3))) A.nil)))) A.nil)) (E.lst A.nil)))
    S.nil)
    S.nil)
    (S.seq (S.ite (T.val (E.op2 eqD (E.var 2) (E.cst (.str "without"))))
    (S.seq (S.ite (T.not (T.val (E.app φ_are_numbers (A.cons (E.blt lenD (A.cons (E.ix (E.var 0) (E.cst (.int 1))) A.nil)) (A.cons (E.var 3) A.nil)))))
    (S.seq (S.ret (E.lst A.nil))
    S.nil)
    S.nil)
    (S.seq (S.ret (E.lst (A.cons (E.tup (A.cons (E.ix (E.var 0) (E.cst (.int 0))) (A.cons (E.blt tupleD (A.cons (E.comp (I.on enm (A.cons (E.ix (E.var 0) (E.cst (.int 1))) A.nil)) [4, 5] (Gt.tup 2 (Gt.cons (Gt.name 4) (Gt.cons (Gt.name 5) Gt.nil))) (T.val (E.op2 notInD (E.var 4) (E.var 3))) (E.var 5)) A.nil)) A.nil))) A.nil)))
    S.nil))
    S.nil)
    (S.seq (S.ite (T.val (E.op2 eqD (E.var 2) (E.cst (.str "set"))))
    (S.seq (S.ret (E.ifx (T.val (E.app φ_is_clause (A.cons (E.ix (E.var 0) (E.cst (.int 0))) (A.cons (E.var 3) A.nil)))) (E.lst (A.cons (E.app φ_set_in (A.cons (E.var 0) (A.cons (E.var 3) A.nil))) A.nil)) (E.lst A.nil)))
    S.nil)
    S.nil)
    (S.seq (S.ite (T.not (T.val (E.app φ_is_lot (A.cons (E.ix (E.var 0) (E.cst (.int 0))) (A.cons (E.var 3) A.nil)))))
    (S.seq (S.ret (E.lst A.nil))
    S.nil)
    S.nil)
    (S.seq (S.ret (E.lst (A.cons (E.ifx (T.val (E.op2 eqD (E.var 2) (E.cst (.str "turned")))) (E.app φ_turned_in (A.cons (E.var 0) (A.cons (E.var 3) A.nil))) (E.app φ_crossed_in (A.cons (E.var 0) (A.cons (E.var 3) A.nil)))) A.nil)))
    S.nil))))))
def φ_changed : List D → M D := fnD 6 d_changed
theorem sc_changed : FnScope ["bundle", "term", "word", "thing", "number", "clause"] ["bundle", "term"] (defScope (top 59)) := ⟨rfl, rfl, rfl, by decide +kernel, rfl, by decide +kernel, by decide +kernel⟩
theorem fc_changed {P : Program} {w : World} {K : PySem.W.Frag} {mg : Str → Option Value} {base : Heap} (F : Fnc1 K mg "changed" (top 59)) (m_enumerate : mg "enumerate" = none) (m_len : mg "len" = none) (m_tuple : mg "tuple" = none) (g_MERGED : ∃ t, mg "MERGED" = some (.str "merged" t)) (g_SET : ∃ t, mg "SET" = some (.str "set" t)) (g_TURNED : ∃ t, mg "TURNED" = some (.str "turned" t)) (g_WITHOUT : ∃ t, mg "WITHOUT" = some (.str "without" t)) (F_turned_in : Fc P w K mg base "turned_in" 2 2 φ_turned_in) (F_crossed_in : Fc P w K mg base "crossed_in" 2 2 φ_crossed_in) (F_is_lot : Fc P w K mg base "is_lot" 2 3 φ_is_lot) (F_is_clause : Fc P w K mg base "is_clause" 2 3 φ_is_clause) (F_set_in : Fc P w K mg base "set_in" 2 2 φ_set_in) (F_are_numbers : Fc P w K mg base "are_numbers" 2 3 φ_are_numbers) (F_merged_in : Fc P w K mg base "merged_in" 3 3 φ_merged_in) : Fc P w K mg base "changed" 2 4 φ_changed := by
  refine Fnc1.fc F sc_changed (O := []) (by decide) (k := 3) (fun cdv A outer s H E Z hcdv hr tk => ?_) (fun _ _ _ _ _ _ us hl => match us, hl with | [_, _], _ => rfl)
  have nd := sc_changed.nd
  exact (dss_cons (ds_asg (vs := [2, 3]) (de_tup (da_cons (de_ix (DE.du (de_var 1)) (DN.du dn_int)) (da_cons (de_ix (DE.du (de_var 1)) (DN.du dn_int)) da_nil)) (Len.ok (len_cons (len_cons len_nil)))) (dg_tup rfl (dgs_cons (dg_name 2 (by decide) (by decide) nd rfl (by first | exact Or.inl rfl | exact Or.inr rfl)) (dgs_cons (dg_name 3 (by decide) (by decide) nd rfl (by first | exact Or.inl rfl | exact Or.inr rfl)) dgs_nil))))
    (dss_cons (ds_if (dt_cmp (o_eq (r65 hr)) (DE.du (de_var 2)) (DN.du (dn_gS rfl g_MERGED)) rfl)
    (dss_cons (ds_ret (DN.de (dn_ifx (dt_cmp o_le (DE.du (de_ix (DE.du (de_var 1)) (DN.du dn_int))) (DE.du (de_ix (DE.du (de_var 0)) (DN.du dn_int))) rfl) (dn_lst (da_cons (de_app (Fc.dn F_merged_in) (hr.mono (by decide)) rfl (da_cons (de_var 0) (da_cons (de_ix (DE.du (de_var 1)) (DN.du dn_int)) (da_cons (de_ix (DE.du (de_var 1)) (DN.du dn_int)) da_nil))) (alen_cons (alen_cons (alen_cons alen_nil)))) da_nil) (Len.ok (len_cons len_nil))) (dn_lst da_nil (Len.ok len_nil)))))
    dss_nil)
    dss_nil)
    (dss_cons (ds_if (dt_cmp (o_eq (r65 hr)) (DE.du (de_var 2)) (DN.du (dn_gS rfl g_WITHOUT)) rfl)
    (dss_cons (ds_if (dt_not (dt_val (de_app (Fc.dn F_are_numbers) (hr.mono (by decide)) rfl (da_cons (de_bltB b_len rfl m_len (by rfl) (dau_cons (DE.du (de_ix (DE.du (de_var 0)) (DN.du dn_int))) dau_nil)) (da_cons (de_var 3) da_nil)) (alen_cons (alen_cons alen_nil)))))
    (dss_cons (ds_ret (DN.de (dn_lst da_nil (Len.ok len_nil))))
    dss_nil)
    dss_nil)
    (dss_cons (ds_ret (DN.de (dn_lst (da_cons (de_tup (da_cons (de_ix (DE.du (de_var 0)) (DN.du dn_int)) (da_cons (de_bltT b_tuple rfl m_tuple (by rfl) (dau_cons (DN.du (dn_comp (own := [("number", 4), ("clause", 5)]) rfl nd (DI.c (di_enum rfl m_enumerate (da_cons (de_ix (DE.du (de_var 0)) (DN.du dn_int)) da_nil))) (blkOk_by (by rfl)) (by decide) (fun _ _ _ _ _ => (dg_tup rfl (dgs_cons (dg_name 4 (by decide) (by decide) nd rfl (by first | exact Or.inl rfl | exact Or.inr rfl)) (dgs_cons (dg_name 5 (by decide) (by decide) nd rfl (by first | exact Or.inl rfl | exact Or.inr rfl)) dgs_nil)))) (fun _ _ _ _ _ => (dts_one (dt_cmp (o_notIn (r65 hr)) (DE.du (de_var 4)) (DE.du (de_var 3)) rfl))) (fun _ _ _ _ _ => (de_var 5)))) dau_nil)) da_nil)) (Len.ok (len_cons (len_cons len_nil)))) da_nil) (Len.ok (len_cons len_nil)))))
    dss_nil))
    dss_nil)
    (dss_cons (ds_if (dt_cmp (o_eq (r65 hr)) (DE.du (de_var 2)) (DN.du (dn_gS rfl g_SET)) rfl)
    (dss_cons (ds_ret (DN.de (dn_ifx (dt_val (de_app (Fc.dn F_is_clause) (hr.mono (by decide)) rfl (da_cons (de_ix (DE.du (de_var 0)) (DN.du dn_int)) (da_cons (de_var 3) da_nil)) (alen_cons (alen_cons alen_nil)))) (dn_lst (da_cons (de_app (Fc.dn F_set_in) (hr.mono (by decide)) rfl (da_cons (de_var 0) (da_cons (de_var 3) da_nil)) (alen_cons (alen_cons alen_nil))) da_nil) (Len.ok (len_cons len_nil))) (dn_lst da_nil (Len.ok len_nil)))))
    dss_nil)
    dss_nil)
    (dss_cons (ds_if (dt_not (dt_val (de_app (Fc.dn F_is_lot) (hr.mono (by decide)) rfl (da_cons (de_ix (DE.du (de_var 0)) (DN.du dn_int)) (da_cons (de_var 3) da_nil)) (alen_cons (alen_cons alen_nil)))))
    (dss_cons (ds_ret (DN.de (dn_lst da_nil (Len.ok len_nil))))
    dss_nil)
    dss_nil)
    (dss_cons (ds_ret (DN.de (dn_lst (da_cons (de_ifx (dt_cmp (o_eq (r65 hr)) (DE.du (de_var 2)) (DN.du (dn_gS rfl g_TURNED)) rfl) (de_app (Fc.dn F_turned_in) (hr.mono (by decide)) rfl (da_cons (de_var 0) (da_cons (de_var 3) da_nil)) (alen_cons (alen_cons alen_nil))) (de_app (Fc.dn F_crossed_in) (hr.mono (by decide)) rfl (da_cons (de_var 0) (da_cons (de_var 3) da_nil)) (alen_cons (alen_cons alen_nil)))) da_nil) (Len.ok (len_cons len_nil)))))
    dss_nil))))))
/-! ### is_small -/
def d_is_small : SD :=
    (S.seq (S.ret (E.and (E.op2 leD (E.ix (E.var 0) (E.cst (.int 0))) (E.cst (.int 7))) (E.op2 leD (E.blt lenD (A.cons (E.ix (E.var 0) (E.cst (.int 1))) A.nil)) (E.cst (.int 16)))))
    S.nil)
def φ_is_small : List D → M D := fnD 1 d_is_small
theorem sc_is_small : FnScope ["bundle"] ["bundle"] (defScope (top 61)) := ⟨rfl, rfl, rfl, by decide +kernel, rfl, by decide +kernel, by decide +kernel⟩
theorem fc_is_small {P : Program} {w : World} {K : PySem.W.Frag} {mg : Str → Option Value} {base : Heap} (F : Fnc1 K mg "is_small" (top 61)) (m_len : mg "len" = none) (g_MOST_CLAUSES : ∃ t, mg "MOST_CLAUSES" = some (.int 16 t)) (g_MOST_NAMES : ∃ t, mg "MOST_NAMES" = some (.int 7 t)) : Fc P w K mg base "is_small" 1 1 φ_is_small := by
  refine Fnc1.fc F sc_is_small (O := []) (by decide) (k := 0) (fun cdv A outer s H E Z hcdv hr tk => ?_) (fun _ _ _ _ _ _ us hl => match us, hl with | [_], _ => rfl)
  have nd := sc_is_small.nd
  exact (dss_cons (ds_ret (de_and (de_cmp o_le (DE.du (de_ix (DE.du (de_var 0)) (DN.du dn_int))) (DN.du (dn_gI rfl g_MOST_NAMES)) rfl) (de_one (de_cmp o_le (DE.du (de_bltB b_len rfl m_len (by rfl) (dau_cons (DE.du (de_ix (DE.du (de_var 0)) (DN.du dn_int))) dau_nil))) (DN.du (dn_gI rfl g_MOST_CLAUSES)) rfl))))
    dss_nil)
/-! ### both_in -/
def d_both_in : SD :=
    (S.seq (S.ret (E.app φ_bundle_by (A.cons (E.blt maxD (A.cons (E.ix (E.var 0) (E.cst (.int 0))) (A.cons (E.ix (E.var 1) (E.cst (.int 0))) A.nil))) (A.cons (E.op2 addD (E.ix (E.var 0) (E.cst (.int 1))) (E.ix (E.var 1) (E.cst (.int 1)))) A.nil))))
    S.nil)
def φ_both_in : List D → M D := fnD 2 d_both_in
theorem sc_both_in : FnScope ["bundle", "other"] ["bundle", "other"] (defScope (top 24)) := ⟨rfl, rfl, rfl, by decide +kernel, rfl, by decide +kernel, by decide +kernel⟩
theorem fc_both_in {P : Program} {w : World} {K : PySem.W.Frag} {mg : Str → Option Value} {base : Heap} (F : Fnc1 K mg "both_in" (top 24)) (m_max : mg "max" = none) (F_bundle_by : Fc P w K mg base "bundle_by" 2 1 φ_bundle_by) : Fc P w K mg base "both_in" 2 2 φ_both_in := by
  refine Fnc1.fc F sc_both_in (O := []) (by decide) (k := 1) (fun cdv A outer s H E Z hcdv hr tk => ?_) (fun _ _ _ _ _ _ us hl => match us, hl with | [_, _], _ => rfl)
  have nd := sc_both_in.nd
  exact (dss_cons (ds_ret (de_app (Fc.dn F_bundle_by) (hr.mono (by decide)) rfl (da_cons (de_bltB (b_max rfl) rfl m_max (by rfl) (dau_cons (DE.du (de_ix (DE.du (de_var 0)) (DN.du dn_int))) (dau_cons (DE.du (de_ix (DE.du (de_var 1)) (DN.du dn_int))) dau_nil))) (da_cons (de_bin o_add (DE.du (de_ix (DE.du (de_var 0)) (DN.du dn_int))) (DE.du (de_ix (DE.du (de_var 1)) (DN.du dn_int)))) da_nil)) (alen_cons (alen_cons alen_nil))))
    dss_nil)
/-! ### shifted -/
def d_shifted : SD :=
    (S.seq (S.ret (E.blt tupleD (A.cons (E.comp (I.seq (E.var 0)) [2] (Gt.name 2) T.yes (E.ifx (T.val (E.op2 gtD (E.var 2) (E.cst (.int 0)))) (E.op2 addD (E.var 2) (E.var 1)) (E.op2 subD (E.var 2) (E.var 1)))) A.nil)))
    S.nil)
def φ_shifted : List D → M D := fnD 3 d_shifted
theorem sc_shifted : FnScope ["clause", "names", "literal"] ["clause", "names"] (defScope (top 25)) := ⟨rfl, rfl, rfl, by decide +kernel, rfl, by decide +kernel, by decide +kernel⟩
theorem fc_shifted {P : Program} {w : World} {K : PySem.W.Frag} {mg : Str → Option Value} {base : Heap} (F : Fnc1 K mg "shifted" (top 25)) (m_tuple : mg "tuple" = none) : Fc P w K mg base "shifted" 2 1 φ_shifted := by
  refine Fnc1.fc F sc_shifted (O := []) (by decide) (k := 0) (fun cdv A outer s H E Z hcdv hr tk => ?_) (fun _ _ _ _ _ _ us hl => match us, hl with | [_, _], _ => rfl)
  have nd := sc_shifted.nd
  exact (dss_cons (ds_ret (de_bltT b_tuple rfl m_tuple (by rfl) (dau_cons (DN.du (dn_comp (own := [("literal", 2)]) rfl nd (DI.c (di_seq (de_var 0))) (blkOk_by (by rfl)) (by decide) (fun _ _ _ _ _ => (dg_name 2 (by decide) (by decide) nd rfl (by first | exact Or.inl rfl | exact Or.inr rfl))) (fun _ _ _ _ _ => dts_nil) (fun _ _ _ _ _ => (de_ifx (dt_cmp o_gt (DE.du (de_var 2)) (DN.du dn_int) rfl) (de_bin o_add (DE.du (de_var 2)) (DE.du (de_var 1))) (de_bin o_sub (DE.du (de_var 2)) (DE.du (de_var 1))))))) dau_nil)))
    dss_nil)
/-! ### beside_in -/
def d_beside_in : SD :=
    (S.seq (S.set 2 (E.ix (E.var 0) (E.cst (.int 0))))
    (S.seq (S.ret (E.app φ_bundle_by (A.cons (E.op2 addD (E.var 2) (E.ix (E.var 1) (E.cst (.int 0)))) (A.cons (E.lst (A.star (E.ix (E.var 0) (E.cst (.int 1))) (A.star (E.comp (I.seq (E.ix (E.var 1) (E.cst (.int 1)))) [3] (Gt.name 3) T.yes (E.app φ_shifted (A.cons (E.var 3) (A.cons (E.var 2) A.nil)))) A.nil))) A.nil))))
    S.nil))
def φ_beside_in : List D → M D := fnD 4 d_beside_in
theorem sc_beside_in : FnScope ["bundle", "other", "names", "clause"] ["bundle", "other"] (defScope (top 26)) := ⟨rfl, rfl, rfl, by decide +kernel, rfl, by decide +kernel, by decide +kernel⟩
theorem fc_beside_in {P : Program} {w : World} {K : PySem.W.Frag} {mg : Str → Option Value} {base : Heap} (F : Fnc1 K mg "beside_in" (top 26)) (F_bundle_by : Fc P w K mg base "bundle_by" 2 1 φ_bundle_by) (F_shifted : Fc P w K mg base "shifted" 2 1 φ_shifted) : Fc P w K mg base "beside_in" 2 2 φ_beside_in := by
  refine Fnc1.fc F sc_beside_in (O := []) (by decide) (k := 1) (fun cdv A outer s H E Z hcdv hr tk => ?_) (fun _ _ _ _ _ _ us hl => match us, hl with | [_, _], _ => rfl)
  have nd := sc_beside_in.nd
  exact (dss_cons (ds_set 2 (by decide) nd rfl (Or.inr rfl) (de_ix (DE.du (de_var 0)) (DN.du dn_int)))
    (dss_cons (ds_ret (de_app (Fc.dn F_bundle_by) (hr.mono (by decide)) rfl (da_cons (de_bin o_add (DE.du (de_var 2)) (DE.du (de_ix (DE.du (de_var 1)) (DN.du dn_int)))) (da_cons (DN.de (dn_lst (da_star (DE.du (de_ix (DE.du (de_var 0)) (DN.du dn_int))) (da_star (DN.du (dn_comp (own := [("clause", 3)]) rfl nd (DI.c (di_seq (de_ix (DE.du (de_var 1)) (DN.du dn_int)))) (blkOk_by (by rfl)) (by decide) (fun _ _ _ _ _ => (dg_name 3 (by decide) (by decide) nd rfl (by first | exact Or.inl rfl | exact Or.inr rfl))) (fun _ _ _ _ _ => dts_nil) (fun _ _ _ _ _ => (de_app (Fc.dn F_shifted) (hr.mono (by decide)) rfl (da_cons (de_var 3) (da_cons (de_var 2) da_nil)) (alen_cons (alen_cons alen_nil)))))) da_nil)) (Len.ok len_star))) da_nil)) (alen_cons (alen_cons alen_nil))))
    dss_nil))
/-! ### either_in -/
def d_either_in : SD :=
    (S.seq (S.set 2 (E.lst A.nil))
    (S.seq (S.for_ (I.seq (E.ix (E.var 0) (E.cst (.int 1)))) (Gt.name 3)
    (S.seq (S.for_ (I.seq (E.ix (E.var 1) (E.cst (.int 1)))) (Gt.name 4)
    (S.seq (S.ite (T.val (E.app φ_is_settled (A.cons (E.op2 addD (E.var 3) (E.var 4)) A.nil)))
    (S.seq (S.append 2 (E.app φ_clause_of_all (A.cons (E.op2 addD (E.var 3) (E.var 4)) A.nil)))
    S.nil)
    S.nil)
    S.nil))
    S.nil))
    (S.seq (S.ret (E.appI φ_bundle_by (A.cons (E.blt maxD (A.cons (E.ix (E.var 0) (E.cst (.int 0))) (A.cons (E.ix (E.var 1) (E.cst (.int 0))) A.nil))) (A.cons (E.var 2) A.nil))))
    S.nil)))
def φ_either_in : List D → M D := fnD 5 d_either_in
theorem sc_either_in : FnScope ["bundle", "other", "found", "one", "far"] ["bundle", "other"] (defScope (top 27)) := ⟨rfl, rfl, rfl, by decide +kernel, rfl, by decide +kernel, by decide +kernel⟩
theorem fc_either_in {P : Program} {w : World} {K : PySem.W.Frag} {mg : Str → Option Value} {base : Heap} (F : Fnc1 K mg "either_in" (top 27)) (m_max : mg "max" = none) (F_bundle_by : Fc P w K mg base "bundle_by" 2 1 φ_bundle_by) (F_is_settled : Fc P w K mg base "is_settled" 1 1 φ_is_settled) (F_clause_of_all : Fc P w K mg base "clause_of_all" 1 2 φ_clause_of_all) : Fc P w K mg base "either_in" 2 3 φ_either_in := by
  refine Fnc1.fc F sc_either_in (O := [2]) (by decide) (k := 2) (fun cdv A outer s H E Z hcdv hr tk => ?_) (fun _ _ _ _ _ _ us hl => match us, hl with | [_, _], _ => rfl)
  have nd := sc_either_in.nd
  exact (dss_cons (ds_setN 2 (by decide) nd rfl (Or.inl rfl) (dn_lst da_nil (Len.ok len_nil)))
    (dss_cons (ds_for (vs := [3]) (passes_of rfl) rfl (di_seq (de_ix (DE.du (de_var 0)) (DN.du dn_int))) (dg_name 3 (by decide) (by decide) nd rfl (by first | exact Or.inl rfl | exact Or.inr rfl))
    (dss_cons (ds_for (vs := [4]) (passes_of rfl) rfl (di_seq (de_ix (DE.du (de_var 1)) (DN.du dn_int))) (dg_name 4 (by decide) (by decide) nd rfl (by first | exact Or.inl rfl | exact Or.inr rfl))
    (dss_cons (ds_if (dt_val (de_app (Fc.dn F_is_settled) (hr.mono (by decide)) rfl (da_cons (de_bin o_add (DE.du (de_var 3)) (DE.du (de_var 4))) da_nil) (alen_cons alen_nil)))
    (dss_cons (ds_append 2 (by decide) rfl (by first | exact Or.inl rfl | exact Or.inr (Or.inl rfl) | exact Or.inr (Or.inr rfl)) (de_app (Fc.dn F_clause_of_all) (hr.mono (by decide)) rfl (da_cons (de_bin o_add (DE.du (de_var 3)) (DE.du (de_var 4))) da_nil) (alen_cons alen_nil)))
    dss_nil)
    dss_nil)
    dss_nil))
    dss_nil))
    (dss_cons (ds_ret (de_appI (Fc.dn F_bundle_by) (hr.mono (by decide)) rfl (dau_cons (DE.du (de_bltB (b_max rfl) rfl m_max (by rfl) (dau_cons (DE.du (de_ix (DE.du (de_var 0)) (DN.du dn_int))) (dau_cons (DE.du (de_ix (DE.du (de_var 1)) (DN.du dn_int))) dau_nil)))) (dau_cons (du_var 2) dau_nil)) (alen_cons (alen_cons alen_nil))))
    dss_nil)))
/-! ### put_by -/
def d_put_by : SD :=
    (S.seq (S.ite (T.val (E.op2 eqD (E.var 0) (E.cst (.str "both"))))
    (S.seq (S.ret (E.app φ_both_in (A.cons (E.var 1) (A.cons (E.var 2) A.nil))))
    S.nil)
    S.nil)
    (S.seq (S.ret (E.ifx (T.val (E.op2 eqD (E.var 0) (E.cst (.str "beside")))) (E.app φ_beside_in (A.cons (E.var 1) (A.cons (E.var 2) A.nil))) (E.app φ_either_in (A.cons (E.var 1) (A.cons (E.var 2) A.nil)))))
    S.nil))
def φ_put_by : List D → M D := fnD 3 d_put_by
theorem sc_put_by : FnScope ["word", "bundle", "other"] ["word", "bundle", "other"] (defScope (top 60)) := ⟨rfl, rfl, rfl, by decide +kernel, rfl, by decide +kernel, by decide +kernel⟩
theorem fc_put_by {P : Program} {w : World} {K : PySem.W.Frag} {mg : Str → Option Value} {base : Heap} (F : Fnc1 K mg "put_by" (top 60)) (g_BESIDE : ∃ t, mg "BESIDE" = some (.str "beside" t)) (g_BOTH : ∃ t, mg "BOTH" = some (.str "both" t)) (F_beside_in : Fc P w K mg base "beside_in" 2 2 φ_beside_in) (F_either_in : Fc P w K mg base "either_in" 2 3 φ_either_in) (F_both_in : Fc P w K mg base "both_in" 2 2 φ_both_in) : Fc P w K mg base "put_by" 3 4 φ_put_by := by
  refine Fnc1.fc F sc_put_by (O := []) (by decide) (k := 3) (fun cdv A outer s H E Z hcdv hr tk => ?_) (fun _ _ _ _ _ _ us hl => match us, hl with | [_, _, _], _ => rfl)
  have nd := sc_put_by.nd
  exact (dss_cons (ds_if (dt_cmp (o_eq (r65 hr)) (DE.du (de_var 0)) (DN.du (dn_gS rfl g_BOTH)) rfl)
    (dss_cons (ds_ret (de_app (Fc.dn F_both_in) (hr.mono (by decide)) rfl (da_cons (de_var 1) (da_cons (de_var 2) da_nil)) (alen_cons (alen_cons alen_nil))))
    dss_nil)
    dss_nil)
    (dss_cons (ds_ret (de_ifx (dt_cmp (o_eq (r65 hr)) (DE.du (de_var 0)) (DN.du (dn_gS rfl g_BESIDE)) rfl) (de_app (Fc.dn F_beside_in) (hr.mono (by decide)) rfl (da_cons (de_var 1) (da_cons (de_var 2) da_nil)) (alen_cons (alen_cons alen_nil))) (de_app (Fc.dn F_either_in) (hr.mono (by decide)) rfl (da_cons (de_var 1) (da_cons (de_var 2) da_nil)) (alen_cons (alen_cons alen_nil)))))
    dss_nil))
/-! ### bundles_in -/
def d_bundles_in : SD :=
    (S.seq (S.par 1 2 (E.appX φ_paths_in (A.cons (E.var 0) A.nil)) (E.cst (.dct true [] [])))
    (S.seq (S.for_ (I.seq (E.sortKeyF "bundles_in" 3 (E.var 1) (E.tup (A.star (E.var 3) (A.cons (E.cst (.int 9)) A.nil))))) (Gt.name 3)
    (S.seq (S.set 4 (E.app φ_term_at (A.cons (E.var 0) (A.cons (E.var 3) A.nil))))
    (S.seq (S.set 5 (E.comp (I.seq (E.app φ_places_in (A.cons (E.var 4) A.nil))) [7] (Gt.name 7) T.yes (E.dix (E.var 2) (E.op2 addD (E.var 3) (E.tup (A.cons (E.var 7) A.nil))))))
    (S.seq (S.ite (T.val (E.op2 eqE (E.var 5) (E.lst A.nil)))
    (S.seq (S.set 6 (E.lst (A.cons (E.app φ_leaf_bundle (A.cons (E.var 4) A.nil)) A.nil)))
    S.nil)
    (S.seq (S.set 6 (E.ifx (T.val (E.op2 eqD (E.blt lenD (A.cons (E.var 5) A.nil)) (E.cst (.int 1)))) (E.app φ_changed (A.cons (E.ix (E.var 5) (E.cst (.int 0))) (A.cons (E.var 4) A.nil))) (E.lst (A.cons (E.app φ_put_by (A.cons (E.ix (E.var 4) (E.cst (.int 0))) (A.cons (E.ix (E.var 5) (E.cst (.int 0))) (A.cons (E.ix (E.var 5) (E.cst (.int 1))) A.nil)))) A.nil))))
    S.nil))
    (S.seq (S.ite (T.or (T.val (E.op2 eqE (E.var 6) (E.lst A.nil))) (T.not (T.val (E.app φ_is_small (A.cons (E.ix (E.var 6) (E.cst (.int 0))) A.nil)))))
    (S.seq (S.raise "BadTerm" ["path"] (A.cons (E.var 3) A.nil))
    S.nil)
    S.nil)
    (S.seq (S.dput 2 (E.var 3) (E.ix (E.var 6) (E.cst (.int 0))))
    S.nil))))))
    (S.seq (S.ret (E.var 2))
    S.nil)))
def φ_bundles_in : List D → M D := fnD 8 d_bundles_in
theorem sc_bundles_in : FnScope ["term", "paths", "found", "path", "here", "some", "fresh", "place"] ["term"] (defScope (top 62)) := ⟨rfl, rfl, rfl, by decide +kernel, rfl, by decide +kernel, by decide +kernel⟩
theorem fc_bundles_in {P : Program} {w : World} {K : PySem.W.Frag} {mg : Str → Option Value} {base : Heap} (F : Fnc1 K mg "bundles_in" (top 62)) (TB : LamX.TabB base mg (He.cT K ("bundles_in", none)).1 (He.cT K ("bundles_in", none)).2) (m_len : mg "len" = none) (m_sorted : mg "sorted" = none) (ER_BadTerm : Er1 P w K mg base "BadTerm" "path") (F_is_small : Fc P w K mg base "is_small" 1 1 φ_is_small) (F_leaf_bundle : Fc P w K mg base "leaf_bundle" 1 2 φ_leaf_bundle) (F_changed : Fc P w K mg base "changed" 2 4 φ_changed) (F_put_by : Fc P w K mg base "put_by" 3 4 φ_put_by) (F_places_in : Fc P w K mg base "places_in" 1 1 φ_places_in) (F_term_at : Fc P w K mg base "term_at" 2 1 φ_term_at) (F_paths_in : Fc P w K mg base "paths_in" 1 6 φ_paths_in) : Fc P w K mg base "bundles_in" 1 7 φ_bundles_in := by
  refine Fnc1.fc F sc_bundles_in (O := [2]) (by decide) (k := 6) (fun cdv A outer s H E Z hcdv hr tk => ?_) (fun _ _ _ _ _ _ us hl => match us, hl with | [_], _ => rfl)
  have nd := sc_bundles_in.nd
  exact (dss_cons (ds_parENc 1 2 (by decide) (by decide) rfl nd rfl rfl (by first | exact Or.inl rfl | exact Or.inr rfl) (by first | exact Or.inl rfl | exact Or.inr rfl) (de_appX (Fc.dn F_paths_in) tk (hr.mono (by decide)) rfl (da_cons (de_var 0) da_nil) (alen_cons alen_nil)) dn_dictT)
    (dss_cons (ds_for (vs := [3]) (passes_of rfl) rfl (di_seq (DN.de (dn_conv (dn_sortKey 3 (k := 0) rfl hcdv TB rfl m_sorted (by decide) rfl nd (r65 hr) (lamS1_by (by rfl)) rfl (fun _ _ _ _ _ _ => rfl) (hr.mono (by decide)) (DE.du (de_var 1)) (fun A outer s H fa c hr => (de_tup (da_star (DE.du (de_var 3)) (da_cons (DN.de dn_int) da_nil)) (Len.ok len_star)))) (by rw [sortKeyF_eq])))) (dg_name 3 (by decide) (by decide) nd rfl (by first | exact Or.inl rfl | exact Or.inr rfl))
    (dss_cons (ds_set 4 (by decide) nd rfl (Or.inl rfl) (de_app (Fc.dn F_term_at) (hr.mono (by decide)) rfl (da_cons (de_var 0) (da_cons (de_var 3) da_nil)) (alen_cons (alen_cons alen_nil))))
    (dss_cons (ds_setComp (own := [("place", 7)]) 5 (by decide) rfl nd rfl rfl (sw_true rfl rfl rfl (by rfl)) (DI.c (di_seq (de_app (Fc.dn F_places_in) (hr.mono (by decide)) rfl (da_cons (de_var 4) da_nil) (alen_cons alen_nil)))) (blkOk_by (by rfl)) (by decide) (fun _ _ _ _ _ => (dg_name 7 (by decide) (by decide) nd rfl (by first | exact Or.inl rfl | exact Or.inr rfl))) (fun _ _ _ _ _ => dts_nil) (fun _ _ _ _ _ => (de_dix (r1 hr) (du_var 2) (DE.du (de_bin o_add (DE.du (de_var 3)) (DE.du (de_tup (da_cons (de_var 7) da_nil) (Len.ok (len_cons len_nil)))))))))
    (dss_cons (ds_if (dt_cmp (o_eqE (r65 hr)) (DE.du (de_var 5)) (DN.du (dn_lst da_nil (Len.ok len_nil))) rfl)
    (dss_cons (ds_set 6 (by decide) nd rfl (Or.inl rfl) (DN.de (dn_lst (da_cons (de_app (Fc.dn F_leaf_bundle) (hr.mono (by decide)) rfl (da_cons (de_var 4) da_nil) (alen_cons alen_nil)) da_nil) (Len.ok (len_cons len_nil)))))
    dss_nil)
    (dss_cons (ds_set 6 (by decide) nd rfl (Or.inl rfl) (de_ifx (dt_cmp (o_eq (r65 hr)) (DE.du (de_bltB b_len rfl m_len (by rfl) (dau_cons (DE.du (de_var 5)) dau_nil))) (DN.du dn_int) rfl) (de_app (Fc.dn F_changed) (hr.mono (by decide)) rfl (da_cons (de_ix (DE.du (de_var 5)) (DN.du dn_int)) (da_cons (de_var 4) da_nil)) (alen_cons (alen_cons alen_nil))) (DN.de (dn_lst (da_cons (de_app (Fc.dn F_put_by) (hr.mono (by decide)) rfl (da_cons (de_ix (DE.du (de_var 4)) (DN.du dn_int)) (da_cons (de_ix (DE.du (de_var 5)) (DN.du dn_int)) (da_cons (de_ix (DE.du (de_var 5)) (DN.du dn_int)) da_nil))) (alen_cons (alen_cons (alen_cons alen_nil)))) da_nil) (Len.ok (len_cons len_nil))))))
    dss_nil))
    (dss_cons (ds_if (dt_w (dw_or (dt_cmp (o_eqE (r65 hr)) (DE.du (de_var 6)) (DN.du (dn_lst da_nil (Len.ok len_nil))) rfl) (dw_or1 (dt_not (dt_val (de_app (Fc.dn F_is_small) (hr.mono (by decide)) rfl (da_cons (de_ix (DE.du (de_var 6)) (DN.du dn_int)) da_nil) (alen_cons alen_nil)))))))
    (dss_cons (ds_raise1 ER_BadTerm rfl tk (hr.mono (by decide)) rfl (da_cons (de_var 3) da_nil))
    dss_nil)
    dss_nil)
    (dss_cons (ds_dput 2 (r1 hr) (by decide) rfl (by first | exact Or.inl rfl | exact Or.inr (Or.inl rfl) | exact Or.inr (Or.inr rfl)) (de_var 3) (de_ix (DE.du (de_var 6)) (DN.du dn_int)))
    dss_nil))))))
    (dss_cons (ds_retV 2)
    dss_nil)))
/-! ### bundle_of -/
def d_bundle_of : SD :=
    (S.seq (S.ret (E.dix (E.appX φ_bundles_in (A.cons (E.var 0) A.nil)) (E.tup A.nil)))
    S.nil)
def φ_bundle_of : List D → M D := fnD 1 d_bundle_of
theorem sc_bundle_of : FnScope ["term"] ["term"] (defScope (top 64)) := ⟨rfl, rfl, rfl, by decide +kernel, rfl, by decide +kernel, by decide +kernel⟩
theorem fc_bundle_of {P : Program} {w : World} {K : PySem.W.Frag} {mg : Str → Option Value} {base : Heap} (F : Fnc1 K mg "bundle_of" (top 64)) (F_bundles_in : Fc P w K mg base "bundles_in" 1 7 φ_bundles_in) : Fc P w K mg base "bundle_of" 1 8 φ_bundle_of := by
  refine Fnc1.fc F sc_bundle_of (O := []) (by decide) (k := 7) (fun cdv A outer s H E Z hcdv hr tk => ?_) (fun _ _ _ _ _ _ us hl => match us, hl with | [_], _ => rfl)
  have nd := sc_bundle_of.nd
  exact (dss_cons (ds_ret (de_dix (r1 hr) (DE.du (de_appX (Fc.dn F_bundles_in) tk (hr.mono (by decide)) rfl (da_cons (de_var 0) da_nil) (alen_cons alen_nil))) (DE.du (de_tup da_nil (Len.ok len_nil)))))
    dss_nil)
/-! ### law_broad -/
def d_law_broad : SD :=
    (S.seq (S.set 1 (E.op2 mulL (E.lst (A.cons (E.tup (A.cons (E.cst (.str "clause")) (A.cons (E.cst (.int 1)) (A.cons (E.tup (A.cons (E.cst (.int 1)) A.nil)) A.nil)))) A.nil)) (E.blt intD (A.cons (E.op2 fdivD (E.op2 addD (E.var 0) (E.cst (.int 1))) (E.cst (.int 2))) A.nil))))
    (S.seq (whileN (T.val (E.op2 gtD (E.blt lenD (A.cons (E.var 1) A.nil)) (E.cst (.int 1))))
    (S.seq (S.set 1 (E.op2 addD (E.comp (I.on zp (A.cons (E.op1 (stepLD none 2) (E.var 1)) (A.cons (E.op1 (stepLD (some 1) 2) (E.var 1)) A.nil))) [2, 3] (Gt.tup 2 (Gt.cons (Gt.name 2) (Gt.cons (Gt.name 3) Gt.nil))) T.yes (E.tup (A.cons (E.cst (.str "both")) (A.cons (E.var 2) (A.cons (E.var 3) A.nil))))) (E.slice (E.var 1) (E.oSome (E.op2 mulD (E.op2 fdivD (E.blt lenD (A.cons (E.var 1) A.nil)) (E.cst (.int 2))) (E.cst (.int 2)))) E.oNone)))
    S.nil) 40)
    (S.seq (S.ret (E.ix (E.var 1) (E.cst (.int 0))))
    S.nil)))
def φ_law_broad : List D → M D := fnD 4 d_law_broad
theorem sc_law_broad : FnScope ["many", "rows", "one", "other"] ["many"] (defScope (top 75)) := ⟨rfl, rfl, rfl, by decide +kernel, rfl, by decide +kernel, by decide +kernel⟩
theorem fc_law_broad {P : Program} {w : World} {K : PySem.W.Frag} {mg : Str → Option Value} {base : Heap} (F : Fnc1 K mg "_law_broad" (top 75)) (m_int : mg "int" = none) (m_len : mg "len" = none) (m_zip : mg "zip" = none) : Fc P w K mg base "_law_broad" 1 1 φ_law_broad := by
  refine Fnc1.fc F sc_law_broad (O := []) (by decide) (k := 0) (fun cdv A outer s H E Z hcdv hr tk => ?_) (fun _ _ _ _ _ _ us hl => match us, hl with | [_], _ => rfl)
  have nd := sc_law_broad.nd
  exact (dss_cons (ds_set 1 (by decide) nd rfl (Or.inl rfl) (DN.de (dn_mulE (dn_lst (da_cons (de_tup (da_cons (DN.de dn_str) (da_cons (DN.de dn_int) (da_cons (de_tup (da_cons (DN.de dn_int) da_nil) (Len.ok (len_cons len_nil))) da_nil))) (Len.ok (len_cons (len_cons (len_cons len_nil))))) da_nil) (Len.ok (len_cons len_nil))) (de_bltT b_int rfl m_int (by rfl) (dau_cons (DE.du (de_bin o_fdiv (DE.du (de_bin o_add (DE.du (de_var 0)) (DN.du dn_int))) (DN.du dn_int))) dau_nil)))))
    (dss_cons (ds_while 40 (passes_of rfl) (dt_cmp o_gt (DE.du (de_bltB b_len rfl m_len (by rfl) (dau_cons (DE.du (de_var 1)) dau_nil))) (DN.du dn_int) rfl)
    (dss_cons (ds_set 1 (by decide) nd rfl (Or.inl rfl) (de_bin o_add (DN.du (dn_comp (own := [("one", 2), ("other", 3)]) rfl nd (DI.c (di_zip rfl m_zip (da_cons (DN.de (dn_stepL (by decide) po_n (DE.du (de_var 1)))) (da_cons (DN.de (dn_stepL (by decide) po_c (DE.du (de_var 1)))) da_nil)))) (blkOk_by (by rfl)) (by decide) (fun _ _ _ _ _ => (dg_tup rfl (dgs_cons (dg_name 2 (by decide) (by decide) nd rfl (by first | exact Or.inl rfl | exact Or.inr rfl)) (dgs_cons (dg_name 3 (by decide) (by decide) nd rfl (by first | exact Or.inl rfl | exact Or.inr rfl)) dgs_nil)))) (fun _ _ _ _ _ => dts_nil) (fun _ _ _ _ _ => (de_tup (da_cons (DN.de dn_str) (da_cons (de_var 2) (da_cons (de_var 3) da_nil))) (Len.ok (len_cons (len_cons (len_cons len_nil)))))))) (DE.du (de_slice (DE.du (de_var 1)) (do_some (DE.du (de_bin o_mul (DE.du (de_bin o_fdiv (DE.du (de_bltB b_len rfl m_len (by rfl) (dau_cons (DE.du (de_var 1)) dau_nil))) (DN.du dn_int))) (DN.du dn_int)))) do_none))))
    dss_nil))
    (dss_cons (ds_ret (de_ix (DE.du (de_var 1)) (DN.du dn_int)))
    dss_nil)))
/-! ### law_told -/
def d_law_told : Ex → SD := (fun x => S.ret ((fun x ρ => bnd ((fun x ρ => bnd ((fun x _ => lift (x.fld "BadTerm" "path")) x ρ) fun u => bnd ((fun _ _ => ret []) x ρ) fun us => ret (u :: us)) x ρ) fun us => if us.length ≤ 60 then ret (.lst us) else bad) x))
def Ψ_law_told : M D → M D := fun m => toldM [("BadTerm", true)] 2 d_law_told (m)
theorem sc_law_told : FnScope ["call", "e"] ["call"] (defScope (top 70)) := ⟨rfl, rfl, rfl, by decide +kernel, rfl, by decide +kernel, by decide +kernel⟩
theorem th_law_told {P : Program} {w : World} {K : PySem.W.Frag} {mg : Str → Option Value} {base : Heap} (F : Fnc1 K mg "_law_told" (top 70)) (EC_BadTerm : ErC K "BadTerm" ["path"]) (MC_BadTerm : mg "BadTerm" = some (.ref (He.ga K "BadTerm"))) (XM_BadTerm : TabX K "BadTerm" [("BadTerm", true)]) : ThF P w K mg base "_law_told" Ψ_law_told := by
  obtain ⟨fd, F, hmg⟩ := F
  have nd := sc_law_told.nd
  exact thF_of (w0 := fun m => m) (i := 1) F hmg sc_law_told (fun _ _ _ _ _ _ us hl => match us, hl with | [_], _ => rfl) rfl nd rfl (by first | exact Or.inl rfl | exact Or.inr (Or.inl rfl) | exact Or.inr (Or.inr rfl)) (by decide) (by decide) rfl rfl rfl MC_BadTerm (by decide) XM_BadTerm (fun cdv A outer s H E pn xe B as st f W m act tr => act _ _) (fun cdv A outer s H E a oe cls d pn hz hf => (hs_ret (hx_lst (ha_cons (hx_fld EC_BadTerm.x (EC_BadTerm.no "path" (by simp)) hz hf rfl (by first | exact Or.inl rfl | exact Or.inr (Or.inl rfl) | exact Or.inr (Or.inr rfl))) ha_nil))))
/-! ### need_term -/
def d_need_term : SD :=
    (S.seq (S.expr (E.appX φ_bundles_in (A.cons (E.var 0) A.nil)))
    (S.seq (S.ret (E.var 0))
    S.nil))
def φ_need_term : List D → M D := fnD 1 d_need_term
theorem sc_need_term : FnScope ["thing"] ["thing"] (defScope (top 63)) := ⟨rfl, rfl, rfl, by decide +kernel, rfl, by decide +kernel, by decide +kernel⟩
theorem fc_need_term {P : Program} {w : World} {K : PySem.W.Frag} {mg : Str → Option Value} {base : Heap} (F : Fnc1 K mg "need_term" (top 63)) (F_bundles_in : Fc P w K mg base "bundles_in" 1 7 φ_bundles_in) : Fc P w K mg base "need_term" 1 8 φ_need_term := by
  refine Fnc1.fc F sc_need_term (O := []) (by decide) (k := 7) (fun cdv A outer s H E Z hcdv hr tk => ?_) (fun _ _ _ _ _ _ us hl => match us, hl with | [_], _ => rfl)
  have nd := sc_need_term.nd
  exact (dss_cons (ds_expr (DE.du (de_appX (Fc.dn F_bundles_in) tk (hr.mono (by decide)) rfl (da_cons (de_var 0) da_nil) (alen_cons alen_nil))))
    (dss_cons (ds_ret (de_var 0))
    dss_nil))
/-! ### kids_of -/
def d_kids_of : SD :=
    (S.seq (S.expr (E.appX φ_need_term (A.cons (E.var 0) A.nil)))
    (S.seq (S.ret (E.blt tupleD (A.cons (E.comp (I.seq (E.app φ_places_in (A.cons (E.var 0) A.nil))) [1] (Gt.name 1) T.yes (E.ix (E.var 0) (E.var 1))) A.nil)))
    S.nil))
def φ_kids_of : List D → M D := fnD 2 d_kids_of
theorem sc_kids_of : FnScope ["term", "place"] ["term"] (defScope (top 65)) := ⟨rfl, rfl, rfl, by decide +kernel, rfl, by decide +kernel, by decide +kernel⟩
theorem fc_kids_of {P : Program} {w : World} {K : PySem.W.Frag} {mg : Str → Option Value} {base : Heap} (F : Fnc1 K mg "kids_of" (top 65)) (m_tuple : mg "tuple" = none) (F_places_in : Fc P w K mg base "places_in" 1 1 φ_places_in) (F_need_term : Fc P w K mg base "need_term" 1 8 φ_need_term) : Fc P w K mg base "kids_of" 1 9 φ_kids_of := by
  refine Fnc1.fc F sc_kids_of (O := []) (by decide) (k := 8) (fun cdv A outer s H E Z hcdv hr tk => ?_) (fun _ _ _ _ _ _ us hl => match us, hl with | [_], _ => rfl)
  have nd := sc_kids_of.nd
  exact (dss_cons (ds_expr (DE.du (de_appX (Fc.dn F_need_term) tk (hr.mono (by decide)) rfl (da_cons (de_var 0) da_nil) (alen_cons alen_nil))))
    (dss_cons (ds_ret (de_bltT b_tuple rfl m_tuple (by rfl) (dau_cons (DN.du (dn_comp (own := [("place", 1)]) rfl nd (DI.c (di_seq (de_app (Fc.dn F_places_in) (hr.mono (by decide)) rfl (da_cons (de_var 0) da_nil) (alen_cons alen_nil)))) (blkOk_by (by rfl)) (by decide) (fun _ _ _ _ _ => (dg_name 1 (by decide) (by decide) nd rfl (by first | exact Or.inl rfl | exact Or.inr rfl))) (fun _ _ _ _ _ => dts_nil) (fun _ _ _ _ _ => (de_ix (DE.du (de_var 0)) (DE.du (de_var 1)))))) dau_nil)))
    dss_nil))
/-! ### law_refused -/
def d_law_refused : SD :=
    (S.seq (S.set 2 (E.lst (A.cons (E.thunk "_law_refused" Ψ_law_told (E.appN φ_need_term (A.cons (E.var 0) A.nil))) (A.cons (E.thunk "_law_refused" Ψ_law_told (fun ρ => (E.appN φ_bundle_of (A.cons (E.var 0) A.nil)) (ρ.set 3 (some (.int 0))))) A.nil))))
    (S.seq (S.set 2 (E.op2 addD (E.var 2) (E.lst (A.cons (E.thunk "_law_refused" Ψ_law_told (E.appN φ_kids_of (A.cons (E.var 0) A.nil))) (A.cons (E.thunk "_law_refused" Ψ_law_told (fun ρ => (E.appN φ_need_term (A.cons (E.var 0) A.nil)) (ρ.set 3 (some (.int 0))))) A.nil)))))
    (S.seq (S.ret (E.op2 eqS (E.blt reprD2 (A.cons (E.var 2) A.nil)) (E.blt reprD2 (A.cons (E.op2 mulL (E.lst (A.cons (E.lst (A.cons (E.var 1) A.nil)) A.nil)) (E.cst (.int 4))) A.nil))))
    S.nil)))
def φ_law_refused : List D → M D := fnD 4 d_law_refused
theorem sc_law_refused : FnScope ["thing", "path", "told", "x"] ["thing", "path"] (defScope (top 71)) := ⟨rfl, rfl, rfl, by decide +kernel, rfl, by decide +kernel, by decide +kernel⟩
theorem fc_law_refused {P : Program} {w : World} {K : PySem.W.Frag} {mg : Str → Option Value} {base : Heap} (F : Fnc1 K mg "_law_refused" (top 71)) (TB : LamX.TabB base mg (He.cT K ("_law_refused", none)).1 (He.cT K ("_law_refused", none)).2) (m_repr : mg "repr" = none) (T_law_told : ThF P w K mg base "_law_told" Ψ_law_told) (F_need_term : Fc P w K mg base "need_term" 1 8 φ_need_term) (F_kids_of : Fc P w K mg base "kids_of" 1 9 φ_kids_of) (F_bundle_of : Fc P w K mg base "bundle_of" 1 8 φ_bundle_of) : Fc P w K mg base "_law_refused" 2 12 φ_law_refused := by
  refine Fnc1.fc F sc_law_refused (O := []) (by decide) (k := 11) (fun cdv A outer s H E Z hcdv hr tk => ?_) (fun _ _ _ _ _ _ us hl => match us, hl with | [_, _], _ => rfl)
  have nd := sc_law_refused.nd
  exact (dss_cons (ds_set 2 (by decide) nd rfl (Or.inl rfl) (DN.de (dn_lst (da_cons (de_thunk T_law_told (k := 8) rfl hcdv TB rfl (LamX.lamS_by (by rfl)) rfl (fun _ _ _ _ _ => rfl) (hr.mono (by decide)) (fun A outer s H E fa c hr tk => (dex_app (Fc.dn F_need_term) tk (hr.mono (by decide)) rfl (da_cons (de_var 0) da_nil) (alen_cons alen_nil)))) (da_cons (de_thunkD 3 T_law_told (k := 8) rfl hcdv TB rfl (by decide) rfl nd (lamS1_by (by rfl)) pe_int rfl rfl (fun _ _ _ _ _ _ _ => ⟨_, rfl, fun _ => rfl⟩) (hr.mono (by decide)) (fun A outer s H E fa c hr tk => (dex_app (Fc.dn F_bundle_of) tk (hr.mono (by decide)) rfl (da_cons (de_var 0) da_nil) (alen_cons alen_nil)))) da_nil)) (Len.ok (len_cons (len_cons len_nil))))))
    (dss_cons (ds_set 2 (by decide) nd rfl (Or.inl rfl) (de_bin o_add (DE.du (de_var 2)) (DN.du (dn_lst (da_cons (de_thunk T_law_told (k := 9) rfl hcdv TB rfl (LamX.lamS_by (by rfl)) rfl (fun _ _ _ _ _ => rfl) (hr.mono (by decide)) (fun A outer s H E fa c hr tk => (dex_app (Fc.dn F_kids_of) tk (hr.mono (by decide)) rfl (da_cons (de_var 0) da_nil) (alen_cons alen_nil)))) (da_cons (de_thunkD 3 T_law_told (k := 8) rfl hcdv TB rfl (by decide) rfl nd (lamS1_by (by rfl)) pe_int rfl rfl (fun _ _ _ _ _ _ _ => ⟨_, rfl, fun _ => rfl⟩) (hr.mono (by decide)) (fun A outer s H E fa c hr tk => (dex_app (Fc.dn F_need_term) tk (hr.mono (by decide)) rfl (da_cons (de_var 0) da_nil) (alen_cons alen_nil)))) da_nil)) (Len.ok (len_cons (len_cons len_nil)))))))
    (dss_cons (ds_ret (de_cmp o_eqS (DE.du (de_bltB (b_repr2 (r65 hr) (rg hr)) rfl m_repr (by rfl) (dau_cons (DE.du (de_var 2)) dau_nil))) (DE.du (de_bltB (b_repr2 (r65 hr) (rg hr)) rfl m_repr (by rfl) (dau_cons (DN.du (dn_mulL (dn_lst (da_cons (DN.de (dn_lst (da_cons (de_var 1) da_nil) (Len.ok (len_cons len_nil)))) da_nil) (Len.ok (len_cons len_nil))) dn_int)) dau_nil))) rfl))
    dss_nil)))
/-! ### law_sizes_right -/
def d_law_sizes_right : SD :=
    (S.seq (S.ite (T.or (T.val (E.op2 neD (E.appX φ_bundle_of (A.cons (E.app φ_law_nested (A.cons (E.cst (.int 8)) A.nil)) A.nil)) (E.tup (A.cons (E.cst (.int 1)) (A.cons (E.tup (A.cons (E.tup (A.cons (E.cst (.int 1)) A.nil)) A.nil)) A.nil))))) (T.val (E.op2 neD (E.appX φ_bundle_of (A.cons (E.app φ_law_broad (A.cons (E.cst (.int 19)) A.nil)) A.nil)) (E.tup (A.cons (E.cst (.int 1)) (A.cons (E.tup (A.cons (E.tup (A.cons (E.cst (.int 1)) A.nil)) A.nil)) A.nil))))))
    (S.seq (S.ret (E.cst (.bl false)))
    S.nil)
    S.nil)
    (S.seq (S.ite (T.val (E.op2 neD (E.appX φ_bundle_of (A.cons (E.tup (A.cons (E.cst (.str "turned")) (A.cons (E.app φ_law_broad (A.cons (E.cst (.int 19)) A.nil)) (A.cons (E.tup (A.cons (E.cst (.int 1)) A.nil)) A.nil)))) A.nil)) (E.tup (A.cons (E.cst (.int 1)) (A.cons (E.tup (A.cons (E.tup (A.cons (E.op1 negD (E.cst (.int 1))) A.nil)) A.nil)) A.nil)))))
    (S.seq (S.ret (E.cst (.bl false)))
    S.nil)
    S.nil)
    (S.seq (S.for_ (I.seq (E.tup (A.cons (E.app φ_law_nested (A.cons (E.cst (.int 9)) A.nil)) (A.cons (E.app φ_law_nested (A.cons (E.cst (.int 40)) A.nil)) (A.cons (E.app φ_law_broad (A.cons (E.cst (.int 21)) A.nil)) (A.cons (E.app φ_law_broad (A.cons (E.cst (.int 41)) A.nil)) (A.cons (E.tup (A.cons (E.cst (.str "both")) (A.cons (E.app φ_law_broad (A.cons (E.cst (.int 19)) A.nil)) (A.cons (E.cst .non) A.nil)))) A.nil))))))) (Gt.name 0)
    (S.seq (S.ite (T.not (T.val (E.appX φ_law_refused (A.cons (E.var 0) (A.cons (E.tup A.nil) A.nil)))))
    (S.seq (S.ret (E.cst (.bl false)))
    S.nil)
    S.nil)
    S.nil))
    (S.seq (S.set 1 (E.app φ_law_nested (A.cons (E.cst (.int 9)) A.nil)))
    (S.seq (S.ret (E.and (E.appX φ_law_refused (A.cons (E.tup (A.cons (E.cst (.str "both")) (A.cons (E.tup (A.cons (E.cst (.str "clause")) (A.cons (E.cst (.int 1)) (A.cons (E.tup (A.cons (E.cst (.int 1)) A.nil)) A.nil)))) (A.cons (E.var 1) A.nil)))) (A.cons (E.tup A.nil) A.nil))) (E.appX φ_law_refused (A.cons (E.tup (A.cons (E.cst (.str "both")) (A.cons (E.cst .non) (A.cons (E.var 1) A.nil)))) (A.cons (E.tup (A.cons (E.cst (.int 1)) A.nil)) A.nil)))))
    S.nil)))))
def φ_law_sizes_right : List D → M D := fnD 2 d_law_sizes_right
theorem sc_law_sizes_right : FnScope ["thing", "deep"] [] (defScope (top 76)) := ⟨rfl, rfl, rfl, by decide +kernel, rfl, by decide +kernel, by decide +kernel⟩
theorem fc_law_sizes_right {P : Program} {w : World} {K : PySem.W.Frag} {mg : Str → Option Value} {base : Heap} (F : Fnc1 K mg "_law_sizes_right" (top 76)) (F_law_refused : Fc P w K mg base "_law_refused" 2 12 φ_law_refused) (F_law_nested : Fc P w K mg base "_law_nested" 1 1 φ_law_nested) (F_law_broad : Fc P w K mg base "_law_broad" 1 1 φ_law_broad) (F_bundle_of : Fc P w K mg base "bundle_of" 1 8 φ_bundle_of) : Fc P w K mg base "_law_sizes_right" 0 13 φ_law_sizes_right := by
  refine Fnc1.fc F sc_law_sizes_right (O := []) (by decide) (k := 12) (fun cdv A outer s H E Z hcdv hr tk => ?_) (fun _ _ _ _ _ _ us hl => match us, hl with | [], _ => rfl)
  have nd := sc_law_sizes_right.nd
  exact (dss_cons (ds_if (dt_w (dw_or (dt_cmp (o_ne (r65 hr)) (DE.du (de_appX (Fc.dn F_bundle_of) tk (hr.mono (by decide)) rfl (da_cons (de_app (Fc.dn F_law_nested) (hr.mono (by decide)) rfl (da_cons (DN.de dn_int) da_nil) (alen_cons alen_nil)) da_nil) (alen_cons alen_nil))) (DE.du (de_tup (da_cons (DN.de dn_int) (da_cons (de_tup (da_cons (de_tup (da_cons (DN.de dn_int) da_nil) (Len.ok (len_cons len_nil))) da_nil) (Len.ok (len_cons len_nil))) da_nil)) (Len.ok (len_cons (len_cons len_nil))))) rfl) (dw_or1 (dt_cmp (o_ne (r65 hr)) (DE.du (de_appX (Fc.dn F_bundle_of) tk (hr.mono (by decide)) rfl (da_cons (de_app (Fc.dn F_law_broad) (hr.mono (by decide)) rfl (da_cons (DN.de dn_int) da_nil) (alen_cons alen_nil)) da_nil) (alen_cons alen_nil))) (DE.du (de_tup (da_cons (DN.de dn_int) (da_cons (de_tup (da_cons (de_tup (da_cons (DN.de dn_int) da_nil) (Len.ok (len_cons len_nil))) da_nil) (Len.ok (len_cons len_nil))) da_nil)) (Len.ok (len_cons (len_cons len_nil))))) rfl))))
    (dss_cons (ds_ret (DN.de dn_bl))
    dss_nil)
    dss_nil)
    (dss_cons (ds_if (dt_cmp (o_ne (r65 hr)) (DE.du (de_appX (Fc.dn F_bundle_of) tk (hr.mono (by decide)) rfl (da_cons (de_tup (da_cons (DN.de dn_str) (da_cons (de_app (Fc.dn F_law_broad) (hr.mono (by decide)) rfl (da_cons (DN.de dn_int) da_nil) (alen_cons alen_nil)) (da_cons (de_tup (da_cons (DN.de dn_int) da_nil) (Len.ok (len_cons len_nil))) da_nil))) (Len.ok (len_cons (len_cons (len_cons len_nil))))) da_nil) (alen_cons alen_nil))) (DE.du (de_tup (da_cons (DN.de dn_int) (da_cons (de_tup (da_cons (de_tup (da_cons (DN.de (dn_neg (DN.du dn_int))) da_nil) (Len.ok (len_cons len_nil))) da_nil) (Len.ok (len_cons len_nil))) da_nil)) (Len.ok (len_cons (len_cons len_nil))))) rfl)
    (dss_cons (ds_ret (DN.de dn_bl))
    dss_nil)
    dss_nil)
    (dss_cons (ds_for (vs := [0]) (passes_of rfl) rfl (di_seq (de_tup (da_cons (de_app (Fc.dn F_law_nested) (hr.mono (by decide)) rfl (da_cons (DN.de dn_int) da_nil) (alen_cons alen_nil)) (da_cons (de_app (Fc.dn F_law_nested) (hr.mono (by decide)) rfl (da_cons (DN.de dn_int) da_nil) (alen_cons alen_nil)) (da_cons (de_app (Fc.dn F_law_broad) (hr.mono (by decide)) rfl (da_cons (DN.de dn_int) da_nil) (alen_cons alen_nil)) (da_cons (de_app (Fc.dn F_law_broad) (hr.mono (by decide)) rfl (da_cons (DN.de dn_int) da_nil) (alen_cons alen_nil)) (da_cons (de_tup (da_cons (DN.de dn_str) (da_cons (de_app (Fc.dn F_law_broad) (hr.mono (by decide)) rfl (da_cons (DN.de dn_int) da_nil) (alen_cons alen_nil)) (da_cons (DN.de dn_non) da_nil))) (Len.ok (len_cons (len_cons (len_cons len_nil))))) da_nil))))) (Len.ok (len_cons (len_cons (len_cons (len_cons (len_cons len_nil)))))))) (dg_name 0 (by decide) (by decide) nd rfl (by first | exact Or.inl rfl | exact Or.inr rfl))
    (dss_cons (ds_if (dt_not (dt_val (de_appX (Fc.dn F_law_refused) tk (hr.mono (by decide)) rfl (da_cons (de_var 0) (da_cons (de_tup da_nil (Len.ok len_nil)) da_nil)) (alen_cons (alen_cons alen_nil)))))
    (dss_cons (ds_ret (DN.de dn_bl))
    dss_nil)
    dss_nil)
    dss_nil))
    (dss_cons (ds_set 1 (by decide) nd rfl (Or.inl rfl) (de_app (Fc.dn F_law_nested) (hr.mono (by decide)) rfl (da_cons (DN.de dn_int) da_nil) (alen_cons alen_nil)))
    (dss_cons (ds_ret (de_and (de_appX (Fc.dn F_law_refused) tk (hr.mono (by decide)) rfl (da_cons (de_tup (da_cons (DN.de dn_str) (da_cons (de_tup (da_cons (DN.de dn_str) (da_cons (DN.de dn_int) (da_cons (de_tup (da_cons (DN.de dn_int) da_nil) (Len.ok (len_cons len_nil))) da_nil))) (Len.ok (len_cons (len_cons (len_cons len_nil))))) (da_cons (de_var 1) da_nil))) (Len.ok (len_cons (len_cons (len_cons len_nil))))) (da_cons (de_tup da_nil (Len.ok len_nil)) da_nil)) (alen_cons (alen_cons alen_nil))) (de_one (de_appX (Fc.dn F_law_refused) tk (hr.mono (by decide)) rfl (da_cons (de_tup (da_cons (DN.de dn_str) (da_cons (DN.de dn_non) (da_cons (de_var 1) da_nil))) (Len.ok (len_cons (len_cons (len_cons len_nil))))) (da_cons (de_tup (da_cons (DN.de dn_int) da_nil) (Len.ok (len_cons len_nil))) da_nil)) (alen_cons (alen_cons alen_nil))))))
    dss_nil)))))
/-! ### law_mixed -/
def d_law_mixed : SD :=
    (S.seq (S.set 0 (E.op2 modD (E.blt intD (A.cons (E.var 0) A.nil)) (E.cst (.int 2147483647))))
    (S.seq (S.ret (E.op2 modD (E.op2 mulD (E.op2 modD (E.op2 addD (E.op2 addD (E.op2 mulD (E.var 0) (E.op2 addD (E.cst (.int 48271)) (E.op2 mulD (E.op2 mulD (E.cst (.int 2)) (E.var 1)) (E.var 1)))) (E.op2 mulD (E.cst (.int 69621)) (E.var 1))) (E.cst (.int 11))) (E.cst (.int 2147483647))) (E.cst (.int 69621))) (E.cst (.int 2147483629))))
    S.nil))
def φ_law_mixed : List D → M D := fnD 2 d_law_mixed
theorem sc_law_mixed : FnScope ["cell", "k"] ["cell", "k"] (defScope (top 67)) := ⟨rfl, rfl, rfl, by decide +kernel, rfl, by decide +kernel, by decide +kernel⟩
theorem fc_law_mixed {P : Program} {w : World} {K : PySem.W.Frag} {mg : Str → Option Value} {base : Heap} (F : Fnc1 K mg "_law_mixed" (top 67)) (m_int : mg "int" = none) : Fc P w K mg base "_law_mixed" 2 1 φ_law_mixed := by
  refine Fnc1.fc F sc_law_mixed (O := []) (by decide) (k := 0) (fun cdv A outer s H E Z hcdv hr tk => ?_) (fun _ _ _ _ _ _ us hl => match us, hl with | [_, _], _ => rfl)
  have nd := sc_law_mixed.nd
  exact (dss_cons (ds_set 0 (by decide) nd rfl (Or.inl rfl) (de_bin o_mod (DE.du (de_bltT b_int rfl m_int (by rfl) (dau_cons (DE.du (de_var 0)) dau_nil))) (DN.du dn_int)))
    (dss_cons (ds_ret (de_bin o_mod (DE.du (de_bin o_mul (DE.du (de_bin o_mod (DE.du (de_bin o_add (DE.du (de_bin o_add (DE.du (de_bin o_mul (DE.du (de_var 0)) (DE.du (de_bin o_add (DN.du dn_int) (DE.du (de_bin o_mul (DE.du (de_bin o_mul (DN.du dn_int) (DE.du (de_var 1)))) (DE.du (de_var 1)))))))) (DE.du (de_bin o_mul (DN.du dn_int) (DE.du (de_var 1)))))) (DN.du dn_int))) (DN.du dn_int))) (DN.du dn_int))) (DN.du dn_int)))
    dss_nil))
/-! ### law_draw -/
def d_law_draw : SD :=
    (S.seq (S.set 2 (E.sget (E.var 0) (E.cst (.str "at"))))
    (S.seq (S.sputD (E.var 0) (E.cst (.str "at")) (E.op2 addD (E.var 2) (E.cst (.int 1))))
    (S.seq (S.set 3 (E.op2 modD (E.blt intD (A.cons (E.var 2) A.nil)) (E.slen (E.sget (E.var 0) (E.cst (.str "cells"))))))
    (S.seq (S.set 4 (E.six (E.sget (E.var 0) (E.cst (.str "lefts"))) (E.var 3)))
    (S.seq (S.ite (T.val (E.op2 gtD (E.var 4) (E.cst (.int 0))))
    (S.seq (S.sputL (E.sget (E.var 0) (E.cst (.str "lefts"))) (E.var 3) (E.op2 fdivD (E.var 4) (E.var 1)))
    (S.seq (S.ret (E.op2 modD (E.blt intD (A.cons (E.var 4) A.nil)) (E.var 1)))
    S.nil))
    S.nil)
    (S.seq (S.set 5 (E.app φ_law_mixed (A.cons (E.app φ_law_mixed (A.cons (E.six (E.sget (E.var 0) (E.cst (.str "cells"))) (E.var 3)) (A.cons (E.var 2) A.nil))) (A.cons (E.op2 addD (E.cst (.int 40)) (E.var 2)) A.nil))))
    (S.seq (S.ret (E.op2 modD (E.op2 fdivD (E.blt intD (A.cons (E.op2 addD (E.op2 mulD (E.var 5) (E.cst (.int 2147483647))) (E.app φ_law_mixed (A.cons (E.var 5) (A.cons (E.op2 addD (E.cst (.int 7)) (E.var 2)) A.nil)))) A.nil)) (E.cst (.int 64))) (E.var 1)))
    S.nil)))))))
def φ_law_draw : List D → M D := fnD 6 d_law_draw
theorem sc_law_draw : FnScope ["state", "many", "at", "place", "left", "number"] ["state", "many"] (defScope (top 69)) := ⟨rfl, rfl, rfl, by decide +kernel, rfl, by decide +kernel, by decide +kernel⟩
theorem fc_law_draw {P : Program} {w : World} {K : PySem.W.Frag} {mg : Str → Option Value} {base : Heap} (F : Fnc1 K mg "_law_draw" (top 69)) (m_int : mg "int" = none) (m_len : mg "len" = none) (F_law_mixed : Fc P w K mg base "_law_mixed" 2 1 φ_law_mixed) : Fc P w K mg base "_law_draw" 2 2 φ_law_draw := by
  refine Fnc1.fc F sc_law_draw (O := []) (by decide) (k := 1) (fun cdv A outer s H E Z hcdv hr tk => ?_) (fun _ _ _ _ _ _ us hl => match us, hl with | [_, _], _ => rfl)
  have nd := sc_law_draw.nd
  exact (dss_cons (ds_set 2 (by decide) nd rfl (Or.inl rfl) (de_sget (r1 hr) (DE.du (de_var 0)) (DN.du dn_str)))
    (dss_cons (ds_sputD (r1 hr) (DE.du (de_var 0)) (DN.du dn_str) (de_bin o_add (DE.du (de_var 2)) (DN.du dn_int)))
    (dss_cons (ds_set 3 (by decide) nd rfl (Or.inl rfl) (de_bin o_mod (DE.du (de_bltT b_int rfl m_int (by rfl) (dau_cons (DE.du (de_var 2)) dau_nil))) (DE.du (de_slen rfl m_len (DE.du (de_sget (r1 hr) (DE.du (de_var 0)) (DN.du dn_str)))))))
    (dss_cons (ds_set 4 (by decide) nd rfl (Or.inl rfl) (de_six (DE.du (de_sget (r1 hr) (DE.du (de_var 0)) (DN.du dn_str))) (DE.du (de_var 3))))
    (dss_cons (ds_if (dt_cmp o_gt (DE.du (de_var 4)) (DN.du dn_int) rfl)
    (dss_cons (ds_sputL (DE.du (de_sget (r1 hr) (DE.du (de_var 0)) (DN.du dn_str))) (DE.du (de_var 3)) (de_bin o_fdiv (DE.du (de_var 4)) (DE.du (de_var 1))))
    (dss_cons (ds_ret (de_bin o_mod (DE.du (de_bltT b_int rfl m_int (by rfl) (dau_cons (DE.du (de_var 4)) dau_nil))) (DE.du (de_var 1))))
    dss_nil))
    dss_nil)
    (dss_cons (ds_set 5 (by decide) nd rfl (Or.inl rfl) (de_app (Fc.dn F_law_mixed) (hr.mono (by decide)) rfl (da_cons (de_app (Fc.dn F_law_mixed) (hr.mono (by decide)) rfl (da_cons (de_six (DE.du (de_sget (r1 hr) (DE.du (de_var 0)) (DN.du dn_str))) (DE.du (de_var 3))) (da_cons (de_var 2) da_nil)) (alen_cons (alen_cons alen_nil))) (da_cons (de_bin o_add (DN.du dn_int) (DE.du (de_var 2))) da_nil)) (alen_cons (alen_cons alen_nil))))
    (dss_cons (ds_ret (de_bin o_mod (DE.du (de_bin o_fdiv (DE.du (de_bltT b_int rfl m_int (by rfl) (dau_cons (DE.du (de_bin o_add (DE.du (de_bin o_mul (DE.du (de_var 5)) (DN.du dn_int))) (DE.du (de_app (Fc.dn F_law_mixed) (hr.mono (by decide)) rfl (da_cons (de_var 5) (da_cons (de_bin o_add (DN.du dn_int) (DE.du (de_var 2))) da_nil)) (alen_cons (alen_cons alen_nil)))))) dau_nil))) (DN.du dn_int))) (DE.du (de_var 1))))
    dss_nil)))))))
/-! ### law -/
def d_law : SD :=
    (S.seq (S.set 1 (E.app φ_law_begin (A.cons (E.var 0) A.nil)))
    (S.seq (S.par3 2 3 4 (E.tup (A.cons (E.cst (.str "clause")) (A.cons (E.cst (.int 2)) (A.cons (E.tup (A.cons (E.cst (.int 2)) A.nil)) A.nil)))) (E.app φ_law_forms A.nil) (E.app φ_law_bundles A.nil))
    (S.seq (S.for_ (I.seq (E.op2 addD (E.var 3) (E.var 4))) (Gt.name 5)
    (S.seq (S.ite (T.not (T.val (E.appX φ_law_refused (A.cons (E.var 5) (A.cons (E.tup A.nil) A.nil)))))
    (S.seq (S.ret (E.cst (.bl false)))
    S.nil)
    S.nil)
    S.nil))
    (S.seq (S.for_ (I.seq (E.var 3)) (Gt.name 5)
    (S.seq (S.for_ (I.seq (E.tup (A.cons (E.tup (A.cons (E.tup (A.cons (E.cst (.str "both")) (A.cons (E.var 2) (A.cons (E.var 5) A.nil)))) (A.cons (E.tup (A.cons (E.cst (.int 2)) A.nil)) A.nil))) (A.cons (E.tup (A.cons (E.tup (A.cons (E.cst (.str "turned")) (A.cons (E.var 5) (A.cons (E.tup (A.cons (E.cst (.int 9)) A.nil)) A.nil)))) (A.cons (E.tup A.nil) A.nil))) (A.cons (E.tup (A.cons (E.tup (A.cons (E.cst (.str "turned")) (A.cons (E.var 5) (A.cons (E.tup (A.cons (E.cst (.int 7)) A.nil)) A.nil)))) (A.cons (E.tup (A.cons (E.cst (.int 1)) A.nil)) A.nil))) A.nil))))) (Gt.tup 2 (Gt.cons (Gt.name 6) (Gt.cons (Gt.name 7) Gt.nil)))
    (S.seq (S.ite (T.not (T.val (E.appX φ_law_refused (A.cons (E.var 6) (A.cons (E.var 7) A.nil)))))
    (S.seq (S.ret (E.cst (.bl false)))
    S.nil)
    S.nil)
    S.nil))
    (S.seq (S.ite (T.not (T.val (E.appX φ_law_refused (A.cons (E.tup (A.cons (E.cst (.str "beside")) (A.cons (E.ix (E.var 4) (E.app φ_law_draw (A.cons (E.var 1) (A.cons (E.blt lenD (A.cons (E.var 4) A.nil)) A.nil)))) (A.cons (E.tup (A.cons (E.cst (.str "turned")) (A.cons (E.var 5) (A.cons (E.tup A.nil) A.nil)))) A.nil)))) (A.cons (E.tup (A.cons (E.cst (.int 2)) (A.cons (E.cst (.int 1)) A.nil))) A.nil)))))
    (S.seq (S.ret (E.cst (.bl false)))
    S.nil)
    S.nil)
    S.nil)))
    (S.seq (S.for_ (I.seq (E.var 4)) (Gt.name 5)
    (S.seq (S.set 8 (E.tup (A.cons (E.cst (.str "both")) (A.cons (E.var 5) (A.cons (E.tup (A.cons (E.cst (.str "turned")) (A.cons (E.var 5) (A.cons (E.tup A.nil) A.nil)))) A.nil)))))
    (S.seq (S.for_ (I.seq (E.tup (A.cons (E.tup (A.cons (E.tup (A.cons (E.cst (.str "both")) (A.cons (E.var 5) (A.cons (E.var 5) A.nil)))) (A.cons (E.tup (A.cons (E.cst (.int 1)) A.nil)) A.nil))) (A.cons (E.tup (A.cons (E.tup (A.cons (E.cst (.str "either")) (A.cons (E.var 2) (A.cons (E.tup (A.cons (E.cst (.str "set")) (A.cons (E.var 5) (A.cons (E.tup A.nil) A.nil)))) A.nil)))) (A.cons (E.tup (A.cons (E.cst (.int 2)) (A.cons (E.cst (.int 1)) A.nil))) A.nil))) (A.cons (E.tup (A.cons (E.var 8) (A.cons (E.tup (A.cons (E.cst (.int 1)) A.nil)) A.nil))) A.nil))))) (Gt.tup 2 (Gt.cons (Gt.name 6) (Gt.cons (Gt.name 7) Gt.nil)))
    (S.seq (S.ite (T.not (T.val (E.appX φ_law_refused (A.cons (E.var 6) (A.cons (E.var 7) A.nil)))))
    (S.seq (S.ret (E.cst (.bl false)))
    S.nil)
    S.nil)
    S.nil))
    (S.seq (S.ite (T.not (T.val (E.appX φ_law_refused (A.cons (E.tup (A.cons (E.cst (.str "turned")) (A.cons (E.tup (A.cons (E.cst (.str "merged")) (A.cons (E.var 5) (A.cons (E.cst (.int 1)) (A.cons (E.cst (.int 7)) A.nil))))) (A.cons (E.tup (A.cons (E.cst (.int 7)) A.nil)) A.nil)))) (A.cons (E.tup (A.cons (E.cst (.int 1)) (A.cons (E.cst (.int 1)) A.nil))) A.nil)))))
    (S.seq (S.ret (E.cst (.bl false)))
    S.nil)
    S.nil)
    S.nil))))
    (S.seq (S.set 9 (E.tup (A.cons (E.cst (.str "merged")) (A.cons (E.tup (A.cons (E.cst (.str "clause")) (A.cons (E.cst (.int 7)) (A.cons (E.tup (A.cons (E.cst (.int 1)) (A.cons (E.cst (.int 7)) A.nil))) A.nil)))) (A.cons (E.cst (.int 1)) (A.cons (E.cst (.int 7)) A.nil))))))
    (S.seq (S.ret (E.and (E.app φ_law_sizes_right A.nil) (E.op2 eqD (E.appX φ_need_term (A.cons (E.var 9) A.nil)) (E.var 9))))
    S.nil)))))))
def φ_law : List D → M D := fnD 10 d_law
theorem sc_law : FnScope ["script", "state", "one", "forms", "lots_so", "thing", "term", "path", "deep", "last"] ["script"] (defScope (top 77)) := ⟨rfl, rfl, rfl, by decide +kernel, rfl, by decide +kernel, by decide +kernel⟩
theorem ok_law {P : Program} {w : World} {K : PySem.W.Frag} {mg : Str → Option Value} {base : Heap} {f : Addr} {fd : FuncData} (F : FunD K "law" "law" (defArgs (top 77)) (defBody (top 77)) (defScope (top 77)) [] [] f fd) (m_len : mg "len" = none) (F_need_term : Fc P w K mg base "need_term" 1 8 φ_need_term) (F_law_sizes_right : Fc P w K mg base "_law_sizes_right" 0 13 φ_law_sizes_right) (F_law_refused : Fc P w K mg base "_law_refused" 2 12 φ_law_refused) (F_law_draw : Fc P w K mg base "_law_draw" 2 2 φ_law_draw) (F_law_forms : Fc P w K mg base "_law_forms" 0 1 φ_law_forms) (F_law_bundles : Fc P w K mg base "_law_bundles" 0 1 φ_law_bundles) (F_law_begin : Fc P w K mg base "_law_begin" 1 1 φ_law_begin) : FnG P w K mg base 14 f fd ["script"] (spD K 1 φ_law) := by
  refine G.fn_ok F sc_law (O := []) (by decide) (k := 13) (fun cdv A outer s H E Z hcdv hr tk => ?_)
  have nd := sc_law.nd
  exact (dss_cons (ds_set 1 (by decide) nd rfl (Or.inl rfl) (de_app (Fc.dn F_law_begin) (hr.mono (by decide)) rfl (da_cons (de_var 0) da_nil) (alen_cons alen_nil)))
    (dss_cons (ds_par3 2 3 4 (by decide) (by decide) (by decide) rfl nd rfl rfl rfl (by decide) (by decide) (by decide) rfl rfl rfl (de_tup (da_cons (DN.de dn_str) (da_cons (DN.de dn_int) (da_cons (de_tup (da_cons (DN.de dn_int) da_nil) (Len.ok (len_cons len_nil))) da_nil))) (Len.ok (len_cons (len_cons (len_cons len_nil))))) (de_app0 (Fc.dn F_law_forms) (hr.mono (by decide)) rfl) (de_app0 (Fc.dn F_law_bundles) (hr.mono (by decide)) rfl) (by rfl))
    (dss_cons (ds_for (vs := [5]) (passes_of rfl) rfl (di_seq (de_bin o_add (DE.du (de_var 3)) (DE.du (de_var 4)))) (dg_name 5 (by decide) (by decide) nd rfl (by first | exact Or.inl rfl | exact Or.inr rfl))
    (dss_cons (ds_if (dt_not (dt_val (de_appX (Fc.dn F_law_refused) tk (hr.mono (by decide)) rfl (da_cons (de_var 5) (da_cons (de_tup da_nil (Len.ok len_nil)) da_nil)) (alen_cons (alen_cons alen_nil)))))
    (dss_cons (ds_ret (DN.de dn_bl))
    dss_nil)
    dss_nil)
    dss_nil))
    (dss_cons (ds_for (vs := [5]) (passes_of rfl) rfl (di_seq (de_var 3)) (dg_name 5 (by decide) (by decide) nd rfl (by first | exact Or.inl rfl | exact Or.inr rfl))
    (dss_cons (ds_for (vs := [6, 7]) (passes_of rfl) rfl (di_seq (de_tup (da_cons (de_tup (da_cons (de_tup (da_cons (DN.de dn_str) (da_cons (de_var 2) (da_cons (de_var 5) da_nil))) (Len.ok (len_cons (len_cons (len_cons len_nil))))) (da_cons (de_tup (da_cons (DN.de dn_int) da_nil) (Len.ok (len_cons len_nil))) da_nil)) (Len.ok (len_cons (len_cons len_nil)))) (da_cons (de_tup (da_cons (de_tup (da_cons (DN.de dn_str) (da_cons (de_var 5) (da_cons (de_tup (da_cons (DN.de dn_int) da_nil) (Len.ok (len_cons len_nil))) da_nil))) (Len.ok (len_cons (len_cons (len_cons len_nil))))) (da_cons (de_tup da_nil (Len.ok len_nil)) da_nil)) (Len.ok (len_cons (len_cons len_nil)))) (da_cons (de_tup (da_cons (de_tup (da_cons (DN.de dn_str) (da_cons (de_var 5) (da_cons (de_tup (da_cons (DN.de dn_int) da_nil) (Len.ok (len_cons len_nil))) da_nil))) (Len.ok (len_cons (len_cons (len_cons len_nil))))) (da_cons (de_tup (da_cons (DN.de dn_int) da_nil) (Len.ok (len_cons len_nil))) da_nil)) (Len.ok (len_cons (len_cons len_nil)))) da_nil))) (Len.ok (len_cons (len_cons (len_cons len_nil)))))) (dg_tup rfl (dgs_cons (dg_name 6 (by decide) (by decide) nd rfl (by first | exact Or.inl rfl | exact Or.inr rfl)) (dgs_cons (dg_name 7 (by decide) (by decide) nd rfl (by first | exact Or.inl rfl | exact Or.inr rfl)) dgs_nil)))
    (dss_cons (ds_if (dt_not (dt_val (de_appX (Fc.dn F_law_refused) tk (hr.mono (by decide)) rfl (da_cons (de_var 6) (da_cons (de_var 7) da_nil)) (alen_cons (alen_cons alen_nil)))))
    (dss_cons (ds_ret (DN.de dn_bl))
    dss_nil)
    dss_nil)
    dss_nil))
    (dss_cons (ds_if (dt_not (dt_val (de_appX (Fc.dn F_law_refused) tk (hr.mono (by decide)) rfl (da_cons (de_tup (da_cons (DN.de dn_str) (da_cons (de_ix (DE.du (de_var 4)) (DE.du (de_app (Fc.dn F_law_draw) (hr.mono (by decide)) rfl (da_cons (de_var 1) (da_cons (de_bltB b_len rfl m_len (by rfl) (dau_cons (DE.du (de_var 4)) dau_nil)) da_nil)) (alen_cons (alen_cons alen_nil))))) (da_cons (de_tup (da_cons (DN.de dn_str) (da_cons (de_var 5) (da_cons (de_tup da_nil (Len.ok len_nil)) da_nil))) (Len.ok (len_cons (len_cons (len_cons len_nil))))) da_nil))) (Len.ok (len_cons (len_cons (len_cons len_nil))))) (da_cons (de_tup (da_cons (DN.de dn_int) (da_cons (DN.de dn_int) da_nil)) (Len.ok (len_cons (len_cons len_nil)))) da_nil)) (alen_cons (alen_cons alen_nil)))))
    (dss_cons (ds_ret (DN.de dn_bl))
    dss_nil)
    dss_nil)
    dss_nil)))
    (dss_cons (ds_for (vs := [5]) (passes_of rfl) rfl (di_seq (de_var 4)) (dg_name 5 (by decide) (by decide) nd rfl (by first | exact Or.inl rfl | exact Or.inr rfl))
    (dss_cons (ds_set 8 (by decide) nd rfl (Or.inl rfl) (de_tup (da_cons (DN.de dn_str) (da_cons (de_var 5) (da_cons (de_tup (da_cons (DN.de dn_str) (da_cons (de_var 5) (da_cons (de_tup da_nil (Len.ok len_nil)) da_nil))) (Len.ok (len_cons (len_cons (len_cons len_nil))))) da_nil))) (Len.ok (len_cons (len_cons (len_cons len_nil))))))
    (dss_cons (ds_for (vs := [6, 7]) (passes_of rfl) rfl (di_seq (de_tup (da_cons (de_tup (da_cons (de_tup (da_cons (DN.de dn_str) (da_cons (de_var 5) (da_cons (de_var 5) da_nil))) (Len.ok (len_cons (len_cons (len_cons len_nil))))) (da_cons (de_tup (da_cons (DN.de dn_int) da_nil) (Len.ok (len_cons len_nil))) da_nil)) (Len.ok (len_cons (len_cons len_nil)))) (da_cons (de_tup (da_cons (de_tup (da_cons (DN.de dn_str) (da_cons (de_var 2) (da_cons (de_tup (da_cons (DN.de dn_str) (da_cons (de_var 5) (da_cons (de_tup da_nil (Len.ok len_nil)) da_nil))) (Len.ok (len_cons (len_cons (len_cons len_nil))))) da_nil))) (Len.ok (len_cons (len_cons (len_cons len_nil))))) (da_cons (de_tup (da_cons (DN.de dn_int) (da_cons (DN.de dn_int) da_nil)) (Len.ok (len_cons (len_cons len_nil)))) da_nil)) (Len.ok (len_cons (len_cons len_nil)))) (da_cons (de_tup (da_cons (de_var 8) (da_cons (de_tup (da_cons (DN.de dn_int) da_nil) (Len.ok (len_cons len_nil))) da_nil)) (Len.ok (len_cons (len_cons len_nil)))) da_nil))) (Len.ok (len_cons (len_cons (len_cons len_nil)))))) (dg_tup rfl (dgs_cons (dg_name 6 (by decide) (by decide) nd rfl (by first | exact Or.inl rfl | exact Or.inr rfl)) (dgs_cons (dg_name 7 (by decide) (by decide) nd rfl (by first | exact Or.inl rfl | exact Or.inr rfl)) dgs_nil)))
    (dss_cons (ds_if (dt_not (dt_val (de_appX (Fc.dn F_law_refused) tk (hr.mono (by decide)) rfl (da_cons (de_var 6) (da_cons (de_var 7) da_nil)) (alen_cons (alen_cons alen_nil)))))
    (dss_cons (ds_ret (DN.de dn_bl))
    dss_nil)
    dss_nil)
    dss_nil))
    (dss_cons (ds_if (dt_not (dt_val (de_appX (Fc.dn F_law_refused) tk (hr.mono (by decide)) rfl (da_cons (de_tup (da_cons (DN.de dn_str) (da_cons (de_tup (da_cons (DN.de dn_str) (da_cons (de_var 5) (da_cons (DN.de dn_int) (da_cons (DN.de dn_int) da_nil)))) (Len.ok (len_cons (len_cons (len_cons (len_cons len_nil)))))) (da_cons (de_tup (da_cons (DN.de dn_int) da_nil) (Len.ok (len_cons len_nil))) da_nil))) (Len.ok (len_cons (len_cons (len_cons len_nil))))) (da_cons (de_tup (da_cons (DN.de dn_int) (da_cons (DN.de dn_int) da_nil)) (Len.ok (len_cons (len_cons len_nil)))) da_nil)) (alen_cons (alen_cons alen_nil)))))
    (dss_cons (ds_ret (DN.de dn_bl))
    dss_nil)
    dss_nil)
    dss_nil))))
    (dss_cons (ds_set 9 (by decide) nd rfl (Or.inl rfl) (de_tup (da_cons (DN.de dn_str) (da_cons (de_tup (da_cons (DN.de dn_str) (da_cons (DN.de dn_int) (da_cons (de_tup (da_cons (DN.de dn_int) (da_cons (DN.de dn_int) da_nil)) (Len.ok (len_cons (len_cons len_nil)))) da_nil))) (Len.ok (len_cons (len_cons (len_cons len_nil))))) (da_cons (DN.de dn_int) (da_cons (DN.de dn_int) da_nil)))) (Len.ok (len_cons (len_cons (len_cons (len_cons len_nil)))))))
    (dss_cons (ds_ret (de_and (de_app0 (Fc.dn F_law_sizes_right) (hr.mono (by decide)) rfl) (de_one (de_cmp (o_eq (r65 hr)) (DE.du (de_appX (Fc.dn F_need_term) tk (hr.mono (by decide)) rfl (da_cons (de_var 9) da_nil) (alen_cons alen_nil))) (DE.du (de_var 9)) rfl))))
    dss_nil)))))))
end K26
end G
end L2
end W_k26_
section AA1_
set_option Elab.async false
set_option linter.all false
set_option maxRecDepth 100000
set_option maxHeartbeats 2000000
namespace L2
namespace G
namespace K26
open PySem PySem.Spec PyProof.Rows
theorem law_mixed_ok (c k : Int) (h : -4611686018427387904 < k ∧ k < 4611686018427387904) : φ_law_mixed [.int c, .int k] = ret (.int (mixed c k)) := by
  unfold φ_law_mixed d_law_mixed
  rw [fnD_eq]
  have m1 : modD (.int c) (.int 2147483647) = some (.int (c % 2147483647)) := mod_ok (by decide)
  have m2 : mulD (.int 2) (.int k) = some (.int (2 * k)) := mul_ok (.inl (by omega))
  have m3 : mulD (.int (2 * k)) (.int k) = some (.int (2 * k * k)) := mul_ok (.inr (by omega))
  have m4 : mulD (.int (c % 2147483647)) (.int (48271 + 2 * k * k)) = some (.int (c % 2147483647 * (48271 + 2 * k * k))) := mul_ok (.inl (by omega))
  have m5 : mulD (.int 69621) (.int k) = some (.int (69621 * k)) := mul_ok (.inl (by omega))
  have m6 : ∀ z : Int, modD (.int z) (.int 2147483647) = some (.int (z % 2147483647)) := fun z => mod_ok (by decide)
  have m7 : ∀ z : Int, mulD (.int (z % 2147483647)) (.int 69621) = some (.int (z % 2147483647 * 69621)) := fun z => mul_ok (.inr (by omega))
  have m8 : ∀ z : Int, modD (.int z) (.int 2147483629) = some (.int (z % 2147483629)) := fun z => mod_ok (by decide)
  simp [int_ok, m1, m2, m3, m4, m5, m6, m7, m8, add_ok, mixed]
def sto (lefts cells : List Int) (n : Nat) (tl : Store) : Store := .tbl "bundles_in" :: .tbl "_law_refused" :: .lst (lefts.map .int) :: .lst (cells.map .int) :: .dct false [kCells, kLefts, kAt, kRoom] [.ref 3, .ref 2, .int n, .int 0] :: tl
def St (n : Nat) (st : Store) : Prop := ∃ (lefts cells : List Int) (tl : Store), cells ≠ [] ∧ lefts.length = cells.length ∧ st = sto lefts cells n tl
section
variable {tl : Store}
theorem g_at (l c : List Int) (n : Nat) (ρ : Env) : run (E.sget (E.var 0) (E.cst (.str "at")) (some (.ref 4) :: ρ)) (sto l c n tl) = .ok (.int n) (sto l c n tl) := rfl
theorem g_cells (l c : List Int) (n : Nat) (ρ : Env) : run (E.sget (E.var 0) (E.cst (.str "cells")) (some (.ref 4) :: ρ)) (sto l c n tl) = .ok (.ref 3) (sto l c n tl) := rfl
theorem g_lefts (l c : List Int) (n : Nat) (ρ : Env) : run (E.sget (E.var 0) (E.cst (.str "lefts")) (some (.ref 4) :: ρ)) (sto l c n tl) = .ok (.ref 2) (sto l c n tl) := rfl
theorem p_at (l c : List Int) (n : Nat) (f : SD) (ρ : Env) (e : Env → M D) (he : e (some (.ref 4) :: ρ) = ret (.int ((n : Int) + 1))) : run (S.sputD (E.var 0) (E.cst (.str "at")) e (some (.ref 4) :: ρ)) (sto l c n tl) = .ok (.next, some (.ref 4) :: ρ) (sto l c (n + 1) tl) := by
  unfold S.sputD run
  rw [he]
  rfl
theorem l_cells (l c : List Int) (n : Nat) (ρ : Env) : run (E.slen (E.sget (E.var 0) (E.cst (.str "cells"))) (some (.ref 4) :: ρ)) (sto l c n tl) = .ok (.int c.length) (sto l c n tl) := by
  show Res.ok (D.int ((c.map D.int).length : Nat)) _ = _
  rw [List.length_map]
theorem x_lefts {l c : List Int} {n j : Nat} {ρ : Env} {e : Env → M D} {x : Int} (he : e (some (.ref 4) :: ρ) = ret (.int j)) (hx : l[j]? = some x) : run (E.six (E.sget (E.var 0) (E.cst (.str "lefts"))) e (some (.ref 4) :: ρ)) (sto l c n tl) = .ok (.int x) (sto l c n tl) := by
  unfold E.six
  rw [run_bnd (g_lefts l c n ρ), he]
  show lift (ixD (.lst (l.map .int)) (.int j)) _ = _
  have : ixD (.lst (l.map .int)) (.int j) = some (.int x) := ix_tup D.int hx
  rw [this]; rfl
theorem x_cells {l c : List Int} {n j : Nat} {ρ : Env} {e : Env → M D} {x : Int} (he : e (some (.ref 4) :: ρ) = ret (.int j)) (hx : c[j]? = some x) : run (E.six (E.sget (E.var 0) (E.cst (.str "cells"))) e (some (.ref 4) :: ρ)) (sto l c n tl) = .ok (.int x) (sto l c n tl) := by
  unfold E.six
  rw [run_bnd (g_cells l c n ρ), he]
  show lift (ixD (.lst (c.map .int)) (.int j)) _ = _
  have : ixD (.lst (c.map .int)) (.int j) = some (.int x) := ix_tup D.int hx
  rw [this]; rfl
theorem p_lefts {l c : List Int} {n j : Nat} {ρ : Env} {e f : Env → M D} {x : Int} (he : e (some (.ref 4) :: ρ) = ret (.int j)) (hf : f (some (.ref 4) :: ρ) = ret (.int x)) (hj : j < l.length) :
    run (S.sputL (E.sget (E.var 0) (E.cst (.str "lefts"))) e f (some (.ref 4) :: ρ)) (sto l c n tl) = .ok (.next, some (.ref 4) :: ρ) (sto (l.set j x) c n tl) := by
  unfold S.sputL
  rw [hf, bnd_ret, run_bnd (g_lefts l c n ρ), he]
  have hix : ixN (l.map D.int).length (j : Int) = some j := by
    unfold ixN
    rw [if_pos (by omega), if_pos (by rw [List.length_map]; omega)]
    simp
  show (match ixN (l.map D.int).length (j : Int) with
    | some j => if (D.int x).imm = true then Res.ok (Fl.next, some (D.ref 4) :: ρ) ((sto l c n tl).set 2 (.lst ((l.map D.int).set j (.int x)))) else .bad
    | none => .bad) = _
  rw [hix]
  dsimp only
  rw [if_pos (by rfl : (D.int x).imm = true)]
  simp [sto, List.map_set]
end
theorem law_draw_ok {n : Nat} {st : Store} {many : Int} (h : St n st) (hn : n < 1099511627776) (h1 : 0 < many) (h2 : many < 1073741824) : ∃ r st', run (φ_law_draw [.ref 4, .int many]) st = .ok (.int r) st' ∧ St (n + 1) st' ∧ 0 ≤ r ∧ r < many := by
  obtain ⟨l, c, tl, hc, hl, rfl⟩ := h
  have lc : 0 < c.length := List.length_pos_iff.mpr hc
  obtain ⟨j, jl, ej⟩ : ∃ j : Nat, j < c.length ∧ modD (.int n) (.int c.length) = some (.int (j : Int)) := ⟨n % c.length, Nat.mod_lt _ lc, by rw [mod_ok (by omega)]; congr 2⟩
  obtain ⟨x, hx⟩ : ∃ x, l[j]? = some x := ⟨l[j]'(by omega), List.getElem?_eq_getElem _⟩
  obtain ⟨y, hy⟩ : ∃ y, c[j]? = some y := ⟨c[j], List.getElem?_eq_getElem jl⟩
  unfold φ_law_draw d_law_draw
  rw [fnD_eq]
  have env0 : (List.map some [D.ref 4, D.int many] ++ List.replicate (6 - [D.ref 4, D.int many].length) none) = [some (.ref 4), some (.int many), none, none, none, none] := rfl
  rw [env0]
  rw [fn_step (set_run (g_at l c n [some (.int many), none, none, none, none]))]
  simp only [List.set_cons_succ, List.set_cons_zero]
  rw [fn_step (p_at l c n S.nil [some (.int many), some (.int n), none, none, none] (E.op2 addD (E.var 2) (E.cst (.int 1))) rfl)]
  rw [fn_step (set_run (op2_run (blt1_run (var_run rfl) (int_ok _)) (l_cells l c (n + 1) [some (.int many), some (.int n), none, none, none]) ej))]
  simp only [List.set_cons_succ, List.set_cons_zero]
  rw [fn_step (set_run (x_lefts (l := l) (c := c) (n := n + 1) (j := j) (ρ := [some (.int many), some (.int n), some (.int j), none, none]) (e := E.var 3) rfl hx))]
  simp only [List.set_cons_succ, List.set_cons_zero]
  by_cases hp : 0 < x
  · have q1 : fdivD (.int x) (.int many) = some (.int (x / many)) := fdiv_ok ⟨h1, h2⟩
    have q2 : modD (.int x) (.int many) = some (.int (x % many)) := mod_ok h1
    have g1 : gtD (.int x) (.int 0) = some (.bl true) := by simp [gtD, ordI, hp]
    have e5 := p_lefts (tl := tl) (l := l) (c := c) (n := n + 1) (j := j) (ρ := [some (.int many), some (.int n), some (.int j), some (.int x), none]) (e := E.var 3) (f := E.op2 fdivD (E.var 4) (E.var 1)) (x := x / many) rfl (by simp [q1]) (by omega)
    refine ⟨x % many, sto (l.set j (x / many)) c (n + 1) tl, ?_, ⟨_, c, tl, hc, by rw [List.length_set]; exact hl, rfl⟩, Int.emod_nonneg _ (by omega), Int.emod_lt_of_pos _ h1⟩
    refine fn_ret (ρ' := [some (.ref 4), some (.int many), some (.int n), some (.int j), some (.int x), none]) ?_
    refine (ite_run (val_run (op2_run (var_run rfl) cst_run g1))).trans ?_
    rw [if_pos rfl]
    refine (seq_step e5).trans ?_
    exact seq_ret (ret_run (op2_run (blt1_run (var_run rfl) (int_ok _)) (var_run rfl) q2))
  · have g1 : gtD (.int x) (.int 0) = some (.bl false) := by simp [gtD, ordI, hp]
    have e6 := x_cells (tl := tl) (l := l) (c := c) (n := n + 1) (j := j) (ρ := [some (.int many), some (.int n), some (.int j), some (.int x), none]) (e := E.var 3) rfl hy
    have q1 := law_mixed_ok y n (by omega)
    have q2 := law_mixed_ok (mixed y n) (40 + n) (by omega)
    have q3 := law_mixed_ok (mixed (mixed y n) (40 + n)) (7 + n) (by omega)
    have q4 : ∀ z : Int, mulD (.int z) (.int 2147483647) = some (.int (z * 2147483647)) := fun z => mul_ok (.inr (by omega))
    have q5 : ∀ z : Int, fdivD (.int z) (.int 64) = some (.int (z / 64)) := fun z => fdiv_ok (by omega)
    have q6 : ∀ z : Int, modD (.int z) (.int many) = some (.int (z % many)) := fun z => mod_ok h1
    refine ⟨(mixed (mixed y n) (40 + n) * 2147483647 + mixed (mixed (mixed y n) (40 + n)) (7 + n)) / 64 % many, sto l c (n + 1) tl, ?_, ⟨l, c, tl, hc, hl, rfl⟩, Int.emod_nonneg _ (by omega), Int.emod_lt_of_pos _ h1⟩
    rw [fn_step (show run (S.ite _ _ _ _) _ = .ok (.next, [some (.ref 4), some (.int many), some (.int n), some (.int j), some (.int x), none]) _ from (ite_run (val_run (op2_run (var_run rfl) cst_run g1))).trans rfl)]
    rw [fn_step (set_run (app2_run (app2_run e6 (var_run rfl) (by rw [q1]; rfl)) (op2_run cst_run (var_run rfl) (add_ok _ _)) (by rw [q2]; rfl)))]
    simp only [List.set_cons_succ, List.set_cons_zero]
    refine fn_ret (ret_run (op2_run (op2_run (blt1_run (op2_run (op2_run (var_run rfl) cst_run (q4 _)) (app2_run (var_run rfl) (op2_run cst_run (var_run rfl) (add_ok _ _)) (by rw [q3]; rfl)) (add_ok _ _)) (int_ok _)) cst_run (q5 _)) (var_run rfl) (q6 _)))

/-- with at most c draws -/
def Dr {α : Type} (c : Nat) (m : M α) (P : α → Prop) : Prop := ∀ n st, St n st → n + c < BIG → ∃ a st' n', run m st = .ok a st' ∧ St n' st' ∧ n' ≤ n + c ∧ P a
theorem draw_dr {many : Int} (h1 : 0 < many) (h2 : many < 1073741824) : Dr 1 (φ_law_draw [.ref 4, .int many]) fun d => ∃ r : Int, d = .int r ∧ 0 ≤ r ∧ r < many := fun n st hs hn => by
  unfold BIG at hn
  obtain ⟨r, st', h, hs', g1, g2⟩ := law_draw_ok hs (by omega) h1 h2
  exact ⟨_, st', n + 1, h, hs', Nat.le_refl _, r, rfl, g1, g2⟩
theorem law_begin_ok (ns : List Int) : run (φ_law_begin [li ns]) [.tbl "bundles_in", .tbl "_law_refused"] = .ok (.ref 4) (sto (lefts (cellsOf ns)) (cellsOf ns) 0 []) := by
  have f1 : E.ifx (T.val (E.op2 neE (E.var 0) (E.lst A.nil))) (E.blt listD2 (A.cons (E.var 0) A.nil)) (E.lst (A.cons (E.cst (.int 0)) A.nil)) [some (li ns), none, none] = ret (li (cellsOf ns)) := by
    have e : neE (li ns) (.lst []) = some (.bl (!decide (ns = []))) := by
      show some (D.bl (!(ns.map D.int).isEmpty)) = _
      cases ns <;> simp
    have hl : listD2 [li ns] = some (li ns) := rfl
    by_cases h : ns = []
    · subst h
      have e' : neE (li []) (.lst []) = some (.bl false) := e
      simp only [u_ifx, u_val, u_op2, u_var0, u_lst, u_nil, bnd_ret, bnd_bnd, e', lift_some]
      rfl
    · simp [e, h, cellsOf, hl]
  have c1 := compL_all (ρ := [some (li ns), some (li (cellsOf ns)), none]) (t := Gt.name 2) (e := E.ifx (T.val (E.op2 geD2 (E.var 2) (E.op2 powD (E.cst (.int 10)) (E.cst (.int 18))))) (E.var 2) (E.cst (.int 0))) D.int (fun x => [some (li ns), some (li (cellsOf ns)), some (.int x)]) (fun x => .int (if 1000000000000000000 ≤ x then x else 0)) (cellsOf ns) (by
    intro x hx
    have g : geD2 (.int x) (.int 1000000000000000000) = some (.bl (decide ((1000000000000000000 : Int) ≤ x))) := rfl
    by_cases h : (1000000000000000000 : Int) ≤ x <;> simp [pow_ok, g, h])
  have e1 : ((cellsOf ns).map fun x => D.int (if 1000000000000000000 ≤ x then x else 0)) = (lefts (cellsOf ns)).map .int := by simp [lefts]
  rw [e1] at c1
  have f2 : ∀ st, run (E.alloc (E.comp (I.own 1) [2] (Gt.name 2) T.yes (E.ifx (T.val (E.op2 geD2 (E.var 2) (E.op2 powD (E.cst (.int 10)) (E.cst (.int 18))))) (E.var 2) (E.cst (.int 0)))) [some (li ns), some (li (cellsOf ns)), none]) st = .ok (.ref st.length) (st ++ [.lst ((lefts (cellsOf ns)).map .int)]) := fun st => by
    have ho : I.own 1 [some (li ns), some (li (cellsOf ns)), none] = ret ((cellsOf ns).map .int) := rfl
    have z : E.comp (I.own 1) [2] (Gt.name 2) T.yes (E.ifx (T.val (E.op2 geD2 (E.var 2) (E.op2 powD (E.cst (.int 10)) (E.cst (.int 18))))) (E.var 2) (E.cst (.int 0))) [some (li ns), some (li (cellsOf ns)), none] = ret (.lst ((lefts (cellsOf ns)).map .int)) := by
      rw [u_comp, ho, bnd_ret]
      simp only [u_wipeS, u_wipe0, List.set_cons_succ, List.set_cons_zero, c1, bnd_ret]
    have z2 : E.alloc (E.comp (I.own 1) [2] (Gt.name 2) T.yes (E.ifx (T.val (E.op2 geD2 (E.var 2) (E.op2 powD (E.cst (.int 10)) (E.cst (.int 18))))) (E.var 2) (E.cst (.int 0)))) [some (li ns), some (li (cellsOf ns)), none] = bnd (E.comp (I.own 1) [2] (Gt.name 2) T.yes (E.ifx (T.val (E.op2 geD2 (E.var 2) (E.op2 powD (E.cst (.int 10)) (E.cst (.int 18))))) (E.var 2) (E.cst (.int 0))) [some (li ns), some (li (cellsOf ns)), none]) _ := rfl
    rw [z2, z]
    show (if D.imms ((lefts (cellsOf ns)).map .int) = true then Res.ok (D.ref st.length) (st ++ [Cell.lst ((lefts (cellsOf ns)).map .int)]) else .bad) = _
    rw [if_pos (imms_ints _)]
  unfold φ_law_begin d_law_begin
  rw [fnD_eq]
  have env0 : (List.map some [li ns] ++ List.replicate (3 - [li ns].length) none) = [some (li ns), none, none] := rfl
  rw [env0]
  have f2' := f2 [.tbl "bundles_in", .tbl "_law_refused"]
  unfold run fnM S.begin
  rw [f1]
  show (match (if 1 < 3 ∧ D.imms ((cellsOf ns).map .int) = true then bnd (E.alloc _ [some (li ns), some (li (cellsOf ns)), none]) (fun d2 st => if d2.imm = true then Res.ok (Fl.ret (D.ref (st.length + 1)), [some (li ns), none, none]) (st ++ [Cell.lst ((cellsOf ns).map .int)] ++ [Cell.dct false [kCells, kLefts, kAt, kRoom] [D.ref st.length, d2, .int 0, .int 0]]) else .bad) else bad : M (Fl × Env)) [.tbl "bundles_in", .tbl "_law_refused"] with
    | .ok q s' => (match q.1 with
      | .ret d => Res.ok d s'
      | .next => .ok .non s'
      | _ => .bad)
    | .exc x s' => .exc x s'
    | .bad => .bad) = _
  rw [if_pos ⟨by decide, imms_ints _⟩]
  unfold run at f2'
  unfold bnd
  rw [f2']
  rfl
end K26
end G
end L2
end AA1_
section AA2_
set_option Elab.async false
set_option linter.all false
set_option maxRecDepth 100000
set_option maxHeartbeats 2000000
namespace L2
namespace G
namespace K26
open PySem PySem.Spec PyProof.Rows
/-! ### what is refused -/
abbrev pre (tl : Store) : Store := .tbl "bundles_in" :: .tbl "_law_refused" :: tl
abbrev btp (p : D) : Ex := ⟨"BadTerm", [("path", p)]⟩
abbrev rep4 (p : D) : D := .lst [.lst [p], .lst [p], .lst [p], .lst [p]]
theorem need_exc {t : D} {x : Ex} {st st' : Store} (h : run (φ_bundles_in [t]) st = .exc x st') : run (φ_need_term [t]) st = .exc x st' := by
  unfold φ_need_term d_need_term
  rw [show fnD 1 _ [t] = _ from fn1 0 _ _]
  exact fnM_exc (seq_exc (expr_exc (appX_exc (cons_run (var_run rfl) nil_run) h)))
theorem bundle_of_exc {t : D} {x : Ex} {st st' : Store} (h : run (φ_bundles_in [t]) st = .exc x st') : run (φ_bundle_of [t]) st = .exc x st' := by
  unfold φ_bundle_of d_bundle_of
  rw [show fnD 1 _ [t] = _ from fn1 0 _ _]
  exact fnM_exc (seq_exc (ret_exc (exc_bnd (appX_exc (cons_run (var_run rfl) nil_run) h))))
theorem kids_exc {t : D} {x : Ex} {st st' : Store} (h : run (φ_bundles_in [t]) st = .exc x st') : run (φ_kids_of [t]) st = .exc x st' := by
  unfold φ_kids_of d_kids_of
  rw [show fnD 2 _ [t] = _ from fn1 1 _ _]
  exact fnM_exc (seq_exc (expr_exc (appX_exc (cons_run (var_run rfl) nil_run) (need_exc h))))
theorem told_exc {m : M D} {p : D} {st : Store} (h : run m st = .exc (btp p) st) : run (Ψ_law_told m) st = .ok (.lst [p]) st := by
  unfold run at *
  show toldM _ _ _ _ _ = _
  unfold toldM
  rw [h]
  rfl
theorem refused_of {t p : D} {tl : Store} {s : Str} (h : run (φ_bundles_in [t]) (pre tl) = .exc (btp p) (pre tl)) (hr : reprD2 [rep4 p] = some (.str s)) : run (φ_law_refused [t, p]) (pre tl) = .ok (.bl true) (pre tl) := by
  unfold φ_law_refused d_law_refused
  rw [show fnD 4 _ [t, p] = _ from fn2 2 _ _ _]
  have tb : hasTab "_law_refused" (pre tl) = true := rfl
  have k1 : ∀ (φ : List D → M D) (ρ : Env), ρ[0]? = some (some t) → run (φ [t]) (pre tl) = .exc (btp p) (pre tl) → run (Ψ_law_told (E.appN φ (A.cons (E.var 0) A.nil) ρ)) (pre tl) = .ok (.lst [p]) (pre tl) := fun φ ρ hρ h => told_exc (by
    rw [appN_run (xs := [t]) (by unfold A.cons A.nil E.var; rw [hρ]; rfl)]
    exact h)
  refine (fn_step (ρ' := [some t, some p, some (.lst [.lst [p], .lst [p]]), none]) (st' := pre tl) (set_run (lst_run (cons_run (thunk_runS tb (k1 _ _ rfl (need_exc h))) (cons_run (thunk_runS tb (k1 _ _ rfl (bundle_of_exc h))) nil_run))))).trans ?_
  refine (fn_step (ρ' := [some t, some p, some (rep4 p), none]) (st' := pre tl) (set_run (op2_run (x := .lst [.lst [p], .lst [p]]) (y := .lst [.lst [p], .lst [p]]) (var_run rfl) (lst_run (cons_run (thunk_runS tb (k1 _ _ rfl (kids_exc h))) (cons_run (thunk_runS tb (k1 _ _ rfl (need_exc h))) nil_run))) rfl))).trans ?_
  exact fn_ret (ret_run (op2_run (blt1_run (var_run rfl) hr) (blt1_run (op2_run (x := .lst [.lst [p]]) (y := .int 4) (lst_run (cons_run (lst_run (cons_run (var_run rfl) nil_run)) nil_run)) cst_run rfl) hr) (eqS_same s)))
/-! ### the things by hand -/
def lstOf (r : Res D) : List D := match r with
  | .ok (.lst l) _ => l
  | _ => []
def formsD : List D := lstOf (φ_law_forms [] [])
def lotsD : List D := lstOf (φ_law_bundles [] [])
theorem forms_run : φ_law_forms [] = ret (.lst formsD) := by kernel_rfl
theorem lots_run : φ_law_bundles [] = ret (.lst lotsD) := by kernel_rfl
theorem forms_len : formsD.length = 122 := by kernel_rfl
theorem lots_len : lotsD.length = 10 := by kernel_rfl
end K26
end G
end L2
end AA2_
section AA3_
set_option Elab.async false
set_option linter.all false
set_option maxRecDepth 100000
set_option maxHeartbeats 2000000
namespace L2
namespace G
namespace K26
open PySem PySem.Spec PyProof.Rows
def oneD : D := .tup [.str "clause", .int 2, .tup [.int 2]]
def bothT (a b : D) : D := .tup [.str "both", a, b]
def turnT (a : D) (l : List Int) : D := .tup [.str "turned", a, cl l]
def besT (a b : D) : D := .tup [.str "beside", a, b]
abbrev bad1 (t : D) (tl : Store) : Res D := run (φ_bundles_in [t]) (pre tl)
abbrev at1 (p : List Int) (tl : Store) : Res D := .exc (btp (cl p)) (pre tl)
theorem gF0 (tl : Store) : (formsD.map fun t => bad1 t tl) = formsD.map fun _ => at1 [] tl := by kernel_rfl
theorem gF1 (tl : Store) : (formsD.map fun t => bad1 (bothT oneD t) tl) = formsD.map fun _ => at1 [2] tl := by kernel_rfl
theorem gF2 (tl : Store) : (formsD.map fun t => bad1 (turnT t [9]) tl) = formsD.map fun _ => at1 [] tl := by kernel_rfl
theorem gF3 (tl : Store) : (formsD.map fun t => bad1 (turnT t [7]) tl) = formsD.map fun _ => at1 [1] tl := by kernel_rfl
theorem gL0 (tl : Store) : (lotsD.map fun t => bad1 t tl) = lotsD.map fun _ => at1 [] tl := by kernel_rfl
end K26
end G
end L2
end AA3_
section AA4_
set_option Elab.async false
set_option linter.all false
set_option maxRecDepth 100000
set_option maxHeartbeats 2000000
namespace L2
namespace G
namespace K26
open PySem PySem.Spec PyProof.Rows
theorem gFL0 (tl : Store) : (formsD.map fun t => bad1 (besT (lotsD.getD 0 .non) (turnT t [])) tl) = formsD.map fun _ => at1 [2, 1] tl := by kernel_rfl
theorem gFL1 (tl : Store) : (formsD.map fun t => bad1 (besT (lotsD.getD 1 .non) (turnT t [])) tl) = formsD.map fun _ => at1 [2, 1] tl := by kernel_rfl
theorem gFL2 (tl : Store) : (formsD.map fun t => bad1 (besT (lotsD.getD 2 .non) (turnT t [])) tl) = formsD.map fun _ => at1 [2, 1] tl := by kernel_rfl
theorem gFL3 (tl : Store) : (formsD.map fun t => bad1 (besT (lotsD.getD 3 .non) (turnT t [])) tl) = formsD.map fun _ => at1 [2, 1] tl := by kernel_rfl
theorem gFL4 (tl : Store) : (formsD.map fun t => bad1 (besT (lotsD.getD 4 .non) (turnT t [])) tl) = formsD.map fun _ => at1 [2, 1] tl := by kernel_rfl
theorem gFL5 (tl : Store) : (formsD.map fun t => bad1 (besT (lotsD.getD 5 .non) (turnT t [])) tl) = formsD.map fun _ => at1 [2, 1] tl := by kernel_rfl
theorem gFL6 (tl : Store) : (formsD.map fun t => bad1 (besT (lotsD.getD 6 .non) (turnT t [])) tl) = formsD.map fun _ => at1 [2, 1] tl := by kernel_rfl
theorem gFL7 (tl : Store) : (formsD.map fun t => bad1 (besT (lotsD.getD 7 .non) (turnT t [])) tl) = formsD.map fun _ => at1 [2, 1] tl := by kernel_rfl
theorem gFL8 (tl : Store) : (formsD.map fun t => bad1 (besT (lotsD.getD 8 .non) (turnT t [])) tl) = formsD.map fun _ => at1 [2, 1] tl := by kernel_rfl
theorem gFL9 (tl : Store) : (formsD.map fun t => bad1 (besT (lotsD.getD 9 .non) (turnT t [])) tl) = formsD.map fun _ => at1 [2, 1] tl := by kernel_rfl
theorem gFL {L : D} (hL : L ∈ lotsD) (tl : Store) : (formsD.map fun t => bad1 (besT L (turnT t [])) tl) = formsD.map fun _ => at1 [2, 1] tl := by
  obtain ⟨i, hi, rfl⟩ := List.getElem_of_mem hL
  have e : lotsD[i] = lotsD.getD i .non := by rw [List.getD_eq_getElem?_getD, List.getElem?_eq_getElem hi]; rfl
  rw [e]
  have hi : i < 10 := by rw [lots_len] at hi; exact hi
  match i, hi with
  | 0, _ => exact gFL0 tl
  | 1, _ => exact gFL1 tl
  | 2, _ => exact gFL2 tl
  | 3, _ => exact gFL3 tl
  | 4, _ => exact gFL4 tl
  | 5, _ => exact gFL5 tl
  | 6, _ => exact gFL6 tl
  | 7, _ => exact gFL7 tl
  | 8, _ => exact gFL8 tl
  | 9, _ => exact gFL9 tl
  | n + 10, h => omega
theorem gL1 (tl : Store) : (lotsD.map fun t => bad1 (bothT t t) tl) = lotsD.map fun _ => at1 [1] tl := by kernel_rfl
theorem gL2 (tl : Store) : (lotsD.map fun t => bad1 (.tup [.str "either", oneD, .tup [.str "set", t, cl []]]) tl) = lotsD.map fun _ => at1 [2, 1] tl := by kernel_rfl
theorem gL3 (tl : Store) : (lotsD.map fun t => bad1 (bothT t (turnT t [])) tl) = lotsD.map fun _ => at1 [1] tl := by kernel_rfl
theorem gL4 (tl : Store) : (lotsD.map fun t => bad1 (turnT (.tup [.str "merged", t, .int 1, .int 7]) [7]) tl) = lotsD.map fun _ => at1 [1, 1] tl := by kernel_rfl
end K26
end G
end L2
end AA4_
section AA5_
set_option Elab.async false
set_option linter.all false
set_option maxRecDepth 100000
set_option maxHeartbeats 2000000
namespace L2
namespace G
namespace K26
open PySem PySem.Spec PyProof.Rows
theorem gS (tl : Store) : run (φ_law_sizes_right []) (pre tl) = .ok (.bl true) (pre tl) := by kernel_rfl
end K26
end G
end L2
end AA5_
section AA6_
set_option Elab.async false
set_option linter.all false
set_option maxRecDepth 100000
set_option maxHeartbeats 2000000
namespace L2
namespace G
namespace K26
open PySem PySem.Spec PyProof.Rows
/-! ### the law -/
theorem st_pre {n : Nat} {st : Store} (h : St n st) : ∃ tl, st = pre tl := by
  obtain ⟨l, c, tl, _, _, rfl⟩ := h
  exact ⟨_, rfl⟩
theorem reps : ∀ p ∈ [[], [2], [1], [2, 1], [1, 1]], ∃ s, reprD2 [rep4 (cl p)] = some (.str s) := by
  intro p hp
  have k : ∀ d : D, d.okd 60 = true → d.py.showable = true → d.py.shown.length ≤ 1000000 → ∃ s, reprD2 [d] = some (.str s) := fun d h1 h2 h3 => ⟨d.py.shown, by
    show (if (D.okd 60 d && d.py.showable && decide (d.py.shown.length ≤ 1000000)) = true then some (D.str d.py.shown) else none) = _
    rw [h1, h2, decide_eq_true h3]
    rfl⟩
  simp only [List.mem_cons, List.not_mem_nil, or_false] at hp
  rcases hp with rfl | rfl | rfl | rfl | rfl <;> exact k _ (by decide +kernel) (by decide +kernel) (by decide +kernel)
/-- refused at p in any state of the draws -/
def Rf (t : D) (p : List Int) : Prop := p ∈ [[], [2], [1], [2, 1], [1, 1]] ∧ ∀ tl, bad1 t tl = at1 p tl
theorem Rf.run {t : D} {p : List Int} (h : Rf t p) {n : Nat} {st : Store} (hs : St n st) : run (φ_law_refused [t, cl p]) st = .ok (.bl true) st := by
  obtain ⟨tl, rfl⟩ := st_pre hs
  obtain ⟨s, hr⟩ := reps p h.1
  exact refused_of (h.2 tl) hr
theorem rf_of {l : List D} {f : D → D} {p : List Int} (hp : p ∈ [[], [2], [1], [2, 1], [1, 1]]) (h : ∀ tl, (l.map fun t => bad1 (f t) tl) = l.map fun _ => at1 p tl) : ∀ t ∈ l, Rf (f t) p := fun t ht => ⟨hp, fun tl => List.map_inj_left.mp (h tl) t ht⟩
abbrev setT (a : D) : D := .tup [.str "set", a, cl []]
abbrev eiT (a b : D) : D := .tup [.str "either", a, b]
abbrev meT (a : D) : D := .tup [.str "merged", a, .int 1, .int 7]
structure FormOk (t : D) : Prop where
  f0 : Rf t []
  f1 : Rf (bothT oneD t) [2]
  f2 : Rf (turnT t [9]) []
  f3 : Rf (turnT t [7]) [1]
  fl : ∀ L ∈ lotsD, Rf (besT L (turnT t [])) [2, 1]
structure LotOk (t : D) : Prop where
  l0 : Rf t []
  l1 : Rf (bothT t t) [1]
  l2 : Rf (eiT oneD (setT t)) [2, 1]
  l3 : Rf (bothT t (turnT t [])) [1]
  l4 : Rf (turnT (meT t) [7]) [1, 1]
theorem forms_ok : ∀ t ∈ formsD, FormOk t := fun t ht => ⟨rf_of (f := fun t => t) (by decide) gF0 t ht, rf_of (f := bothT oneD) (by decide) gF1 t ht, rf_of (f := fun t => turnT t [9]) (by decide) gF2 t ht, rf_of (f := fun t => turnT t [7]) (by decide) gF3 t ht, fun L hL =>
  ⟨by decide, fun tl => List.map_inj_left.mp (gFL hL tl) t ht⟩⟩
theorem lots_ok : ∀ t ∈ lotsD, LotOk t := fun t ht => ⟨rf_of (f := fun t => t) (by decide) gL0 t ht, rf_of (f := fun t => bothT t t) (by decide) gL1 t ht, rf_of (f := fun t => eiT oneD (setT t)) (by decide) gL2 t ht, rf_of (f := fun t => bothT t (turnT t [])) (by decide) gL3 t ht, rf_of (f := fun t => turnT (meT t) [7]) (by decide) gL4 t ht⟩
/-- a test of a refusal, in a statement -/
theorem chk {a b : Env → M D} {ρ : Env} {t : D} {p : List Int} {n : Nat} {st st0 : Store} {z : SD} (h : Rf t p) (hs : St n st) (ha : run (a ρ) st0 = .ok t st) (hb : run (b ρ) st = .ok (cl p) st) : run (S.seq (S.ite (T.not (T.val (E.appX φ_law_refused (A.cons a (A.cons b A.nil))))) z S.nil) S.nil ρ) st0 = .ok (.next, ρ) st := by
  have e : run (T.not (T.val (E.appX φ_law_refused (A.cons a (A.cons b A.nil)))) ρ) st0 = .ok false st := by
    have z1 : T.not (T.val (E.appX φ_law_refused (A.cons a (A.cons b A.nil)))) ρ = bnd (T.val (E.appX φ_law_refused (A.cons a (A.cons b A.nil))) ρ) _ := rfl
    rw [z1, run_bnd (val_run (appX_run (cons_run ha (cons_run hb nil_run)) (h.run hs)))]
    rfl
  exact (seq_step (ρ' := ρ) (st' := st) ((ite_f e).trans rfl)).trans rfl
abbrev lawE (s : D) (t u p d : Option D) : Env := [some s, some (.ref 4), some oneD, some (.lst formsD), some (.lst lotsD), t, u, p, d, none]
def Iv (s : D) (o k : Nat) (ρ : Env) (st : Store) : Prop := (∃ t u p d, ρ = lawE s t u p d) ∧ ∃ n, St n st ∧ n + k + o < BIG
/-- the three terms of a turn -/
theorem inner {s : D} {l : List (D × List Int)} (hl : ∀ x ∈ l, Rf x.1 x.2) {t u p d : Option D} {n : Nat} {st : Store} (hs : St n st) {z : SD} : ∃ u' p', run (forL (Gt.tup 2 (Gt.cons (Gt.name 6) (Gt.cons (Gt.name 7) Gt.nil))) (S.seq (S.ite (T.not (T.val (E.appX φ_law_refused (A.cons (E.var 6) (A.cons (E.var 7) A.nil))))) z S.nil) S.nil) (l.map fun x => .tup [x.1, cl x.2]) (lawE s t u p d)) st = .ok (.next, lawE s t u' p' d) st := by
  induction l generalizing u p with
  | nil => exact ⟨u, p, rfl⟩
  | cons x l ih =>
    obtain ⟨u', p', h⟩ := ih (fun y hy => hl y (.tail _ hy)) (u := some x.1) (p := some (cl x.2))
    refine ⟨u', p', ?_⟩
    rw [List.map_cons]
    exact (for_step (ρ1 := lawE s t (some x.1) (some (cl x.2)) d) (ρ2 := lawE s t (some x.1) (some (cl x.2)) d) (st' := st) rfl (chk (hl x (.head _)) hs (var_run rfl) (var_run rfl))).trans h
end K26
end G
end L2
end AA6_
section AA7_
set_option Elab.async false
set_option linter.all false
set_option maxRecDepth 100000
set_option maxHeartbeats 2000000
namespace L2
namespace G
namespace K26
open PySem PySem.Spec PyProof.Rows
def lastD : D := meT (.tup [.str "clause", .int 7, cl [1, 7]])
theorem last_need (tl : Store) : run (φ_need_term [lastD]) (pre tl) = .ok lastD (pre tl) := by kernel_rfl
theorem last_eq : eqD lastD lastD = some (.bl true) := by kernel_rfl
theorem lots_lenD : lenD [.lst lotsD] = some (.int 10) := by kernel_rfl
theorem add_fl : addD (.lst formsD) (.lst lotsD) = some (.lst (formsD ++ lotsD)) := by kernel_rfl
theorem lot_ix {k : Nat} (hk : k < 10) : ∃ L ∈ lotsD, ixD' (.lst lotsD) (.int k) = some L := by
  have hl : k < lotsD.length := by rw [lots_len]; exact hk
  refine ⟨lotsD[k], List.getElem_mem hl, ?_⟩
  have := ix_tup (fun d : D => d) (l := lotsD) (j := k) (x := lotsD[k]) (List.getElem?_eq_getElem hl)
  rw [List.map_id'] at this
  exact this
theorem law_true (ns : List Int) (hl : ns.length ≤ 63) (hb : ∀ z ∈ ns, Builtin.Int.intBits z ≤ 1048576) : ∃ st', φ_law [.lst (ns.map .int)] [.tbl "bundles_in", .tbl "_law_refused"] = .ok (.bl true) st' := by
  have bg := law_begin_ok ns
  have s0 : St 0 (sto (lefts (cellsOf ns)) (cellsOf ns) 0 []) := by
    refine ⟨_, _, _, ?_, ?_, rfl⟩
    · unfold cellsOf
      split
      · simp
      · assumption
    · simp [lefts]
  show ∃ st', run (φ_law [li ns]) [.tbl "bundles_in", .tbl "_law_refused"] = _
  unfold φ_law d_law
  rw [show fnD 10 _ [li ns] = _ from fn1 9 _ _]
  refine fn_stepE (ρ' := [some (li ns), some (.ref 4), none, none, none, none, none, none, none, none]) (set_run (app1_run (var_run rfl) bg)) ?_
  refine fn_stepE (ρ' := lawE (li ns) none none none none) (par3_run (x := oneD) (y := .lst formsD) (z := .lst lotsD) (pure_run rfl) (app0_run (by rw [forms_run]; rfl)) (app0_run (by rw [lots_run]; rfl))) ?_
  refine fn_forE (Iv (li ns) 1000) (seq_run (op2_run (var_run rfl) (var_run rfl) add_fl) rfl) ?_ ?_ ?_
  · refine ⟨⟨none, none, none, none, rfl⟩, 0, s0, ?_⟩
    rw [List.length_append, forms_len, lots_len]
    unfold BIG; omega
  · rintro x hx k ρ st ⟨⟨t, u, p, d, rfl⟩, n, hs, hn⟩
    have hr : Rf x [] := by
      rcases List.mem_append.mp hx with h | h
      · exact (forms_ok x h).f0
      · exact (lots_ok x h).l0
    exact ⟨lawE (li ns) (some x) u p d, lawE (li ns) (some x) u p d, st, rfl, chk hr hs (var_run rfl) (pure_run rfl), ⟨_, _, _, _, rfl⟩, n, hs, by omega⟩
  rintro ρ st ⟨⟨t, u, p, d, rfl⟩, n, hs, hn⟩
  refine fn_forE (Iv (li ns) 100) (seq_run (var_run rfl) rfl) ⟨⟨_, _, _, _, rfl⟩, n, hs, by rw [forms_len]; omega⟩ ?_ ?_
  · rintro x hx k ρ st ⟨⟨t, u, p, d, rfl⟩, n, hs, hn⟩
    have hf := forms_ok x hx
    obtain ⟨u', p', h1⟩ := inner (s := li ns) (l := [(bothT oneD x, [2]), (turnT x [9], []), (turnT x [7], [1])]) (fun y hy => by
      simp only [List.mem_cons, List.not_mem_nil, or_false] at hy
      rcases hy with rfl | rfl | rfl
      · exact hf.f1
      · exact hf.f2
      · exact hf.f3) (t := some x) (u := u) (p := p) (d := d) hs
    obtain ⟨d1, st1, c1, q1, s1, b1, a, rfl, a0, a1⟩ := draw_dr (many := 10) (by omega) (by omega) n st hs (by omega)
    obtain ⟨j, rfl⟩ : ∃ j : Nat, a = j := ⟨a.toNat, by omega⟩
    obtain ⟨L, hL, ix⟩ := lot_ix (k := j) (by omega)
    refine ⟨lawE (li ns) (some x) u p d, lawE (li ns) (some x) u' p' d, st1, rfl, ?_, ⟨_, _, _, _, rfl⟩, c1, s1, by omega⟩
    refine (seq_step (ρ' := lawE (li ns) (some x) u' p' d) (st' := st) (for_run (seq_run (pure_run rfl) rfl) (by first | exact h1 | (refine Eq.trans ?_ h1; rfl)))).trans ?_
    exact chk (hf.fl L hL) s1 (tup_run (cons_run cst_run (cons_run (ix_run (var_run rfl) (app2_run (var_run rfl) (blt1_run (var_run rfl) lots_lenD) q1) ix) (cons_run (pure_run rfl) nil_run)))) (pure_run rfl)
  rintro ρ st ⟨⟨t, u, p, d, rfl⟩, n, hs, hn⟩
  refine fn_forE (Iv (li ns) 10) (seq_run (var_run rfl) rfl) ⟨⟨_, _, _, _, rfl⟩, n, hs, by rw [lots_len]; omega⟩ ?_ ?_
  · rintro x hx k ρ st ⟨⟨t, u, p, d, rfl⟩, n, hs, hn⟩
    have hf := lots_ok x hx
    obtain ⟨u', p', h1⟩ := inner (s := li ns) (l := [(bothT x x, [1]), (eiT oneD (setT x), [2, 1]), (bothT x (turnT x []), [1])]) (fun y hy => by
      simp only [List.mem_cons, List.not_mem_nil, or_false] at hy
      rcases hy with rfl | rfl | rfl
      · exact hf.l1
      · exact hf.l2
      · exact hf.l3) (t := some x) (u := u) (p := p) (d := some (bothT x (turnT x []))) hs
    refine ⟨lawE (li ns) (some x) u p d, lawE (li ns) (some x) u' p' (some (bothT x (turnT x []))), st, rfl, ?_, ⟨_, _, _, _, rfl⟩, n, hs, by omega⟩
    refine (seq_step (ρ' := lawE (li ns) (some x) u p (some (bothT x (turnT x [])))) (st' := st) (set_run (pure_run rfl))).trans ?_
    refine (seq_step (ρ' := lawE (li ns) (some x) u' p' (some (bothT x (turnT x [])))) (st' := st) (for_run (seq_run (pure_run rfl) rfl) (by first | exact h1 | (refine Eq.trans ?_ h1; rfl)))).trans ?_
    exact chk hf.l4 hs (pure_run rfl) (pure_run rfl)
  rintro ρ st ⟨⟨t, u, p, d, rfl⟩, n, hs, hn⟩
  obtain ⟨tl, rfl⟩ := st_pre hs
  refine fn_stepE (ρ' := [some (li ns), some (.ref 4), some oneD, some (.lst formsD), some (.lst lotsD), t, u, p, d, some lastD]) (set_run (pure_run rfl)) ⟨pre tl, ?_⟩
  exact fn_ret (ret_run ((eand_t (app0_run (gS tl))).trans (op2_run (appX_run (cons_run (var_run rfl) nil_run) (last_need tl)) (var_run rfl) last_eq)))
end K26
end G
end L2
end AA7_
section H_k26_
set_option Elab.async false
set_option linter.all false
set_option maxRecDepth 100000
set_option maxHeartbeats 0
namespace L2
namespace G
namespace K26
open PySem PySem.Spec PyProof.Rows
/-! ### the head -/
def dOf (x : Str) (i : Nat) : He.DefD := ⟨(x, none), x, x, defArgs (top i), defBody (top i), defScope (top i), [], []⟩
def hfn0 : List He.DefD := [dOf "_law_begin" 68, dOf "_law_forms" 72, dOf "_law_bundles" 73, dOf "_law_nested" 74, dOf "is_integer" 1, dOf "is_between" 2, dOf "are_rising" 3, dOf "is_literal" 4, dOf "is_clause" 5, dOf "is_leaf_form" 50, dOf "are_numbers" 49, dOf "is_lot" 6, dOf "is_single_form" 51, dOf "is_form" 52, dOf "places_in" 53, dOf "paths_in" 54, dOf "term_at" 55, dOf "bundle_by" 18, dOf "contrary_pairs" 56, dOf "by_names" 7]
def hfn1 : List He.DefD := [dOf "leaf_bundle" 57, dOf "turned_in" 58, dOf "crossed_clause" 15, dOf "crossed_in" 16, dOf "is_settled" 20, dOf "moved_literal" 22, dOf "clause_of_all" 21, dOf "merged_in" 23, dOf "does_meet" 8, dOf "set_in" 19, dOf "changed" 59, dOf "is_small" 61, dOf "both_in" 24, dOf "shifted" 25, dOf "beside_in" 26, dOf "either_in" 27, dOf "put_by" 60, dOf "bundles_in" 62, dOf "bundle_of" 64, dOf "_law_broad" 75]
def hfn2 : List He.DefD := [dOf "_law_told" 70, dOf "need_term" 63, dOf "kids_of" 65, dOf "_law_refused" 71, dOf "_law_sizes_right" 76, dOf "_law_mixed" 67, dOf "_law_draw" 69, dOf "law" 77, ⟨("BadTerm", some "__init__"), "__init__", "BadTerm.__init__", defArgs (inClass (top 11) 0), defBody (inClass (top 11) 0), defScope (inClass (top 11) 0), [], []⟩]
def fn : List He.DefD := hfn0 ++ hfn1 ++ hfn2
def hfa0 : List He.Fa := [.glo "_law_begin", .glo "_law_forms", .glo "_law_bundles", .glo "_law_nested", .glo "is_integer", .glo "is_between", .glo "are_rising", .glo "is_literal", .glo "is_clause", .glo "is_leaf_form", .glo "are_numbers", .glo "is_lot", .glo "is_single_form", .glo "is_form", .glo "places_in", .glo "paths_in", .glo "term_at", .glo "bundle_by", .glo "contrary_pairs", .glo "by_names"]
def hfa1 : List He.Fa := [.glo "leaf_bundle", .glo "turned_in", .glo "crossed_clause", .glo "crossed_in", .glo "is_settled", .glo "moved_literal", .glo "clause_of_all", .glo "merged_in", .glo "does_meet", .glo "set_in", .glo "changed", .glo "is_small", .glo "both_in", .glo "shifted", .glo "beside_in", .glo "either_in", .glo "put_by", .glo "bundles_in", .glo "bundle_of", .glo "_law_broad"]
def hfa2 : List He.Fa := [.glo "_law_told", .glo "need_term", .glo "kids_of", .glo "_law_refused", .glo "_law_sizes_right", .glo "_law_mixed", .glo "_law_draw", .glo "law", .free "abs", .free "all", .free "any", .free "bool", .free "enumerate", .free "int", .free "isinstance", .free "len", .free "list", .free "max", .free "range", .free "repr"]
def hfa3 : List He.Fa := [.free "sorted", .free "str", .free "tuple", .free "zip", .int "LEAST_LITERALS" 2, .int "MOST_CLAUSES" 16, .int "MOST_DEEP" 8, .int "MOST_LITERALS" 5, .int "MOST_NAMES" 7, .int "MOST_WORDS" 20, .str "BESIDE" "beside", .str "BOTH" "both", .str "CLAUSE" "clause", .str "MERGED" "merged", .str "MOST" "most", .str "ONE" "one", .str "SAME" "same", .str "SET" "set", .str "TURNED" "turned", .str "WITHOUT" "without"]
def hfa4 : List He.Fa := [.glo "DOUBLE", .glo "LEAVES", .glo "SINGLE", .glo "LENGTHS", .glo "BadTerm", .glo "ClauseError", .exm "BadTerm" "BadTerm" true]
def fa : List He.Fa := hfa0 ++ hfa1 ++ hfa2 ++ hfa3 ++ hfa4
def tf : List He.Defn := [("bundles_in", none), ("_law_refused", none)]
def tabsNd (K : PySem.W.Frag) : Bool := decide ((tf.map fun p => (He.cT K p).2).Nodup)
def erB (K : PySem.W.Frag) : Bool := erbB K "ClauseError" && (ercB K "BadTerm" ["path"] && (true))
def gtsB (K : PySem.W.Frag) : Bool := gtB K "DOUBLE" [.str "both", .str "beside", .str "either"] && (gtB K "LEAVES" [.str "clause", .str "one", .str "most", .str "same"] && (gtB K "SINGLE" [.str "turned", .str "crossed", .str "set", .str "merged", .str "without"] && (He.valsB K (He.ga K "LENGTHS") (kvB [("clause", 3), ("one", 3), ("most", 3), ("same", 4), ("both", 3), ("beside", 3), ("either", 3), ("turned", 3), ("crossed", 3), ("set", 3), ("merged", 4), ("without", 3)]) && (true))))
def moreB (K : PySem.W.Frag) : Bool := tabsNd K && (erB K && gtsB K)
def ts : List He.Tab := [(fun K => He.ga K "LENGTHS", ["clause", "one", "most", "same", "both", "beside", "either", "turned", "crossed", "set", "merged", "without"])]
def hlo0 : List Str := ["is_integer", "is_between", "are_rising", "is_literal", "is_clause", "is_lot", "by_names", "does_meet", "ClauseError", "BadTerm", "MOST_NAMES", "MOST_CLAUSES", "crossed_clause", "crossed_in", "bundle_by", "set_in", "is_settled", "clause_of_all", "moved_literal", "merged_in", "both_in", "shifted", "beside_in", "either_in", "MOST_WORDS", "MOST_DEEP", "LEAST_LITERALS", "MOST_LITERALS", "CLAUSE", "ONE"]
def hlo1 : List Str := ["MOST", "SAME", "BOTH", "BESIDE", "EITHER", "TURNED", "CROSSED", "SET", "MERGED", "WITHOUT", "LENGTHS", "LEAVES", "DOUBLE", "SINGLE", "are_numbers", "is_leaf_form", "is_single_form", "is_form", "places_in", "paths_in", "term_at", "contrary_pairs", "leaf_bundle", "turned_in", "changed", "put_by", "is_small", "bundles_in", "need_term", "bundle_of"]
def hlo2 : List Str := ["kids_of", "_law_mixed", "_law_begin", "_law_draw", "_law_told", "_law_refused", "_law_forms", "_law_bundles", "_law_nested", "_law_broad", "_law_sizes_right"]
def lo : List Str := hlo0 ++ hlo1 ++ hlo2
abbrev R : PySem.W.OpenRow := PySem.W.OpenLaw.row PySem.Challenge.rw_idleclauses_k26_terms_refused
abbrev hk : PySem.W.Hook := hookY 4 fa fn ts tf moreB
def ob (s : PySem.W.SharedT) : He.AlX := obsY 4 fa fn ts tf moreB (HandSHeadRun.getT s)
theorem ob_eq (s : PySem.W.SharedT) : ob s = hk.obs s.abs := obsY_eq (HandSHeadRun.getT_eq s)
theorem runT (w : World) : HandSHeadRun.RunEq R (PySem.W.view R.prog [77]) hk ob 20000 lo (setFt w true) := by
  intro os
  kernel_rfl
theorem runF (w : World) : HandSHeadRun.RunEq R (PySem.W.view R.prog [77]) hk ob 20000 lo (setFt w false) := by
  intro os
  kernel_rfl
theorem run (w : World) : HandSHeadRun.RunEq R (PySem.W.view R.prog [77]) hk ob 20000 lo w := both_ft (p := fun w => HandSHeadRun.RunEq R (PySem.W.view R.prog [77]) hk ob 20000 lo w) (fun w b => by
  cases b
  · exact runF w
  · exact runT w) w
theorem facts {w : World} {K : PySem.W.Frag} {h : Heap} {mg : Str → Option Value} {f : Addr} (X : K.In h) (G : h.Ns mainGlobals mg) (hfa : mg ("law" : Str) = some (.ref f)) (c : He.SaysX fa fn ts tf moreB w h K) :
    LawG PySem.Challenge.rw_idleclauses_k26_terms_refused w K 14 63 "script" mg f h := by
  have cD : He.SaysD fa fn K := c.t.d
  have m_abs : mg "abs" = none := He.free_ok X G (cD.fact 48 (f := .free "abs") rfl)
  have m_all : mg "all" = none := He.free_ok X G (cD.fact 49 (f := .free "all") rfl)
  have m_any : mg "any" = none := He.free_ok X G (cD.fact 50 (f := .free "any") rfl)
  have m_bool : mg "bool" = none := He.free_ok X G (cD.fact 51 (f := .free "bool") rfl)
  have m_enumerate : mg "enumerate" = none := He.free_ok X G (cD.fact 52 (f := .free "enumerate") rfl)
  have m_int : mg "int" = none := He.free_ok X G (cD.fact 53 (f := .free "int") rfl)
  have m_isinstance : mg "isinstance" = none := He.free_ok X G (cD.fact 54 (f := .free "isinstance") rfl)
  have m_len : mg "len" = none := He.free_ok X G (cD.fact 55 (f := .free "len") rfl)
  have m_list : mg "list" = none := He.free_ok X G (cD.fact 56 (f := .free "list") rfl)
  have m_max : mg "max" = none := He.free_ok X G (cD.fact 57 (f := .free "max") rfl)
  have m_range : mg "range" = none := He.free_ok X G (cD.fact 58 (f := .free "range") rfl)
  have m_repr : mg "repr" = none := He.free_ok X G (cD.fact 59 (f := .free "repr") rfl)
  have m_sorted : mg "sorted" = none := He.free_ok X G (cD.fact 60 (f := .free "sorted") rfl)
  have m_str : mg "str" = none := He.free_ok X G (cD.fact 61 (f := .free "str") rfl)
  have m_tuple : mg "tuple" = none := He.free_ok X G (cD.fact 62 (f := .free "tuple") rfl)
  have m_zip : mg "zip" = none := He.free_ok X G (cD.fact 63 (f := .free "zip") rfl)
  have g_LEAST_LITERALS := He.int_ok X G (cD.fact 64 (f := .int "LEAST_LITERALS" 2) rfl)
  have g_MOST_CLAUSES := He.int_ok X G (cD.fact 65 (f := .int "MOST_CLAUSES" 16) rfl)
  have g_MOST_DEEP := He.int_ok X G (cD.fact 66 (f := .int "MOST_DEEP" 8) rfl)
  have g_MOST_LITERALS := He.int_ok X G (cD.fact 67 (f := .int "MOST_LITERALS" 5) rfl)
  have g_MOST_NAMES := He.int_ok X G (cD.fact 68 (f := .int "MOST_NAMES" 7) rfl)
  have g_MOST_WORDS := He.int_ok X G (cD.fact 69 (f := .int "MOST_WORDS" 20) rfl)
  have g_BESIDE := He.str_ok X G (cD.fact 70 (f := .str "BESIDE" "beside") rfl)
  have g_BOTH := He.str_ok X G (cD.fact 71 (f := .str "BOTH" "both") rfl)
  have g_CLAUSE := He.str_ok X G (cD.fact 72 (f := .str "CLAUSE" "clause") rfl)
  have g_MERGED := He.str_ok X G (cD.fact 73 (f := .str "MERGED" "merged") rfl)
  have g_MOST := He.str_ok X G (cD.fact 74 (f := .str "MOST" "most") rfl)
  have g_ONE := He.str_ok X G (cD.fact 75 (f := .str "ONE" "one") rfl)
  have g_SAME := He.str_ok X G (cD.fact 76 (f := .str "SAME" "same") rfl)
  have g_SET := He.str_ok X G (cD.fact 77 (f := .str "SET" "set") rfl)
  have g_TURNED := He.str_ok X G (cD.fact 78 (f := .str "TURNED" "turned") rfl)
  have g_WITHOUT := He.str_ok X G (cD.fact 79 (f := .str "WITHOUT" "without") rfl)
  have MG_DOUBLE := He.glo_ok X G (cD.fact 80 (f := .glo "DOUBLE") rfl)
  have MG_LEAVES := He.glo_ok X G (cD.fact 81 (f := .glo "LEAVES") rfl)
  have MG_SINGLE := He.glo_ok X G (cD.fact 82 (f := .glo "SINGLE") rfl)
  have MG_LENGTHS := He.glo_ok X G (cD.fact 83 (f := .glo "LENGTHS") rfl)
  have MC_BadTerm := He.glo_ok X G (cD.fact 84 (f := .glo "BadTerm") rfl)
  have MC_ClauseError := He.glo_ok X G (cD.fact 85 (f := .glo "ClauseError") rfl)
  have xm_86 := He.exm_ok (cD.fact 86 (f := .exm "BadTerm" "BadTerm" true) rfl)
  have er := (He.ba (He.ba c.more).2).1
  unfold erB at er
  obtain ⟨eb_ClauseError, er⟩ := He.ba er
  have EB_ClauseError := erbB_ok eb_ClauseError
  obtain ⟨ec_BadTerm, er⟩ := He.ba er
  have EC_BadTerm := ercB_ok ec_BadTerm
  have XM_BadTerm : TabX K "BadTerm" [("BadTerm", true)] := fun p hp => by
    simp only [List.mem_cons, List.not_mem_nil, or_false] at hp
    rcases hp with rfl
    · exact xm_86
  have ER_BadTerm : ∀ base : Heap, Er1 PySem.Challenge.pw_idleclauses_k26_terms_refused w K mg base "BadTerm" "path" := fun base => er_BadTerm EC_BadTerm EB_ClauseError MC_BadTerm MC_ClauseError (cD.def_ 48 rfl)
  have gg := (He.ba (He.ba c.more).2).2
  unfold gtsB at gg
  obtain ⟨gt_DOUBLE, gg⟩ := He.ba gg
  have GT_DOUBLE := gtB_ok gt_DOUBLE
  obtain ⟨gt_LEAVES, gg⟩ := He.ba gg
  have GT_LEAVES := gtB_ok gt_LEAVES
  obtain ⟨gt_SINGLE, gg⟩ := He.ba gg
  have GT_SINGLE := gtB_ok gt_SINGLE
  obtain ⟨kd_LENGTHS, gg⟩ := He.ba gg
  have KD_LENGTHS := kd_of (tab_of c.t 0 (t := (fun K => He.ga K "LENGTHS", ["clause", "one", "most", "same", "both", "beside", "either", "turned", "crossed", "set", "merged", "without"])) rfl) kd_LENGTHS
  have N_law_begin : Fnc1 K mg "_law_begin" (top 68) := by
    obtain ⟨fd, h⟩ := cD.def_ 0 (d := dOf "_law_begin" 68) rfl
    exact ⟨fd, h, He.glo_ok X G (cD.fact 0 (f := .glo "_law_begin") rfl)⟩
  have N_law_forms : Fnc1 K mg "_law_forms" (top 72) := by
    obtain ⟨fd, h⟩ := cD.def_ 1 (d := dOf "_law_forms" 72) rfl
    exact ⟨fd, h, He.glo_ok X G (cD.fact 1 (f := .glo "_law_forms") rfl)⟩
  have N_law_bundles : Fnc1 K mg "_law_bundles" (top 73) := by
    obtain ⟨fd, h⟩ := cD.def_ 2 (d := dOf "_law_bundles" 73) rfl
    exact ⟨fd, h, He.glo_ok X G (cD.fact 2 (f := .glo "_law_bundles") rfl)⟩
  have N_law_nested : Fnc1 K mg "_law_nested" (top 74) := by
    obtain ⟨fd, h⟩ := cD.def_ 3 (d := dOf "_law_nested" 74) rfl
    exact ⟨fd, h, He.glo_ok X G (cD.fact 3 (f := .glo "_law_nested") rfl)⟩
  have N_is_integer : Fnc1 K mg "is_integer" (top 1) := by
    obtain ⟨fd, h⟩ := cD.def_ 4 (d := dOf "is_integer" 1) rfl
    exact ⟨fd, h, He.glo_ok X G (cD.fact 4 (f := .glo "is_integer") rfl)⟩
  have N_is_between : Fnc1 K mg "is_between" (top 2) := by
    obtain ⟨fd, h⟩ := cD.def_ 5 (d := dOf "is_between" 2) rfl
    exact ⟨fd, h, He.glo_ok X G (cD.fact 5 (f := .glo "is_between") rfl)⟩
  have N_are_rising : Fnc1 K mg "are_rising" (top 3) := by
    obtain ⟨fd, h⟩ := cD.def_ 6 (d := dOf "are_rising" 3) rfl
    exact ⟨fd, h, He.glo_ok X G (cD.fact 6 (f := .glo "are_rising") rfl)⟩
  have N_is_literal : Fnc1 K mg "is_literal" (top 4) := by
    obtain ⟨fd, h⟩ := cD.def_ 7 (d := dOf "is_literal" 4) rfl
    exact ⟨fd, h, He.glo_ok X G (cD.fact 7 (f := .glo "is_literal") rfl)⟩
  have N_is_clause : Fnc1 K mg "is_clause" (top 5) := by
    obtain ⟨fd, h⟩ := cD.def_ 8 (d := dOf "is_clause" 5) rfl
    exact ⟨fd, h, He.glo_ok X G (cD.fact 8 (f := .glo "is_clause") rfl)⟩
  have N_is_leaf_form : Fnc1 K mg "is_leaf_form" (top 50) := by
    obtain ⟨fd, h⟩ := cD.def_ 9 (d := dOf "is_leaf_form" 50) rfl
    exact ⟨fd, h, He.glo_ok X G (cD.fact 9 (f := .glo "is_leaf_form") rfl)⟩
  have N_are_numbers : Fnc1 K mg "are_numbers" (top 49) := by
    obtain ⟨fd, h⟩ := cD.def_ 10 (d := dOf "are_numbers" 49) rfl
    exact ⟨fd, h, He.glo_ok X G (cD.fact 10 (f := .glo "are_numbers") rfl)⟩
  have N_is_lot : Fnc1 K mg "is_lot" (top 6) := by
    obtain ⟨fd, h⟩ := cD.def_ 11 (d := dOf "is_lot" 6) rfl
    exact ⟨fd, h, He.glo_ok X G (cD.fact 11 (f := .glo "is_lot") rfl)⟩
  have N_is_single_form : Fnc1 K mg "is_single_form" (top 51) := by
    obtain ⟨fd, h⟩ := cD.def_ 12 (d := dOf "is_single_form" 51) rfl
    exact ⟨fd, h, He.glo_ok X G (cD.fact 12 (f := .glo "is_single_form") rfl)⟩
  have N_is_form : Fnc1 K mg "is_form" (top 52) := by
    obtain ⟨fd, h⟩ := cD.def_ 13 (d := dOf "is_form" 52) rfl
    exact ⟨fd, h, He.glo_ok X G (cD.fact 13 (f := .glo "is_form") rfl)⟩
  have N_places_in : Fnc1 K mg "places_in" (top 53) := by
    obtain ⟨fd, h⟩ := cD.def_ 14 (d := dOf "places_in" 53) rfl
    exact ⟨fd, h, He.glo_ok X G (cD.fact 14 (f := .glo "places_in") rfl)⟩
  have N_paths_in : Fnc1 K mg "paths_in" (top 54) := by
    obtain ⟨fd, h⟩ := cD.def_ 15 (d := dOf "paths_in" 54) rfl
    exact ⟨fd, h, He.glo_ok X G (cD.fact 15 (f := .glo "paths_in") rfl)⟩
  have N_term_at : Fnc1 K mg "term_at" (top 55) := by
    obtain ⟨fd, h⟩ := cD.def_ 16 (d := dOf "term_at" 55) rfl
    exact ⟨fd, h, He.glo_ok X G (cD.fact 16 (f := .glo "term_at") rfl)⟩
  have N_bundle_by : Fnc1 K mg "bundle_by" (top 18) := by
    obtain ⟨fd, h⟩ := cD.def_ 17 (d := dOf "bundle_by" 18) rfl
    exact ⟨fd, h, He.glo_ok X G (cD.fact 17 (f := .glo "bundle_by") rfl)⟩
  have N_contrary_pairs : Fnc1 K mg "contrary_pairs" (top 56) := by
    obtain ⟨fd, h⟩ := cD.def_ 18 (d := dOf "contrary_pairs" 56) rfl
    exact ⟨fd, h, He.glo_ok X G (cD.fact 18 (f := .glo "contrary_pairs") rfl)⟩
  have N_by_names : Fnc1 K mg "by_names" (top 7) := by
    obtain ⟨fd, h⟩ := cD.def_ 19 (d := dOf "by_names" 7) rfl
    exact ⟨fd, h, He.glo_ok X G (cD.fact 19 (f := .glo "by_names") rfl)⟩
  have N_leaf_bundle : Fnc1 K mg "leaf_bundle" (top 57) := by
    obtain ⟨fd, h⟩ := cD.def_ 20 (d := dOf "leaf_bundle" 57) rfl
    exact ⟨fd, h, He.glo_ok X G (cD.fact 20 (f := .glo "leaf_bundle") rfl)⟩
  have N_turned_in : Fnc1 K mg "turned_in" (top 58) := by
    obtain ⟨fd, h⟩ := cD.def_ 21 (d := dOf "turned_in" 58) rfl
    exact ⟨fd, h, He.glo_ok X G (cD.fact 21 (f := .glo "turned_in") rfl)⟩
  have N_crossed_clause : Fnc1 K mg "crossed_clause" (top 15) := by
    obtain ⟨fd, h⟩ := cD.def_ 22 (d := dOf "crossed_clause" 15) rfl
    exact ⟨fd, h, He.glo_ok X G (cD.fact 22 (f := .glo "crossed_clause") rfl)⟩
  have N_crossed_in : Fnc1 K mg "crossed_in" (top 16) := by
    obtain ⟨fd, h⟩ := cD.def_ 23 (d := dOf "crossed_in" 16) rfl
    exact ⟨fd, h, He.glo_ok X G (cD.fact 23 (f := .glo "crossed_in") rfl)⟩
  have N_is_settled : Fnc1 K mg "is_settled" (top 20) := by
    obtain ⟨fd, h⟩ := cD.def_ 24 (d := dOf "is_settled" 20) rfl
    exact ⟨fd, h, He.glo_ok X G (cD.fact 24 (f := .glo "is_settled") rfl)⟩
  have N_moved_literal : Fnc1 K mg "moved_literal" (top 22) := by
    obtain ⟨fd, h⟩ := cD.def_ 25 (d := dOf "moved_literal" 22) rfl
    exact ⟨fd, h, He.glo_ok X G (cD.fact 25 (f := .glo "moved_literal") rfl)⟩
  have N_clause_of_all : Fnc1 K mg "clause_of_all" (top 21) := by
    obtain ⟨fd, h⟩ := cD.def_ 26 (d := dOf "clause_of_all" 21) rfl
    exact ⟨fd, h, He.glo_ok X G (cD.fact 26 (f := .glo "clause_of_all") rfl)⟩
  have N_merged_in : Fnc1 K mg "merged_in" (top 23) := by
    obtain ⟨fd, h⟩ := cD.def_ 27 (d := dOf "merged_in" 23) rfl
    exact ⟨fd, h, He.glo_ok X G (cD.fact 27 (f := .glo "merged_in") rfl)⟩
  have N_does_meet : Fnc1 K mg "does_meet" (top 8) := by
    obtain ⟨fd, h⟩ := cD.def_ 28 (d := dOf "does_meet" 8) rfl
    exact ⟨fd, h, He.glo_ok X G (cD.fact 28 (f := .glo "does_meet") rfl)⟩
  have N_set_in : Fnc1 K mg "set_in" (top 19) := by
    obtain ⟨fd, h⟩ := cD.def_ 29 (d := dOf "set_in" 19) rfl
    exact ⟨fd, h, He.glo_ok X G (cD.fact 29 (f := .glo "set_in") rfl)⟩
  have N_changed : Fnc1 K mg "changed" (top 59) := by
    obtain ⟨fd, h⟩ := cD.def_ 30 (d := dOf "changed" 59) rfl
    exact ⟨fd, h, He.glo_ok X G (cD.fact 30 (f := .glo "changed") rfl)⟩
  have N_is_small : Fnc1 K mg "is_small" (top 61) := by
    obtain ⟨fd, h⟩ := cD.def_ 31 (d := dOf "is_small" 61) rfl
    exact ⟨fd, h, He.glo_ok X G (cD.fact 31 (f := .glo "is_small") rfl)⟩
  have N_both_in : Fnc1 K mg "both_in" (top 24) := by
    obtain ⟨fd, h⟩ := cD.def_ 32 (d := dOf "both_in" 24) rfl
    exact ⟨fd, h, He.glo_ok X G (cD.fact 32 (f := .glo "both_in") rfl)⟩
  have N_shifted : Fnc1 K mg "shifted" (top 25) := by
    obtain ⟨fd, h⟩ := cD.def_ 33 (d := dOf "shifted" 25) rfl
    exact ⟨fd, h, He.glo_ok X G (cD.fact 33 (f := .glo "shifted") rfl)⟩
  have N_beside_in : Fnc1 K mg "beside_in" (top 26) := by
    obtain ⟨fd, h⟩ := cD.def_ 34 (d := dOf "beside_in" 26) rfl
    exact ⟨fd, h, He.glo_ok X G (cD.fact 34 (f := .glo "beside_in") rfl)⟩
  have N_either_in : Fnc1 K mg "either_in" (top 27) := by
    obtain ⟨fd, h⟩ := cD.def_ 35 (d := dOf "either_in" 27) rfl
    exact ⟨fd, h, He.glo_ok X G (cD.fact 35 (f := .glo "either_in") rfl)⟩
  have N_put_by : Fnc1 K mg "put_by" (top 60) := by
    obtain ⟨fd, h⟩ := cD.def_ 36 (d := dOf "put_by" 60) rfl
    exact ⟨fd, h, He.glo_ok X G (cD.fact 36 (f := .glo "put_by") rfl)⟩
  have N_bundles_in : Fnc1 K mg "bundles_in" (top 62) := by
    obtain ⟨fd, h⟩ := cD.def_ 37 (d := dOf "bundles_in" 62) rfl
    exact ⟨fd, h, He.glo_ok X G (cD.fact 37 (f := .glo "bundles_in") rfl)⟩
  have N_bundle_of : Fnc1 K mg "bundle_of" (top 64) := by
    obtain ⟨fd, h⟩ := cD.def_ 38 (d := dOf "bundle_of" 64) rfl
    exact ⟨fd, h, He.glo_ok X G (cD.fact 38 (f := .glo "bundle_of") rfl)⟩
  have N_law_broad : Fnc1 K mg "_law_broad" (top 75) := by
    obtain ⟨fd, h⟩ := cD.def_ 39 (d := dOf "_law_broad" 75) rfl
    exact ⟨fd, h, He.glo_ok X G (cD.fact 39 (f := .glo "_law_broad") rfl)⟩
  have N_law_told : Fnc1 K mg "_law_told" (top 70) := by
    obtain ⟨fd, h⟩ := cD.def_ 40 (d := dOf "_law_told" 70) rfl
    exact ⟨fd, h, He.glo_ok X G (cD.fact 40 (f := .glo "_law_told") rfl)⟩
  have N_need_term : Fnc1 K mg "need_term" (top 63) := by
    obtain ⟨fd, h⟩ := cD.def_ 41 (d := dOf "need_term" 63) rfl
    exact ⟨fd, h, He.glo_ok X G (cD.fact 41 (f := .glo "need_term") rfl)⟩
  have N_kids_of : Fnc1 K mg "kids_of" (top 65) := by
    obtain ⟨fd, h⟩ := cD.def_ 42 (d := dOf "kids_of" 65) rfl
    exact ⟨fd, h, He.glo_ok X G (cD.fact 42 (f := .glo "kids_of") rfl)⟩
  have N_law_refused : Fnc1 K mg "_law_refused" (top 71) := by
    obtain ⟨fd, h⟩ := cD.def_ 43 (d := dOf "_law_refused" 71) rfl
    exact ⟨fd, h, He.glo_ok X G (cD.fact 43 (f := .glo "_law_refused") rfl)⟩
  have N_law_sizes_right : Fnc1 K mg "_law_sizes_right" (top 76) := by
    obtain ⟨fd, h⟩ := cD.def_ 44 (d := dOf "_law_sizes_right" 76) rfl
    exact ⟨fd, h, He.glo_ok X G (cD.fact 44 (f := .glo "_law_sizes_right") rfl)⟩
  have N_law_mixed : Fnc1 K mg "_law_mixed" (top 67) := by
    obtain ⟨fd, h⟩ := cD.def_ 45 (d := dOf "_law_mixed" 67) rfl
    exact ⟨fd, h, He.glo_ok X G (cD.fact 45 (f := .glo "_law_mixed") rfl)⟩
  have N_law_draw : Fnc1 K mg "_law_draw" (top 69) := by
    obtain ⟨fd, h⟩ := cD.def_ 46 (d := dOf "_law_draw" 69) rfl
    exact ⟨fd, h, He.glo_ok X G (cD.fact 46 (f := .glo "_law_draw") rfl)⟩
  obtain ⟨fd, FL⟩ := cD.def_ 47 (d := dOf "law" 77) rfl
  have e := hfa.symm.trans (He.glo_ok X G (cD.fact 47 (f := .glo "law") rfl))
  cases e
  have b := FunD.bindsA (ps := ["script"]) FL fun _ _ _ _ _ _ us hl => match us, hl with | [_], _ => rfl
  refine law_atT (φ := φ_law) X c (of_decide_eq_true (He.ba c.more).1) (by decide) (fun s v => b s [v] rfl) (fun ns hl hb => law_true ns hl hb) fun base KX NX TB => ?_
  have F_law_begin := fc_law_begin (P := PySem.Challenge.pw_idleclauses_k26_terms_refused) (w := w) (base := base) N_law_begin m_list
  have F_law_forms := fc_law_forms (P := PySem.Challenge.pw_idleclauses_k26_terms_refused) (w := w) (base := base) N_law_forms 
  have F_law_bundles := fc_law_bundles (P := PySem.Challenge.pw_idleclauses_k26_terms_refused) (w := w) (base := base) N_law_bundles 
  have F_law_nested := fc_law_nested (P := PySem.Challenge.pw_idleclauses_k26_terms_refused) (w := w) (base := base) N_law_nested m_range
  have F_is_integer := fc_is_integer (P := PySem.Challenge.pw_idleclauses_k26_terms_refused) (w := w) (base := base) N_is_integer m_bool m_int m_isinstance
  have F_is_between := fc_is_between (P := PySem.Challenge.pw_idleclauses_k26_terms_refused) (w := w) (base := base) N_is_between F_is_integer
  have F_are_rising := fc_are_rising (P := PySem.Challenge.pw_idleclauses_k26_terms_refused) (w := w) (base := base) N_are_rising m_all m_zip
  have F_is_literal := fc_is_literal (P := PySem.Challenge.pw_idleclauses_k26_terms_refused) (w := w) (base := base) N_is_literal m_abs F_is_integer
  have F_is_clause := fc_is_clause (P := PySem.Challenge.pw_idleclauses_k26_terms_refused) (w := w) (base := base) N_is_clause m_abs m_all m_isinstance m_tuple F_are_rising F_is_literal
  have F_is_leaf_form := fc_is_leaf_form (P := PySem.Challenge.pw_idleclauses_k26_terms_refused) (w := w) (base := base) N_is_leaf_form m_abs m_len g_LEAST_LITERALS g_MOST_LITERALS g_MOST_NAMES g_CLAUSE g_SAME F_is_clause F_is_literal F_is_between
  have F_are_numbers := fc_are_numbers (P := PySem.Challenge.pw_idleclauses_k26_terms_refused) (w := w) (base := base) N_are_numbers m_all m_isinstance m_tuple F_are_rising F_is_between
  have F_is_lot := fc_is_lot (P := PySem.Challenge.pw_idleclauses_k26_terms_refused) (w := w) (base := base) N_is_lot m_all m_isinstance m_tuple F_are_rising F_is_between
  have F_is_single_form := fc_is_single_form (P := PySem.Challenge.pw_idleclauses_k26_terms_refused) (w := w) (base := base) N_is_single_form m_all g_MOST_CLAUSES g_MOST_NAMES g_MERGED g_SET g_WITHOUT F_are_numbers F_is_lot F_is_clause F_is_between
  have F_is_form := fc_is_form (P := PySem.Challenge.pw_idleclauses_k26_terms_refused) (w := w) (base := base) N_is_form m_isinstance m_len m_str m_tuple MG_DOUBLE MG_LEAVES MG_LENGTHS GT_DOUBLE GT_LEAVES KD_LENGTHS F_is_single_form F_is_leaf_form
  have F_places_in := fc_places_in (P := PySem.Challenge.pw_idleclauses_k26_terms_refused) (w := w) (base := base) N_places_in MG_SINGLE MG_DOUBLE GT_SINGLE GT_DOUBLE
  have F_paths_in := fc_paths_in (P := PySem.Challenge.pw_idleclauses_k26_terms_refused) (w := w) (base := base) N_paths_in m_len g_MOST_DEEP g_MOST_WORDS (ER_BadTerm base) F_places_in F_is_form
  have F_term_at := fc_term_at (P := PySem.Challenge.pw_idleclauses_k26_terms_refused) (w := w) (base := base) N_term_at 
  have F_bundle_by := fc_bundle_by (P := PySem.Challenge.pw_idleclauses_k26_terms_refused) (w := w) (base := base) N_bundle_by m_sorted m_tuple
  have F_contrary_pairs := fc_contrary_pairs (P := PySem.Challenge.pw_idleclauses_k26_terms_refused) (w := w) (base := base) N_contrary_pairs m_enumerate
  have F_by_names := fc_by_names (P := PySem.Challenge.pw_idleclauses_k26_terms_refused) (w := w) (base := base) N_by_names m_abs m_sorted m_tuple
  have F_leaf_bundle := fc_leaf_bundle (P := PySem.Challenge.pw_idleclauses_k26_terms_refused) (w := w) (base := base) N_leaf_bundle m_int g_MOST g_ONE g_SAME F_bundle_by F_contrary_pairs F_by_names
  have F_turned_in := fc_turned_in (P := PySem.Challenge.pw_idleclauses_k26_terms_refused) (w := w) (base := base) N_turned_in m_abs m_tuple F_bundle_by
  have F_crossed_clause := fc_crossed_clause (P := PySem.Challenge.pw_idleclauses_k26_terms_refused) (w := w) (base := base) N_crossed_clause m_abs m_tuple
  have F_crossed_in := fc_crossed_in (P := PySem.Challenge.pw_idleclauses_k26_terms_refused) (w := w) (base := base) N_crossed_in m_sorted m_tuple F_crossed_clause
  have F_is_settled := fc_is_settled (P := PySem.Challenge.pw_idleclauses_k26_terms_refused) (w := w) (base := base) N_is_settled m_any
  have F_moved_literal := fc_moved_literal (P := PySem.Challenge.pw_idleclauses_k26_terms_refused) (w := w) (base := base) N_moved_literal m_abs
  have F_clause_of_all := fc_clause_of_all (P := PySem.Challenge.pw_idleclauses_k26_terms_refused) (w := w) (base := base) N_clause_of_all m_list F_by_names
  have F_merged_in := fc_merged_in (P := PySem.Challenge.pw_idleclauses_k26_terms_refused) (w := w) (base := base) N_merged_in F_bundle_by F_is_settled F_clause_of_all F_moved_literal
  have F_does_meet := fc_does_meet (P := PySem.Challenge.pw_idleclauses_k26_terms_refused) (w := w) (base := base) N_does_meet m_any
  have F_set_in := fc_set_in (P := PySem.Challenge.pw_idleclauses_k26_terms_refused) (w := w) (base := base) N_set_in m_tuple F_bundle_by F_does_meet
  have F_changed := fc_changed (P := PySem.Challenge.pw_idleclauses_k26_terms_refused) (w := w) (base := base) N_changed m_enumerate m_len m_tuple g_MERGED g_SET g_TURNED g_WITHOUT F_turned_in F_crossed_in F_is_lot F_is_clause F_set_in F_are_numbers F_merged_in
  have F_is_small := fc_is_small (P := PySem.Challenge.pw_idleclauses_k26_terms_refused) (w := w) (base := base) N_is_small m_len g_MOST_CLAUSES g_MOST_NAMES
  have F_both_in := fc_both_in (P := PySem.Challenge.pw_idleclauses_k26_terms_refused) (w := w) (base := base) N_both_in m_max F_bundle_by
  have F_shifted := fc_shifted (P := PySem.Challenge.pw_idleclauses_k26_terms_refused) (w := w) (base := base) N_shifted m_tuple
  have F_beside_in := fc_beside_in (P := PySem.Challenge.pw_idleclauses_k26_terms_refused) (w := w) (base := base) N_beside_in F_bundle_by F_shifted
  have F_either_in := fc_either_in (P := PySem.Challenge.pw_idleclauses_k26_terms_refused) (w := w) (base := base) N_either_in m_max F_bundle_by F_is_settled F_clause_of_all
  have F_put_by := fc_put_by (P := PySem.Challenge.pw_idleclauses_k26_terms_refused) (w := w) (base := base) N_put_by g_BESIDE g_BOTH F_beside_in F_either_in F_both_in
  have F_bundles_in := fc_bundles_in (P := PySem.Challenge.pw_idleclauses_k26_terms_refused) (w := w) (base := base) N_bundles_in (TB (He.cT K ("bundles_in", none)) (by simp [tf])) m_len m_sorted (ER_BadTerm base) F_is_small F_leaf_bundle F_changed F_put_by F_places_in F_term_at F_paths_in
  have F_bundle_of := fc_bundle_of (P := PySem.Challenge.pw_idleclauses_k26_terms_refused) (w := w) (base := base) N_bundle_of F_bundles_in
  have F_law_broad := fc_law_broad (P := PySem.Challenge.pw_idleclauses_k26_terms_refused) (w := w) (base := base) N_law_broad m_int m_len m_zip
  have T_law_told := th_law_told (P := PySem.Challenge.pw_idleclauses_k26_terms_refused) (w := w) (base := base) N_law_told EC_BadTerm MC_BadTerm XM_BadTerm
  have F_need_term := fc_need_term (P := PySem.Challenge.pw_idleclauses_k26_terms_refused) (w := w) (base := base) N_need_term F_bundles_in
  have F_kids_of := fc_kids_of (P := PySem.Challenge.pw_idleclauses_k26_terms_refused) (w := w) (base := base) N_kids_of m_tuple F_places_in F_need_term
  have F_law_refused := fc_law_refused (P := PySem.Challenge.pw_idleclauses_k26_terms_refused) (w := w) (base := base) N_law_refused (TB (He.cT K ("_law_refused", none)) (by simp [tf])) m_repr T_law_told F_need_term F_kids_of F_bundle_of
  have F_law_sizes_right := fc_law_sizes_right (P := PySem.Challenge.pw_idleclauses_k26_terms_refused) (w := w) (base := base) N_law_sizes_right F_law_refused F_law_nested F_law_broad F_bundle_of
  have F_law_mixed := fc_law_mixed (P := PySem.Challenge.pw_idleclauses_k26_terms_refused) (w := w) (base := base) N_law_mixed m_int
  have F_law_draw := fc_law_draw (P := PySem.Challenge.pw_idleclauses_k26_terms_refused) (w := w) (base := base) N_law_draw m_int m_len F_law_mixed
  exact ok_law (base := base) FL m_len F_need_term F_law_sizes_right F_law_refused F_law_draw F_law_forms F_law_bundles F_law_begin
end K26
end G
end L2
open PySem PySem.W PySem.Calls PyProof.Rows
theorem PySem.Challenge.cw_idleclauses_k26_terms_refused_holds : PySem.Challenge.rw_idleclauses_k26_terms_refused.Holds := by
  w_on; o_law
  refine HandSHeadRun.head_any (r := OpenLaw.row PySem.Challenge.rw_idleclauses_k26_terms_refused) (q := view (OpenLaw.row PySem.Challenge.rw_idleclauses_k26_terms_refused).prog [77]) (H := L2.G.K26.hk) (ob := L2.G.K26.ob) (M := 20000) (loose := L2.G.K26.lo) (d := HandSHeadRun.topDef (OpenLaw.row PySem.Challenge.rw_idleclauses_k26_terms_refused).prog 77) (kwd := []) L2.G.K26.ob_eq
    (by kernel_rfl) (fun s => by kernel_rfl) L2.G.K26.run (by kernel_rfl) (by kernel_rfl) (by kernel_rfl) (by rfl) (by first | assumption | decide +kernel) (by decide +kernel) ⟨rfl, rfl, rfl, rfl, rfl, by decide +kernel⟩ ?hw ?hc
  case hw => w_witness2
  case hc =>
    refine L2.G.walk_G (l := PySem.Challenge.rw_idleclauses_k26_terms_refused) (n := 63) (k := 14) (x := "script") rfl (by decide) (by kernel_rfl) ⟨⟨rfl, by decide, by decide⟩, rfl⟩ ?F
    intro w mg fa h Y G hmg0
    obtain ⟨K, KX, c⟩ := Y
    have hmg : mg ("law" : PySem.Str) = some (.ref fa) := by
      have e : (HandSHeadRun.topDef (OpenLaw.row PySem.Challenge.rw_idleclauses_k26_terms_refused).prog 77).name = ("law" : PySem.Str) := by kernel_rfl
      rw [← e]
      exact hmg0
    exact ⟨K, KX, L2.G.K26.facts KX G hmg c⟩
end H_k26_
