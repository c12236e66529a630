import PyProof.Rows.All
import Wide.All
import OpenK.AllK
import Wide.FinOn
import HandS.ForMost
import HandS.Exc
import HandS.TryOnly
import HandS.Lambda
import HandS.EndTab
import HandS.Evl
import HandS.IsInst
import HandS.CallSlots
import HandS.Flow
import HandS.WordsExc
import HandS.Wide
import HandS.WideBits
import HandS.Style
import HandS.Deep
import HandS.Sort
import HandS.Defaults
import KE.KExcSuper
import KE.KSuper
import HandS.ExcInit
import HandS.SortInts
import HandS.Conv
import HandS.RaiseMore
import KE.KExcIs
import HandS.Walk
import HandS.Dict
import KE.KTryMore
import KE.KDflt
import HandS.HeadHook4
import HandS.Head2
import HandS.HeadWalk
import HandS.List
import HandS.SetFor
import HandS.Set
import HandS.Zip
import HandS.Strs
import HandS.More
import HandS.DictComp
import PySem.Challenge.RW_oneflip_k05_whole_no_words_have_more_pai
set_option Elab.async false
set_option linter.all false
set_option maxRecDepth 100000
/-! # A: the semantic weakest preconditions over slots and the abstract heap -/
namespace Z
open PySem PySem.Spec PyProof.Rows L2 LamX

section
variable {X : Cx} {σ : L2.St} {H : Hp} {e : Expr}
def wE (X : Cx) (e : Expr) : TE := fun σ H Q => ∀ pins s, Inv X pins σ H s → wpAny (model X.prog X.w) X.A (eval e X.env) (EP X pins σ Q) X.xe s
def wT (X : Cx) (e : Expr) : TT := fun σ H Q => ∀ pins s, Inv X pins σ H s → wpAny (model X.prog X.w) X.A (isTrue e X.env (eval e X.env)) (TP X pins σ Q) X.xe s
def wA (X : Cx) (es : List Expr) : TA := fun σ H Q => ∀ pos pins s, Inv X pins σ H s → wpAny (model X.prog X.w) X.A (spliced (backTo pos (starEach es X.env))) (AP X pins σ Q) X.xe s
def wS (X : Cx) (st : Stmt) : TS := fun D σ H => ∀ pins s, Inv X pins σ H s → wpAny (model X.prog X.w) X.A (exec st X.env) (SP X pins D) X.xe s
def wB (X : Cx) (st : List Stmt) : TS := fun D σ H => ∀ pins s, Inv X pins σ H s → wpAny (model X.prog X.w) X.A (execs st X.env) (SP X pins D) X.xe s
theorem pe_w : PE X e (wE X e) := ⟨fun pins s _ _ _ I h => h pins s I⟩
theorem pt_w : PT X e (wT X e) := ⟨fun pins s _ _ _ I h => h pins s I⟩
theorem pa_w {es : List Expr} : PA X es (wA X es) := ⟨fun pos pins s _ _ _ I h => h pos pins s I⟩
theorem ps_w {st : Stmt} : PS X st (wS X st) := ⟨fun pins s _ _ _ I h => h pins s I⟩
theorem pss_w {st : List Stmt} : PSs X st (wB X st) := ⟨fun pins s _ _ _ I h => h pins s I⟩
theorem wE_of {t : TE} {Q : VK} (h : PE X e t) (q : t σ H Q) : wE X e σ H Q := fun pins s I => h.run pins s σ H Q I q
theorem wT_of {t : TT} {Q : Bool → Hp → Prop} (h : PT X e t) (q : t σ H Q) : wT X e σ H Q := fun pins s I => h.run pins s σ H Q I q
theorem wA_of {es : List Expr} {t : TA} {Q : List V → Hp → Prop} (h : PA X es t) (q : t σ H Q) : wA X es σ H Q := fun pos pins s I => h.run pos pins s σ H Q I q
theorem wS_of {st : Stmt} {t : TS} {D : Ends} (h : PS X st t) (q : t D σ H) : wS X st D σ H := fun pins s I => h.run pins s σ H D I q
theorem wB_of {st : List Stmt} {t : TS} {D : Ends} (h : PSs X st t) (q : t D σ H) : wB X st D σ H := fun pins s I => h.run pins s σ H D I q
theorem wE.mono {Q Q' : VK} (h : wE X e σ H Q) (k : ∀ v H', Q v H' → Q' v H') : wE X e σ H Q' := fun pins s I => thn (h pins s I) fun _ _ ⟨v, H', I', r, q⟩ => ⟨v, H', I', r, k v H' q⟩
theorem wT.mono {Q Q' : Bool → Hp → Prop} (h : wT X e σ H Q) (k : ∀ v H', Q v H' → Q' v H') : wT X e σ H Q' := fun pins s I => thn (h pins s I) fun b _ ⟨H', I', q⟩ => ⟨H', I', k b H' q⟩
theorem wA.mono {es : List Expr} {Q Q' : List V → Hp → Prop} (h : wA X es σ H Q) (k : ∀ v H', Q v H' → Q' v H') : wA X es σ H Q' := fun pos pins s I => thn (h pos pins s I) fun _ _ ⟨v, H', I', r, q⟩ => ⟨v, H', I', r, k v H' q⟩
structure EnLe (D D' : L2.Ends) : Prop where
  nx : ∀ σ H, D.nx σ H → D'.nx σ H
  rt : ∀ v H, D.rt v H → D'.rt v H
  bk : ∀ σ H, D.bk σ H → D'.bk σ H
  ct : ∀ σ H, D.ct σ H → D'.ct σ H
theorem SP.mono {pins : List (Addr × Obj)} {D D' : Ends} (k : EnLe D D') {f : Flow} {s' : Shared} (h : SP X pins D f s') : SP X pins D' f s' := by
  cases f with
  | next => obtain ⟨σ', H', I, q⟩ := h; exact ⟨σ', H', I, k.nx _ _ q⟩
  | brk => obtain ⟨σ', H', I, q⟩ := h; exact ⟨σ', H', I, k.bk _ _ q⟩
  | cont => obtain ⟨σ', H', I, q⟩ := h; exact ⟨σ', H', I, k.ct _ _ q⟩
  | ret u => obtain ⟨v, σ', H', I, r, q⟩ := h; exact ⟨v, σ', H', I, r, k.rt _ _ q⟩
theorem wS.mono {st : Stmt} {D D' : Ends} (h : wS X st D σ H) (k : EnLe D D') : wS X st D' σ H := fun pins s I => thn (h pins s I) fun _ _ q => SP.mono k q
theorem wB.mono {st : List Stmt} {D D' : Ends} (h : wB X st D σ H) (k : EnLe D D') : wB X st D' σ H := fun pins s I => thn (h pins s I) fun _ _ q => SP.mono k q
end
end Z

set_option Elab.async false
set_option linter.all false
set_option maxRecDepth 100000
/-! # B: data, owned objects, the relation to slots and heap -/
namespace Z
open PySem PySem.Spec PyProof.Rows L2 LamX

/-- a value, all the way in -/
inductive D where
  | none | bool (b : Bool) | int (i : Int) | str (s : Str)
  | list (xs : List D) | scr (ns : List Int) | tup (xs : List D) | dict (kvs : List (Key × D)) | rng (lo hi : Int)
  | ins (C : Addr) (fs : List (Str × D)) | exc (C : Addr) (fs : List (Str × D)) | ref (a : Addr) | ty (n : String)
instance : Inhabited D := ⟨.none⟩
/-- what an exception's own object is known by -/
def excH (a C dx : Addr) : HO := .ext fun h => ∃ (o : Obj) (vs : Array Value), h.get? a = some o ∧ o.cls = .ref C ∧ o.dict = some dx ∧ o.data = .fields vs

mutual
inductive Dat (K : PySem.W.Frag) (G : Hp) : V → D → Prop
  | none : Dat K G .non .none
  | bool (b : Bool) : Dat K G (.bl b) (.bool b)
  | int (i : Int) : Dat K G (.int i) (.int i)
  | str (x : Str) : Dat K G (.str x) (.str x)
  | list {a : Addr} {xs : List V} {ds : List D} : G a = some (.lst xs) → DatL K G xs ds → Dat K G (.ref a) (.list ds)
  | scr {a : Addr} {ns : List Int} : SqL K G a (ns.map V.int) → Dat K G (.ref a) (.scr ns)
  | tup {a : Addr} {xs : List V} {ds : List D} : SqT K G a xs → DatL K G xs ds → Dat K G (.ref a) (.tup ds)
  | dict {a : Addr} {ob : Obj} {kvs : List (Key × V)} {ks : List (Key × D)} : G a = some (.frz ob (.dK kvs)) → DatK K G kvs ks → Dat K G (.ref a) (.dict ks)
  | rng {a : Addr} {lo hi : Int} : G a = some (.rng lo hi) → Dat K G (.ref a) (.rng lo hi)
  | ins {a C dx : Addr} {fs : List (Str × V)} {gs : List (Str × D)} : G a = some (.ins C dx fs) → DatF K G fs gs → Dat K G (.ref a) (.ins C gs)
  | exc {a C dx : Addr} {fs : List (Str × V)} {gs : List (Str × D)} : G a = some (excH a C dx) → G dx = some (.xd fs) → DatF K G fs gs → Dat K G (.ref a) (.exc C gs)
  | ref (a : Addr) : Dat K G (.ref a) (.ref a)
  | ty (n : String) : Dat K G (.ty n) (.ty n)
inductive DatL (K : PySem.W.Frag) (G : Hp) : List V → List D → Prop
  | nil : DatL K G [] []
  | cons {v : V} {vs : List V} {d : D} {ds : List D} : Dat K G v d → DatL K G vs ds → DatL K G (v :: vs) (d :: ds)
inductive DatK (K : PySem.W.Frag) (G : Hp) : List (Key × V) → List (Key × D) → Prop
  | nil : DatK K G [] []
  | cons {k : Key} {v : V} {vs : List (Key × V)} {d : D} {ds : List (Key × D)} : Dat K G v d → DatK K G vs ds → DatK K G ((k, v) :: vs) ((k, d) :: ds)
inductive DatF (K : PySem.W.Frag) (G : Hp) : List (Str × V) → List (Str × D) → Prop
  | nil : DatF K G [] []
  | cons {k : Str} {v : V} {vs : List (Str × V)} {d : D} {ds : List (Str × D)} : Dat K G v d → DatF K G vs ds → DatF K G ((k, v) :: vs) ((k, d) :: ds)
end
theorem sqt_mono {K : PySem.W.Frag} {H H' : Hp} {a : Addr} {xs : List V} (e : Same H H') (h : SqT K H a xs) : SqT K H' a xs := by
  rcases h with (h | ⟨o, h⟩) | h
  · exact .inl (.inl (e _ _ h))
  · exact .inl (.inr ⟨o, e _ _ h⟩)
  · exact .inr h
section
variable {K : PySem.W.Frag} {G G' : Hp}
mutual
theorem Dat.mono (e : Same G G') {v : V} {d : D} (h : Dat K G v d) : Dat K G' v d := by
  cases h with
  | none => exact .none
  | bool b => exact .bool b
  | int i => exact .int i
  | str x => exact .str x
  | list h1 h2 => exact .list (e _ _ h1) (DatL.mono e h2)
  | scr h1 => exact .scr (e.seq h1)
  | tup h1 h2 => exact .tup (sqt_mono e h1) (DatL.mono e h2)
  | dict h1 h2 => exact .dict (e _ _ h1) (DatK.mono e h2)
  | rng h1 => exact .rng (e _ _ h1)
  | ins h1 h2 => exact .ins (e _ _ h1) (DatF.mono e h2)
  | exc h1 h0 h2 => exact .exc (e _ _ h1) (e _ _ h0) (DatF.mono e h2)
  | ref a => exact .ref a
  | ty n => exact .ty n
theorem DatL.mono (e : Same G G') {v : List V} {d : List D} (h : DatL K G v d) : DatL K G' v d := by
  cases h with
  | nil => exact .nil
  | cons h1 h2 => exact .cons (Dat.mono e h1) (DatL.mono e h2)
theorem DatK.mono (e : Same G G') {v : List (Key × V)} {d : List (Key × D)} (h : DatK K G v d) : DatK K G' v d := by
  cases h with
  | nil => exact .nil
  | cons h1 h2 => exact .cons (Dat.mono e h1) (DatK.mono e h2)
theorem DatF.mono (e : Same G G') {v : List (Str × V)} {d : List (Str × D)} (h : DatF K G v d) : DatF K G' v d := by
  cases h with
  | nil => exact .nil
  | cons h1 h2 => exact .cons (Dat.mono e h1) (DatF.mono e h2)
end
theorem DatL.length : ∀ {vs : List V} {ds : List D}, DatL K G vs ds → vs.length = ds.length
  | _, _, .nil => rfl
  | _, _, .cons _ h => congrArg Nat.succ (DatL.length h)
theorem DatL.get : ∀ {vs : List V} {ds : List D}, DatL K G vs ds → ∀ {i : Nat} {d : D}, ds[i]? = some d → ∃ v, vs[i]? = some v ∧ Dat K G v d
  | _, _, .nil, i, d, h => by simp at h
  | _, _, .cons h r, 0, d, e => ⟨_, rfl, by cases e; exact h⟩
  | _, _, .cons h r, i + 1, d, e => DatL.get r (i := i) (by simpa using e)
theorem DatL.get' : ∀ {vs : List V} {ds : List D}, DatL K G vs ds → ∀ {i : Nat} {v : V}, vs[i]? = some v → ∃ d, ds[i]? = some d ∧ Dat K G v d
  | _, _, .nil, i, d, h => by simp at h
  | _, _, .cons h r, 0, d, e => ⟨_, rfl, by cases e; exact h⟩
  | _, _, .cons h r, i + 1, d, e => DatL.get' r (i := i) (by simpa using e)
theorem DatL.append : ∀ {vs ws : List V} {ds es : List D}, DatL K G vs ds → DatL K G ws es → DatL K G (vs ++ ws) (ds ++ es)
  | _, _, _, _, .nil, h => h
  | _, _, _, _, .cons a r, h => .cons a (DatL.append r h)
theorem DatL.set : ∀ {vs : List V} {ds : List D}, DatL K G vs ds → ∀ (i : Nat) {v : V} {d : D}, Dat K G v d → DatL K G (vs.set i v) (ds.set i d)
  | _, _, .nil, _, _, _, _ => .nil
  | _, _, .cons _ r, 0, _, _, h => .cons h r
  | _, _, .cons a r, i + 1, _, _, h => .cons a (DatL.set r i h)
theorem DatL.take : ∀ {vs : List V} {ds : List D}, DatL K G vs ds → ∀ (n : Nat), DatL K G (vs.take n) (ds.take n)
  | _, _, .nil, n => by simp; exact .nil
  | _, _, .cons _ _, 0 => .nil
  | _, _, .cons a r, n + 1 => .cons a (DatL.take r n)
theorem DatL.drop : ∀ {vs : List V} {ds : List D}, DatL K G vs ds → ∀ (n : Nat), DatL K G (vs.drop n) (ds.drop n)
  | _, _, .nil, n => by simp; exact .nil
  | _, _, .cons a r, 0 => .cons a r
  | _, _, .cons a r, n + 1 => DatL.drop r n
theorem DatL.reverse : ∀ {vs : List V} {ds : List D}, DatL K G vs ds → DatL K G vs.reverse ds.reverse
  | _, _, .nil => .nil
  | _, _, .cons a r => by
    rw [List.reverse_cons, List.reverse_cons]
    exact DatL.append (DatL.reverse r) (.cons a .nil)
theorem DatL.ints : ∀ (ns : List Int), DatL K G (ns.map V.int) (ns.map D.int)
  | [] => .nil
  | n :: r => .cons (.int n) (DatL.ints r)
theorem DatL.ints' : ∀ {vs : List V} {ns : List Int}, DatL K G vs (ns.map D.int) → vs = ns.map V.int
  | _, [], h => by cases h; rfl
  | _, n :: r, h => by
    cases h with
    | cons a b => cases a; rw [DatL.ints' b]; rfl
theorem DatF.lookup : ∀ {vs : List (Str × V)} {ds : List (Str × D)}, DatF K G vs ds → ∀ {f : Str} {d : D}, ds.lookup f = some d → ∃ v, vs.lookup f = some v ∧ Dat K G v d
  | _, _, .nil, f, d, h => by simp at h
  | _, _, .cons (k := k) h r, f, d, e => by
    simp only [List.lookup] at e ⊢
    cases q : f == k with
    | true => rw [q] at e; simp only at e ⊢; cases e; exact ⟨_, rfl, h⟩
    | false => rw [q] at e; simp only at e ⊢; exact DatF.lookup r e
theorem DatF.none : ∀ {vs : List (Str × V)} {ds : List (Str × D)}, DatF K G vs ds → ∀ {f : Str}, ds.lookup f = Option.none → vs.lookup f = Option.none
  | _, _, .nil, f, h => rfl
  | _, _, .cons (k := k) h r, f, e => by
    simp only [List.lookup] at e ⊢
    cases q : f == k with
    | true => rw [q] at e; simp at e
    | false => rw [q] at e; simp only at e ⊢; exact DatF.none r e
end

/-- in a slot, as a value: data, or an owned object by its number -/
inductive S where
  | d (x : D) | o (k : Nat)
instance : Inhabited S := ⟨.d .none⟩
/-- an owned object: it may change -/
inductive O where
  | lst (xs : List D) | dct (kvs : List (Key × D)) | lok (kvs : List (Key × D)) | obj (C : Addr) (fs : List (Str × S)) | gone
instance : Inhabited O := ⟨.gone⟩
abbrev Tau := List (Option S)
def SRel (K : PySem.W.Frag) (G : Hp) (as : List Addr) : V → S → Prop
  | v, .d x => Dat K G v x
  | v, .o k => ∃ a, as[k]? = some a ∧ v = .ref a
inductive SRelL (K : PySem.W.Frag) (G : Hp) (as : List Addr) : List V → List S → Prop
  | nil : SRelL K G as [] []
  | cons {v : V} {vs : List V} {d : S} {ds : List S} : SRel K G as v d → SRelL K G as vs ds → SRelL K G as (v :: vs) (d :: ds)
inductive SRelF (K : PySem.W.Frag) (G : Hp) (as : List Addr) : List (Str × V) → List (Str × S) → Prop
  | nil : SRelF K G as [] []
  | cons {k : Str} {v : V} {vs : List (Str × V)} {d : S} {ds : List (Str × S)} : SRel K G as v d → SRelF K G as vs ds → SRelF K G as ((k, v) :: vs) ((k, d) :: ds)
def ORel (K : PySem.W.Frag) (G : Hp) (as : List Addr) (H : Hp) (a : Addr) : O → Prop
  | .lst ds => ∃ vs, H a = some (.lst vs) ∧ DatL K G vs ds
  | .dct ks => ∃ kvs, H a = some (.dK kvs) ∧ DatK K G kvs ks
  | .lok ks => ∃ o kvs, H a = some (.frz o (.dK kvs)) ∧ DatK K G kvs ks
  | .obj C fs => ∃ dx vs, H a = some (.ins C dx vs) ∧ SRelF K G as vs fs
  | .gone => True
/-- an object's fields point only below -/
def Below (n : Nat) (ω : List O) : Prop := ∀ (k : Nat) (C : Addr) (fs : List (Str × S)), ω[k]? = some (.obj C fs) → ∀ p ∈ fs, ∀ j, p.2 = .o j → j < n
structure Ok (K : PySem.W.Frag) (T : List (Addr × Str)) (G : Hp) (H : Hp) (as : List Addr) (ω : List O) : Prop where
  sub : Same G H
  nt : ∀ a ps, G a ≠ some (.tbl ps)
  len : as.length = ω.length
  own : ∀ (k : Nat) (a : Addr) (o : O), as[k]? = some a → ω[k]? = some o → ORel K G as H a o
  fre : ∀ (k : Nat) (a : Addr) (o : O), as[k]? = some a → ω[k]? = some o → o ≠ .gone → G a = none
  inj : ∀ (j k : Nat) (a : Addr) (o u : O), as[j]? = some a → as[k]? = some a → ω[j]? = some o → ω[k]? = some u → o ≠ .gone → u ≠ .gone → j = k
  tab : Tabs T H
  bel : Below ω.length ω
structure SlR (K : PySem.W.Frag) (G : Hp) (as : List Addr) (σ : L2.St) (τ : Tau) : Prop where
  len : σ.length = τ.length
  at_ : ∀ (i : Nat) (s : S), τ[i]? = some (some s) → ∃ v, σ[i]? = some (some v) ∧ SRel K G as v s

section
variable {K : PySem.W.Frag} {T : List (Addr × Str)} {G G' H H' : Hp} {as as' : List Addr} {σ : L2.St} {τ : Tau} {ω : List O}
theorem pre_get {l l' : List Addr} (p : l <+: l') {i : Nat} {a : Addr} (h : l[i]? = some a) : l'[i]? = some a := by
  obtain ⟨t, rfl⟩ := p
  rw [List.getElem?_append_left (List.getElem?_eq_some_iff.mp h).1]
  exact h
theorem SRel.mono (e : Same G G') (p : as <+: as') {v : V} {s : S} (h : SRel K G as v s) : SRel K G' as' v s := by
  cases s with
  | d x => exact Dat.mono e h
  | o k => obtain ⟨a, h1, h2⟩ := h; exact ⟨a, pre_get p h1, h2⟩
theorem SRelL.mono (e : Same G G') (p : as <+: as') : ∀ {v : List V} {s : List S}, SRelL K G as v s → SRelL K G' as' v s
  | _, _, .nil => .nil
  | _, _, .cons a b => .cons (SRel.mono e p a) (SRelL.mono e p b)
theorem SRelF.mono (e : Same G G') (p : as <+: as') : ∀ {v : List (Str × V)} {s : List (Str × S)}, SRelF K G as v s → SRelF K G' as' v s
  | _, _, .nil => .nil
  | _, _, .cons a b => .cons (SRel.mono e p a) (SRelF.mono e p b)
theorem SlR.mono (e : Same G G') (p : as <+: as') (h : SlR K G as σ τ) : SlR K G' as' σ τ := ⟨h.len, fun i s q => by
  obtain ⟨v, h1, h2⟩ := h.at_ i s q
  exact ⟨v, h1, h2.mono e p⟩⟩
theorem SRelL.length : ∀ {vs : List V} {ds : List S}, SRelL K G as vs ds → vs.length = ds.length
  | _, _, .nil => rfl
  | _, _, .cons _ h => congrArg Nat.succ (SRelL.length h)
theorem SRelL.dats : ∀ {vs : List V} {ds : List D}, SRelL K G as vs (ds.map S.d) → DatL K G vs ds
  | _, [], .nil => .nil
  | _, _ :: _, .cons a b => .cons a (SRelL.dats b)
theorem SRelL.of_dats : ∀ {vs : List V} {ds : List D}, DatL K G vs ds → SRelL K G as vs (ds.map S.d)
  | _, _, .nil => .nil
  | _, _, .cons a b => .cons a (SRelL.of_dats b)
/-- a slot is written -/
theorem SlR.set (h : SlR K G as σ τ) (i : Nat) {v : V} {s : S} (r : SRel K G as v s) : SlR K G as (σ.set i (some v)) (τ.set i (some s)) := ⟨by simp [h.len], fun j t q => by
  by_cases e : j = i
  · subst e
    by_cases hl : j < τ.length
    · rw [List.getElem?_set_self hl] at q
      cases q
      exact ⟨v, by rw [List.getElem?_set_self (by rw [h.len]; exact hl)], r⟩
    · rw [List.getElem?_eq_none (by simpa using Nat.le_of_not_lt hl)] at q; cases q
  · rw [List.getElem?_set_ne (Ne.symm e)] at q ⊢
    exact h.at_ j t q⟩
theorem SlR.clear (h : SlR K G as σ τ) (i : Nat) : SlR K G as (σ.set i none) (τ.set i none) := ⟨by simp [h.len], fun j t q => by
  by_cases e : j = i
  · subst e
    by_cases hl : j < τ.length
    · rw [List.getElem?_set_self hl] at q
      cases q
    · rw [List.getElem?_eq_none (by simpa using Nat.le_of_not_lt hl)] at q; cases q
  · rw [List.getElem?_set_ne (Ne.symm e)] at q ⊢
    exact h.at_ j t q⟩
theorem SlR.forget (h : SlR K G as σ τ) (i : Nat) : SlR K G as σ (τ.set i none) := ⟨by simp [h.len], fun j t q => by
  by_cases e : j = i
  · subst e
    by_cases hl : j < τ.length
    · rw [List.getElem?_set_self hl] at q
      cases q
    · rw [List.getElem?_eq_none (by simpa using Nat.le_of_not_lt hl)] at q; cases q
  · rw [List.getElem?_set_ne (Ne.symm e)] at q
    exact h.at_ j t q⟩
/-- the whole state grown by heap objects that are not owned and not in G -/
theorem Ok.heap (h : Ok K T G H as ω) (e : ∀ a o, H a = some o → (∀ ps, o ≠ .tbl ps) → H' a = some o) (t : Tabs T H') : Ok K T G H' as ω where
  sub := fun a o q => e a o (h.sub a o q) fun ps z => h.nt a ps (by rw [q, z])
  nt := h.nt
  len := h.len
  own := fun k a o h1 h2 => by
    have q := h.own k a o h1 h2
    cases o with
    | lst ds => obtain ⟨vs, e1, e2⟩ := q; exact ⟨vs, e _ _ e1 (fun ps z => by cases z), e2⟩
    | dct ks => obtain ⟨vs, e1, e2⟩ := q; exact ⟨vs, e _ _ e1 (fun ps z => by cases z), e2⟩
    | lok ks => obtain ⟨o, vs, e1, e2⟩ := q; exact ⟨o, vs, e _ _ e1 (fun ps z => by cases z), e2⟩
    | obj C fs => obtain ⟨dx, vs, e1, e2⟩ := q; exact ⟨dx, vs, e _ _ e1 (fun ps z => by cases z), e2⟩
    | gone => trivial
  fre := h.fre
  inj := h.inj
  tab := t
  bel := h.bel
theorem Ok.same (h : Ok K T G H as ω) (e : Same H H') : Ok K T G H' as ω := h.heap (fun a o q _ => e a o q) (h.tab.ext e)
theorem ORel.mono (e : Same G G') (p : as <+: as') {a : Addr} {o : O} (h : ORel K G as H a o) : ORel K G' as' H a o := by
  cases o with
  | lst ds => obtain ⟨vs, e1, e2⟩ := h; exact ⟨vs, e1, e2.mono e⟩
  | dct ks => obtain ⟨vs, e1, e2⟩ := h; exact ⟨vs, e1, e2.mono e⟩
  | lok ks => obtain ⟨o, vs, e1, e2⟩ := h; exact ⟨o, vs, e1, e2.mono e⟩
  | obj C fs => obtain ⟨dx, vs, e1, e2⟩ := h; exact ⟨dx, vs, e1, e2.mono e p⟩
  | gone => trivial
theorem ORel.heap {a : Addr} {o : O} (e : H' a = H a) (h : ORel K G as H a o) : ORel K G as H' a o := by
  cases o with
  | lst ds => obtain ⟨vs, e1, e2⟩ := h; exact ⟨vs, e.trans e1, e2⟩
  | dct ks => obtain ⟨vs, e1, e2⟩ := h; exact ⟨vs, e.trans e1, e2⟩
  | lok ks => obtain ⟨o, vs, e1, e2⟩ := h; exact ⟨o, vs, e.trans e1, e2⟩
  | obj C fs => obtain ⟨dx, vs, e1, e2⟩ := h; exact ⟨dx, vs, e.trans e1, e2⟩
  | gone => trivial
theorem ORel.there {a : Addr} {o : O} (h : ORel K G as H a o) (ng : o ≠ .gone) : ∃ u, H a = some u ∧ ∀ ps, u ≠ .tbl ps := by
  cases o with
  | lst ds => obtain ⟨vs, e1, e2⟩ := h; exact ⟨_, e1, fun ps z => by cases z⟩
  | dct ks => obtain ⟨vs, e1, e2⟩ := h; exact ⟨_, e1, fun ps z => by cases z⟩
  | lok ks => obtain ⟨o, vs, e1, e2⟩ := h; exact ⟨_, e1, fun ps z => by cases z⟩
  | obj C fs => obtain ⟨dx, vs, e1, e2⟩ := h; exact ⟨_, e1, fun ps z => by cases z⟩
  | gone => exact (ng rfl).elim
/-- G takes in an object that no live owned one is -/
theorem Ok.take {a : Addr} {u : HO} (h : Ok K T G H as ω) (hn : G a = none) (hH : H a = some u) (hu : ∀ ps, u ≠ .tbl ps) (ho : ∀ (k : Nat) (o : O), as[k]? = some a → ω[k]? = some o → o = .gone) : Ok K T (upd G a u) H as ω where
  sub := fun b o q => by
    by_cases e : b = a
    · subst e; rw [upd_same] at q; cases q; exact hH
    · rw [upd_ne e] at q; exact h.sub b o q
  nt := fun b ps q => by
    by_cases e : b = a
    · subst e; rw [upd_same] at q; cases q; exact hu ps rfl
    · rw [upd_ne e] at q; exact h.nt b ps q
  len := h.len
  own := fun k b o h1 h2 => (h.own k b o h1 h2).mono (Evl.Ex.new hn) (List.prefix_refl _)
  fre := fun k b o h1 h2 h3 => by
    by_cases e : b = a
    · subst e; exact (h3 (ho k o h1 h2)).elim
    · rw [upd_ne e]; exact h.fre k b o h1 h2 h3
  inj := h.inj
  tab := h.tab
  bel := h.bel
theorem Ok.not_own {a : Addr} (h : Ok K T G H as ω) (hn : H a = none) : ∀ (k : Nat) (o : O), as[k]? = some a → ω[k]? = some o → o = .gone := fun k o h1 h2 => by
  cases o with
  | gone => rfl
  | lst ds => obtain ⟨u, e, _⟩ := (h.own k a _ h1 h2).there (by intro z; cases z); rw [hn] at e; cases e
  | dct ds => obtain ⟨u, e, _⟩ := (h.own k a _ h1 h2).there (by intro z; cases z); rw [hn] at e; cases e
  | lok ds => obtain ⟨u, e, _⟩ := (h.own k a _ h1 h2).there (by intro z; cases z); rw [hn] at e; cases e
  | obj C ds => obtain ⟨u, e, _⟩ := (h.own k a _ h1 h2).there (by intro z; cases z); rw [hn] at e; cases e
theorem Ok.noG {a : Addr} (h : Ok K T G H as ω) (hn : H a = none) : G a = none := by
  cases q : G a with
  | none => rfl
  | some u => rw [h.sub a u q] at hn; cases hn
/-- a new object, as data -/
theorem Ok.newD {a : Addr} {u : HO} (h : Ok K T G H as ω) (hn : H a = none) (hu : ∀ ps, u ≠ .tbl ps) : Ok K T (upd G a u) (upd H a u) as ω := by
  have h1 := h.same (H' := upd H a u) (Evl.Ex.new hn)
  exact h1.take (h.noG hn) upd_same hu (h.not_own hn)
theorem get_snoc {α : Type} {l : List α} {x y : α} {k : Nat} (h : (l ++ [x])[k]? = some y) : l[k]? = some y ∨ (k = l.length ∧ y = x) := by
  by_cases hk : k < l.length
  · rw [List.getElem?_append_left hk] at h; exact .inl h
  · rw [List.getElem?_append_right (Nat.le_of_not_lt hk)] at h
    by_cases e : k - l.length = 0
    · rw [e] at h; simp at h; exact .inr ⟨by omega, h.symm⟩
    · rw [List.getElem?_eq_none (by simp; omega)] at h; cases h
theorem pre_snoc {l : List Addr} {a : Addr} : l <+: l ++ [a] := ⟨[a], rfl⟩
/-- an owned object joins the table -/
theorem Below.push {o : O} (h : Below ω.length ω) (hb : ∀ (C : Addr) (fs : List (Str × S)), o = .obj C fs → ∀ p ∈ fs, ∀ j, p.2 = .o j → j ≤ ω.length) : Below (ω ++ [o]).length (ω ++ [o]) := fun k C fs e p hp j hj => by
  rw [List.length_append]
  show j < ω.length + 1
  rcases get_snoc e with e | ⟨_, e⟩
  · exact Nat.lt_succ_of_lt (h k C fs e p hp j hj)
  · exact Nat.lt_succ_of_le (hb C fs e.symm p hp j hj)
theorem Below.set {k : Nat} {o : O} (h : Below ω.length ω) (hb : ∀ (C : Addr) (fs : List (Str × S)), o = .obj C fs → ∀ p ∈ fs, ∀ j, p.2 = .o j → j < ω.length) : Below (ω.set k o).length (ω.set k o) := fun i C fs e p hp j hj => by
  rw [List.length_set]
  by_cases q : i = k
  · subst q
    rw [List.getElem?_set_self (by have := (List.getElem?_eq_some_iff.mp e).1; simpa using this)] at e
    exact hb C fs (Option.some.inj e) p hp j hj
  · rw [List.getElem?_set_ne (Ne.symm q)] at e
    exact h i C fs e p hp j hj
theorem SRelF.lows {vs : List (Str × V)} {fs : List (Str × S)} (h : SRelF K G as vs fs) : ∀ p ∈ fs, ∀ j, p.2 = .o j → j < as.length := by
  induction h with
  | nil => intro p hp; cases hp
  | cons a b ih =>
    intro p hp j hj
    rcases List.mem_cons.mp hp with rfl | hp
    · cases (show _ = S.o j from hj)
      obtain ⟨c, h1, _⟩ := a
      exact (List.getElem?_eq_some_iff.mp h1).1
    · exact ih p hp j hj
theorem Ok.push {a : Addr} {o : O} (h : Ok K T G H as ω) (hg : o ≠ .gone → G a = none ∧ ORel K G (as ++ [a]) H a o ∧ ∀ (k : Nat) (u : O), as[k]? = some a → ω[k]? = some u → u = .gone) : Ok K T G H (as ++ [a]) (ω ++ [o]) where
  sub := h.sub
  nt := h.nt
  len := by simp [h.len]
  own := fun k b u h1 h2 => by
    rcases get_snoc h1 with h1 | ⟨k1, h1⟩
    · have hk := (List.getElem?_eq_some_iff.mp h1).1
      rcases get_snoc h2 with h2 | ⟨k2, h2⟩
      · exact (h.own k b u h1 h2).mono (fun _ _ e => e) pre_snoc
      · rw [h.len] at hk; omega
    · rcases get_snoc h2 with h2 | ⟨k2, h2⟩
      · have hk := (List.getElem?_eq_some_iff.mp h2).1
        rw [← h.len] at hk; omega
      · subst h1 h2
        by_cases hu : u = .gone
        · subst hu; trivial
        · exact (hg hu).2.1
  fre := fun k b u h1 h2 h3 => by
    rcases get_snoc h1 with h1 | ⟨k1, h1⟩
    · have hk := (List.getElem?_eq_some_iff.mp h1).1
      rcases get_snoc h2 with h2 | ⟨k2, h2⟩
      · exact h.fre k b u h1 h2 h3
      · rw [h.len] at hk; omega
    · rcases get_snoc h2 with h2 | ⟨k2, h2⟩
      · have hk := (List.getElem?_eq_some_iff.mp h2).1
        rw [← h.len] at hk; omega
      · subst h1 h2; exact (hg h3).1
  inj := fun j k b u w g1 g2 g3 g4 h5 h6 => by
    have hl := h.len
    rcases get_snoc g1 with h1 | ⟨k1, e1⟩
    · have hj := (List.getElem?_eq_some_iff.mp h1).1
      rcases get_snoc g3 with h3 | ⟨_, _⟩
      · rcases get_snoc g2 with h2 | ⟨k2, e2⟩
        · have hk := (List.getElem?_eq_some_iff.mp h2).1
          rcases get_snoc g4 with h4 | ⟨_, _⟩
          · exact h.inj j k b u w h1 h2 h3 h4 h5 h6
          · omega
        · rcases get_snoc g4 with h4 | ⟨_, e4⟩
          · have := (List.getElem?_eq_some_iff.mp h4).1; omega
          · rw [e2] at h1; rw [e4] at h6
            exact (h5 ((hg h6).2.2 j u h1 h3)).elim
      · omega
    · rcases get_snoc g3 with h3 | ⟨_, e3⟩
      · have := (List.getElem?_eq_some_iff.mp h3).1; omega
      · rcases get_snoc g2 with h2 | ⟨k2, e2⟩
        · rcases get_snoc g4 with h4 | ⟨_, e4⟩
          · rw [e1] at h2; rw [e3] at h5
            exact (h6 ((hg h5).2.2 k w h2 h4)).elim
          · have := (List.getElem?_eq_some_iff.mp h2).1; omega
        · omega
  tab := h.tab
  bel := h.bel.push fun C fs e p hp j hj => by
    subst e
    obtain ⟨dx, vs, _, r⟩ := (hg (fun z => by cases z)).2.1
    have q := r.lows p hp j hj
    rw [List.length_append, h.len] at q
    exact Nat.le_of_lt_succ q
/-- a new object, owned -/
theorem Ok.newO {a : Addr} {u : HO} {o : O} (h : Ok K T G H as ω) (hn : H a = none) (hr : ORel K G (as ++ [a]) (upd H a u) a o) : Ok K T G (upd H a u) (as ++ [a]) (ω ++ [o]) :=
  (h.same (H' := upd H a u) (Evl.Ex.new hn)).push fun _ => ⟨h.noG hn, hr, h.not_own hn⟩
/-- an owned object is changed -/
theorem Ok.upd {k : Nat} {a : Addr} {o o' : O} {u : HO} (h : Ok K T G H as ω) (ha : as[k]? = some a) (ho : ω[k]? = some o) (hg : o ≠ .gone) (hr : ORel K G as (upd H a u) a o') : Ok K T G (upd H a u) as (ω.set k o') where
  sub := fun b w q => by
    have hb : b ≠ a := fun e => by subst e; rw [h.fre k b o ha ho hg] at q; cases q
    rw [upd_ne hb]; exact h.sub b w q
  nt := h.nt
  len := by simp [h.len]
  own := fun j b w h1 h2 => by
    by_cases e : j = k
    · subst e
      rw [ha] at h1; cases h1
      rw [List.getElem?_set_self (List.getElem?_eq_some_iff.mp ho).1] at h2
      cases h2; exact hr
    · rw [List.getElem?_set_ne (Ne.symm e)] at h2
      by_cases hw : w = .gone
      · subst hw; trivial
      · have hb : b ≠ a := fun z => by subst z; exact e (h.inj j k b w o h1 ha h2 ho hw hg)
        exact (h.own j b w h1 h2).heap (upd_ne hb)
  fre := fun j b w h1 h2 h3 => by
    by_cases e : j = k
    · subst e
      rw [ha] at h1; cases h1
      exact h.fre j a o ha ho hg
    · rw [List.getElem?_set_ne (Ne.symm e)] at h2
      exact h.fre j b w h1 h2 h3
  inj := fun i j b w z h1 h2 h3 h4 h5 h6 => by
    by_cases e : i = k
    · subst e
      rw [ha] at h1; cases h1
      by_cases e2 : j = i
      · exact e2.symm
      · rw [List.getElem?_set_ne (Ne.symm e2)] at h4
        exact h.inj i j a o z ha h2 ho h4 hg h6
    · rw [List.getElem?_set_ne (Ne.symm e)] at h3
      by_cases e2 : j = k
      · subst e2
        rw [ha] at h2; cases h2
        exact h.inj i j a w o h1 ha h3 ho h5 hg
      · rw [List.getElem?_set_ne (Ne.symm e2)] at h4
        exact h.inj i j b w z h1 h2 h3 h4 h5 h6
  tab := fun p hp => by
    obtain ⟨ps, h1, h2, h3⟩ := h.tab p hp
    obtain ⟨w, hw, nw⟩ := (h.own k a o ha ho).there hg
    have hb : p.1 ≠ a := fun z => by rw [z, hw] at h1; exact nw ps (Option.some.inj h1)
    refine ⟨ps, by rw [upd_ne hb]; exact h1, h2, fun pos cv hc => ?_⟩
    obtain ⟨c, e1, e2⟩ := h3 pos cv hc
    have hc' : c ≠ a := fun z => by
      rw [z, hw] at e2
      have e3 := Option.some.inj e2
      have q := h.own k a o ha ho
      cases o with
      | lst ds => obtain ⟨vs, q1, _⟩ := q; rw [hw] at q1; rw [e3] at q1; unfold CodeO at q1; cases q1
      | dct ds => obtain ⟨vs, q1, _⟩ := q; rw [hw] at q1; rw [e3] at q1; unfold CodeO at q1; cases q1
      | lok ds => obtain ⟨_, vs, q1, _⟩ := q; rw [hw] at q1; rw [e3] at q1; unfold CodeO at q1; cases q1
      | obj C ds => obtain ⟨_, vs, q1, _⟩ := q; rw [hw] at q1; rw [e3] at q1; unfold CodeO at q1; cases q1
      | gone => exact hg rfl
    exact ⟨c, e1, by rw [upd_ne hc']; exact e2⟩
  bel := h.bel.set fun C fs e p hp j hj => by
    subst e
    obtain ⟨dx, vs, _, r⟩ := hr
    rw [← h.len]
    exact r.lows p hp j hj
/-- an owned object leaves the table: what it is stays known to H alone -/
theorem Ok.drop {k : Nat} (h : Ok K T G H as ω) : Ok K T G H as (ω.set k .gone) where
  sub := h.sub
  nt := h.nt
  len := by simp [h.len]
  own := fun j b w h1 h2 => by
    by_cases e : j = k
    · subst e
      rw [List.getElem?_set_self (by have := (List.getElem?_eq_some_iff.mp h2).1; simpa using this)] at h2
      cases h2; trivial
    · rw [List.getElem?_set_ne (Ne.symm e)] at h2
      exact h.own j b w h1 h2
  fre := fun j b w h1 h2 h3 => by
    by_cases e : j = k
    · subst e
      rw [List.getElem?_set_self (by have := (List.getElem?_eq_some_iff.mp h2).1; simpa using this)] at h2
      cases h2; exact (h3 rfl).elim
    · rw [List.getElem?_set_ne (Ne.symm e)] at h2
      exact h.fre j b w h1 h2 h3
  inj := fun i j b w z h1 h2 h3 h4 h5 h6 => by
    by_cases e : i = k
    · subst e
      rw [List.getElem?_set_self (by have := (List.getElem?_eq_some_iff.mp h3).1; simpa using this)] at h3
      cases h3; exact (h5 rfl).elim
    · by_cases e2 : j = k
      · subst e2
        rw [List.getElem?_set_self (by have := (List.getElem?_eq_some_iff.mp h4).1; simpa using this)] at h4
        cases h4; exact (h6 rfl).elim
      · rw [List.getElem?_set_ne (Ne.symm e)] at h3
        rw [List.getElem?_set_ne (Ne.symm e2)] at h4
        exact h.inj i j b w z h1 h2 h3 h4 h5 h6
  tab := h.tab
  bel := h.bel.set fun C fs e => by cases e
/-- the table cut -/
theorem Ok.cut {n : Nat} (h : Ok K T G H as ω) (hn : n ≤ ω.length) (hs : Below n (ω.take n)) : Ok K T G H (as.take n) (ω.take n) where
  sub := h.sub
  nt := h.nt
  len := by simp [h.len]
  own := fun k b u h1 h2 => by
    have hk : k < n := by have := (List.getElem?_eq_some_iff.mp h1).1; simp at this; omega
    have h1' := h1
    rw [List.getElem?_take_of_lt hk] at h1'
    have h2' := h2
    rw [List.getElem?_take_of_lt hk] at h2'
    have q := h.own k b u h1' h2'
    cases u with
    | lst ds => exact q
    | dct ks => exact q
    | lok ks => exact q
    | gone => trivial
    | obj C fs =>
      obtain ⟨dx, vs, e1, e2⟩ := q
      have hj := hs k C fs h2
      refine ⟨dx, vs, e1, ?_⟩
      clear h1 h2 h1' h2' e1
      induction e2 with
      | nil => exact .nil
      | @cons f v vs s ss a b ih =>
        refine .cons ?_ (ih fun p hp => hj p (List.mem_cons_of_mem _ hp))
        cases s with
        | d x => exact a
        | o j =>
          obtain ⟨c, c1, c2⟩ := a
          exact ⟨c, by rw [List.getElem?_take_of_lt (hj _ List.mem_cons_self j rfl)]; exact c1, c2⟩
  fre := fun k b u h1 h2 h3 => by
    have hk : k < n := by have := (List.getElem?_eq_some_iff.mp h1).1; simp at this; omega
    rw [List.getElem?_take_of_lt hk] at h1 h2
    exact h.fre k b u h1 h2 h3
  inj := fun i j b w z h1 h2 h3 h4 h5 h6 => by
    have hi : i < n := by have := (List.getElem?_eq_some_iff.mp h1).1; simp at this; omega
    have hj : j < n := by have := (List.getElem?_eq_some_iff.mp h2).1; simp at this; omega
    rw [List.getElem?_take_of_lt hi] at h1 h3
    rw [List.getElem?_take_of_lt hj] at h2 h4
    exact h.inj i j b w z h1 h2 h3 h4 h5 h6
  tab := h.tab
  bel := by rw [List.length_take, Nat.min_eq_left hn]; exact hs
end
end Z

set_option Elab.async false
set_option linter.all false
set_option maxRecDepth 100000
/-! # C: the weakest preconditions over data -/
namespace Z
open PySem PySem.Spec PyProof.Rows L2 LamX

/-- an exception: its class, its fields -/
structure XD where
  C : Addr
  fs : List (Str × D)
/-- where one stands: the layer's context, tables, the ground at the entry, what is wished of an exception at the slots -/
structure Cy where
  X : Cx
  T : List (Addr × Str)
  G0 : Hp
  as0 : List Addr
  rz : XD → Tau → List O → Prop
def Base (Y : Cy) (G : Hp) (as : List Addr) : Prop := Same Y.G0 G ∧ Y.as0 <+: as
/-- grown from G, as; the new state is of R -/
def Go (Y : Cy) (G : Hp) (as : List Addr) (H' : Hp) (R : Hp → List Addr → List O → Prop) : Prop :=
  ∃ G' as' ω', Same G G' ∧ as <+: as' ∧ Ok Y.X.K Y.T G' H' as' ω' ∧ R G' as' ω'
def WE0 (Y : Cy) (e : Expr) (τ : Tau) (ω : List O) (Q : S → List O → Prop) : Prop :=
  ∀ G as H σ, Base Y G as → Ok Y.X.K Y.T G H as ω → SlR Y.X.K G as σ τ → wE Y.X e σ H fun v H' => Go Y G as H' fun G' as' ω' => ∃ s, SRel Y.X.K G' as' v s ∧ Q s ω'
structure WE (Y : Cy) (e : Expr) (τ : Tau) (ω : List O) (Q : S → List O → Prop) : Prop where
  run : WE0 Y e τ ω Q
instance {Y : Cy} {e : Expr} {τ : Tau} {ω : List O} {Q : S → List O → Prop} : CoeFun (WE Y e τ ω Q) (fun _ => WE0 Y e τ ω Q) := ⟨fun h => h.run⟩
def WT0 (Y : Cy) (e : Expr) (τ : Tau) (ω : List O) (Q : Bool → List O → Prop) : Prop :=
  ∀ G as H σ, Base Y G as → Ok Y.X.K Y.T G H as ω → SlR Y.X.K G as σ τ → wT Y.X e σ H fun b H' => Go Y G as H' fun _ _ ω' => Q b ω'
structure WT (Y : Cy) (e : Expr) (τ : Tau) (ω : List O) (Q : Bool → List O → Prop) : Prop where
  run : WT0 Y e τ ω Q
instance {Y : Cy} {e : Expr} {τ : Tau} {ω : List O} {Q : Bool → List O → Prop} : CoeFun (WT Y e τ ω Q) (fun _ => WT0 Y e τ ω Q) := ⟨fun h => h.run⟩
def WA0 (Y : Cy) (es : List Expr) (τ : Tau) (ω : List O) (Q : List S → List O → Prop) : Prop :=
  ∀ G as H σ, Base Y G as → Ok Y.X.K Y.T G H as ω → SlR Y.X.K G as σ τ → wA Y.X es σ H fun v H' => Go Y G as H' fun G' as' ω' => ∃ s, SRelL Y.X.K G' as' v s ∧ Q s ω'
structure WA (Y : Cy) (es : List Expr) (τ : Tau) (ω : List O) (Q : List S → List O → Prop) : Prop where
  run : WA0 Y es τ ω Q
instance {Y : Cy} {es : List Expr} {τ : Tau} {ω : List O} {Q : List S → List O → Prop} : CoeFun (WA Y es τ ω Q) (fun _ => WA0 Y es τ ω Q) := ⟨fun h => h.run⟩
structure En where
  nx : Tau → List O → Prop
  rt : S → List O → Prop
  bk : Tau → List O → Prop := fun _ _ => False
  ct : Tau → List O → Prop := fun _ _ => False
def hi (Y : Cy) (G : Hp) (as : List Addr) (D : En) : Ends where
  nx := fun σ' H' => Go Y G as H' fun G' as' ω' => ∃ τ', SlR Y.X.K G' as' σ' τ' ∧ D.nx τ' ω'
  rt := fun v H' => Go Y G as H' fun G' as' ω' => ∃ s, SRel Y.X.K G' as' v s ∧ D.rt s ω'
  bk := fun σ' H' => Go Y G as H' fun G' as' ω' => ∃ τ', SlR Y.X.K G' as' σ' τ' ∧ D.bk τ' ω'
  ct := fun σ' H' => Go Y G as H' fun G' as' ω' => ∃ τ', SlR Y.X.K G' as' σ' τ' ∧ D.ct τ' ω'
def WS0 (Y : Cy) (st : Stmt) (τ : Tau) (ω : List O) (D : En) : Prop :=
  ∀ G as H σ, Base Y G as → Ok Y.X.K Y.T G H as ω → SlR Y.X.K G as σ τ → wS Y.X st (hi Y G as D) σ H
structure WS (Y : Cy) (st : Stmt) (τ : Tau) (ω : List O) (D : En) : Prop where
  run : WS0 Y st τ ω D
instance {Y : Cy} {st : Stmt} {τ : Tau} {ω : List O} {D : En} : CoeFun (WS Y st τ ω D) (fun _ => WS0 Y st τ ω D) := ⟨fun h => h.run⟩
def WB0 (Y : Cy) (st : List Stmt) (τ : Tau) (ω : List O) (D : En) : Prop :=
  ∀ G as H σ, Base Y G as → Ok Y.X.K Y.T G H as ω → SlR Y.X.K G as σ τ → wB Y.X st (hi Y G as D) σ H
structure WB (Y : Cy) (st : List Stmt) (τ : Tau) (ω : List O) (D : En) : Prop where
  run : WB0 Y st τ ω D
instance {Y : Cy} {st : List Stmt} {τ : Tau} {ω : List O} {D : En} : CoeFun (WB Y st τ ω D) (fun _ => WB0 Y st τ ω D) := ⟨fun h => h.run⟩
/-- a target is stored -/
def WG0 (Y : Cy) (tg : Expr) (s : S) (τ : Tau) (ω : List O) (Q : Tau → List O → Prop) : Prop :=
  ∀ G as H σ v, Base Y G as → Ok Y.X.K Y.T G H as ω → SlR Y.X.K G as σ τ → SRel Y.X.K G as v s →
    ∀ pins st u, Inv Y.X pins σ H st → RelV v u → wpAny (model Y.X.prog Y.X.w) Y.X.A (assign tg Y.X.env u) (fun _ s' => ∃ σ' H', Inv Y.X pins σ' H' s' ∧ Go Y G as H' fun G' as' ω' => ∃ τ', SlR Y.X.K G' as' σ' τ' ∧ Q τ' ω') Y.X.xe st
structure WG (Y : Cy) (tg : Expr) (s : S) (τ : Tau) (ω : List O) (Q : Tau → List O → Prop) : Prop where
  run : WG0 Y tg s τ ω Q
instance {Y : Cy} {tg : Expr} {s : S} {τ : Tau} {ω : List O} {Q : Tau → List O → Prop} : CoeFun (WG Y tg s τ ω Q) (fun _ => WG0 Y tg s τ ω Q) := ⟨fun h => h.run⟩

section
variable {Y : Cy} {G : Hp} {as : List Addr} {H' : Hp} {τ : Tau} {ω : List O} {e : Expr}
theorem Base.go (b : Base Y G as) {G' : Hp} {as' : List Addr} (e : Same G G') (p : as <+: as') : Base Y G' as' := ⟨b.1.trans e, b.2.trans p⟩
theorem Go.mono {R R' : Hp → List Addr → List O → Prop} (h : Go Y G as H' R) (k : ∀ G' as' ω', Same G G' → as <+: as' → Ok Y.X.K Y.T G' H' as' ω' → R G' as' ω' → R' G' as' ω') : Go Y G as H' R' := by
  obtain ⟨G', as', ω', a, b, c, d⟩ := h
  exact ⟨G', as', ω', a, b, c, k _ _ _ a b c d⟩
theorem Go.here {R : Hp → List Addr → List O → Prop} (h : Ok Y.X.K Y.T G H' as ω) (r : R G as ω) : Go Y G as H' R := ⟨G, as, ω, Same.refl G, List.prefix_refl _, h, r⟩
theorem Go.back {G1 : Hp} {as1 : List Addr} {R : Hp → List Addr → List O → Prop} (e : Same G G1) (p : as <+: as1) (h : Go Y G1 as1 H' R) : Go Y G as H' R := by
  obtain ⟨G', as', ω', a, b, c, d⟩ := h
  exact ⟨G', as', ω', e.trans a, p.trans b, c, d⟩
theorem hi_back {G1 : Hp} {as1 : List Addr} {D : En} (e : Same G G1) (p : as <+: as1) : EnLe (hi Y G1 as1 D) (hi Y G as D) :=
  ⟨fun _ _ h => Go.back e p h, fun _ _ h => Go.back e p h, fun _ _ h => Go.back e p h, fun _ _ h => Go.back e p h⟩
structure EnD (D D' : En) : Prop where
  nx : ∀ σ H, D.nx σ H → D'.nx σ H
  rt : ∀ v H, D.rt v H → D'.rt v H
  bk : ∀ σ H, D.bk σ H → D'.bk σ H
  ct : ∀ σ H, D.ct σ H → D'.ct σ H
theorem hi_mono {D D' : En} (k : EnD D D') : EnLe (hi Y G as D) (hi Y G as D') :=
  ⟨fun _ _ h => Go.mono h fun _ _ _ _ _ _ ⟨t, a, b⟩ => ⟨t, a, k.nx _ _ b⟩, fun _ _ h => Go.mono h fun _ _ _ _ _ _ ⟨t, a, b⟩ => ⟨t, a, k.rt _ _ b⟩,
   fun _ _ h => Go.mono h fun _ _ _ _ _ _ ⟨t, a, b⟩ => ⟨t, a, k.bk _ _ b⟩, fun _ _ h => Go.mono h fun _ _ _ _ _ _ ⟨t, a, b⟩ => ⟨t, a, k.ct _ _ b⟩⟩
theorem WE.mono {Q Q' : S → List O → Prop} (h : WE Y e τ ω Q) (k : ∀ s ω', Q s ω' → Q' s ω') : WE Y e τ ω Q' := .mk fun G as H σ b o l => (h G as H σ b o l).mono fun v H' g => g.mono fun _ _ _ _ _ _ ⟨s, r, q⟩ => ⟨s, r, k _ _ q⟩
theorem WT.mono {Q Q' : Bool → List O → Prop} (h : WT Y e τ ω Q) (k : ∀ s ω', Q s ω' → Q' s ω') : WT Y e τ ω Q' := .mk fun G as H σ b o l => (h G as H σ b o l).mono fun v H' g => g.mono fun _ _ _ _ _ _ q => k _ _ q
theorem WS.mono {st : Stmt} {D D' : En} (h : WS Y st τ ω D) (k : EnD D D') : WS Y st τ ω D' := .mk fun G as H σ b o l => (h G as H σ b o l).mono (hi_mono k)
theorem WB.mono {st : List Stmt} {D D' : En} (h : WB Y st τ ω D) (k : EnD D D') : WB Y st τ ω D' := .mk fun G as H σ b o l => (h G as H σ b o l).mono (hi_mono k)

/-! ### two in a row, by the layer's readings -/
theorem WE.pe {t : TE} {Q : S → List O → Prop} (h : ∀ {G as H σ}, Base Y G as → Ok Y.X.K Y.T G H as ω → SlR Y.X.K G as σ τ → t σ H fun v H' => Go Y G as H' fun G' as' ω' => ∃ s, SRel Y.X.K G' as' v s ∧ Q s ω') (p : PE Y.X e t) : WE Y e τ ω Q :=
  .mk fun G as H σ b o l => wE_of p (h b o l)

/-! ### names and constants -/
theorem WE_int {i : Int} {j pos} {Q : S → List O → Prop} (q : Q (.d (.int i)) ω) : WE Y (.Constant (.int i) j pos) τ ω Q := WE.pe (fun b o l => Go.here o ⟨.d (.int i), .int i, q⟩) pe_int
theorem WE_bool {i : Bool} {j pos} {Q : S → List O → Prop} (q : Q (.d (.bool i)) ω) : WE Y (.Constant (.bool i) j pos) τ ω Q := WE.pe (fun b o l => Go.here o ⟨.d (.bool i), .bool i, q⟩) pe_bl
theorem WE_none {j pos} {Q : S → List O → Prop} (q : Q (.d .none) ω) : WE Y (.Constant .none j pos) τ ω Q := WE.pe (fun b o l => Go.here o ⟨.d .none, .none, q⟩) pe_non
theorem WE_str {i : Str} {j pos} {Q : S → List O → Prop} (q : Q (.d (.str i)) ω) : WE Y (.Constant (.str i) j pos) τ ω Q := WE.pe (fun b o l => Go.here o ⟨.d (.str i), .str i, q⟩) pe_str
/-- a name of the def in slot i -/
theorem WE_var (i : Nat) {x : Str} {pos : Pos} {s : S} {Q : S → List O → Prop} (q : Q s ω) (hs : τ[i]? = some (some s) := by rfl) (hN : Y.X.N[i]? = some x := by rfl)
    (hv : Vis Y.X.env.scope x := by first | exact Or.inl rfl | exact Or.inr (Or.inl rfl) | exact Or.inr (Or.inr rfl)) (hd : (x == ("__debug__" : Str)) = false := by decide) (hcd : (x == ("__classdict__" : Str)) = false := by decide) : WE Y (.Name x pos) τ ω Q :=
  WE.pe (fun b o l => by
    obtain ⟨v, h1, h2⟩ := l.at_ i s hs
    exact ⟨v, h1, Go.here o ⟨s, h2, q⟩⟩) (pe_var hN hv hd hcd)
/-- a module's constant, a class, a def -/
theorem WE_glob {x : Str} {v : V} {d : D} {u : Value} {pos : Pos} {Q : S → List O → Prop} (hm : Y.X.mg x = some u) (r : RelV v u) (rd : ∀ G, Dat Y.X.K G v d) (q : Q (.d d) ω) (hg : Gl Y.X x := by rfl) (hd : (x == ("__debug__" : Str)) = false := by decide) : WE Y (.Name x pos) τ ω Q :=
  WE.pe (fun b o l => Go.here o ⟨.d d, rd _, q⟩) (pe_glob hg hm r hd)
theorem WE_globI {x : Str} {i : Int} {t : Tok} {pos : Pos} {Q : S → List O → Prop} (hm : Y.X.mg x = some (.int i t)) (q : Q (.d (.int i)) ω) (hg : Gl Y.X x := by rfl) (hd : (x == ("__debug__" : Str)) = false := by decide) : WE Y (.Name x pos) τ ω Q := WE_glob (v := .int i) hm ⟨t, rfl⟩ (fun _ => .int i) q hg hd
theorem WE_globS {x i : Str} {t : Tok} {pos : Pos} {Q : S → List O → Prop} (hm : Y.X.mg x = some (.str i t)) (q : Q (.d (.str i)) ω) (hg : Gl Y.X x := by rfl) (hd : (x == ("__debug__" : Str)) = false := by decide) : WE Y (.Name x pos) τ ω Q := WE_glob (v := .str i) hm ⟨t, rfl⟩ (fun _ => .str i) q hg hd
theorem WE_globC {x : Str} {i : Addr} {pos : Pos} {Q : S → List O → Prop} (hm : Y.X.mg x = some (.ref i)) (q : Q (.d (.ref i)) ω) (hg : Gl Y.X x := by rfl) (hd : (x == ("__debug__" : Str)) = false := by decide) : WE Y (.Name x pos) τ ω Q := WE_glob (v := .ref i) hm rfl (fun _ => .ref i) q hg hd
theorem WE_ty {x : Str} {n : String} {pos : Pos} {Q : S → List O → Prop} (hm : Y.X.mg x = none) (q : Q (.d (.ty n)) ω) (hv : bootBuiltins x = some (.type n) := by decide +kernel) (hg : Gl Y.X x := by rfl) (hn : x ≠ "__name__" := by decide) (hd : (x == ("__debug__" : Str)) = false := by decide) : WE Y (.Name x pos) τ ω Q :=
  WE.pe (fun b o l => Go.here o ⟨.d (.ty n), .ty n, q⟩) (pe_bltn (v := .ty n) hg hm hv rfl hn hd)

/-! ### arguments -/
theorem WA_nil {Q : List S → List O → Prop} (q : Q [] ω) : WA Y [] τ ω Q := .mk fun G as H σ b o l => wA_of pa_nil (show tNil σ H _ from Go.here o ⟨[], .nil, q⟩)
theorem WA_cons {es : List Expr} {Q : List S → List O → Prop} (h : WE Y e τ ω fun s ω1 => WA Y es τ ω1 fun ss ω2 => Q (s :: ss) ω2)
    (hs : starEach (e :: es) Y.X.env = (false, eval e Y.X.env) :: starEach es Y.X.env := by rfl) : WA Y (e :: es) τ ω Q := .mk fun G as H σ b o l => by
  refine wA_of (pa_cons pe_w pa_w hs) ?_
  refine (h G as H σ b o l).mono fun v H1 ⟨G1, as1, ω1, g1, p1, o1, s, r, q⟩ => ?_
  refine (q G1 as1 H1 σ (b.go g1 p1) o1 (l.mono g1 p1)).mono fun vs H2 g => Go.back g1 p1 (g.mono fun G2 as2 ω2 g2 p2 o2 ⟨ss, r2, q2⟩ => ⟨s :: ss, .cons (r.mono g2 p2) r2, q2⟩)

/-! ### blocks -/
theorem WB_nil {D : En} (q : D.nx τ ω) : WB Y [] τ ω D := .mk fun G as H σ b o l => wB_of pss_nil (show (hi Y G as D).nx σ H from Go.here o ⟨τ, l, q⟩)
theorem WB_cons {st : Stmt} {rest : List Stmt} {D : En} (h : WS Y st τ ω { D with nx := fun τ' ω' => WB Y rest τ' ω' D }) : WB Y (st :: rest) τ ω D := .mk fun G as H σ b o l => by
  refine wB_of (pss_cons ps_w pss_w) ((h G as H σ b o l).mono ⟨fun σ' H' g => ?_, fun _ _ g => g, fun _ _ g => g, fun _ _ g => g⟩)
  obtain ⟨G1, as1, ω1, g1, p1, o1, τ', l1, q⟩ := g
  exact (q G1 as1 H' σ' (b.go g1 p1) o1 l1).mono (hi_back g1 p1)
theorem WB_one {st : Stmt} {D : En} (h : WS Y st τ ω D) : WB Y [st] τ ω D := WB_cons (h.mono ⟨fun _ _ q => WB_nil q, fun _ _ q => q, fun _ _ q => q, fun _ _ q => q⟩)
theorem WS_pass {pos : Pos} {D : En} (q : D.nx τ ω) : WS Y (.Pass pos) τ ω D := .mk fun G as H σ b o l => wS_of ps_pass (show (hi Y G as D).nx σ H from Go.here o ⟨τ, l, q⟩)
theorem WS_break {pos : Pos} {D : En} (q : D.bk τ ω) : WS Y (.Break pos) τ ω D := .mk fun G as H σ b o l => wS_of ps_break (show (hi Y G as D).bk σ H from Go.here o ⟨τ, l, q⟩)
theorem WS_continue {pos : Pos} {D : En} (q : D.ct τ ω) : WS Y (.Continue pos) τ ω D := .mk fun G as H σ b o l => wS_of ps_continue (show (hi Y G as D).ct σ H from Go.here o ⟨τ, l, q⟩)
theorem WS_expr {pos : Pos} {D : En} (h : WE Y e τ ω fun _ ω' => D.nx τ ω') (hs : swapsWith e none pos.line Y.X.env = pure false := by rfl) : WS Y (.Expr e pos) τ ω D := .mk fun G as H σ b o l =>
  wS_of (ps_expr pe_w hs) ((h G as H σ b o l).mono fun v H1 g => g.mono fun G1 as1 ω1 g1 p1 o1 ⟨s, r, q⟩ => ⟨τ, l.mono g1 p1, q⟩)
theorem WS_ret {pos : Pos} {D : En} (h : WE Y e τ ω fun s ω' => D.rt s ω') : WS Y (.Return (some e) pos) τ ω D := .mk fun G as H σ b o l =>
  wS_of (ps_ret pe_w) ((h G as H σ b o l).mono fun v H1 g => g)
theorem WS_retN {pos : Pos} {D : En} (h : D.rt (.d .none) ω) : WS Y (.Return none pos) τ ω D := .mk fun G as H σ b o l =>
  wS_of ps_retN (show (hi Y G as D).rt .non H from Go.here o ⟨.d .none, .none, h⟩)
theorem WS_if {c : Expr} {a b : List Stmt} {pos : Pos} {D : En} (h : WT Y c τ ω fun k ω' => if k = true then WB Y a τ ω' D else WB Y b τ ω' D) : WS Y (.If c a b pos) τ ω D := .mk fun G as H σ bs o l => by
  refine wS_of (ps_if pt_w pss_w pss_w) ((h G as H σ bs o l).mono fun k H1 g => ?_)
  obtain ⟨G1, as1, ω1, g1, p1, o1, q⟩ := g
  cases k with
  | true => exact ((show WB Y a τ ω1 D from q) G1 as1 H1 σ (bs.go g1 p1) o1 (l.mono g1 p1)).mono (hi_back g1 p1)
  | false => exact ((show WB Y b τ ω1 D from q) G1 as1 H1 σ (bs.go g1 p1) o1 (l.mono g1 p1)).mono (hi_back g1 p1)
/-- x = e -/
theorem WS_set (i : Nat) {x : Str} {pos pos' : Pos} {D : En} (h : WE Y e τ ω fun s ω' => D.nx (τ.set i (some s)) ω') (hN : Y.X.N.Nodup) (hi : Y.X.N[i]? = some x := by rfl)
    (hx : Loc Y.X.env.scope x := by first | exact .inl rfl | exact .inr rfl) (hs : swapsWith e (some (.Name x pos')) pos.line Y.X.env = pure false := by rfl)
    (hf : Y.X.fn x = true ∨ Y.X.env.scope.names.lookup x = some .local := by first | exact .inl rfl | exact .inr rfl) : WS Y (.Assign [.Name x pos'] e pos) τ ω D := .mk fun G as H σ b o l =>
  wS_of (ps_set hN hi hx pe_w hs hf) ((h G as H σ b o l).mono fun v H1 g => g.mono fun G1 as1 ω1 g1 p1 o1 ⟨s, r, q⟩ => ⟨_, (l.mono g1 p1).set i r, q⟩)
end
end Z

set_option Elab.async false
set_option linter.all false
set_option maxRecDepth 100000
/-! # D: operators over data -/
namespace Z
open PySem PySem.Spec PyProof.Rows L2 LamX

/-- what is seen of a value: an owned list or dict as it is now -/
def vw (ω : List O) : S → Option D
  | .d x => some x
  | .o k => match ω[k]? with
    | some (.lst xs) => some (.list xs)
    | some (.dct ks) => some (.dict ks)
    | some (.lok ks) => some (.dict ks)
    | _ => none
theorem vwL {ω : List O} {k : Nat} {xs : List D} (h : ω[k]? = some (.lst xs)) : vw ω (.o k) = some (.list xs) := by unfold vw; simp only [h]
theorem vwD {ω : List O} {k : Nat} {xs : List (Key × D)} (h : ω[k]? = some (.dct xs)) : vw ω (.o k) = some (.dict xs) := by unfold vw; simp only [h]
theorem vwK {ω : List O} {k : Nat} {xs : List (Key × D)} (h : ω[k]? = some (.lok xs)) : vw ω (.o k) = some (.dict xs) := by unfold vw; simp only [h]
def Vw (K : PySem.W.Frag) (G H : Hp) (v : V) : D → Prop
  | .list ds => ∃ a xs, v = .ref a ∧ H a = some (.lst xs) ∧ DatL K G xs ds
  | .dict ks => ∃ a kvs, v = .ref a ∧ Rd H a (.dK kvs) ∧ DatK K G kvs ks
  | d => Dat K G v d
section
variable {K : PySem.W.Frag} {T : List (Addr × Str)} {G H : Hp} {as : List Addr} {ω : List O} {v : V} {s : S} {d : D}
theorem vw_ok (o : Ok K T G H as ω) (r : SRel K G as v s) (h : vw ω s = some d) : Vw K G H v d := by
  cases s with
  | d x =>
    have e : x = d := Option.some.inj h
    subst e
    have r : Dat K G v x := r
    cases x with
    | list ds => cases r with | list h1 h2 => exact ⟨_, _, rfl, o.sub _ _ h1, h2⟩
    | dict ds => cases r with | dict h1 h2 => exact ⟨_, _, rfl, .inr ⟨_, o.sub _ _ h1⟩, h2⟩
    | _ => exact r
  | o k =>
    obtain ⟨a, ha, rfl⟩ := r
    simp only [vw] at h
    cases hk : ω[k]? with
    | none => simp only [hk] at h; cases h
    | some u =>
      have q := o.own k a u ha hk
      simp only [hk] at h
      cases u with
      | lst xs => cases h; obtain ⟨vs, q1, q2⟩ := q; exact ⟨a, vs, rfl, q1, q2⟩
      | dct xs => cases h; obtain ⟨vs, q1, q2⟩ := q; exact ⟨a, vs, rfl, .inl q1, q2⟩
      | lok xs => cases h; obtain ⟨ob, vs, q1, q2⟩ := q; exact ⟨a, vs, rfl, .inr ⟨ob, q1⟩, q2⟩
      | obj C fs => cases h
      | gone => cases h
end

abbrev QS := S → List O → Prop
/-- a new list: as data, or owned -/
structure newL (ds : List D) (ω : List O) (Q : QS) : Prop where
  len : ds.length ≤ sizeLine
  way : Q (.d (.list ds)) ω ∨ Q (.o ω.length) (ω ++ [.lst ds])
theorem newL.d {ds : List D} {ω : List O} {Q : QS} (h : ds.length ≤ sizeLine) (q : Q (.d (.list ds)) ω) : newL ds ω Q := ⟨h, .inl q⟩
theorem newL.o {ds : List D} {ω : List O} {Q : QS} (h : ds.length ≤ sizeLine) (q : Q (.o ω.length) (ω ++ [.lst ds])) : newL ds ω Q := ⟨h, .inr q⟩
/-- the end of a rule that gives v -/
abbrev Fin1 (Y : Cy) (G : Hp) (as : List Addr) (Q : QS) : VK := fun v H' => Go Y G as H' fun G' as' ω' => ∃ s, SRel Y.X.K G' as' v s ∧ Q s ω'
section
variable {Y : Cy} {G H : Hp} {as : List Addr} {ω : List O} {Q : QS}
theorem fin_d {v : V} {d : D} (o : Ok Y.X.K Y.T G H as ω) (r : Dat Y.X.K G v d) (q : Q (.d d) ω) : Fin1 Y G as Q v H := Go.here o ⟨.d d, r, q⟩
theorem fin_newL {vs : List V} {ds : List D} {p : Addr} (o : Ok Y.X.K Y.T G H as ω) (hp : H p = none) (r : DatL Y.X.K G vs ds) (q : newL ds ω Q) : Fin1 Y G as Q (.ref p) (upd H p (.lst vs)) := by
  rcases q.way with q | q
  · exact ⟨_, as, ω, Evl.Ex.new (o.noG hp), List.prefix_refl _, o.newD hp (fun ps z => by cases z), .d (.list ds), .list upd_same (r.mono (Evl.Ex.new (o.noG hp))), q⟩
  · refine ⟨G, as ++ [p], _, Same.refl G, pre_snoc, o.newO hp (o := .lst ds) ⟨vs, upd_same, r⟩, .o ω.length, ⟨p, ?_, rfl⟩, q⟩
    rw [← o.len]; simp
theorem fin_newT {vs : List V} {ds : List D} {p : Addr} (o : Ok Y.X.K Y.T G H as ω) (hp : H p = none) (r : DatL Y.X.K G vs ds) (q : Q (.d (.tup ds)) ω) : Fin1 Y G as Q (.ref p) (upd H p (.tup vs)) :=
  ⟨_, as, ω, Evl.Ex.new (o.noG hp), List.prefix_refl _, o.newD hp (fun ps z => by cases z), .d (.tup ds), .tup (SqT.of upd_same) (r.mono (Evl.Ex.new (o.noG hp))), q⟩
end

/-! ### canonical readings by values -/
def wOp (X : Cx) (f : Value → Value → Sem Value) : R2 := fun x y H Q => ∀ pins s σ v u, Inv X pins σ H s → RelV x v → RelV y u → wpAny (model X.prog X.w) X.A (f v u) (EP X pins σ Q) X.xe s
theorem op_w {X : Cx} {f : Value → Value → Sem Value} : OpR X f (wOp X f) := fun pins s σ _ _ _ v u _ I r1 r2 h => h pins s σ v u I r1 r2
theorem wOp_of {X : Cx} {f : Value → Value → Sem Value} {r : R2} {x y : V} {H : Hp} {Q : VK} (h : OpR X f r) (q : r x y H Q) : wOp X f x y H Q := fun pins s σ v u I r1 r2 => h pins s σ H x y v u Q I r1 r2 q
def wUn (X : Cx) (f : Value → Sem Value) : V → Hp → VK → Prop := fun x H Q => ∀ pins s σ v, Inv X pins σ H s → RelV x v → wpAny (model X.prog X.w) X.A (f v) (EP X pins σ Q) X.xe s
theorem un_w {X : Cx} {f : Value → Sem Value} : UnR X f (wUn X f) := fun pins s σ _ _ v _ I r h => h pins s σ v I r
theorem wUn_of {X : Cx} {f : Value → Sem Value} {r : V → Hp → VK → Prop} {x : V} {H : Hp} {Q : VK} (h : UnR X f r) (q : r x H Q) : wUn X f x H Q := fun pins s σ v I r1 => h pins s σ H x v Q I r1 q
def wCall (X : Cx) (f : Value) : List V → Hp → VK → Prop := fun xs H Q => ∀ pins s σ us, Inv X pins σ H s → Vals xs us → wpAny (model X.prog X.w) X.A (call f us) (EP X pins σ Q) X.xe s
theorem call_w {X : Cx} {f : Value} : CallR X f (wCall X f) := fun pins s σ _ _ us _ I r h => h pins s σ us I r
theorem wCall_of {X : Cx} {f : Value} {r : List V → Hp → VK → Prop} {xs : List V} {H : Hp} {Q : VK} (h : CallR X f r) (q : r xs H Q) : wCall X f xs H Q := fun pins s σ us I r1 => h pins s σ H xs us Q I r1 q

/-! ### a op b -/
def bopD : Operator → D → D → List O → QS → Prop
  | .Add, .int i, .int j, ω, Q => Q (.d (.int (i + j))) ω
  | .Add, .int i, .bool j, ω, Q => Q (.d (.int (i + b2i j))) ω
  | .Add, .str a, .str b, ω, Q => a.length + b.length ≤ sizeLine ∧ Q (.d (.str (a ++ b))) ω
  | .Add, .list a, .list b, ω, Q => newL (a ++ b) ω Q
  | .Sub, .int i, .int j, ω, Q => Q (.d (.int (i - j))) ω
  | .Mult, .int i, .int j, ω, Q => CMulX i j ∧ Q (.d (.int (i * j))) ω
  | .Mult, .list a, .int k, ω, Q => (k < 2 ^ 63 ∧ -(2 ^ 63) ≤ k) ∧ newL (List.replicate k.toNat a).flatten ω Q
  | .FloorDiv, .int i, .int j, ω, Q => CDivW i j ∧ Q (.d (.int (i / j))) ω
  | .Mod, .int i, .int j, ω, Q => 0 < j ∧ Q (.d (.int (i % j))) ω
  | .Pow, .int i, .int j, ω, Q => CPow i j ∧ Q (.d (.int (i ^ j.toNat))) ω
  | .LShift, .int i, .int j, ω, Q => CShl i j ∧ Q (.d (.int (i * 2 ^ j.toNat))) ω
  | .RShift, .int i, .int j, ω, Q => 0 ≤ j ∧ Q (.d (.int (i / 2 ^ j.toNat))) ω
  | .BitAnd, .int i, .int j, ω, Q => Q (.d (.int (Builtin.bitAnd i j))) ω
  | .BitOr, .int i, .int j, ω, Q => Q (.d (.int (Builtin.bitOr i j))) ω
  | .BitXor, .int i, .int j, ω, Q => Q (.d (.int (Builtin.bitXor i j))) ω
  | _, _, _, _, _ => False
def bopS0 (op : Operator) (s t : S) (ω : List O) (Q : QS) : Prop := match vw ω s, vw ω t with
  | some d, some e => bopD op d e ω Q
  | _, _ => False
structure bopS (op : Operator) (s t : S) (ω : List O) (Q : QS) : Prop where
  h : bopS0 op s t ω Q
theorem DatL.rep {K : PySem.W.Frag} {G : Hp} {vs : List V} {ds : List D} (h : DatL K G vs ds) : ∀ n : Nat, DatL K G (List.replicate n vs).flatten (List.replicate n ds).flatten
  | 0 => .nil
  | n + 1 => by
    rw [List.replicate_succ, List.replicate_succ, List.flatten_cons, List.flatten_cons]
    exact h.append (DatL.rep h n)
section
variable {Y : Cy} {G H : Hp} {as : List Addr} {ω : List O} {τ : Tau} {Q : QS} {x y : V} {d e : D} {op : Operator}
theorem bop_ok (o : Ok Y.X.K Y.T G H as ω) (hx : Vw Y.X.K G H x d) (hy : Vw Y.X.K G H y e) (q : bopD op d e ω Q) : wOp Y.X (binaryOp op) x y H (Fin1 Y G as Q) := by
  unfold bopD at q
  split at q
  · cases hx; cases hy; exact wOp_of op_add ⟨_, _, rfl, rfl, fin_d o (.int _) q⟩
  · cases hx; cases hy; exact wOp_of op_add_ib ⟨_, _, rfl, rfl, fin_d o (.int _) q⟩
  · cases hx; cases hy; exact wOp_of op_add_str ⟨_, _, rfl, rfl, q.1, fin_d o (.str _) q.2⟩
  · obtain ⟨a, xs, rfl, h1, r1⟩ := hx
    obtain ⟨b, ys, rfl, h2, r2⟩ := hy
    refine wOp_of op_cat ⟨a, b, xs, ys, rfl, rfl, h1, h2, ?_, fun p hp => fin_newL o hp (r1.append r2) q⟩
    have := q.len
    rw [r1.length, r2.length]; simpa using this
  · cases hx; cases hy; exact wOp_of op_sub ⟨_, _, rfl, rfl, fin_d o (.int _) q⟩
  · cases hx; cases hy; exact wOp_of op_mulX ⟨_, _, rfl, rfl, q.1, fin_d o (.int _) q.2⟩
  · obtain ⟨a, xs, rfl, h1, r1⟩ := hx
    cases hy
    rename_i ds k
    refine wOp_of op_rep ⟨a, k, xs, rfl, rfl, h1, q.1.2, q.1.1, ?_, fun p hp => fin_newL o hp (r1.rep _) q.2⟩
    have := q.2.len
    rw [← (r1.rep k.toNat).length] at this
    have e : (List.replicate k.toNat xs).flatten.length = xs.length * k.toNat := by simp [Nat.mul_comm]
    omega
  · cases hx; cases hy; exact wOp_of op_fdivW ⟨_, _, rfl, rfl, q.1, fin_d o (.int _) q.2⟩
  · cases hx; cases hy; exact wOp_of op_mod ⟨_, _, rfl, rfl, q.1, fin_d o (.int _) q.2⟩
  · cases hx; cases hy; exact wOp_of op_pow ⟨_, _, rfl, rfl, q.1, fin_d o (.int _) q.2⟩
  · cases hx; cases hy; exact wOp_of op_shlW ⟨_, _, rfl, rfl, q.1, fin_d o (.int _) q.2⟩
  · cases hx; cases hy; exact wOp_of op_shr ⟨_, _, rfl, rfl, q.1, fin_d o (.int _) q.2⟩
  · cases hx; cases hy; exact wOp_of op_and ⟨_, _, rfl, rfl, fin_d o (.int _) q⟩
  · cases hx; cases hy; exact wOp_of op_or ⟨_, _, rfl, rfl, fin_d o (.int _) q⟩
  · cases hx; cases hy; exact wOp_of op_xor ⟨_, _, rfl, rfl, fin_d o (.int _) q⟩
  · exact q.elim
theorem bopS_ok {s t : S} (o : Ok Y.X.K Y.T G H as ω) (hx : SRel Y.X.K G as x s) (hy : SRel Y.X.K G as y t) (q : bopS op s t ω Q) : wOp Y.X (binaryOp op) x y H (Fin1 Y G as Q) := by
  obtain ⟨q⟩ := q
  unfold bopS0 at q
  split at q
  · rename_i d e h1 h2
    exact bop_ok o (vw_ok o hx h1) (vw_ok o hy h2) q
  · exact q.elim
/-- two expressions, then a rule by values -/
theorem two_ok {a b : Expr} {R : S → S → List O → Prop} {F : V → V → Hp → VK → Prop} (h : WE Y a τ ω fun s ω1 => WE Y b τ ω1 fun t ω2 => R s t ω2)
    (hF : ∀ {G as H ω x y s t}, Base Y G as → Ok Y.X.K Y.T G H as ω → SRel Y.X.K G as x s → SRel Y.X.K G as y t → R s t ω → F x y H (Fin1 Y G as Q))
    (mono : ∀ {x y H} {Q Q' : VK}, F x y H Q → (∀ v H', Q v H' → Q' v H') → F x y H Q')
    {σ : L2.St} (b0 : Base Y G as) (o : Ok Y.X.K Y.T G H as ω) (l : SlR Y.X.K G as σ τ) :
    wE Y.X a σ H fun x H1 => wE Y.X b σ H1 fun y H2 => F x y H2 (Fin1 Y G as Q) := by
  refine (h G as H σ b0 o l).mono fun x H1 ⟨G1, as1, ω1, g1, p1, o1, s, r, q⟩ => ?_
  refine (q G1 as1 H1 σ (b0.go g1 p1) o1 (l.mono g1 p1)).mono fun y H2 ⟨G2, as2, ω2, g2, p2, o2, t, r2, q2⟩ => ?_
  exact mono (hF ((b0.go g1 p1).go g2 p2) o2 (r.mono g2 p2) r2 q2) fun v H' g => Go.back (g1.trans g2) (p1.trans p2) g
theorem wOp.mono {X : Cx} {f : Value → Value → Sem Value} {x y : V} {H : Hp} {Q Q' : VK} (h : wOp X f x y H Q) (k : ∀ v H', Q v H' → Q' v H') : wOp X f x y H Q' := fun pins s σ v u I r1 r2 => thn (h pins s σ v u I r1 r2) fun _ _ ⟨v, H', I', r, q⟩ => ⟨v, H', I', r, k v H' q⟩
theorem wUn.mono {X : Cx} {f : Value → Sem Value} {x : V} {H : Hp} {Q Q' : VK} (h : wUn X f x H Q) (k : ∀ v H', Q v H' → Q' v H') : wUn X f x H Q' := fun pins s σ v I r1 => thn (h pins s σ v I r1) fun _ _ ⟨v, H', I', r, q⟩ => ⟨v, H', I', r, k v H' q⟩
theorem wCall.mono {X : Cx} {f : Value} {x : List V} {H : Hp} {Q Q' : VK} (h : wCall X f x H Q) (k : ∀ v H', Q v H' → Q' v H') : wCall X f x H Q' := fun pins s σ v I r1 => thn (h pins s σ v I r1) fun _ _ ⟨v, H', I', r, q⟩ => ⟨v, H', I', r, k v H' q⟩
theorem WE_bin {a b : Expr} {pos : Pos} (h : WE Y a τ ω fun s ω1 => WE Y b τ ω1 fun t ω2 => bopS op s t ω2 Q) : WE Y (.BinOp a op b pos) τ ω Q := .mk fun G as H σ b0 o l =>
  wE_of (pe_op op_w pe_w pe_w) (two_ok (F := wOp Y.X (binaryOp op)) h (fun _ o r1 r2 q => bopS_ok o r1 r2 q) (fun h k => h.mono k) b0 o l)

/-! ### one-place -/
def unD : UnaryOp → D → List O → QS → Prop
  | .USub, .int i, ω, Q => Q (.d (.int (-i))) ω
  | .Invert, .int i, ω, Q => Q (.d (.int (Builtin.bitNot i))) ω
  | _, _, _, _ => False
def unS0 (op : UnaryOp) (s : S) (ω : List O) (Q : QS) : Prop := match s with
  | .d x => unD op x ω Q
  | _ => False
structure unS (op : UnaryOp) (s : S) (ω : List O) (Q : QS) : Prop where
  h : unS0 op s ω Q
theorem WE_un {a : Expr} {op : UnaryOp} {pos : Pos} (h : WE Y a τ ω fun s ω1 => unS op s ω1 Q) : WE Y (.UnaryOp op a pos) τ ω Q := .mk fun G as H σ b0 o l => by
  refine wE_of (pe_un un_w pe_w) ((h G as H σ b0 o l).mono fun x H1 ⟨G1, as1, ω1, g1, p1, o1, s, r, q⟩ => ?_)
  refine wUn.mono (Q := Fin1 Y G1 as1 Q) ?_ fun v H' g => Go.back g1 p1 g
  obtain ⟨q⟩ := q
  cases s with
  | o k => exact q.elim
  | d x =>
    unfold unS0 unD at q
    simp only at q
    split at q
    · cases r; exact wUn_of un_neg ⟨_, rfl, fin_d o1 (.int _) q⟩
    · cases r; exact wUn_of un_inv ⟨_, rfl, fin_d o1 (.int _) q⟩
    · exact q.elim
end
end Z

set_option Elab.async false
set_option linter.all false
set_option maxRecDepth 100000
/-! # E: comparisons, tests -/
namespace Z
open PySem PySem.Spec PyProof.Rows L2 LamX

mutual
def py : D → PyData
  | .none => .none | .bool b => .bool b | .int i => .int i | .str s => .str s
  | .list xs => .list (pyL xs) | .tup xs => .tuple (pyL xs)
  | .scr _ => .none | .dict _ => .none | .rng _ _ => .none | .ins _ _ => .none | .exc _ _ => .none | .ref _ => .none | .ty _ => .none
def pyL : List D → List PyData
  | [] => []
  | x :: r => py x :: pyL r
end
mutual
def isPy : D → Bool
  | .none => true | .bool _ => true | .int _ => true | .str _ => true
  | .list xs => isPyL xs | .tup xs => isPyL xs
  | .scr _ => false | .dict _ => false | .rng _ _ => false | .ins _ _ => false | .exc _ _ => false | .ref _ => false | .ty _ => false
def isPyL : List D → Bool
  | [] => true
  | x :: r => isPy x && isPyL r
end
section
variable {K : PySem.W.Frag} {G H : Hp}
mutual
theorem Dat.dp (e : Same G H) {v : V} {d : D} (h : Dat K G v d) (hp : isPy d = true) : Dp K H v (py d) := by
  cases h with
  | none => exact .non
  | bool b => exact .bl b
  | int i => exact .int i
  | str x => exact .str x
  | list h1 h2 => exact .lst (SqL.of (e _ _ h1)) (DatL.dp e h2 hp)
  | tup h1 h2 => exact .tup (sqt_mono e h1) (DatL.dp e h2 hp)
  | scr h1 => cases hp
  | dict h1 h2 => cases hp
  | rng h1 => cases hp
  | ins h1 h2 => cases hp
  | exc h1 h0 h2 => cases hp
  | ref a => cases hp
  | ty n => cases hp
theorem DatL.dp (e : Same G H) {v : List V} {d : List D} (h : DatL K G v d) (hp : isPyL d = true) : DpAll K H v (pyL d) := by
  cases h with
  | nil => exact .nil
  | cons h1 h2 =>
    have q := Bool.and_eq_true_iff.mp (show (isPy _ && isPyL _) = true from hp)
    exact .cons (Dat.dp e h1 q.1) (DatL.dp e h2 q.2)
end
theorem Vw.dp (e : Same G H) {v : V} {d : D} (h : Vw K G H v d) (hp : isPy d = true) : Dp K H v (py d) := by
  cases d with
  | list ds => obtain ⟨a, xs, rfl, h1, h2⟩ := h; exact .lst (SqL.of h1) (h2.dp e hp)
  | dict ds => cases hp
  | _ => exact Dat.dp e h hp
end
/-- plain data that may be compared as a whole -/
def okD (d : D) : Prop := isPy d = true ∧ SeqAt.shaped (py d) = true
def eqD (d e : D) : Bool := PyData.eqv (py d) (py e)
/-- the keys of dicts -/
def keyD : D → Option Key
  | .int i => some (.inl i)
  | .str s => some (.inr s)
  | _ => none

def dlook (ks : List (Key × D)) (k : Key) : Option D := (ks.find? fun kv => decide (kv.1 = k)).map (·.2)
abbrev QB := Bool → Prop
def isND : D → Bool
  | .none => true
  | _ => false
def cmpD : CmpOp → D → D → QB → Prop
  | .Lt, .int i, .int j, Q => Q (decide (i < j))
  | .LtE, .int i, .int j, Q => Q (decide (i ≤ j))
  | .Gt, .int i, .int j, Q => Q (decide (j < i))
  | .GtE, .int i, .int j, Q => Q (decide (j ≤ i))
  | .Eq, .int i, .int j, Q => Q (decide (i = j))
  | .NotEq, .int i, .int j, Q => Q (!decide (i = j))
  | .Eq, .str i, .str j, Q => Q (decide (i = j))
  | .NotEq, .str i, .str j, Q => Q (!decide (i = j))
  | .Eq, d, e, Q => okD d ∧ okD e ∧ Q (eqD d e)
  | .NotEq, d, e, Q => okD d ∧ okD e ∧ Q (!eqD d e)
  | .Is, d, .none, Q => Q (isND d)
  | .IsNot, d, .none, Q => Q (!isND d)
  | .Is, .bool a, .bool b, Q => Q (decide (a = b))
  | .IsNot, .bool a, .bool b, Q => Q (!decide (a = b))
  | .In, d, .list xs, Q => okD d ∧ okD (.list xs) ∧ Q (xs.any fun z => eqD z d)
  | .NotIn, d, .list xs, Q => okD d ∧ okD (.list xs) ∧ Q (!xs.any fun z => eqD z d)
  | .In, .int i, .dict ks, Q => Q ((dlook ks (.inl i)).isSome)
  | .In, .str i, .dict ks, Q => Q ((dlook ks (.inr i)).isSome)
  | .NotIn, .int i, .dict ks, Q => Q (!(dlook ks (.inl i)).isSome)
  | .NotIn, .str i, .dict ks, Q => Q (!(dlook ks (.inr i)).isSome)
  | .In, .str i, .str j, Q => Q (!(Builtin.Str.occurrences j i 0 j.length 1).isEmpty)
  | .NotIn, .str i, .str j, Q => Q (!(!(Builtin.Str.occurrences j i 0 j.length 1).isEmpty))
  | .In, .int i, .rng lo hi, Q => Q (decide (lo ≤ i ∧ i < hi))
  | _, _, _, _ => False
def cmpS0 (op : CmpOp) (s t : S) (ω : List O) (Q : QB) : Prop := match vw ω s, vw ω t with
  | some d, some e => cmpD op d e Q
  | _, _ => False
structure cmpS (op : CmpOp) (s t : S) (ω : List O) (Q : QB) : Prop where
  h : cmpS0 op s t ω Q


theorem valV_look {K : PySem.W.Frag} {G : Hp} : ∀ {kvs : List (Key × V)} {ks : List (Key × D)}, DatK K G kvs ks → ∀ k : Key, (∃ v d, valV kvs k = some v ∧ dlook ks k = some d ∧ Dat K G v d) ∨ (valV kvs k = none ∧ dlook ks k = none)
  | _, _, .nil, k => .inr ⟨rfl, rfl⟩
  | _, _, .cons (k := c) h r, k => by
    have ih := valV_look r k
    by_cases e : c = k
    · refine .inl ⟨_, _, ?_, ?_, h⟩ <;> simp [valV, dlook, e]
    · have e1 : decide (c = k) = false := decide_eq_false e
      simpa only [valV, dlook, List.find?_cons, e1] using ih
theorem valV_isSome {K : PySem.W.Frag} {G : Hp} {kvs : List (Key × V)} {ks : List (Key × D)} (r : DatK K G kvs ks) (k : Key) : (valV kvs k).isSome = (dlook ks k).isSome := by
  rcases valV_look r k with ⟨v, d, h1, h2, _⟩ | ⟨h1, h2⟩ <;> rw [h1, h2] <;> rfl
theorem isN_dec {K : PySem.W.Frag} {G H : Hp} {x : V} {d : D} (h : Vw K G H x d) : decide (x = .non) = isND d := by
  cases d with
  | list ds => obtain ⟨a, xs, rfl, _⟩ := h; rfl
  | dict ds => obtain ⟨a, xs, rfl, _⟩ := h; rfl
  | none => cases h; rfl
  | bool b => cases h; exact decide_eq_false (fun z => nomatch z)
  | int b => cases h; exact decide_eq_false (fun z => nomatch z)
  | str b => cases h; exact decide_eq_false (fun z => nomatch z)
  | scr b => cases h; exact decide_eq_false (fun z => nomatch z)
  | tup b => cases h; exact decide_eq_false (fun z => nomatch z)
  | rng b c => cases h; exact decide_eq_false (fun z => nomatch z)
  | ins b c => cases h; exact decide_eq_false (fun z => nomatch z)
  | exc b c => cases h; exact decide_eq_false (fun z => nomatch z)
  | ref b => cases h; exact decide_eq_false (fun z => nomatch z)
  | ty b => cases h; exact decide_eq_false (fun z => nomatch z)
section
variable {X : Cx}
theorem op_din (hu : X.A.units + 1 < cLine) : OpR X (compareOp .In) (fun x y H Q => ∃ a r, y = .ref a ∧ DGet H a x r ∧ Q (.bl r.isSome) H) := by
  intro pins s σ H x y v u Q I rx ry h
  obtain ⟨a, r, rfl, g, q⟩ := h
  cases ry
  exact d_in hu I g rx fun s' I' => ⟨.bl _, H, I', rfl, q⟩
theorem op_dnotIn (hu : X.A.units + 1 < cLine) : OpR X (compareOp .NotIn) (fun x y H Q => ∃ a r, y = .ref a ∧ DGet H a x r ∧ Q (.bl (!r.isSome)) H) := by
  intro pins s σ H x y v u Q I rx ry h
  obtain ⟨a, r, rfl, g, q⟩ := h
  cases ry
  exact d_notIn hu I g rx fun s' I' => ⟨.bl _, H, I', rfl, q⟩
end
theorem eqD_any (xs : List D) (d : D) : ((pyL xs).any fun z => PyData.eqv z (py d)) = xs.any fun z => eqD z d := by
  induction xs with
  | nil => rfl
  | cons x r ih =>
    show (PyData.eqv (py x) (py d) || (pyL r).any fun z => PyData.eqv z (py d)) = (eqD x d || r.any fun z => eqD z d)
    rw [ih]
    all_goals rfl
/-- there is room -/
structure Rm (Y : Cy) : Prop where
  un : Y.X.A.units + 100 < cLine
theorem rm_of {Y : Cy} {k : Nat} (h : Room k Y.X.A) : Rm Y := ⟨by have := h.un; omega⟩
section
variable {Y : Cy} {G H : Hp} {as : List Addr} {ω : List O} {τ : Tau} {x y : V} {d e : D} {op : CmpOp}
theorem cmp_ok (hu : Rm Y) (o : Ok Y.X.K Y.T G H as ω) (hx : Vw Y.X.K G H x d) (hy : Vw Y.X.K G H y e) {Q : QB} (q : cmpD op d e Q) : wOp Y.X (compareOp op) x y H (fun v H' => H' = H ∧ ∃ b, v = .bl b ∧ Q b) := by
  have hu := hu.un
  unfold cmpD at q
  split at q
  · cases hx; cases hy; exact wOp_of op_lt ⟨_, _, rfl, rfl, rfl, _, rfl, q⟩
  · cases hx; cases hy; exact wOp_of op_le ⟨_, _, rfl, rfl, rfl, _, rfl, q⟩
  · cases hx; cases hy; exact wOp_of op_gt ⟨_, _, rfl, rfl, rfl, _, rfl, q⟩
  · cases hx; cases hy; exact wOp_of op_ge ⟨_, _, rfl, rfl, rfl, _, rfl, q⟩
  · cases hx; cases hy; exact wOp_of op_eq ⟨rfl, rfl, _, rfl, by rw [dec_int, Bool.beq_eq_decide_eq]; exact q⟩
  · cases hx; cases hy; exact wOp_of op_ne ⟨rfl, rfl, _, rfl, by rw [dec_int, Bool.beq_eq_decide_eq]; exact q⟩
  · cases hx; cases hy; exact wOp_of op_eq ⟨rfl, rfl, _, rfl, by rw [dec_str, Bool.beq_eq_decide_eq]; exact q⟩
  · cases hx; cases hy; exact wOp_of op_ne ⟨rfl, rfl, _, rfl, by rw [dec_str, Bool.beq_eq_decide_eq]; exact q⟩
  · exact wOp_of (op_eqD (by omega)) ⟨_, _, hx.dp o.sub q.1.1, hy.dp o.sub q.2.1.1, q.1.2, q.2.1.2, rfl, _, rfl, q.2.2⟩
  · exact wOp_of (op_neD (by omega)) ⟨_, _, hx.dp o.sub q.1.1, hy.dp o.sub q.2.1.1, q.1.2, q.2.1.2, rfl, _, rfl, q.2.2⟩
  · have hn : y = .non := by cases hy; rfl
    exact wOp_of op_isN ⟨hn, rfl, _, rfl, by rw [isN_dec hx]; exact q⟩
  · have hn : y = .non := by cases hy; rfl
    exact wOp_of op_notN ⟨hn, rfl, _, rfl, by rw [isN_dec hx]; exact q⟩
  · cases hx; cases hy; exact wOp_of op_isBl ⟨_, _, rfl, rfl, rfl, _, rfl, q⟩
  · cases hx; cases hy; exact wOp_of op_notBl ⟨_, _, rfl, rfl, rfl, _, rfl, q⟩
  · exact wOp_of (op_inD (by omega)) ⟨_, _, hx.dp o.sub q.1.1, hy.dp o.sub q.2.1.1, q.1.2, q.2.1.2, rfl, _, rfl, by rw [eqD_any]; exact q.2.2⟩
  · exact wOp_of (op_notInD (by omega)) ⟨_, _, hx.dp o.sub q.1.1, hy.dp o.sub q.2.1.1, q.1.2, q.2.1.2, rfl, _, rfl, by rw [eqD_any]; exact q.2.2⟩
  · cases hx
    obtain ⟨a, kvs, rfl, h1, h2⟩ := hy
    exact wOp_of (op_din (by omega)) ⟨a, valV kvs (.inl _ : Key), rfl, .inl ⟨kvs, .inl _, h1, rfl, rfl⟩, rfl, _, rfl, by rw [valV_isSome h2]; exact q⟩
  · cases hx
    obtain ⟨a, kvs, rfl, h1, h2⟩ := hy
    exact wOp_of (op_din (by omega)) ⟨a, valV kvs (.inr _ : Key), rfl, .inl ⟨kvs, .inr _, h1, rfl, rfl⟩, rfl, _, rfl, by rw [valV_isSome h2]; exact q⟩
  · cases hx
    obtain ⟨a, kvs, rfl, h1, h2⟩ := hy
    exact wOp_of (op_dnotIn (by omega)) ⟨a, valV kvs (.inl _ : Key), rfl, .inl ⟨kvs, .inl _, h1, rfl, rfl⟩, rfl, _, rfl, by rw [valV_isSome h2]; exact q⟩
  · cases hx
    obtain ⟨a, kvs, rfl, h1, h2⟩ := hy
    exact wOp_of (op_dnotIn (by omega)) ⟨a, valV kvs (.inr _ : Key), rfl, .inl ⟨kvs, .inr _, h1, rfl, rfl⟩, rfl, _, rfl, by rw [valV_isSome h2]; exact q⟩
  · cases hx; cases hy; exact wOp_of op_in_str ⟨_, _, rfl, rfl, rfl, _, rfl, q⟩
  · cases hx; cases hy; exact wOp_of op_notin_str ⟨_, _, rfl, rfl, rfl, _, rfl, q⟩
  · cases hx
    cases hy with
    | rng h1 => exact wOp_of op_in_rng ⟨_, _, _, _, rfl, rfl, o.sub _ _ h1, rfl, _, rfl, q⟩
  · exact q.elim
theorem cmpS_ok (hu : Rm Y) {s t : S} (o : Ok Y.X.K Y.T G H as ω) (hx : SRel Y.X.K G as x s) (hy : SRel Y.X.K G as y t) {Q : QB} (q : cmpS op s t ω Q) : wOp Y.X (compareOp op) x y H (fun v H' => H' = H ∧ ∃ b, v = .bl b ∧ Q b) := by
  obtain ⟨q⟩ := q
  unfold cmpS0 at q
  split at q
  · rename_i d e h1 h2
    exact cmp_ok hu o (vw_ok o hx h1) (vw_ok o hy h2) q
  · exact q.elim
end
end Z

set_option Elab.async false
set_option linter.all false
set_option maxRecDepth 100000
/-! # F: tests, and, or, not, if-else -/
namespace Z
open PySem PySem.Spec PyProof.Rows L2 LamX

def truD : D → QB → Prop
  | .none, Q => Q false
  | .bool b, Q => Q b
  | .int i, Q => Q (i != 0)
  | .str y, Q => y.length ≤ sizeLine ∧ Q ((y.length : Int) != 0)
  | .list xs, Q => Q (!xs.isEmpty)
  | .tup xs, Q => Q (!xs.isEmpty)
  | _, _ => False
def truS0 (s : S) (ω : List O) (Q : QB) : Prop := match vw ω s with
  | some d => truD d Q
  | _ => False
structure truS (s : S) (ω : List O) (Q : QB) : Prop where
  h : truS0 s ω Q
theorem isEmptyL {K : PySem.W.Frag} {G : Hp} {vs : List V} {ds : List D} (h : DatL K G vs ds) : vs.isEmpty = ds.isEmpty := by cases h <;> rfl
section
variable {Y : Cy} {G H : Hp} {as : List Addr} {ω : List O} {τ : Tau} {x y : V} {d e : D} {op : CmpOp} {a b c : Expr} {pos : Pos}
theorem truS_ok {s : S} (o : Ok Y.X.K Y.T G H as ω) (hx : SRel Y.X.K G as x s) {Q : QB} (q : truS s ω Q) : ∃ k, TruV Y.X.K x H k ∧ Q k := by
  obtain ⟨q⟩ := q
  unfold truS0 at q
  split at q
  · rename_i d h1
    have v := vw_ok o hx h1
    unfold truD at q
    split at q
    · cases v; exact ⟨_, rfl, q⟩
    · cases v; exact ⟨_, rfl, q⟩
    · cases v; exact ⟨_, rfl, q⟩
    · cases v; exact ⟨_, ⟨q.1, rfl⟩, q.2⟩
    · obtain ⟨p, xs, rfl, h1, h2⟩ := v
      exact ⟨_, .inl ⟨xs, SqL.of h1, rfl⟩, by rw [isEmptyL h2]; exact q⟩
    · cases v with
      | tup h1 h2 => exact ⟨_, .inr (.inl ⟨_, sqt_mono o.sub h1, rfl⟩), by rw [isEmptyL h2]; exact q⟩
    · exact q.elim
  · exact q.elim
/-! ### comparisons -/
theorem WE_cmp (hu : Rm Y) {Q : QS} (h : WE Y a τ ω fun s ω1 => WE Y b τ ω1 fun t ω2 => cmpS op s t ω2 fun k => Q (.d (.bool k)) ω2)
    (hm : behindInMarks op b = false := by first | exact nobehind _ (by decide) (by decide) | rfl) : WE Y (.Compare a [op] [b] pos) τ ω Q := .mk fun G as H σ b0 o l =>
  wE_of (pe_cmpR op_w pe_w pe_w hm) (two_ok (F := wOp Y.X (compareOp op)) h (fun _ o r1 r2 q => (cmpS_ok hu o r1 r2 q).mono fun v H' ⟨e, k, ev, q'⟩ => by
    subst e; subst ev; exact fin_d o (.bool k) q') (fun h k => h.mono k) b0 o l)
theorem WT_cmp (hu : Rm Y) {Q : Bool → List O → Prop} (h : WE Y a τ ω fun s ω1 => WE Y b τ ω1 fun t ω2 => cmpS op s t ω2 fun k => Q k ω2)
    (hm : behindInMarks op b = false := by first | exact nobehind _ (by decide) (by decide) | rfl) : WT Y (.Compare a [op] [b] pos) τ ω Q := .mk fun G as H σ b0 o l => by
  refine wT_of (pt_cmpR op_w pe_w pe_w hm) ?_
  have k := two_ok (Q := fun s ω => ∃ k, s = .d (.bool k) ∧ Q k ω) (F := wOp Y.X (compareOp op)) h (fun {G as H ω x y s t} _ o r1 r2 q => (cmpS_ok hu o r1 r2 q).mono fun v H' ⟨e, k, ev, q'⟩ => by
    subst e; subst ev; exact fin_d o (.bool k) ⟨k, rfl, q'⟩) (fun h k => h.mono k) b0 o l
  refine wE.mono k fun x H1 h1 => wE.mono h1 fun y H2 h2 => wOp.mono h2 fun v H3 h3 => ?_
  obtain ⟨G', as', ω', g, p, o', s, r, k, e, q⟩ := h3
  subst e
  cases r
  exact ⟨k, rfl, G', as', ω', g, p, o', q⟩
theorem WE_chain (hu : Rm Y) {op' : CmpOp} {Q : QS} (h : WE Y a τ ω fun s ω1 => WE Y b τ ω1 fun t ω2 => cmpS op s t ω2 fun k => if k = true then WE Y c τ ω2 fun u ω3 => cmpS op' t u ω3 fun k' => Q (.d (.bool k')) ω3 else Q (.d (.bool false)) ω2)
    (hm : lastMarks [op, op'] [b, c] = false := by with_unfolding_all rfl) : WE Y (.Compare a [op, op'] [b, c] pos) τ ω Q := .mk fun G as H σ b0 o l => by
  refine wE_of (pe_chain op_w op_w pe_w pe_w pe_w hm) ?_
  refine (h G as H σ b0 o l).mono fun x H1 ⟨G1, as1, ω1, g1, p1, o1, s, r, q⟩ => ?_
  refine (q G1 as1 H1 σ (b0.go g1 p1) o1 (l.mono g1 p1)).mono fun y H2 ⟨G2, as2, ω2, g2, p2, o2, t, r2, q2⟩ => ?_
  refine (cmpS_ok hu o2 (r.mono g2 p2) r2 q2).mono fun v H3 ⟨e3, k, ev, q3⟩ => ?_
  subst e3
  refine ⟨k, ev, ?_⟩
  cases k with
  | false => exact Go.back (g1.trans g2) (p1.trans p2) (fin_d o2 (.bool false) q3)
  | true =>
    rw [if_pos rfl] at q3
    refine (q3 G2 as2 H3 σ ((b0.go g1 p1).go g2 p2) o2 ((l.mono g1 p1).mono g2 p2)).mono fun z H4 ⟨G4, as4, ω4, g4, p4, o4, u, r4, q4⟩ => ?_
    refine (cmpS_ok hu o4 (r2.mono g4 p4) r4 q4).mono fun v H5 ⟨e5, k, ev, q5⟩ => ?_
    subst e5; subst ev
    exact Go.back ((g1.trans g2).trans g4) ((p1.trans p2).trans p4) (fin_d o4 (.bool k) q5)
theorem WT_chain (hu : Rm Y) {op' : CmpOp} {Q : Bool → List O → Prop} (h : WE Y a τ ω fun s ω1 => WE Y b τ ω1 fun t ω2 => cmpS op s t ω2 fun k => if k = true then WE Y c τ ω2 fun u ω3 => cmpS op' t u ω3 fun k' => Q k' ω3 else Q false ω2)
    (hm : lastMarks [op, op'] [b, c] = false := by with_unfolding_all rfl) : WT Y (.Compare a [op, op'] [b, c] pos) τ ω Q := .mk fun G as H σ b0 o l => by
  refine wT_of (pt_chain op_w op_w pe_w pe_w pe_w hm) ?_
  refine (h G as H σ b0 o l).mono fun x H1 ⟨G1, as1, ω1, g1, p1, o1, s, r, q⟩ => ?_
  refine (q G1 as1 H1 σ (b0.go g1 p1) o1 (l.mono g1 p1)).mono fun y H2 ⟨G2, as2, ω2, g2, p2, o2, t, r2, q2⟩ => ?_
  refine (cmpS_ok hu o2 (r.mono g2 p2) r2 q2).mono fun v H3 ⟨e3, k, ev, q3⟩ => ?_
  subst e3
  refine ⟨k, ev, ?_⟩
  cases k with
  | false => exact ⟨false, rfl, Go.back (g1.trans g2) (p1.trans p2) (Go.here o2 q3)⟩
  | true =>
    rw [if_pos rfl] at q3
    refine (q3 G2 as2 H3 σ ((b0.go g1 p1).go g2 p2) o2 ((l.mono g1 p1).mono g2 p2)).mono fun z H4 ⟨G4, as4, ω4, g4, p4, o4, u, r4, q4⟩ => ?_
    refine (cmpS_ok hu o4 (r2.mono g4 p4) r4 q4).mono fun v H5 ⟨e5, k, ev, q5⟩ => ?_
    subst e5; subst ev
    exact ⟨k, rfl, Go.back ((g1.trans g2).trans g4) ((p1.trans p2).trans p4) (Go.here o4 q5)⟩
/-! ### an expression as a test -/
theorem WT_truth {Q : Bool → List O → Prop} (h : WE Y a τ ω fun s ω1 => truS s ω1 fun k => Q k ω1)
    (he : ∀ whole, isTrue a Y.X.env whole = (do let v ← whole; standAt a.pos; holding [v] (truthy v)) := by intro _; rfl) : WT Y a τ ω Q := .mk fun G as H σ b0 o l => by
  refine wT_of (pt_truth pe_w he) ((h G as H σ b0 o l).mono fun x H1 ⟨G1, as1, ω1, g1, p1, o1, s, r, q⟩ => ?_)
  obtain ⟨k, tk, q⟩ := truS_ok o1 r q
  exact ⟨k, tk, G1, as1, ω1, g1, p1, o1, q⟩
theorem WT_not {Q : Bool → List O → Prop} (h : WT Y a τ ω fun k ω1 => Q (!k) ω1) : WT Y (.UnaryOp .Not a pos) τ ω Q := .mk fun G as H σ b0 o l =>
  wT_of (pt_not pt_w) ((h G as H σ b0 o l).mono fun k H1 g => g)
/-- whatever the whole is -/
def WW0 (Y : Cy) (e : Expr) (τ : Tau) (ω : List O) (Q : Bool → List O → Prop) : Prop :=
  ∀ G as H σ, Base Y G as → Ok Y.X.K Y.T G H as ω → SlR Y.X.K G as σ τ → ∀ (whole : Sem Value) pins s, Inv Y.X pins σ H s → wpAny (model Y.X.prog Y.X.w) Y.X.A (isTrue e Y.X.env whole) (TP Y.X pins σ fun b H' => Go Y G as H' fun _ _ ω' => Q b ω') Y.X.xe s
structure WW (Y : Cy) (e : Expr) (τ : Tau) (ω : List O) (Q : Bool → List O → Prop) : Prop where
  run : WW0 Y e τ ω Q
instance {Y : Cy} {e : Expr} {τ : Tau} {ω : List O} {Q : Bool → List O → Prop} : CoeFun (WW Y e τ ω Q) (fun _ => WW0 Y e τ ω Q) := ⟨fun h => h.run⟩
def wWh (X : Cx) (e : Expr) : TT := fun σ H Q => ∀ (whole : Sem Value) pins s, Inv X pins σ H s → wpAny (model X.prog X.w) X.A (isTrue e X.env whole) (TP X pins σ Q) X.xe s
theorem pw_w {X : Cx} {e : Expr} : PW X e (wWh X e) := ⟨fun wh pins s σ H Q I h => h wh pins s I⟩
theorem wWh_of {X : Cx} {e : Expr} {t : TT} {σ : L2.St} {H : Hp} {Q : Bool → Hp → Prop} (h : PW X e t) (q : t σ H Q) : wWh X e σ H Q := fun wh pins s I => h.run wh pins s σ H Q I q
theorem wWh.mono {X : Cx} {e : Expr} {σ : L2.St} {H : Hp} {Q Q' : Bool → Hp → Prop} (h : wWh X e σ H Q) (k : ∀ v H', Q v H' → Q' v H') : wWh X e σ H Q' := fun wh pins s I => thn (h wh pins s I) fun b _ ⟨H', I', q⟩ => ⟨H', I', k b H' q⟩
theorem WW_and1 {Q : Bool → List O → Prop} (h : WT Y a τ ω Q) : WW Y (.BoolOp .And [a] pos) τ ω Q := .mk fun G as H σ b0 o l => wWh_of (pw_and1 pt_w) (h G as H σ b0 o l)
theorem WW_or1 {Q : Bool → List O → Prop} (h : WT Y a τ ω Q) : WW Y (.BoolOp .Or [a] pos) τ ω Q := .mk fun G as H σ b0 o l => wWh_of (pw_or1 pt_w) (h G as H σ b0 o l)
theorem WW_and {rest : List Expr} {Q : Bool → List O → Prop} (h : WT Y a τ ω fun k ω1 => if k = true then WW Y (.BoolOp .And (b :: rest) pos) τ ω1 Q else Q false ω1) : WW Y (.BoolOp .And (a :: b :: rest) pos) τ ω Q := .mk fun G as H σ b0 o l => by
  refine wWh_of (pw_and pt_w pw_w) ((h G as H σ b0 o l).mono fun k H1 ⟨G1, as1, ω1, g1, p1, o1, q⟩ => ?_)
  cases k with
  | true => rw [if_pos rfl] at q; exact wWh.mono (q G1 as1 H1 σ (b0.go g1 p1) o1 (l.mono g1 p1)) fun _ _ g => Go.back g1 p1 g
  | false => exact ⟨G1, as1, ω1, g1, p1, o1, q⟩
theorem WW_or {rest : List Expr} {Q : Bool → List O → Prop} (h : WT Y a τ ω fun k ω1 => if k = true then Q true ω1 else WW Y (.BoolOp .Or (b :: rest) pos) τ ω1 Q) : WW Y (.BoolOp .Or (a :: b :: rest) pos) τ ω Q := .mk fun G as H σ b0 o l => by
  refine wWh_of (pw_or pt_w pw_w) ((h G as H σ b0 o l).mono fun k H1 ⟨G1, as1, ω1, g1, p1, o1, q⟩ => ?_)
  cases k with
  | false => rw [if_neg Bool.false_ne_true] at q; exact wWh.mono (q G1 as1 H1 σ (b0.go g1 p1) o1 (l.mono g1 p1)) fun _ _ g => Go.back g1 p1 g
  | true => exact ⟨G1, as1, ω1, g1, p1, o1, q⟩
theorem WT_bop {op : BoolOp} {es : List Expr} {Q : Bool → List O → Prop} (h : WW Y (.BoolOp op es pos) τ ω Q) : WT Y (.BoolOp op es pos) τ ω Q := .mk fun G as H σ b0 o l pins s I => h G as H σ b0 o l _ pins s I
/-! ### as values -/
theorem WE_one {op : BoolOp} {Q : QS} (h : WE Y a τ ω Q) : WE Y (.BoolOp op [a] pos) τ ω Q := .mk fun G as H σ b0 o l => wE_of (pe_one pe_w) (h G as H σ b0 o l)
theorem WE_and {rest : List Expr} {Q : QS} (h : WE Y a τ ω fun s ω1 => truS s ω1 fun k => if k = true then WE Y (.BoolOp .And (b :: rest) pos) τ ω1 Q else Q s ω1) : WE Y (.BoolOp .And (a :: b :: rest) pos) τ ω Q := .mk fun G as H σ b0 o l => by
  refine wE_of (pe_andT pe_w pe_w) ((h G as H σ b0 o l).mono fun x H1 ⟨G1, as1, ω1, g1, p1, o1, s, r, q⟩ => ?_)
  obtain ⟨k, tk, q⟩ := truS_ok o1 r q
  refine ⟨k, tk, ?_⟩
  cases k with
  | true => rw [if_pos rfl] at q; exact (q G1 as1 H1 σ (b0.go g1 p1) o1 (l.mono g1 p1)).mono fun _ _ g => Go.back g1 p1 g
  | false => exact ⟨G1, as1, ω1, g1, p1, o1, s, r, q⟩
theorem WE_or {rest : List Expr} {Q : QS} (h : WE Y a τ ω fun s ω1 => truS s ω1 fun k => if k = true then Q s ω1 else WE Y (.BoolOp .Or (b :: rest) pos) τ ω1 Q) : WE Y (.BoolOp .Or (a :: b :: rest) pos) τ ω Q := .mk fun G as H σ b0 o l => by
  refine wE_of (pe_orT pe_w pe_w) ((h G as H σ b0 o l).mono fun x H1 ⟨G1, as1, ω1, g1, p1, o1, s, r, q⟩ => ?_)
  obtain ⟨k, tk, q⟩ := truS_ok o1 r q
  refine ⟨k, tk, ?_⟩
  cases k with
  | false => rw [if_neg Bool.false_ne_true] at q; exact (q G1 as1 H1 σ (b0.go g1 p1) o1 (l.mono g1 p1)).mono fun _ _ g => Go.back g1 p1 g
  | true => exact ⟨G1, as1, ω1, g1, p1, o1, s, r, q⟩
theorem WE_not {Q : QS} (h : WE Y a τ ω fun s ω1 => truS s ω1 fun k => Q (.d (.bool (!k))) ω1) : WE Y (.UnaryOp .Not a pos) τ ω Q := .mk fun G as H σ b0 o l => by
  refine wE_of (pe_notT pe_w) ((h G as H σ b0 o l).mono fun x H1 ⟨G1, as1, ω1, g1, p1, o1, s, r, q⟩ => ?_)
  obtain ⟨k, tk, q⟩ := truS_ok o1 r q
  exact ⟨k, tk, G1, as1, ω1, g1, p1, o1, .d (.bool (!k)), .bool _, q⟩
theorem WE_ife {Q : QS} (h : WT Y c τ ω fun k ω1 => if k = true then WE Y a τ ω1 Q else WE Y b τ ω1 Q) : WE Y (.IfExp c a b pos) τ ω Q := .mk fun G as H σ b0 o l => by
  refine wE_of (pe_ifExp pt_w pe_w pe_w) ((h G as H σ b0 o l).mono fun k H1 ⟨G1, as1, ω1, g1, p1, o1, q⟩ => ?_)
  cases k with
  | true => rw [if_pos rfl] at q; exact (q G1 as1 H1 σ (b0.go g1 p1) o1 (l.mono g1 p1)).mono fun _ _ g => Go.back g1 p1 g
  | false => rw [if_neg Bool.false_ne_true] at q; exact (q G1 as1 H1 σ (b0.go g1 p1) o1 (l.mono g1 p1)).mono fun _ _ g => Go.back g1 p1 g
end
end Z

set_option Elab.async false
set_option linter.all false
set_option maxRecDepth 100000
/-! # G: defs: what they promise over data, calls -/
namespace Z
open PySem PySem.Spec PyProof.Rows L2 LamX

abbrev Spc := List S → List O → QS → (XD → List O → Prop) → Prop
/-- the fields of an exception lie in its dict -/
def ExcAt (K : PySem.W.Frag) (G : Hp) (dx : Addr) (x : XD) : Prop := ∃ fs, G dx = some (.xd fs) ∧ DatF K G fs x.fs
def toSp (K : PySem.W.Frag) (T : List (Addr × Str)) (n : Nat) (sp : Spc) : Sp := fun vs H Q E => ∃ G as ss ω Q0 E0, Ok K T G H as ω ∧ SRelL K G as vs ss ∧ ss.length = n ∧ sp ss ω Q0 E0 ∧
  (∀ s ω', Q0 s ω' → ∀ G' H' as' v, Same G G' → as <+: as' → Ok K T G' H' as' ω' → SRel K G' as' v s → Q v H') ∧
  (∀ x ω', E0 x ω' → ∀ G' H' as' dx, Same G G' → as <+: as' → Ok K T G' H' as' ω' → ExcAt K G' dx x → E (.ref x.C) (some dx) H')
/-- where the def stands: the world, the written part -/
structure Wd where
  P : Program
  w : World
  K : PySem.W.Frag
  mg : Str → Option Value
  base : Heap
  T : List (Addr × Str)
/-- the layer's FnOk, where no repr is under way -/
structure FnG (P : Program) (w : World) (K : PySem.W.Frag) (mg : Str → Option Value) (base : Heap) (k : Nat) (f : Addr) (fd : FuncData) (ps : List Str) (sp : Sp) : Prop where
  len : ∀ vs H Q E, sp vs H Q E → vs.length = ps.length
  run : ∀ (A : Around) (outer : List Env) (s : Shared) (H : Hp) (args : Args) (us : List Value) (vs : List V) (Q : VK) (E : XK), A.guards = some [] → Room k A → Env0 P w K mg base A outer s H → BindsTo s fd args (ps.zip us) → Vals vs us → sp vs H Q E →
    codeAny (model P w) A (.call (.ref f) args) (CR (L2.CX P w) outer P w H s Q E) s
theorem FnG.imp {P : Program} {w : World} {K : PySem.W.Frag} {mg : Str → Option Value} {base : Heap} {k : Nat} {f : Addr} {fd : FuncData} {ps : List Str} {sp sp' : Sp} (F : FnG P w K mg base k f fd ps sp)
    (h : ∀ vs H Q E, sp' vs H Q E → sp vs H Q E) : FnG P w K mg base k f fd ps sp' :=
  ⟨fun vs H Q E q => F.len vs H Q E (h _ _ _ _ q), fun A outer s H args us vs Q E hg hr he hb hv hs => F.run A outer s H args us vs Q E hg hr he hb hv (h _ _ _ _ hs)⟩
theorem FnG.mono {P : Program} {w : World} {K : PySem.W.Frag} {mg : Str → Option Value} {base : Heap} {j k : Nat} {f : Addr} {fd : FuncData} {ps : List Str} {sp : Sp} (F : FnG P w K mg base j f fd ps sp) (h : j ≤ k) :
    FnG P w K mg base k f fd ps sp := ⟨F.len, fun A outer s H args us vs Q E hg hr => F.run A outer s H args us vs Q E hg (hr.mono h)⟩
def FnD (W : Wd) (k : Nat) (f : Addr) (fd : FuncData) (ps : List Str) (sp : Spc) : Prop := FnG W.P W.w W.K W.mg W.base k f fd ps (toSp W.K W.T ps.length sp)
theorem FnD.imp {W : Wd} {k : Nat} {f : Addr} {fd : FuncData} {ps : List Str} {sp sp' : Spc} (F : FnD W k f fd ps sp) (h : ∀ ss ω Q E, sp' ss ω Q E → sp ss ω Q E) : FnD W k f fd ps sp' :=
  FnG.imp F fun vs H Q E ⟨G, as, ss, ω, Q0, E0, o, r, l, q, k⟩ => ⟨G, as, ss, ω, Q0, E0, o, r, l, h _ _ _ _ q, k⟩
/-- Y stands in W -/
structure In (W : Wd) (Y : Cy) : Prop where
  P : Y.X.prog = W.P
  w : Y.X.w = W.w
  K : Y.X.K = W.K
  mg : Y.X.mg = W.mg
  base : Y.X.base = W.base
  T : Y.T = W.T
/-- what is wished of exceptions is taken -/
def Rz (Y : Cy) : Prop := ∃ W : WX, Takes Y.X W ∧ ∀ x dx G as H σ τ ω, Base Y G as → Ok Y.X.K Y.T G H as ω → SlR Y.X.K G as σ τ → ExcAt Y.X.K G dx x → Y.rz x τ ω → W (.ref x.C) (some dx) σ H
theorem rz_none {Y : Cy} (h : ∀ x τ ω, ¬ Y.rz x τ ω) : Rz Y := ⟨fun _ _ _ _ => False, L2.takes0, fun x dx G as H σ τ ω _ _ _ _ q => (h x τ ω q).elim⟩

/-! ### the body of a def -/
/-- the context of a def's body -/
structure Bd (W : Wd) (N : List Str) (qual : Str) (sc : Scope) (cd : Value) (k : Nat) (ω0 : List O) (E : XD → List O → Prop) (Y : Cy) : Prop where
  inn : In W Y
  N : Y.X.N = N
  sc : Y.X.env.scope = sc
  qual : Y.X.env.qual = qual ++ ".<locals>."
  code : Y.X.env.code = cd
  room : Room k Y.X.A
  gds : Y.X.A.guards = some []
  calm : Y.X.calm = true
  fn : Y.X.fn = fun _ => true
  rz : Rz Y
  rzE : Y.rz = fun x _ ω => ∃ ω1, ω1 <+: ω ∧ ω0.length ≤ ω1.length ∧ Below ω1.length ω1 ∧ E x ω1
  stk : Y.X.stack = Y.X.env :: Y.X.outer
  fr : Y.X.env.frame = some Y.X.env.locals
  ex : Y.X.ex = []
  as0 : Y.as0.length = ω0.length
  nopn : Y.X.pn = []
  bel : Below ω0.length ω0
  own : PassesOwn (model Y.X.prog Y.X.w) Y.X.A Y.X.env Y.X.xe

def inS (n : Nat) : S → Prop
  | .d _ => True
  | .o k => k < n
/-- the end of a body: objects of its own are forgotten -/
structure Rt (n : Nat) (Q : QS) (s : S) (ω' : List O) : Prop where
  ex : ∃ ω1, ω1 <+: ω' ∧ n ≤ ω1.length ∧ inS ω1.length s ∧ Below ω1.length ω1 ∧ Q s ω1
theorem pre_take {α : Type} {l l' : List α} (h : l <+: l') : l'.take l.length = l := by
  obtain ⟨t, rfl⟩ := h
  simp
/-- the context of a def's body -/
def bdY (W : Wd) (N : List Str) (qual : Str) (scope : Scope) (f : Addr) (cdv : Value) (A : Around) (outer : List Env) (s : Shared) (H : Hp) (E : XK) (G : Hp) (as : List Addr) (rz : XD → Tau → List O → Prop) : Cy :=
  ⟨cxOf (L2.CX W.P W.w) W.P W.w W.K W.mg W.base N qual scope f cdv A outer s H E, W.T, G, as, rz⟩
theorem run_body {W : Wd} {x qual : Str} {params : Arguments} {body : List Stmt} {scope : Scope} {dV kV doc pm cdv ct oc : Value} {an od : Option Addr} {osl : Array (Option Value)} {f : Addr} {N ps : List Str} {k : Nat}
    (lk : W.K.lookup f = some ⟨oc, od, .func (PySem.W.fnOf x qual params body scope dV kV doc pm an cdv ct), osl⟩) (hcd : PySem.W.codeIn W.K cdv qual = true) (FS : FnScope N ps scope)
    {A : Around} {outer : List Env} {s : Shared} {H : Hp} {args : Args} {us : List Value} {vs : List V} {Q : VK} {E : XK} (hgd : A.guards = some []) (hr0 : Room (k + 1) A) (he : Env0 W.P W.w W.K W.mg W.base A outer s H)
    (hbd : BindsTo s (PySem.W.fnOf x qual params body scope dV kV doc pm an cdv ct) args (ps.zip us)) (hvals : Vals vs us) {G : Hp} {as : List Addr} {ss : List S} {ω : List O} {Q0 : QS} {E0 : XD → List O → Prop} (o : Ok W.K W.T G H as ω) (r : SRelL W.K G as vs ss) (l : ss.length = ps.length)
    (hQ : ∀ s ω', Q0 s ω' → ∀ G' H' as' v, Same G G' → as <+: as' → Ok W.K W.T G' H' as' ω' → SRel W.K G' as' v s → Q v H')
    (hE : ∀ x ω', E0 x ω' → ∀ G' H' as' dx, Same G G' → as <+: as' → Ok W.K W.T G' H' as' ω' → ExcAt W.K G' dx x → E (.ref x.C) (some dx) H')
    (hbody : ∀ (rz : XD → Tau → List O → Prop), Bd W N qual scope cdv k ω E0 (bdY W N qual scope f cdv A outer s H E G as rz) →
      WB (bdY W N qual scope f cdv A outer s H E G as rz) body (ss.map some ++ List.replicate (N.length - ps.length) none) ω { nx := fun _ ω' => Rt ω.length Q0 (.d .none) ω', rt := Rt ω.length Q0 }) :
    codeAny (model W.P W.w) A (.call (.ref f) args) (CR (L2.CX W.P W.w) outer W.P W.w H s Q E) s := by
  refine LamX.run_ofS (N := N) (ps := ps) (us := us) (vs := vs) lk hcd FS hr0 he hbd hvals (by rw [r.length, l]) fun hr => ?_
  refine ⟨_, pss_w, ?_⟩
  have tk : Takes (cxOf (L2.CX W.P W.w) W.P W.w W.K W.mg W.base N qual scope f cdv A outer s H E) (fun cls d _ H => E cls d H) := takes_of rfl rfl rfl rfl
  have B : Bd W N qual scope cdv k ω E0 (bdY W N qual scope f cdv A outer s H E G as (fun x _ ω' => ∃ ω1, ω1 <+: ω' ∧ ω.length ≤ ω1.length ∧ Below ω1.length ω1 ∧ E0 x ω1)) :=
    { inn := ⟨rfl, rfl, rfl, rfl, rfl, rfl⟩, N := rfl, sc := rfl, qual := rfl, code := rfl, room := hr, gds := hgd, calm := rfl, fn := rfl
      rz := ⟨_, tk, fun x dx G' as' H' σ τ ω' b o' l' e ⟨ω1, pre, hl, q2, q1⟩ => by
        have e1 := pre_take pre
        refine hE _ _ q1 G' H' (as'.take ω1.length) dx b.1 ?_ (by have := o'.cut (n := ω1.length) pre.length_le (by rw [e1]; exact q2); rw [e1] at this; exact this) e
        exact List.prefix_take_iff.mpr ⟨b.2, by show as.length ≤ _; rw [o.len]; exact hl⟩⟩
      rzE := rfl, stk := rfl, fr := rfl, ex := rfl, as0 := o.len, nopn := rfl, bel := o.bel, own := passes_of rfl }
  have w := hbody _ B
  have sl : SlR W.K G as (L2.start N vs) (ss.map some ++ List.replicate (N.length - ps.length) none) := by
    refine ⟨by simp [L2.start, r.length, l], fun i t q => ?_⟩
    unfold L2.start
    by_cases hi : i < ss.length
    · rw [List.getElem?_append_left (by simpa using hi), List.getElem?_map] at q
      have q' : ss[i]? = some t := by
        cases z : ss[i]? with
        | none => rw [z] at q; cases q
        | some u => rw [z] at q; cases q; rfl
      have : ∀ {vs : List V} {ss : List Z.S} {i : Nat} {t : Z.S}, SRelL W.K G as vs ss → ss[i]? = some t → ∃ v, vs[i]? = some v ∧ SRel W.K G as v t := by
        intro vs ss i t r
        induction r generalizing i with
        | nil => intro z; simp at z
        | cons a b ih =>
          intro z
          cases i with
          | zero => cases z; exact ⟨_, rfl, a⟩
          | succ i => exact ih (by simpa using z)
      obtain ⟨v, h1, h2⟩ := this r q'
      refine ⟨v, ?_, h2⟩
      rw [List.getElem?_append_left (by simpa using (List.getElem?_eq_some_iff.mp h1).1), List.getElem?_map, h1]
      rfl
    · rw [List.getElem?_append_right (by simpa using Nat.le_of_not_lt hi)] at q
      have := List.mem_of_getElem? q
      rw [List.mem_replicate] at this
      cases this.2
  refine wB.mono (w G as H (L2.start N vs) ⟨Same.refl _, List.prefix_refl _⟩ o sl) ?_
  have fin : ∀ {v : V} {t : Z.S} {G' : Hp} {H' : Hp} {as' : List Addr} {ω' : List O}, Same G G' → as <+: as' → Ok W.K W.T G' H' as' ω' → SRel W.K G' as' v t →
      Rt ω.length Q0 t ω' → Q v H' := by
    intro v t G' H' as' ω' g p o' r' ⟨⟨ω1, pre, hl, hin, hb, q⟩⟩
    have e1 := pre_take pre
    refine hQ _ _ q G' H' (as'.take ω1.length) v g (List.prefix_take_iff.mpr ⟨p, by rw [o.len]; exact hl⟩) (by have := o'.cut (n := ω1.length) pre.length_le (by rw [e1]; exact hb); rw [e1] at this; exact this) ?_
    cases t with
    | d x => exact r'
    | o j =>
      obtain ⟨a, h1, h2⟩ := r'
      exact ⟨a, by rw [List.getElem?_take_of_lt hin]; exact h1, h2⟩
  refine ⟨fun σ' H' g => ?_, fun v H' g => ?_, fun σ' H' g => ?_, fun σ' H' g => ?_⟩
  · obtain ⟨G', as', ω', g1, p1, o1, τ', l1, q1⟩ := g
    exact fin g1 p1 o1 (show SRel W.K G' as' .non (.d .none) from .none) q1
  · obtain ⟨G', as', ω', g1, p1, o1, t, r1, q1⟩ := g
    exact fin g1 p1 o1 r1 q1
  · obtain ⟨G', as', ω', g1, p1, o1, τ', l1, q1⟩ := g
    exact q1.elim
  · obtain ⟨G', as', ω', g1, p1, o1, τ', l1, q1⟩ := g
    exact q1.elim
/-- what a def's body is to show -/
def Body (W : Wd) (N ps : List Str) (qual : Str) (sc : Scope) (cdv : Value) (body : List Stmt) (k : Nat) (sp : Spc) : Prop :=
  ∀ (f : Addr) (A : Around) (outer : List Env) (s : Shared) (H : Hp) (E : XK) (G : Hp) (as : List Addr) (rz : XD → Tau → List O → Prop) (ss : List S) (ω : List O) (Q0 : QS) (E0 : XD → List O → Prop),
    Bd W N qual sc cdv k ω E0 (bdY W N qual sc f cdv A outer s H E G as rz) → ss.length = ps.length → sp ss ω Q0 E0 →
    WB (bdY W N qual sc f cdv A outer s H E G as rz) body (ss.map some ++ List.replicate (N.length - ps.length) none) ω { nx := fun _ ω' => Rt ω.length Q0 (.d .none) ω', rt := Rt ω.length Q0 }
theorem fnD_ok {W : Wd} {x qual : Str} {params : Arguments} {body : List Stmt} {scope : Scope} {dvs : List V} {kws : List (Str × V)} {f : Addr} {fd : FuncData} {N ps : List Str} {k : Nat} {sp : Spc} (F : FunD W.K x qual params body scope dvs kws f fd) (FS : FnScope N ps scope)
    (hbody : ∀ cdv, fd.code = cdv → Body W N ps qual scope cdv body k sp) : FnD W (k + 1) f fd ps sp := by
  obtain ⟨oc, od, dV, kV, doc, pm, an, cdv, ct, osl, rfl, lk, hcd, _, _⟩ := F.ex
  refine ⟨fun vs H Q E ⟨G, as, ss, ω, Q0, E0, o, r, l, q, k⟩ => by rw [r.length, l], fun A outer s H args us vs Q E hgd hr0 he hbd hvals ⟨G, as, ss, ω, Q0, E0, o, r, l, q, hQ, hE⟩ => ?_⟩
  exact run_body lk hcd FS hgd hr0 he hbd hvals o r l hQ hE fun rz B => hbody cdv rfl f A outer s H E G as rz ss ω Q0 E0 B l q
end Z

set_option Elab.async false
set_option linter.all false
set_option maxRecDepth 100000
set_option maxHeartbeats 1000000
/-! # X: own errors whose __init__ says super().__init__(text), then stores its fields -/
namespace Z
open PySem PySem.W PySem.Calls PyProof.Rows PySem.HandSPX

def xArgs (as : List Arg) : Arguments := { posonlyargs := [], args := as, vararg := none, kwonlyargs := [], kw_defaults := [], kwarg := none, defaults := [] }
def xSuper (msg : Str) (j : Nat) (p0 p1 p2 p3 p4 p5 : Pos) : Stmt := .Expr (.Call (.Attribute (.Call (.Name "super" p0) [] [] p1) "__init__" p2) [.Constant (.str msg) j p3] [] p4) p5
def xSet (f : Str) (q1 q2 q3 q4 : Pos) : Stmt := .Assign [.Attribute (.Name "self" q1) f q2] (.Name f q3) q4
def xScope (fs : List Str) : Scope := { kind := .function, names := ((PySem.Str.ofString "self") :: fs).map (fun x => (x, NameKind.local)) ++ [(PySem.Str.ofString "__class__", .free), (PySem.Str.ofString "super", .globalImplicit)], isGenerator := false, isCoroutine := false, more := [] }
/-- what the written part says of an own error at C over ValueError, its __init__ at fI, the cell of __class__ at cc, the code at cda -/
structure Sup (prog : Program) (K : Frag) (mg : Str → Option Value) (nm : Str) (C fI cc cda : Addr) (fs : List Str) : Prop where
  gC : mg nm = some (.ref C)
  cls : ∃ nm q N bs bm sn sub ab col dd k0 k1 k2 k3 k5, K.lookup C = some (excClassObj nm q C N bs bm true sn sub ab col dd k0 k1 k2 k3 k5 "ValueError.__new__") ∧ refsVE bm = true ∧
    alongIn K "__init__" (((.ref C :: bm).dropWhile (· != .ref C)).drop 1) = some (some (.builtin "ValueError.__init__"))
  sa : findIn K (.ref C) "__setattr__" = some (some (.builtin "object.__setattr__"))
  noN : ∀ f ∈ fs, findIn K (.ref C) f = some none
  iC : findIn K (.ref C) "__init__" = some (some (.ref fI))
  tI : typeIn K (.ref fI) = some (.type "function")
  kC : keepIn K (.ref C) = true
  exC : subIn K (.ref C) (.type "BaseException") = some true
  veC : subIn K (.ref C) (.type "ValueError") = some true
  tyC : typeIn K (.ref C) = some (.type "type")
  mro : mroIn K C (.ref C) = some true
  th : nsIn K cStatics "thirdparty.any" = some none
  sup : mg "super" = none
  cell : ∃ cl cld csl, K.lookup cc = some ⟨cl, cld, .cell (some (.ref C)), csl⟩
  code : ∃ ccl cdd vs ccs file tf, K.lookup cda = some ⟨ccl, cdd, .fields vs, ccs⟩ ∧ vs[2]? = some (.str file tf) ∧ ((prog.main.file : Str) == file) = true
  top : (prog.main.scope.names.lookup ("super" : Str)).isSome = false

section
variable {prog : Program} {w : World} {A : Around} {E : Value → Shared → Prop} {K : Frag} {mg : Str → Option Value} {nm : Str} {C fI cc cda : Addr} {fs : List Str}
theorem sup_vcall {h : Heap} {g : Array GenState} {d : Drawn} {t : Nat} {os : OsState} {nm q : Str} {N : Addr} {bs bm : List Value} {hdct : Bool} {sn : List Str} {sub : List Value} {ab : Bool} {col : Option Bool} {dd : Option Addr} {k0 k1 k2 k3 k5 : Option Value}
    {u e t0 : Addr} {rest : List Value} {Q : Value → Shared → Prop} (hC : h.get? C = some (excClassObj nm q C N bs bm hdct sn sub ab col dd k0 k1 k2 k3 k5 "ValueError.__new__")) (he : h.get? e = some (excO C t0)) (hu : h.get? u = some (kxs_mw "ValueError.__init__" e)) (hz : rest.length ≤ sizeLine)
    (hq : ∀ h' t1, (∀ b o, b ≠ e → h.get? b = some o → h'.get? b = some o) → h'.get? e = some (excO C t1) → Q .none ⟨h', g, d, t, os⟩) :
    wpAny (model prog w) A (call (.ref u) rest) Q E ⟨h, g, d, t, os⟩ := by
  refine wpAny_call (codeAny_of_tree ?_)
  show wpAny _ A.in1 (callAny (.ref u) ⟨rest, []⟩) _ _ _
  simp only [callAny]
  refine wpAny_bind (wpAny_load hu ?_)
  simp only [kxs_mw, show (Value.type "method-wrapper" == Value.type "method" || Value.type "method-wrapper" == Value.type "builtin_function_or_method" || Value.type "method-wrapper" == Value.type "method-wrapper") = true by decide, if_true]
  refine KFB.if_so (by decide) ?_
  refine wpAny_bind (check_bound_init F.excBase_ValueError.toExcCallFacts hC he rfl ?_)
  refine wpAny_bind (wpAny_pure (wpAny_pure ?_))
  refine ⟨plainId_quiet F.excBase_ValueError.init.plain _, codeAny_builtin F.excBase_ValueError.initEntry ?_⟩
  exact exc_init_tree (cls := .ref C) (t0 := t0) (dv := none) (c2 := .none) (c3 := .none) (b4 := .bool false) he hz fun h' k e' t' => hq h' _ k e'
/-- super().__init__(text) -/
theorem sup_first (T : Sup prog K mg nm C fI cc cda fs) {qual : Str} {params : Arguments} {ar : Arg} {body : List Stmt} {dV kV doc pm ct oc : Value} {an od : Option Addr} {osl : Array (Option Value)} {L : Addr} {m : Str → Option Value} {x t0 : Addr} {s : Shared} {base : Heap}
    {msg : Str} {j : Nat} {p0 p1 p2 p3 p4 p5 : Pos} {Q : Flow → Shared → Prop} (lk : K.lookup fI = some ⟨oc, od, .func (ksFn "__init__" qual params body (xScope fs) dV kV doc pm an (.ref cda) ct cc), osl⟩)
    (hp : (params.posonlyargs ++ params.args).head? = some ar) (har : ar.arg = PySem.Str.ofString "self") (X : K.In s.heap) (M : L2.Mod K mg base) (kb : ∀ b o, base.get? b = some o → s.heap.get? b = some o) (hn : s.heap.Ns L m) (hm : m "self" = some (.ref x))
    (hx : s.heap.get? x = some (excO C t0)) (hks : (xScope fs).names.lookup ("super" : Str) = some .globalImplicit) (hkc : (xScope fs).names.lookup ("__class__" : Str) = some .free) (hka : (xScope fs).names.lookup ("self" : Str) = some .local)
    {pl : Sem Bool} (he : ∀ L, eval (.Call (.Attribute (.Call (.Name "super" p0) [] [] p1) "__init__" p2) [.Constant (.str msg) j p3] [] p4) (ksEnv qual (xScope fs) L fI (.ref cda) cc) = (do
      let ov ← attributeBase (.Call (.Name "super" p0) [] [] p1) "__init__" (ksEnv qual (xScope fs) L fI (.ref cda) cc) (eval (.Call (.Name "super" p0) [] [] p1) (ksEnv qual (xScope fs) L fI (.ref cda) cc))
      standAt p2.atName
      let (f, first) ← holding [ov] (getMethod ov "__init__" pl)
      callWith p4 f first (backTo p4 (starEach [.Constant (.str msg) j p3] (ksEnv qual (xScope fs) L fI (.ref cda) cc))) []))
    (hq : ∀ h' t1 tk, (∀ b o, b ≠ x → s.heap.get? b = some o → h'.get? b = some o) → h'.get? x = some (excO C t1) → Q .next { s with heap := h', toks := tk }) :
    _root_.PySem.wpAt (model prog w) A (.func body (ksEnv qual (xScope fs) L fI (.ref cda) cc)) (exec (xSuper msg j p0 p1 p2 p3 p4 p5) (ksEnv qual (xScope fs) L fI (.ref cda) cc)) Q E s := by
  obtain ⟨nm1, q, N, bs, bm, sn, sub, ab, col, dd, k0, k1, k2, k3, k5, hC, hbm, hal⟩ := T.cls
  obtain ⟨cl, cld, csl, hcell⟩ := T.cell
  obtain ⟨ccl, cdd, vs, ccs, file, tf, hcode, hvs, hfile⟩ := T.code
  obtain ⟨mb, nb, hbb⟩ := M.blt
  have hxC : x ≠ C := fun z => by
    have q := X _ _ hC
    rw [← z, hx] at q
    cases q
  have hclI : clsIn K C = some { name := nm1, bases := bs, mro := .ref C :: bm, ns := N, qualname := q, hasDict := true, slotNames := sn, subclasses := sub, abstract := ab, collection := col, hasDel := false } := by unfold clsIn; rw [hC]; try rfl
  have nbK : s.heap.Ns builtinsNs mb := nb.keeps kb
  have ngK : s.heap.Ns mainGlobals mg := M.glob.keeps kb
  obtain ⟨hh, g, d, t, os⟩ := s
  refine ks_wpAt_Expr_any (env := ksEnv qual (xScope fs) L fI (.ref cda) cc) ?_ (by rfl) (by rfl)
  refine ks_wpAt_MethodCall (env := ksEnv qual (xScope fs) L fI (.ref cda) cc) (pl := pl) ?_ (he L)
  refine ks_wpAt_super_base (env := ksEnv qual (xScope fs) L fI (.ref cda) cc) hks hkc (by decide) rfl (X _ _ lk) rfl hp rfl (X _ _ hcode) rfl hvs hfile T.top ?_
  refine ks_loadName_global rfl hks (loadGlobal_builtin (env := ksEnv qual (xScope fs) L fI (.ref cda) cc) ngK T.sup nbK ((hbb _ (by decide +kernel)).trans (by decide +kernel)) ⟨rfl, ?_⟩)
  refine wpAny_loadName_free (env := ksEnv qual (xScope fs) L fI (.ref cda) cc) rfl hkc rfl ⟨_, X _ _ hcell, rfl⟩ ?_
  rw [har]
  refine wpAny_loadName_local (env := ksEnv qual (xScope fs) L fI (.ref cda) cc) rfl hka hn hm ?_
  have hCh := X _ _ hC
  refine ks_wpAny_isType_cls hCh rfl ⟨rfl, ?_⟩
  refine ks_wpAny_call_super hCh rfl hx rfl (fun c e => by cases e) (looks_mroIn X T.mro) (fun h1 e1 k1 => ?_)
  have X1 : K.In h1 := X.keeps k1
  have hx1 := k1 _ _ hx
  refine kxs_getMethod kxs_ValueError e1 (looks_opaque X1 T.th) (l₀ := .ref C :: bm) ?_ rfl X1 hal ?_ hxC (by decide) ?_
  · exact fun A Q E s k q => wpAny_bind ((looks_clsIn X1 hclI) A _ E s k (wpAny_pure q))
  · have I1 : InstAt h1 x (excO C t0) C none := ⟨hx1, rfl, rfl, trivial⟩
    exact I1.type.andThen (looks_subIn X1 T.veC)
  have hu : (h1.push (kxs_mw "ValueError.__init__" x)).get? h1.objs.size = some (kxs_mw "ValueError.__init__" x) := Heap.get?_push_size _ rfl
  have k2 : ∀ b o, hh.get? b = some o → (h1.push (kxs_mw "ValueError.__init__" x)).get? b = some o := fun b o e => Heap.get?_push_of_some _ (k1 b o e)
  refine kxs_callWith (i := "ValueError.__init__") (x := x) (by rfl) (evalArgs_plain ?_)
  refine Calls.spliced_cons ?_
  show wpAny _ _ (eval (.Constant (.str msg) j p3) _) _ _ _
  refine Calls.Constant_str (Calls.spliced_nil ⟨hu, ?_⟩)
  refine sup_vcall (X.keeps k2 _ _ hC) (k2 _ _ hx) hu (by show 1 ≤ sizeLine; decide) fun h' t1 k3 e3 => ?_
  exact hq h' t1 _ (fun b o hb e => k3 b o hb (k2 b o e)) e3
/-- what __init__ leaves of the error at x: its dict holds the fields -/
structure SupEnd (h h' : Heap) (x C dx t1 : Addr) (mA : Str → Option Value) : Prop where
  keep : ∀ b o, b ≠ x → h.get? b = some o → h'.get? b = some o
  obj : h'.get? x = some { cls := .ref C, dict := some dx, data := .fields #[.ref t1, .none, .none, .none, .bool false, .none] }
  dbig : h.objs.size ≤ dx
  dne : dx ≠ x
  ns : h'.Ns1 dx mA
theorem ksn_local {M : Model} {s : Shared} {env : Env} {m : Str → Option Value} {x : Str} {pos : Pos} {v : Value} {Q : Value → Shared → Prop} (hn : s.heap.Ns env.locals m) (hv : m x = some v) (hl : env.kindOf x = some .local) (h : Q v s)
    (hk : env.scope.kind = .function := by rfl) (hd : (x == ("__debug__" : Str)) = false := by decide) : wpAny M A (eval (.Name x pos) env) Q E s := wpAny_Name (wpAny_loadName_local hk hl hn hv h) hd
/-- the first field -/
theorem sup_set1 (T : Sup prog K mg nm C fI cc cda fs) {env : Env} {f : Str} {m : Str → Option Value} {x t1 : Addr} {v : Value} {s : Shared} {q1 q2 q3 q4 : Pos} {Q : Flow → Shared → Prop} (X : K.In s.heap) (hn : s.heap.Ns env.locals m) (hf : f ∈ fs) (hk : env.scope.kind = .function)
    (hm : m "self" = some (.ref x)) (hmf : m f = some v) (hls : env.kindOf "self" = some .local) (hlf : env.kindOf f = some .local) (hd : (f == ("__debug__" : Str)) = false) (hx : s.heap.get? x = some (excO C t1))
    (hsw : swapsWith (.Name f q3) (some (.Attribute (.Name "self" q1) f q2)) q4.line env = pure false)
    (hq : ∀ h' tk dx, SupEnd s.heap h' x C dx t1 (fun y => if y = f then some v else none) → Q .next { s with heap := h', toks := tk }) :
    wpAny (model prog w) A (exec (xSet f q1 q2 q3 q4) env) Q E s := by
  obtain ⟨nm1, q, N, bs, bm, sn, sub, ab, col, dd, k0, k1, k2, k3, k5, hC, hbm, hal⟩ := T.cls
  have hclI : clsIn K C = some { name := nm1, bases := bs, mro := .ref C :: bm, ns := N, qualname := q, hasDict := true, slotNames := sn, subclasses := sub, abstract := ab, collection := col, hasDel := false } := by unfold clsIn; rw [hC]; try rfl
  obtain ⟨hh, g, d, t, os⟩ := s
  refine plainObj_wpAny_Assign_Attribute ?_ hsw
  refine ksn_local hn hmf hlf (ksn_local hn hm hls ?_ hk (by decide)) hk hd
  refine set_plain X (ox := excO C t1) (od := none) ⟨hx, rfl, rfl, trivial⟩ T.sa ?_
  exact exc_osa X hx hclI (show refsVE (.ref C :: bm) = true from hbm) rfl (T.noN f hf) fun h3 tk3 dx k3 dn dne hx3 hn3 => hq h3 tk3 dx ⟨k3, hx3, dn, dne, hn3⟩
/-- one field more -/
theorem sup_set2 (T : Sup prog K mg nm C fI cc cda fs) {env : Env} {f g' : Str} {m : Str → Option Value} {x t1 dx : Addr} {v u : Value} {s : Shared} {h0 : Heap} {q1 q2 q3 q4 : Pos} {Q : Flow → Shared → Prop} (X : K.In s.heap) (hn : s.heap.Ns env.locals m) (hf : f ∈ fs) (hk : env.scope.kind = .function)
    (hm : m "self" = some (.ref x)) (hmf : m f = some v) (hls : env.kindOf "self" = some .local) (hlf : env.kindOf f = some .local) (hd : (f == ("__debug__" : Str)) = false) (S1 : SupEnd h0 s.heap x C dx t1 (fun y => if y = g' then some u else none))
    (hsw : swapsWith (.Name f q3) (some (.Attribute (.Name "self" q1) f q2)) q4.line env = pure false)
    (hq : ∀ h' tk, SupEnd h0 h' x C dx t1 (fun y => if y = f then some v else if y = g' then some u else none) → Q .next { s with heap := h', toks := tk }) :
    wpAny (model prog w) A (exec (xSet f q1 q2 q3 q4) env) Q E s := by
  obtain ⟨nm1, q, N, bs, bm, sn, sub, ab, col, dd, k0, k1, k2, k3, k5, hC, hbm, hal⟩ := T.cls
  have hclI : clsIn K C = some { name := nm1, bases := bs, mro := .ref C :: bm, ns := N, qualname := q, hasDict := true, slotNames := sn, subclasses := sub, abstract := ab, collection := col, hasDel := false } := by unfold clsIn; rw [hC]; try rfl
  obtain ⟨hh, g, d, t, os⟩ := s
  refine plainObj_wpAny_Assign_Attribute ?_ hsw
  refine ksn_local hn hmf hlf (ksn_local hn hm hls ?_ hk (by decide)) hk hd
  have hns := S1.ns
  have hw : Within (fun y => if y = g' then some u else none) [g'] := fun y hy => by
    by_cases e : y = g'
    · subst e; simp
    · simp [e] at hy
  obtain ⟨oD, _, _, hoD, _, _⟩ := hns.count hw
  have hxo := S1.obj
  refine set_plain X (ox := { cls := .ref C, dict := some dx, data := .fields #[.ref t1, .none, .none, .none, .bool false, .none] }) (od := some oD) ⟨hxo, rfl, rfl, hoD⟩ T.sa ?_
  refine PySem.OEX.osa_old X hxo hns hw (by show 1 ≤ 1000; decide) hclI (show refsVE (.ref C :: bm) = true from hbm) rfl (T.noN f hf) fun h3 tk3 k3 hn3 => hq h3 tk3 ⟨fun b o hb e => ?_, k3 _ _ (Ne.symm S1.dne) hxo, S1.dbig, S1.dne, hn3⟩
  exact k3 b o (fun z => Nat.lt_irrefl _ (Nat.lt_of_lt_of_le (by rw [← z]; exact Heap.lt_size e) S1.dbig)) (S1.keep b o hb e)
end
structure SupSc (fs : List Str) : Prop where
  ks : (xScope fs).names.lookup ("super" : Str) = some .globalImplicit
  kc : (xScope fs).names.lookup ("__class__" : Str) = some .free
  ka : (xScope fs).names.lookup ("self" : Str) = some .local
  kf : ∀ f ∈ fs, (xScope fs).names.lookup f = some .local
  nd : ∀ f ∈ fs, (f == ("__debug__" : Str)) = false ∧ ¬ f = ("self" : Str)
  cell : ∀ x ∈ (xScope fs).names, x.2 ≠ NameKind.cell
/-- the def of __init__, by its parts that hang on the text -/
structure SupFn (prog : Program) (K : Frag) (fI cc cda : Addr) (fs : List Str) (body : List Stmt) : Prop where
  sc : SupSc fs
  fn : ∃ (oc : Value) (od : Option Addr) (qual : Str) (params : Arguments) (ar : Arg) (doc pm ct : Value) (an : Option Addr) (osl : Array (Option Value)),
    K.lookup fI = some ⟨oc, od, .func (ksFn "__init__" qual params body (xScope fs) .none .none doc pm an (.ref cda) ct cc), osl⟩ ∧ codeIn K (.ref cda) qual = true ∧
    (params.posonlyargs ++ params.args).head? = some ar ∧ ar.arg = PySem.Str.ofString "self" ∧
    (∀ (us : List Value) (s : Shared), us.length = fs.length + 1 → BindsTo s (ksFn "__init__" qual params body (xScope fs) .none .none doc pm an (.ref cda) ct cc) ⟨us, []⟩ ((PySem.Str.ofString "self" :: fs).zip us)) ∧
    ∃ (msg : Str) (j : Nat) (p0 p1 p2 p3 p4 p5 : Pos) (qs : List (Pos × Pos × Pos × Pos)) (pl : Sem Bool), qs.length = fs.length ∧ body = xSuper msg j p0 p1 p2 p3 p4 p5 :: (fs.zip qs).map (fun y => xSet y.1 y.2.1 y.2.2.1 y.2.2.2.1 y.2.2.2.2) ∧
    (∀ L, eval (.Call (.Attribute (.Call (.Name "super" p0) [] [] p1) "__init__" p2) [.Constant (.str msg) j p3] [] p4) (ksEnv qual (xScope fs) L fI (.ref cda) cc) = (do
      let ov ← attributeBase (.Call (.Name "super" p0) [] [] p1) "__init__" (ksEnv qual (xScope fs) L fI (.ref cda) cc) (eval (.Call (.Name "super" p0) [] [] p1) (ksEnv qual (xScope fs) L fI (.ref cda) cc))
      standAt p2.atName
      let (f, first) ← holding [ov] (getMethod ov "__init__" pl)
      callWith p4 f first (backTo p4 (starEach [.Constant (.str msg) j p3] (ksEnv qual (xScope fs) L fI (.ref cda) cc))) [])) ∧
    (∀ L, ∀ y ∈ fs.zip qs, swapsWith (.Name y.1 y.2.2.2.1) (some (.Attribute (.Name "self" y.2.1) y.1 y.2.2.1)) y.2.2.2.2.line (ksEnv qual (xScope fs) L fI (.ref cda) cc) = pure false)
def supM : List (Str × Value) → Str → Option Value
  | [], _ => none
  | (f, v) :: r, y => if y = f then some v else supM r y
section
variable {prog : Program} {w : World} {A : Around} {K : Frag} {mg : Str → Option Value} {nm : Str} {C fI cc cda : Addr}
theorem sup_init1 {f : Str} {body : List Stmt} (T : Sup prog K mg nm C fI cc cda [f]) (SF : SupFn prog K fI cc cda [f] body) {x t0 : Addr} {v : Value} {s : Shared} {base : Heap} {R : Result → Shared → Prop} (X : K.In s.heap) (M : L2.Mod K mg base) (kb : ∀ b o, base.get? b = some o → s.heap.get? b = some o)
    (hx : s.heap.get? x = some (excO C t0)) (hnx : K.lookup x = none) (hroom : A.depth < recursionLimit)
    (hq : ∀ h' tk dx t1, SupEnd s.heap h' x C dx t1 (supM [(f, v)]) → R (.ok (.ret .none)) { s with heap := h', toks := tk }) :
    codeAny (model prog w) A (.call (.ref fI) ⟨[.ref x, v], []⟩) R s := by
  obtain ⟨oc, od, qual, params, ar, doc, pm, ct, an, osl, lk, hcd, hp, har, hb, msg, j, p0, p1, p2, p3, p4, p5, qs, pl, hl, rfl, he, hsw⟩ := SF.fn
  obtain ⟨⟨q1, q2, q3, q4⟩, rfl⟩ : ∃ q, qs = [q] := by
    match qs, hl with
    | [q], _ => exact ⟨q, rfl⟩
  have fnd := (SF.sc.nd f (by simp)).1
  have fns := (SF.sc.nd f (by simp)).2
  refine ks_codeAny_call_defAt (binds := [("self", .ref x), (f, v)]) hroom (X _ _ lk) rfl (M.nolimit.keeps kb) (codeRec_of X hcd) rfl (hb [.ref x, v] s rfl) SF.sc.cell (fun y hy => ?_) (fun h₁ hn k => ?_) rfl rfl rfl
  · rcases List.mem_cons.mp hy with rfl | hy
    · exact SF.sc.ka
    · rcases List.mem_cons.mp hy with rfl | hy
      · exact SF.sc.kf _ (by simp)
      · cases hy
  have X1 : K.In h₁ := X.keeps k
  have hx1 := k _ _ hx
  have hxL : s.heap.objs.size ≠ x := Nat.ne_of_gt (Heap.lt_size hx)
  have hm1 : (fun y => ([(PySem.Str.ofString "self", Value.ref x), (f, v)] : List (Str × Value)).reverse.lookup y) "self" = some (.ref x) := by
    have e : ((PySem.Str.ofString "self" : Str) == f) = false := by simpa using fun z => fns z.symm
    simp [List.lookup, e]
  have hm2 : (fun y => ([(PySem.Str.ofString "self", Value.ref x), (f, v)] : List (Str × Value)).reverse.lookup y) f = some v := by simp [List.lookup]
  refine ks_wpAt_execs_cons ?_
  refine sup_first T (L := s.heap.objs.size) lk hp har (s := { s with heap := h₁, toks := _ }) X1 M (fun b o e => k b o (kb b o e)) hn hm1 hx1 SF.sc.ks SF.sc.kc SF.sc.ka he fun h2 t2 tk2 k2 hx2 => ?_
  have hn2 : h2.Ns s.heap.objs.size (fun y => ([(PySem.Str.ofString "self", Value.ref x), (f, v)] : List (Str × Value)).reverse.lookup y) := by
    obtain ⟨o, es, ep, e, r⟩ := hn
    exact ⟨o, es, ep, k2 _ _ hxL e, r⟩
  have X2 : K.In h2 := fun a o e => k2 a o (fun z => by rw [z, hnx] at e; cases e) (X1 a o e)
  refine _root_.PySem.wpAt_of_wpAny ?_
  refine wpAny_execs_cons ?_
  refine sup_set1 T (s := { s with heap := h2, toks := tk2 }) X2 hn2 (by simp) rfl hm1 hm2 SF.sc.ka (SF.sc.kf f (by simp)) fnd hx2 (hsw _ _ (by simp)) fun h3 tk3 dx S3 => ?_
  refine wpAny_execs_nil (hq h3 tk3 dx t2 ⟨fun b o hb e => S3.keep b o hb (k2 b o hb (k b o e)), S3.obj, ?_, S3.dne, by simpa [supM] using S3.ns⟩)
  have z : s.heap.objs.size < h₁.objs.size := hn.lt
  have z2 : s.heap.objs.size < h2.objs.size := hn2.lt
  exact Nat.le_of_lt (Nat.lt_of_lt_of_le z2 S3.dbig)
theorem sup_init2 {f g' : Str} {body : List Stmt} (T : Sup prog K mg nm C fI cc cda [f, g']) (SF : SupFn prog K fI cc cda [f, g'] body) {x t0 : Addr} {v v2 : Value} {s : Shared} {base : Heap} {R : Result → Shared → Prop} (X : K.In s.heap) (M : L2.Mod K mg base) (kb : ∀ b o, base.get? b = some o → s.heap.get? b = some o)
    (hfg : ¬ g' = f) (hx : s.heap.get? x = some (excO C t0)) (hnx : K.lookup x = none) (hroom : A.depth < recursionLimit)
    (hq : ∀ h' tk dx t1, SupEnd s.heap h' x C dx t1 (supM [(f, v), (g', v2)]) → R (.ok (.ret .none)) { s with heap := h', toks := tk }) :
    codeAny (model prog w) A (.call (.ref fI) ⟨[.ref x, v, v2], []⟩) R s := by
  obtain ⟨oc, od, qual, params, ar, doc, pm, ct, an, osl, lk, hcd, hp, har, hb, msg, j, p0, p1, p2, p3, p4, p5, qs, pl, hl, rfl, he, hsw⟩ := SF.fn
  obtain ⟨⟨q1, q2, q3, q4⟩, ⟨r1, r2, r3, r4⟩, rfl⟩ : ∃ q r, qs = [q, r] := by
    match qs, hl with
    | [q, r], _ => exact ⟨q, r, rfl⟩
  have fnd := (SF.sc.nd f (by simp)).1
  have fns := (SF.sc.nd f (by simp)).2
  have gnd := (SF.sc.nd g' (by simp)).1
  have gns := (SF.sc.nd g' (by simp)).2
  refine ks_codeAny_call_defAt (binds := [("self", .ref x), (f, v), (g', v2)]) hroom (X _ _ lk) rfl (M.nolimit.keeps kb) (codeRec_of X hcd) rfl (hb [.ref x, v, v2] s rfl) SF.sc.cell (fun y hy => ?_) (fun h₁ hn k => ?_) rfl rfl rfl
  · rcases List.mem_cons.mp hy with rfl | hy
    · exact SF.sc.ka
    · rcases List.mem_cons.mp hy with rfl | hy
      · exact SF.sc.kf _ (by simp)
      · rcases List.mem_cons.mp hy with rfl | hy
        · exact SF.sc.kf _ (by simp)
        · cases hy
  have X1 : K.In h₁ := X.keeps k
  have hx1 := k _ _ hx
  have hxL : s.heap.objs.size ≠ x := Nat.ne_of_gt (Heap.lt_size hx)
  have e1 : ((PySem.Str.ofString "self" : Str) == f) = false := by simpa using fun z => fns z.symm
  have e2 : ((PySem.Str.ofString "self" : Str) == g') = false := by simpa using fun z => gns z.symm
  have e3 : ((f : Str) == g') = false := by simpa using fun z => hfg z.symm
  have hm1 : (fun y => ([(PySem.Str.ofString "self", Value.ref x), (f, v), (g', v2)] : List (Str × Value)).reverse.lookup y) "self" = some (.ref x) := by
    simp [List.lookup, e1, e2]
  have hm2 : (fun y => ([(PySem.Str.ofString "self", Value.ref x), (f, v), (g', v2)] : List (Str × Value)).reverse.lookup y) f = some v := by simp [List.lookup, e3]
  have hm3 : (fun y => ([(PySem.Str.ofString "self", Value.ref x), (f, v), (g', v2)] : List (Str × Value)).reverse.lookup y) g' = some v2 := by simp [List.lookup]
  refine ks_wpAt_execs_cons ?_
  refine sup_first T (L := s.heap.objs.size) lk hp har (s := { s with heap := h₁, toks := _ }) X1 M (fun b o e => k b o (kb b o e)) hn hm1 hx1 SF.sc.ks SF.sc.kc SF.sc.ka he fun h2 t2 tk2 k2 hx2 => ?_
  have hn2 : h2.Ns s.heap.objs.size (fun y => ([(PySem.Str.ofString "self", Value.ref x), (f, v), (g', v2)] : List (Str × Value)).reverse.lookup y) := by
    obtain ⟨o, es, ep, e, r⟩ := hn
    exact ⟨o, es, ep, k2 _ _ hxL e, r⟩
  have X2 : K.In h2 := fun a o e => k2 a o (fun z => by rw [z, hnx] at e; cases e) (X1 a o e)
  refine _root_.PySem.wpAt_of_wpAny ?_
  refine wpAny_execs_cons ?_
  refine sup_set1 T (s := { s with heap := h2, toks := tk2 }) X2 hn2 (by simp) rfl hm1 hm2 SF.sc.ka (SF.sc.kf f (by simp)) fnd hx2 (hsw _ _ (by simp)) fun h3 tk3 dx S3 => ?_
  have hn3 : h3.Ns s.heap.objs.size (fun y => ([(PySem.Str.ofString "self", Value.ref x), (f, v), (g', v2)] : List (Str × Value)).reverse.lookup y) := by
    obtain ⟨o, es, ep, e, r⟩ := hn2
    exact ⟨o, es, ep, S3.keep _ _ hxL e, r⟩
  have X3 : K.In h3 := fun a o e => S3.keep a o (fun z => by rw [z, hnx] at e; cases e) (X2 a o e)
  refine wpAny_execs_cons ?_
  refine sup_set2 T (g' := f) (u := v) (s := { s with heap := h3, toks := tk3 }) X3 hn3 (by simp) rfl hm1 hm3 SF.sc.ka (SF.sc.kf g' (by simp)) gnd S3 (hsw _ _ (by simp)) fun h4 tk4 S4 => ?_
  refine wpAny_execs_nil (hq h4 tk4 dx t2 ⟨fun b o hb e => S4.keep b o hb (k2 b o hb (k b o e)), S4.obj, ?_, S4.dne, ?_⟩)
  · have z2 : s.heap.objs.size < h2.objs.size := hn2.lt
    exact Nat.le_of_lt (Nat.lt_of_lt_of_le z2 S4.dbig)
  · have q := S4.ns
    have e : (fun y => if y = g' then some v2 else if y = f then some v else none) = supM [(f, v), (g', v2)] := by
      funext y
      simp only [supM]
      by_cases h1 : y = g'
      · subst h1; simp [hfg]
      · simp [h1]
    rw [← e]; exact q
/-- a made one -/
structure SupMade (h h' : Heap) (e C d : Addr) (mA : Str → Option Value) : Prop where
  keep : ∀ b o, h.get? b = some o → h'.get? b = some o
  new : h.objs.size ≤ e
  obj : ∃ oe vs, h'.get? e = some oe ∧ oe.cls = .ref C ∧ oe.dict = some d ∧ oe.data = .fields vs ∧ vs[1]? = some .none
  dbig : h.objs.size ≤ d
  dne : d ≠ e
  ns : h'.Ns1 d mA
theorem sup_new (T : Sup prog K mg nm C fI cc cda fs) {vs : List Value} {mA : Str → Option Value} {s : Shared} {base : Heap} {R : Result → Shared → Prop} (X : K.In s.heap) (M : L2.Mod K mg base) (kb : ∀ b o, base.get? b = some o → s.heap.get? b = some o) (hz : vs.length ≤ sizeLine) (hroom : A.depth + 1 < recursionLimit)
    (init : ∀ {s : Shared} {x t0 : Addr} {A : Around} {R : Result → Shared → Prop}, K.In s.heap → (∀ b o, base.get? b = some o → s.heap.get? b = some o) → s.heap.get? x = some (excO C t0) → K.lookup x = none → A.depth < recursionLimit →
      (∀ h' tk dx t1, SupEnd s.heap h' x C dx t1 mA → R (.ok (.ret .none)) { s with heap := h', toks := tk }) → codeAny (model prog w) A (.call (.ref fI) ⟨.ref x :: vs, []⟩) R s)
    (hq : ∀ h' tk e d, SupMade s.heap h' e C d mA → R (.ok (.ret (.ref e))) { s with heap := h', toks := tk }) :
    codeAny (model prog w) A (.call (.ref C) ⟨vs, []⟩) R s := by
  obtain ⟨nm1, q, N, bs, bm, sn, sub, ab, col, dd, k0, k1, k2, k3, k5, hC, hbm, hal⟩ := T.cls
  obtain ⟨hp, g, dr, tk, os⟩ := s
  have k : ∀ b o, hp.get? b = some o → ((hp.push (kdv_tup vs)).push (excO C hp.objs.size)).get? b = some o := fun b o e => Heap.get?_push_of_some _ (Heap.get?_push_of_some _ e)
  have hget : ((hp.push (kdv_tup vs)).push (excO C hp.objs.size)).get? (hp.objs.size + 1) = some (excO C hp.objs.size) := by heap_get
  have hnx : K.lookup (hp.objs.size + 1) = none := by
    cases e : K.lookup (hp.objs.size + 1) with
    | none => rfl
    | some o =>
      have z : hp.get? (hp.objs.size + 1) = some o := X _ _ e
      exact absurd (Nat.lt_of_succ_lt (Heap.lt_size z)) (Nat.lt_irrefl _)
  refine call_own F.excBase_ValueError (fun X => refsVE_contains X bm hbm) (X _ _ hC) (looks_findIn X T.iC) (fun self => bind_fn X self T.tI) hz ?_
  refine init (s := ⟨(hp.push (kdv_tup vs)).push (excO C hp.objs.size), g, dr, tk, os⟩) (X.keeps k) (fun b o e => k b o (kb b o e)) hget hnx ?_ fun h' tk' dx t1 S1 => ?_
  · show A.depth + 1 < recursionLimit
    exact hroom
  · have old : ∀ b o, hp.get? b = some o → h'.get? b = some o := fun b o e => S1.keep b o (Nat.ne_of_lt (Nat.lt_succ_of_lt (Heap.lt_size e))) (k b o e)
    have z : hp.objs.size ≤ dx := by
      have q := S1.dbig
      have e : ((hp.push (kdv_tup vs)).push (excO C hp.objs.size)).objs.size = hp.objs.size + 1 + 1 := by rw [Heap.size_push, Heap.size_push]
      rw [e] at q
      exact Nat.le_trans (Nat.le_trans (Nat.le_succ _) (Nat.le_succ _)) q
    exact ⟨rfl, hq h' tk' (hp.objs.size + 1) dx ⟨old, Nat.le_succ _, ⟨_, _, S1.obj, rfl, rfl, rfl, rfl⟩, z, S1.dne, S1.ns⟩⟩
end
end Z

namespace Z
open PySem PySem.Spec PyProof.Rows L2 LamX
section
variable {X : Cx} {C fI cc cda : Addr} {nm : Str} {fs : List Str}
theorem relO_sup : ∀ {fs : List Str} {vs : List V} {us : List Value}, Vals vs us → ∀ f, RelO ((fs.zip vs).lookup f) (supM (fs.zip us) f)
  | [], _, _, _, f => by simp only [List.zip_nil_left]; trivial
  | _ :: _, _, _, .nil, f => by simp only [List.zip_nil_right]; trivial
  | g :: r, _ :: _, _ :: _, .cons a b, f => by
    simp only [List.zip_cons_cons, supM, List.lookup]
    by_cases e : f = g
    · subst e
      simp only [beq_self_eq_true, if_true]
      exact a
    · have e2 : (f == g) = false := by simpa using e
      simp only [e2, if_neg e]
      exact relO_sup b f
/-- C(e, ..): the reading -/
def tSup (C : Addr) (fs : List Str) (ta : TA) : L2.St → Hp → XK → Prop := fun σ H Q => ta σ H fun vs H1 => vs.length = fs.length ∧ ∀ d, H1 d = none → Q (.ref C) (some d) (upd H1 d (.xd (fs.zip vs)))
theorem pmk_sup {e : Expr} {es : List Expr} {ta : TA} {p pos : Pos} {k : Nat} (T : Sup X.prog X.K X.mg nm C fI cc cda fs) (hfs : fs.length ≤ 1000)
    (init : ∀ {us : List Value} {w : World} {s : Shared} {x t0 : Addr} {A : Around} {R : Result → Shared → Prop}, us.length = fs.length → L2.Mod X.K X.mg X.base → X.K.In s.heap → (∀ b o, X.base.get? b = some o → s.heap.get? b = some o) → s.heap.get? x = some (HandSPX.excO C t0) → X.K.lookup x = none → A.depth < recursionLimit →
      (∀ h' tk dx t1, SupEnd s.heap h' x C dx t1 (supM (fs.zip us)) → R (.ok (.ret .none)) { s with heap := h', toks := tk }) → codeAny (model X.prog w) A (.call (.ref fI) ⟨.ref x :: us, []⟩) R s)
    (hr : Room k X.A) (ha : PA X (e :: es) ta) (hg : Gl X nm) (hdb : (nm == ("__debug__" : Str)) = false)
    (he : starEach (e :: es) X.env = (false, eval e X.env) :: starEach es X.env := by rfl) (hpl : (backTo pos (starEach es X.env)).any (·.1) = false := by rfl) :
    PMk X (.Call (.Name nm p) (e :: es) [] pos) (tSup C fs ta) := by
  intro pins s σ H Q I h
  refine wpAny_Call_Name_kw (ld_glob I hg T.gC ?_ hdb)
  refine PySem.W.callWith_K (h₀ := X.base) I.ok.mod.kin T.kC (thn (ha.run pos pins s σ H _ I h) fun us s1 hh => ?_) he hpl
  obtain ⟨vs, H1, I1, r1, hl, q1⟩ := hh
  refine ⟨I1.kIn, ?_⟩
  have hul : us.length = fs.length := by rw [← r1.length]; exact hl
  show wpAny _ _ (call (.ref C) us) _ _ _
  have kb := I1.bk
  have kin := I1.kIn
  have md := I1.mod
  obtain ⟨hp, g, dr, tk, os⟩ := s1
  refine wpAny_call (sup_new T kin md kb (by rw [hul, sizeLine_eq]; omega) (by have := hr.dp; omega) (fun x1 x2 x3 x4 x5 x6 => init hul md x1 x2 x3 x4 x5 x6) fun h' tk' e d M => ?_)
  show MkP X pins σ Q (.ref e) ⟨h', g, dr, tk', os⟩
  obtain ⟨oe, fv, hoe, hc, hd, hdat, h1⟩ := M.obj
  have hns := M.ns
  obtain ⟨G', g1, g2⟩ := restrict h' fun b => decide (b ≠ e)
  have gk : ∀ b, b ≠ e → G'.get? b = h'.get? b := fun b hb => g1 b (decide_eq_true hb)
  have ge : G'.get? e = none := g2 e (by simp)
  have old : ∀ b o, hp.get? b = some o → G'.get? b = some o := fun b o q => (gk b (Nat.ne_of_lt (Nat.lt_of_lt_of_le (Heap.lt_size q) M.new))).trans (M.keep b o q)
  have ob : ObjOk X.prog X.w (upd H1 d (.xd (fs.zip vs))) G' d (.xd (fs.zip vs)) :=
    ⟨_, hns.at (fun o q => (gk d M.dne).trans q), fun f => relO_sup r1 f⟩
  have J : Inv X pins σ (upd H1 d (.xd (fs.zip vs))) ⟨G', g, dr, tk', os⟩ := I1.laid (t' := tk') old M.dbig ob
  refine ⟨e, oe, fv, ⟨G', g, dr, tk', os⟩, _, .ref C, some d, rfl, J, fun b o q => ?_, ge, hoe, ⟨hc, hd⟩, hdat, h1, ?_, rfl, I1.bare, raises_own T.exC T.tyC, q1 d (I1.hok.fresh M.dbig)⟩
  · by_cases hb : b = e
    · have q' : G'.get? b = some o := q
      rw [hb, ge] at q'; cases q'
    · exact (gk b hb).symm.trans q
  · rw [upd_ne (Ne.symm M.dne)]
    exact I1.hok.fresh M.new
end
end Z

set_option Elab.async false
set_option linter.all false
set_option maxRecDepth 100000
/-! # H: raise, calls of own defs -/
namespace Z
open PySem PySem.Spec PyProof.Rows L2 LamX
section
variable {Y : Cy} {τ : Tau} {ω : List O} {W : Wd}
theorem datF_zip {K : PySem.W.Frag} {G : Hp} : ∀ {fs : List Str} {vs : List V} {ds : List D}, DatL K G vs ds → DatF K G (fs.zip vs) (fs.zip ds)
  | [], _, _, _ => by simp only [List.zip_nil_left]; exact .nil
  | _ :: _, _, _, .nil => by simp only [List.zip_nil_right]; exact .nil
  | g :: r, _ :: _, _ :: _, .cons a b => by simp only [List.zip_cons_cons]; exact .cons a (datF_zip b)
theorem WS_raise {C : Addr} {fs : List Str} {c e : Expr} {es : List Expr} {pos : Pos} {D : En} (z : Rz Y) (calm : Y.X.calm = true) (pm : PMk Y.X c (tSup C fs (wA Y.X (e :: es))))
    (h : WA Y (e :: es) τ ω fun ss ω1 => ∃ ds, ss = ds.map S.d ∧ ds.length = fs.length ∧ Y.rz ⟨C, fs.zip ds⟩ τ ω1) : WS Y (.Raise (some c) none pos) τ ω D := .mk fun G as H σ b o l => by
  obtain ⟨Wx, tk, link⟩ := z
  refine wS_of (ps_raise calm tk pm) ?_
  refine (h G as H σ b o l).mono fun vs H1 ⟨G1, as1, ω1, g1, p1, o1, ss, r, ds, es, hl, q⟩ => ?_
  subst es
  have rd := r.dats
  refine ⟨by rw [rd.length]; exact hl, fun d hd => ?_⟩
  have hn := o1.noG hd
  have e1 : Same G1 (upd G1 d (.xd (fs.zip vs))) := Evl.Ex.new hn
  exact link ⟨C, fs.zip ds⟩ d _ as1 _ σ τ ω1 ((b.go g1 p1).go e1 (List.prefix_refl _)) (o1.newD hd (fun ps z => by cases z)) ((l.mono g1 p1).mono e1 (List.prefix_refl _)) ⟨_, upd_same, datF_zip (rd.mono e1)⟩ q
theorem FnD.at {k : Nat} {f : Addr} {fd : FuncData} {ps : List Str} {sp : Spc} (F : FnD W k f fd ps sp) (I : In W Y) : FnG Y.X.prog Y.X.w Y.X.K Y.X.mg Y.X.base k f fd ps (toSp Y.X.K Y.T ps.length sp) := by
  rw [I.P, I.w, I.K, I.mg, I.base, I.T]
  exact F
theorem SRelL.append {K : PySem.W.Frag} {G : Hp} {as : List Addr} : ∀ {vs ws : List V} {ss ts : List S}, SRelL K G as vs ss → SRelL K G as ws ts → SRelL K G as (vs ++ ws) (ss ++ ts)
  | _, _, _, _, .nil, h => h
  | _, _, _, _, .cons a b, h => .cons a (SRelL.append b h)
/-- the callee's promise met at the caller's state; dss: its defaults -/
theorem sp_meet {ps : List Str} {sp : Spc} {ss : List S} {vs : List V} {dvs : List V} {dss : List D} {G : Hp} {as : List Addr} {H : Hp} {σ : L2.St} {Q : QS} {Wx : WX}
    (link : ∀ x dx G as H σ τ ω, Base Y G as → Ok Y.X.K Y.T G H as ω → SlR Y.X.K G as σ τ → ExcAt Y.X.K G dx x → Y.rz x τ ω → Wx (.ref x.C) (some dx) σ H)
    (b : Base Y G as) (o : Ok Y.X.K Y.T G H as ω) (l : SlR Y.X.K G as σ τ) (r : SRelL Y.X.K G as vs ss) (hd : ∀ G, DatL Y.X.K G dvs dss) (hl : (ss ++ dss.map S.d).length = ps.length)
    (q : sp (ss ++ dss.map S.d) ω Q fun x ω2 => Y.rz x τ ω2) :
    toSp Y.X.K Y.T ps.length sp (vs ++ dvs) H (Fin1 Y G as Q) (L2.WE Wx σ) := by
  refine ⟨G, as, ss ++ dss.map S.d, ω, Q, fun x ω2 => Y.rz x τ ω2, o, r.append (SRelL.of_dats (hd G)), hl, q, fun s ω' q' G' H' as' v g p o' r' => ⟨G', as', ω', g, p, o', s, r', q'⟩, fun x ω' q' G' H' as' dx g p o' e => ?_⟩
  exact link x dx G' as' H' σ τ ω' (b.go g p) o' (l.mono g p) e q'
/-- the callee runs; what it raises is wished for at the slots -/
theorem run_fnG {X : Cx} {k : Nat} {f : Addr} {fd : FuncData} {ps : List Str} {sp : Sp} {Wx : WX} {pins : List (Addr × Obj)} {σ : L2.St} {H : Hp} {s : Shared} {Q : VK} {us : List Value} {kw : List (Str × Value)} {zs : List V} {ws : List Value} (F : FnG X.prog X.w X.K X.mg X.base k f fd ps sp) (hg : X.A.guards = some []) (hr : Room k X.A) (tk : Takes X Wx)
    (I : Inv X pins σ H s) (hb : ws.length = ps.length → BindsTo s fd ⟨us, kw⟩ (ps.zip ws)) (r : Vals zs ws) (h : sp zs H Q (L2.WE Wx σ)) : wpAny (model X.prog X.w) X.A (call (.ref f) us kw) (EP X pins σ Q) X.xe s := by
  have hl : ws.length = ps.length := by rw [← r.length]; exact F.len _ _ _ _ h
  refine wpAny_call (codeAny_mono (F.run X.A X.stack s H ⟨us, kw⟩ ws zs Q (L2.WE Wx σ) hg hr I.env0 (hb hl) r h) fun r s' hq => ?_)
  cases r with
  | error e => exact (passAt tk σ) pins H s e s' I hq
  | ok fl =>
    cases fl with
    | ret u => exact I.after hq
    | next => exact False.elim hq
    | brk => exact False.elim hq
    | cont => exact False.elim hq
def tCG (sp : Sp) (dvs : List V) (Wx : WX) (t : TA) : TE := fun σ H Q => t σ H fun vs H1 => sp (vs ++ dvs) H1 Q (L2.WE Wx σ)
theorem pe_callG {X : Cx} {k : Nat} {f : Addr} {fd : FuncData} {ps : List Str} {sp : Sp} {Wx : WX} {x : Str} {p pos : Pos} {e : Expr} {es : List Expr} {t : TA} {dvs : List V} {ds : List Value} (F : FnG X.prog X.w X.K X.mg X.base k f fd ps sp) (gd : X.A.guards = some []) (hr : Room k X.A) (hg : Gl X x) (hm : X.mg x = some (.ref f))
    (hk : PySem.W.keepIn X.K (.ref f) = true) (hb : Binds X.K fd ps ds) (hd : Vals dvs ds) (tk : Takes X Wx) (ha : PA X (e :: es) t) (hdb : (x == ("__debug__" : Str)) = false) (he : starEach (e :: es) X.env = (false, eval e X.env) :: starEach es X.env) (hpl : (backTo pos (starEach es X.env)).any (·.1) = false) :
    PE X (.Call (.Name x p) (e :: es) [] pos) (tCG sp dvs Wx t) := by
  refine ⟨fun pins s σ H Q I h => ?_⟩
  refine wpAny_Call_Name_kw (ld_glob I hg hm ?_ hdb)
  refine PySem.W.callWith_K (h₀ := X.base) I.ok.mod.kin hk (thn (ha.run pos pins s σ H _ I h) fun us s1 ⟨vs, H1, I1, r, q⟩ => ⟨I1.kIn, ?_⟩) he hpl
  exact run_fnG F gd hr tk I1 (fun hl => hb s1 us I1.kIn hl) (r.append hd) q
theorem pe_callG0 {X : Cx} {k : Nat} {f : Addr} {fd : FuncData} {ps : List Str} {sp : Sp} {Wx : WX} {x : Str} {p pos : Pos} {dvs : List V} {ds : List Value} (F : FnG X.prog X.w X.K X.mg X.base k f fd ps sp) (gd : X.A.guards = some []) (hr : Room k X.A) (hg : Gl X x) (hm : X.mg x = some (.ref f))
    (hk : PySem.W.keepIn X.K (.ref f) = true) (hb : Binds X.K fd ps ds) (hd : Vals dvs ds) (tk : Takes X Wx) (hdb : (x == ("__debug__" : Str)) = false) :
    PE X (.Call (.Name x p) [] [] pos) (fun σ H Q => sp dvs H Q (L2.WE Wx σ)) := by
  refine ⟨fun pins s σ H Q I h => ?_⟩
  refine wpAny_Call_Name_kw (ld_glob I hg hm ?_ hdb)
  exact PySem.W.callWith_K0 I.kIn hk (run_fnG (us := []) F gd hr tk I (fun hl => hb s [] I.kIn hl) hd h)
/-- how a call with keywords binds, whatever layer -/
theorem pe_callGK {X : Cx} {k : Nat} {f : Addr} {fd : FuncData} {ps ks : List Str} {sp : Sp} {Wx : WX} {x : Str} {p pos : Pos} {es : List Expr} {kws : List Keyword} {t tk : TA} {g : List Value → List Value → List Value} {gV : List V → List V → List V} {e : Expr}
    (F : FnG X.prog X.w X.K X.mg X.base k f fd ps sp) (gd : X.A.guards = some []) (hr : Room k X.A) (hg : Gl X x) (hm : X.mg x = some (.ref f)) (hk : PySem.W.keepIn X.K (.ref f) = true) (hb : KBinds X.K fd ps ks g gV) (tkx : Takes X Wx)
    (ha : PA X (e :: es) t) (hkw : PK X kws tk) (hall : (backToKw pos (keywordEach kws X.env)).all (·.1.isSome) = true) (hks : (backToKw pos (keywordEach kws X.env)).filterMap (·.1) = ks)
    (hdb : (x == ("__debug__" : Str)) = false) (he : starEach (e :: es) X.env = (false, eval e X.env) :: starEach es X.env) (hpl : ((backTo pos (starEach (e :: es) X.env)).any (·.1) || (backToKw pos (keywordEach kws X.env)).any (·.1.isNone)) = false) :
    PE X (.Call (.Name x p) (e :: es) kws pos) (fun σ H Q => t σ H fun vs H1 => tk σ H1 fun zs H2 => sp (gV vs zs) H2 Q (L2.WE Wx σ)) := by
  refine ⟨fun pins s σ H Q I h => ?_⟩
  refine wpAny_Call_Name_kw (ld_glob I hg hm ?_ hdb)
  refine PySem.W.callWith_KW (h₀ := X.base) I.ok.mod.kin hk hall (thn (ha.run pos pins s σ H _ I h) fun us s1 ⟨vs, H1, I1, r, q⟩ => ?_) hpl he
  refine thn (hkw.run pos pins s1 σ H1 _ I1 q) fun ws s2 ⟨zs, H2, I2, rz, q2⟩ => ⟨I2.kIn, ?_⟩
  rw [hks]
  exact run_fnG F gd hr tkx I2 (fun hl => hb.to s2 us ws I2.kIn hl) (hb.rel r rz) q2
/-- a def as it is called with n values by place: where it stands, how it binds, its defaults -/
structure Def (W : Wd) (x : Str) (n : Nat) (k : Nat) (ps : List Str) (sp : Spc) (dss : List D) : Prop where
  ex : ∃ f fd dvs ds, FnD W k f fd ps sp ∧ W.mg x = some (.ref f) ∧ PySem.W.keepIn W.K (.ref f) = true ∧ Binds W.K fd ps ds ∧ Vals dvs ds ∧ ∀ G, DatL W.K G dvs dss
theorem tCallS_ok {ps : List Str} {sp : Spc} {es : List Expr} {Q : QS} {Wx : WX} {dvs : List V} {dss : List D}
    (link : ∀ x dx G as H σ τ ω, Base Y G as → Ok Y.X.K Y.T G H as ω → SlR Y.X.K G as σ τ → ExcAt Y.X.K G dx x → Y.rz x τ ω → Wx (.ref x.C) (some dx) σ H) (hd : ∀ G, DatL Y.X.K G dvs dss)
    (h : WA Y es τ ω fun ss ω1 => (ss ++ dss.map S.d).length = ps.length ∧ sp (ss ++ dss.map S.d) ω1 Q fun x ω2 => Y.rz x τ ω2) {G : Hp} {as : List Addr} {H : Hp} {σ : L2.St} (b : Base Y G as) (o : Ok Y.X.K Y.T G H as ω) (l : SlR Y.X.K G as σ τ) :
    wA Y.X es σ H fun vs H1 => toSp Y.X.K Y.T ps.length sp (vs ++ dvs) H1 (Fin1 Y G as Q) (L2.WE Wx σ) :=
  (h G as H σ b o l).mono fun vs H1 ⟨G1, as1, ω1, g1, p1, o1, ss, r, hl, q⟩ => by
    obtain ⟨G2, as2, ss2, ω2, Q0, E0, o2, r2, l2, q2, k1, k2⟩ := sp_meet (Wx := Wx) link (b.go g1 p1) o1 (l.mono g1 p1) r hd hl q
    exact ⟨G2, as2, ss2, ω2, Q0, E0, o2, r2, l2, q2, fun s ω' a G' H' as' v x1 x2 x3 x4 => Go.back g1 p1 (k1 s ω' a G' H' as' v x1 x2 x3 x4), k2⟩
/-- what a context has for calls -/
structure Cal (W : Wd) (k : Nat) (Y : Cy) : Prop where
  inn : In W Y
  room : Room k Y.X.A
  gds : Y.X.A.guards = some []
  rz : Rz Y
theorem Cal.mono {j k : Nat} (c : Cal W k Y) (h : j ≤ k) : Cal W j Y := ⟨c.inn, c.room.mono h, c.gds, c.rz⟩
/-- f(e, ..) -/
theorem WE_call {k j : Nat} {x : Str} {ps : List Str} {sp : Spc} {dss : List D} {e : Expr} {es : List Expr} {p pos : Pos} {Q : QS} (Df : Def W x (es.length + 1) j ps sp dss) (c : Cal W k Y) (hj : j ≤ k)
    (h : WA Y (e :: es) τ ω fun ss ω1 => (ss ++ dss.map S.d).length = ps.length ∧ sp (ss ++ dss.map S.d) ω1 Q fun x ω2 => Y.rz x τ ω2) (hg : Gl Y.X x := by rfl) (hdb : (x == ("__debug__" : Str)) = false := by decide)
    (he : starEach (e :: es) Y.X.env = (false, eval e Y.X.env) :: starEach es Y.X.env := by rfl) (hpl : (backTo pos (starEach es Y.X.env)).any (·.1) = false := by rfl) :
    WE Y (.Call (.Name x p) (e :: es) [] pos) τ ω Q := .mk fun G as H σ b o l => by
  obtain ⟨f, fd, dvs, ds, F, hm, hk, hb, hv, hd⟩ := Df.ex
  obtain ⟨Wx, tk, link⟩ := c.rz
  have I := c.inn
  refine wE_of (pe_callG (F.at I) c.gds (c.room.mono hj) hg (by rw [I.mg]; exact hm) (by rw [I.K]; exact hk) (by rw [I.K]; exact hb) hv tk pa_w hdb he hpl) ?_
  exact tCallS_ok (dvs := dvs) (dss := dss) (Wx := Wx) link (fun G => by rw [I.K]; exact hd G) h b o l
/-- f() -/
theorem WE_call0 {k j : Nat} {x : Str} {ps : List Str} {sp : Spc} {dss : List D} {p pos : Pos} {Q : QS} (Df : Def W x 0 j ps sp dss) (c : Cal W k Y) (hj : j ≤ k) (hl : dss.length = ps.length)
    (h : sp (dss.map S.d) ω Q fun x ω2 => Y.rz x τ ω2) (hg : Gl Y.X x := by rfl) (hdb : (x == ("__debug__" : Str)) = false := by decide) : WE Y (.Call (.Name x p) [] [] pos) τ ω Q := .mk fun G as H σ b o l => by
  obtain ⟨f, fd, dvs, ds, F, hm, hk, hb, hv, hd⟩ := Df.ex
  obtain ⟨Wx, tk, link⟩ := c.rz
  have I := c.inn
  refine wE_of (pe_callG0 (F.at I) c.gds (c.room.mono hj) hg (by rw [I.mg]; exact hm) (by rw [I.K]; exact hk) (by rw [I.K]; exact hb) hv tk hdb) ?_
  have q := sp_meet (ps := ps) (sp := sp) (ss := []) (vs := []) (dvs := dvs) (dss := dss) (Wx := Wx) link b o l .nil (fun G => by rw [I.K]; exact hd G) (by simpa using hl) (by simpa using h)
  simpa using q
/-! ### keywords -/
def WK0 (Y : Cy) (es : List Keyword) (τ : Tau) (ω : List O) (Q : List S → List O → Prop) : Prop :=
  ∀ G as H σ, Base Y G as → Ok Y.X.K Y.T G H as ω → SlR Y.X.K G as σ τ → ∀ pos pins s, Inv Y.X pins σ H s → wpAny (model Y.X.prog Y.X.w) Y.X.A (evalAll ((backToKw pos (keywordEach es Y.X.env)).map (·.2))) (AP Y.X pins σ fun v H' => Go Y G as H' fun G' as' ω' => ∃ s, SRelL Y.X.K G' as' v s ∧ Q s ω') Y.X.xe s
structure WK (Y : Cy) (es : List Keyword) (τ : Tau) (ω : List O) (Q : List S → List O → Prop) : Prop where
  run : WK0 Y es τ ω Q
instance {Y : Cy} {es : List Keyword} {τ : Tau} {ω : List O} {Q : List S → List O → Prop} : CoeFun (WK Y es τ ω Q) (fun _ => WK0 Y es τ ω Q) := ⟨fun h => h.run⟩
def wK (X : Cx) (es : List Keyword) : TA := fun σ H Q => ∀ pos pins s, Inv X pins σ H s → wpAny (model X.prog X.w) X.A (evalAll ((backToKw pos (keywordEach es X.env)).map (·.2))) (AP X pins σ Q) X.xe s
theorem pk_w {X : Cx} {es : List Keyword} : PK X es (wK X es) := ⟨fun pos pins s _ _ _ I h => h pos pins s I⟩
theorem wK_of {X : Cx} {es : List Keyword} {t : TA} {σ : L2.St} {H : Hp} {Q : List V → Hp → Prop} (h : PK X es t) (q : t σ H Q) : wK X es σ H Q := fun pos pins s I => h.run pos pins s σ H Q I q
theorem wK.mono {X : Cx} {σ : L2.St} {H : Hp} {es : List Keyword} {Q Q' : List V → Hp → Prop} (h : wK X es σ H Q) (k : ∀ v H', Q v H' → Q' v H') : wK X es σ H Q' := fun pos pins s I => thn (h pos pins s I) fun _ _ ⟨v, H', I', r, q⟩ => ⟨v, H', I', r, k v H' q⟩
theorem WK_nil {Q : List S → List O → Prop} (q : Q [] ω) : WK Y [] τ ω Q := .mk fun G as H σ b o l => wK_of pk_nil (show tNil σ H _ from Go.here o ⟨[], .nil, q⟩)
theorem WK_cons {nm : Option Str} {e : Expr} {kpos : Pos} {es : List Keyword} {Q : List S → List O → Prop} (h : WE Y e τ ω fun s ω1 => WK Y es τ ω1 fun ss ω2 => Q (s :: ss) ω2) : WK Y (⟨nm, e, kpos⟩ :: es) τ ω Q := .mk fun G as H σ b o l => by
  refine wK_of (pk_cons pe_w pk_w) ?_
  refine (h G as H σ b o l).mono fun v H1 ⟨G1, as1, ω1, g1, p1, o1, s, r, q⟩ => ?_
  refine wK.mono (q G1 as1 H1 σ (b.go g1 p1) o1 (l.mono g1 p1)) fun vs H2 g => Go.back g1 p1 (g.mono fun G2 as2 ω2 g2 p2 o2 ⟨ss, r2, q2⟩ => ⟨s :: ss, .cons (r.mono g2 p2) r2, q2⟩)
end
end Z

set_option Elab.async false
set_option linter.all false
set_option maxRecDepth 100000
/-! # I: displays, items, slices, built-ins, methods -/
namespace Z
open PySem PySem.Spec PyProof.Rows L2 LamX

/-- all of them data -/
def allD : List S → Option (List D)
  | [] => some []
  | .d x :: r => (allD r).map (x :: ·)
  | .o _ :: _ => none
theorem allD_map : ∀ ds : List D, allD (ds.map S.d) = some ds
  | [] => rfl
  | d :: r => by
    show (allD (r.map S.d)).map (d :: ·) = some (d :: r)
    rw [allD_map r]
    rfl
theorem allD_eq : ∀ {ss : List S} {ds : List D}, allD ss = some ds → ss = ds.map S.d
  | [], ds, h => by cases h; rfl
  | .d x :: r, ds, h => by
    unfold allD at h
    cases q : allD r with
    | none => rw [q] at h; cases h
    | some l => rw [q] at h; cases h; rw [allD_eq q]; rfl
  | .o k :: r, ds, h => by unfold allD at h; cases h
def datsS (ss : List S) (P : List D → Prop) : Prop := match allD ss with
  | some ds => P ds
  | none => False
theorem datsS_of {ss : List S} {P : List D → Prop} (h : datsS ss P) : ∃ ds, ss = ds.map S.d ∧ P ds := by
  unfold datsS at h
  split at h
  · rename_i ds e; exact ⟨ds, allD_eq e, h⟩
  · exact h.elim
theorem datsS_mk {ds : List D} {P : List D → Prop} (h : P ds) : datsS (ds.map S.d) P := by
  unfold datsS
  rw [allD_map]
  exact h
section
variable {Y : Cy} {G H : Hp} {as : List Addr} {ω : List O} {τ : Tau} {Q : QS} {x y : V} {d : D} {e a b : Expr} {es : List Expr} {pos : Pos}
theorem WE_list (h : WA Y es τ ω fun ss ω1 => datsS ss fun ds => newL ds ω1 Q) : WE Y (.List es pos) τ ω Q := .mk fun G as H σ b o l => by
  refine wE_of (pe_lst pa_w) ((h G as H σ b o l).mono fun vs H1 ⟨G1, as1, ω1, g1, p1, o1, ss, r, q⟩ => ?_)
  obtain ⟨ds, rfl, q2⟩ := datsS_of q
  exact ⟨by rw [r.dats.length]; exact q2.len, fun p hp => Go.back g1 p1 (fin_newL o1 hp r.dats q2)⟩
theorem WE_tup {k} (h : WA Y es τ ω fun ss ω1 => datsS ss fun ds => ds.length ≤ sizeLine ∧ Q (.d (.tup ds)) ω1) : WE Y (.Tuple es k pos) τ ω Q := .mk fun G as H σ b o l => by
  refine wE_of (pe_tup pa_w) ((h G as H σ b o l).mono fun vs H1 ⟨G1, as1, ω1, g1, p1, o1, ss, r, q⟩ => ?_)
  obtain ⟨ds, rfl, q2⟩ := datsS_of q
  exact ⟨by rw [r.dats.length]; exact q2.1, fun p hp => Go.back g1 p1 (fin_newT o1 hp r.dats q2.2)⟩
/-- a new dict: as data, or owned -/
structure newK (ks : List (Key × D)) (ω : List O) (Q : QS) : Prop where
  way : Q (.d (.dict ks)) ω ∨ Q (.o ω.length) (ω ++ [.dct ks])
theorem upd_upd {H : Hp} {p : Addr} {u v : HO} : upd (upd H p u) p v = upd H p v := by
  funext x
  by_cases c : x = p
  · subst c; rw [upd_same, upd_same]
  · rw [upd_ne c, upd_ne c, upd_ne c]
/-- a thing may be locked as soon as it is there -/
theorem wE_lock {X : Cx} {σ : L2.St} {Q : VK} (h : wE X e σ H fun v H' => Q v H' ∨ ∃ d u, v = .ref d ∧ H' d = some u ∧ Mut (some u) ∧ ∀ od, Q v (upd H' d (.frz od u))) : wE X e σ H Q := fun pins s I => by
  refine thn (h pins s I) fun r s' hh => ?_
  obtain ⟨v, H', I', rv, q⟩ := hh
  rcases q with q | ⟨d, u, ev, hd, mu, q⟩
  · exact ⟨v, H', I', rv, q⟩
  · obtain ⟨od, I2⟩ := I'.lock hd mu
    exact ⟨v, _, I2, rv, q od⟩
theorem wCall_lock {X : Cx} {f : Value} {xs : List V} {Q : VK} (h : wCall X f xs H fun v H' => Q v H' ∨ ∃ d u, v = .ref d ∧ H' d = some u ∧ Mut (some u) ∧ ∀ od, Q v (upd H' d (.frz od u))) : wCall X f xs H Q := fun pins s σ us I r => by
  refine thn (h pins s σ us I r) fun r s' hh => ?_
  obtain ⟨v, H', I', rv, q⟩ := hh
  rcases q with q | ⟨d, u, ev, hd, mu, q⟩
  · exact ⟨v, H', I', rv, q⟩
  · obtain ⟨od, I2⟩ := I'.lock hd mu
    exact ⟨v, _, I2, rv, q od⟩
theorem fin_newK {vs : List (Key × V)} {ds : List (Key × D)} {p : Addr} (o : Ok Y.X.K Y.T G H as ω) (hp : H p = none) (r : DatK Y.X.K G vs ds) (q : newK ds ω Q) :
    Fin1 Y G as Q (.ref p) (upd H p (.dK vs)) ∨ ∃ d u, V.ref p = .ref d ∧ (upd H p (.dK vs)) d = some u ∧ Mut (some u) ∧ ∀ od, Fin1 Y G as Q (.ref p) (upd (upd H p (.dK vs)) d (.frz od u)) := by
  rcases q.way with q | q
  · refine .inr ⟨p, _, rfl, upd_same, True.intro, fun od => ?_⟩
    rw [upd_upd]
    exact ⟨_, as, ω, Evl.Ex.new (o.noG hp), List.prefix_refl _, o.newD hp (fun ps z => by cases z), .d (.dict ds), .dict upd_same (r.mono (Evl.Ex.new (o.noG hp))), q⟩
  · refine .inl ⟨G, as ++ [p], _, Same.refl G, pre_snoc, o.newO hp (o := .dct ds) ⟨vs, upd_same, r⟩, .o ω.length, ⟨p, ?_, rfl⟩, q⟩
    rw [← o.len]; simp
theorem WE_dict0 (h : newK [] ω Q) : WE Y (.Dict [] [] pos) τ ω Q := .mk fun G as H σ b o l =>
  wE_lock (wE_of pe_dnewK (fun p hp => fin_newK o hp .nil h))

/-! ### items -/
def wIx (X : Cx) : R2 := fun x y H Q => ∀ (value slice : Expr) pins s σ v u, Inv X pins σ H s → RelV x v → RelV y u → subscripted slice false v u = operate [v, u] (getItem v u) → wpAny (model X.prog X.w) X.A (subscriptTail value slice v u) (EP X pins σ Q) X.xe s
theorem ix_w {X : Cx} : IxR X (wIx X) := fun value slice pins s σ _ _ _ v u _ I r1 r2 h hs => h value slice pins s σ v u I r1 r2 hs
theorem wIx_of {X : Cx} {r : R2} {x y : V} {H : Hp} {Q : VK} (h : IxR X r) (q : r x y H Q) : wIx X x y H Q := fun value slice pins s σ v u I r1 r2 hs => h value slice pins s σ H x y v u Q I r1 r2 q hs
theorem wIx.mono {X : Cx} {x y : V} {H : Hp} {Q Q' : VK} (h : wIx X x y H Q) (k : ∀ v H', Q v H' → Q' v H') : wIx X x y H Q' := fun a b pins s σ v u I r1 r2 hs => thn (h a b pins s σ v u I r1 r2 hs) fun _ _ ⟨v, H', I', r, q⟩ => ⟨v, H', I', r, k v H' q⟩
def ixD : D → D → QS → List O → Prop
  | .list xs, .int i, Q, ω => ∃ d, atI xs i = some d ∧ Q (.d d) ω
  | .tup xs, .int i, Q, ω => ∃ d, atI xs i = some d ∧ Q (.d d) ω
  | .str z, .int i, Q, ω => z.length ≤ sizeLine ∧ ∃ c, atI z.cps.toList i = some c ∧ Q (.d (.str ⟨#[c]⟩)) ω
  | _, _, _, _ => False
def ixS0 (s t : S) (ω : List O) (Q : QS) : Prop := match vw ω s, vw ω t with
  | some d, some e => ixD d e Q ω
  | _, _ => False
structure ixS (s t : S) (ω : List O) (Q : QS) : Prop where
  h : ixS0 s t ω Q
theorem atI_dat {K : PySem.W.Frag} {G : Hp} {vs : List V} {ds : List D} (r : DatL K G vs ds) {i : Int} {d : D} (h : atI ds i = some d) : ∃ v, atI vs i = some v ∧ Dat K G v d := by
  unfold atI at h ⊢
  rw [r.length]
  cases e : ixN ds.length i with
  | none => rw [e] at h; simp at h
  | some j =>
    rw [e] at h
    simp only [Option.bind_some] at h ⊢
    exact r.get h
theorem ixS_ok {s t : S} (o : Ok Y.X.K Y.T G H as ω) (hx : SRel Y.X.K G as x s) (hy : SRel Y.X.K G as y t) (q : ixS s t ω Q) : wIx Y.X x y H (Fin1 Y G as Q) := by
  obtain ⟨q⟩ := q
  unfold ixS0 at q
  split at q
  · rename_i d e h1 h2
    have v1 := vw_ok o hx h1
    have v2 := vw_ok o hy h2
    unfold ixD at q
    split at q
    · obtain ⟨p, xs, rfl, e1, r1⟩ := v1
      cases v2
      obtain ⟨d, hd, q⟩ := q
      obtain ⟨v, hv, rv⟩ := atI_dat r1 hd
      exact wIx_of ix_list ⟨p, xs, _, v, rfl, rfl, SqL.of e1, hv, fin_d o rv q⟩
    · cases v2
      cases v1 with
      | tup e1 r1 =>
        obtain ⟨d, hd, q⟩ := q
        obtain ⟨v, hv, rv⟩ := atI_dat r1 hd
        exact wIx_of ix_tup ⟨_, _, _, v, rfl, rfl, sqt_mono o.sub e1, hv, fin_d o rv q⟩
    · cases v1; cases v2
      obtain ⟨hz, c, hc, q⟩ := q
      exact wIx_of ix_str ⟨_, _, c, rfl, rfl, hz, hc, fin_d o (.str _) q⟩
    · exact q.elim
  · exact q.elim
/-- x[i] of a list, a tuple, a text -/
theorem WE_ix (h : WE Y a τ ω fun s ω1 => WE Y b τ ω1 fun t ω2 => ixS s t ω2 Q) (hs : PlainIx b := by exact fun _ _ => rfl) : WE Y (.Subscript a b pos) τ ω Q := .mk fun G as H σ b0 o l =>
  wE_of (pe_ix ix_w pe_w pe_w hs) (two_ok (F := wIx Y.X) h (fun _ o r1 r2 q => ixS_ok o r1 r2 q) (fun h k => h.mono k) b0 o l)
/-- d[k] of a dict -/
theorem WE_dget (hu : Rm Y) (h : WE Y a τ ω fun s ω1 => WE Y b τ ω1 fun t ω2 => ∃ ks k key d, vw ω2 s = some (.dict ks) ∧ t = .d k ∧ keyD k = some key ∧ dlook ks key = some d ∧ Q (.d d) ω2) (hs : NoSl b := by exact fun _ _ => rfl) : WE Y (.Subscript a b pos) τ ω Q := .mk fun G as H σ b0 o l => by
  refine wE_of (pe_dget (by have := hu.un; omega) pe_w pe_w hs) ?_
  refine (h G as H σ b0 o l).mono fun x H1 ⟨G1, as1, ω1, g1, p1, o1, s, r, q⟩ => ?_
  refine (q G1 as1 H1 σ (b0.go g1 p1) o1 (l.mono g1 p1)).mono fun y H2 ⟨G2, as2, ω2, g2, p2, o2, t, r2, ks, k, key, d, e1, e2, e3, e4, q2⟩ => ?_
  obtain ⟨p, kvs, rfl, h1, h2⟩ := vw_ok o2 (r.mono g2 p2) e1
  subst e2
  have hk : y = kV key := by
    have r2 : Dat Y.X.K G2 y k := r2
    unfold keyD at e3
    split at e3
    · cases r2; cases e3; rfl
    · cases r2; cases e3; rfl
    · cases e3
  rcases valV_look h2 key with ⟨v, d', a1, a2, a3⟩ | ⟨_, a2⟩
  · rw [e4] at a2; cases a2
    exact ⟨p, v, rfl, .inl ⟨kvs, key, h1, hk, a1.symm⟩, Go.back (g1.trans g2) (p1.trans p2) (fin_d o2 a3 q2)⟩
  · rw [e4] at a2; cases a2

/-! ### slices -/
def cutD (xs : List D) (lo hi : Option Int) : List D := (xs.drop (HT.sIx xs.length 0 lo)).take (HT.sIx xs.length xs.length hi - HT.sIx xs.length 0 lo)
theorem cut_dat {K : PySem.W.Frag} {G : Hp} {vs : List V} {ds : List D} (r : DatL K G vs ds) (lo hi : Option Int) : DatL K G (cutV vs lo hi) (cutD ds lo hi) := by
  unfold cutV cutD
  rw [r.length]
  exact (r.drop _).take _
theorem cutD_len (xs : List D) (lo hi : Option Int) : (cutD xs lo hi).length ≤ xs.length := by
  unfold cutD
  rw [List.length_take, List.length_drop]
  omega
/-- a part of a slice -/
def WO (Y : Cy) (e : Option Expr) (τ : Tau) (ω : List O) (Q : Option Int → List O → Prop) : Prop := match e with
  | none => Q none ω
  | some x => WE Y x τ ω fun s ω1 => match s with
    | .d (.int i) => Q (some i) ω1
    | _ => False
def wO (X : Cx) (e : Option Expr) : TO := fun σ H Q => ∀ pins s, Inv X pins σ H s → wpAny (model X.prog X.w) X.A (evalPart e X.env) (fun u s' => ∃ o H', Inv X pins σ H' s' ∧ IsPart u o ∧ Q o H') X.xe s
theorem po_w {X : Cx} {e : Option Expr} : PO X e (wO X e) := ⟨fun pins s _ _ _ I h => h pins s I⟩
theorem wO_of {X : Cx} {e : Option Expr} {t : TO} {σ : L2.St} {H : Hp} {Q : Option Int → Hp → Prop} (h : PO X e t) (q : t σ H Q) : wO X e σ H Q := fun pins s I => h.run pins s σ H Q I q
theorem WO_ok {p : Option Expr} {R : Option Int → List O → Prop} (h : WO Y p τ ω R) {σ : L2.St} (b : Base Y G as) (o : Ok Y.X.K Y.T G H as ω) (l : SlR Y.X.K G as σ τ) : wO Y.X p σ H fun v H' => Go Y G as H' fun _ _ ω' => R v ω' := by
  cases p with
  | none => exact wO_of po_none (show tNoPart σ H _ from Go.here o h)
  | some x =>
    have h : WE Y x τ ω fun s ω1 => match s with | .d (.int i) => R (some i) ω1 | _ => False := h
    refine wO_of (po_some pe_w) ((h G as H σ b o l).mono fun v H1 ⟨G1, as1, ω1, g1, p1, o1, s, r, q⟩ => ?_)
    cases s with
    | o k => exact q.elim
    | d y =>
      cases y with
      | int i => cases r; exact ⟨i, rfl, G1, as1, ω1, g1, p1, o1, q⟩
      | _ => exact q.elim
theorem wO.mono {X : Cx} {e : Option Expr} {σ : L2.St} {H : Hp} {Q Q' : Option Int → Hp → Prop} (h : wO X e σ H Q) (k : ∀ v H', Q v H' → Q' v H') : wO X e σ H Q' := fun pins s I => thn (h pins s I) fun _ _ ⟨v, H', I', r, q⟩ => ⟨v, H', I', r, k v H' q⟩
def slD : D → Option Int → Option Int → List O → QS → Prop
  | .list xs, lo, hi, ω, Q => newL (cutD xs lo hi) ω Q
  | .scr ns, lo, hi, ω, Q => newL (cutD (ns.map D.int) lo hi) ω Q
  | .tup xs, lo, hi, ω, Q => ¬ (HT.sIx xs.length 0 lo = 0 ∧ HT.sIx xs.length xs.length hi = xs.length) ∧ Q (.d (.tup (cutD xs lo hi))) ω
  | .str z, lo, hi, ω, Q => z.length ≤ sizeLine ∧ Q (.d (.str (cutS z lo hi))) ω
  | _, _, _, _, _ => False
def slS0 (s : S) (lo hi : Option Int) (ω : List O) (Q : QS) : Prop := match vw ω s with
  | some d => slD d lo hi ω Q
  | none => False
structure slS (s : S) (lo hi : Option Int) (ω : List O) (Q : QS) : Prop where
  h : slS0 s lo hi ω Q
def wSl (X : Cx) : V → Option Int → Option Int → Hp → VK → Prop := fun x lo hi H Q => ∀ pins s σ v vl vu sl, Inv X pins σ H s → RelV x v → s.heap.IsSliceOf sl vl vu .none → IsPart vl lo → IsPart vu hi →
    ∃ T id, typeLookup (.type T) "__getitem__" = pure (some (.builtin id)) ∧ s.TypeIs v T ∧ wpAny (model X.prog X.w) X.A (getItem v (.ref sl)) (EP X pins σ Q) X.xe s
theorem sl_w {X : Cx} : L2.SlR X (wSl X) := fun pins s σ _ _ v vl vu _ _ sl _ I r h1 h2 h3 h => h pins s σ v vl vu sl I r h1 h2 h3
theorem wSl_of {X : Cx} {r : V → Option Int → Option Int → Hp → VK → Prop} {x : V} {lo hi : Option Int} {H : Hp} {Q : VK} (h : L2.SlR X r) (q : r x lo hi H Q) : wSl X x lo hi H Q := fun pins s σ v vl vu sl I r1 h1 h2 h3 => h pins s σ H x v vl vu lo hi sl Q I r1 h1 h2 h3 q
theorem wSl.mono {X : Cx} {x : V} {lo hi : Option Int} {H : Hp} {Q Q' : VK} (h : wSl X x lo hi H Q) (k : ∀ v H', Q v H' → Q' v H') : wSl X x lo hi H Q' := fun pins s σ v vl vu sl I r1 h1 h2 h3 => by
  obtain ⟨T, id, a, b, c⟩ := h pins s σ v vl vu sl I r1 h1 h2 h3
  exact ⟨T, id, a, b, thn c fun _ _ ⟨v, H', I', r, q⟩ => ⟨v, H', I', r, k v H' q⟩⟩
theorem slS_ok {s : S} {lo hi : Option Int} (o : Ok Y.X.K Y.T G H as ω) (hx : SRel Y.X.K G as x s) (q : slS s lo hi ω Q) : wSl Y.X x lo hi H (Fin1 Y G as Q) := by
  obtain ⟨q⟩ := q
  unfold slS0 at q
  split at q
  · rename_i d h1
    have v1 := vw_ok o hx h1
    unfold slD at q
    split at q
    · obtain ⟨p, xs, rfl, e1, r1⟩ := v1
      exact wSl_of sl_list ⟨p, xs, rfl, SqL.of e1, fun p hp => fin_newL o hp (cut_dat r1 _ _) q⟩
    · cases v1 with
      | scr e1 => exact wSl_of sl_list ⟨_, _, rfl, o.sub.seq e1, fun p hp => fin_newL o hp (cut_dat (DatL.ints _) _ _) q⟩
    · cases v1 with
      | tup e1 r1 => exact wSl_of sl_tup ⟨_, _, rfl, sqt_mono o.sub e1, by rw [r1.length]; exact q.1, fun p hp => fin_newT o hp (cut_dat r1 _ _) q.2⟩
    · cases v1
      exact wSl_of sl_str ⟨_, rfl, q.1, fin_d o (.str _) q.2⟩
    · exact q.elim
  · exact q.elim
theorem WE_slice {lo hi : Option Expr} {p2 : Pos} (h : WE Y a τ ω fun s ω1 => WO Y lo τ ω1 fun i ω2 => WO Y hi τ ω2 fun j ω3 => slS s i j ω3 Q) : WE Y (.Subscript a (.Slice lo hi none p2) pos) τ ω Q := .mk fun G as H σ b0 o l => by
  refine wE_of (pe_slice sl_w pe_w po_w po_w) ?_
  refine (h G as H σ b0 o l).mono fun x H1 ⟨G1, as1, ω1, g1, p1, o1, s, r, q⟩ => ?_
  refine (WO_ok q (b0.go g1 p1) o1 (l.mono g1 p1)).mono fun i H2 ⟨G2, as2, ω2, g2, p2, o2, q2⟩ => ?_
  refine (WO_ok q2 ((b0.go g1 p1).go g2 p2) o2 ((l.mono g1 p1).mono g2 p2)).mono fun j H3 ⟨G3, as3, ω3, g3, p3, o3, q3⟩ => ?_
  exact (slS_ok o3 ((r.mono g2 p2).mono g3 p3) q3).mono fun v H' g => Go.back ((g1.trans g2).trans g3) ((p1.trans p2).trans p3) g

/-! ### built-ins -/
theorem WE_callB {x : Str} {id : String} {p : Pos} {R : List S → List O → Prop} (hm : Y.X.mg x = none) (h : WA Y (e :: es) τ ω R)
    (hR : ∀ {G as H ω vs ss}, Base Y G as → Ok Y.X.K Y.T G H as ω → SRelL Y.X.K G as vs ss → R ss ω → wCall Y.X (.builtin id) vs H (Fin1 Y G as Q)) (hv : bootBuiltins x = some (.builtin id) := by decide +kernel) (hg : Gl Y.X x := by rfl)
    (hn : x ≠ "__name__" := by decide) (hdb : (x == ("__debug__" : Str)) = false := by decide) (he : starEach (e :: es) Y.X.env = (false, eval e Y.X.env) :: starEach es Y.X.env := by rfl) (hpl : (backTo pos (starEach es Y.X.env)).any (·.1) = false := by rfl) :
    WE Y (.Call (.Name x p) (e :: es) [] pos) τ ω Q := .mk fun G as H σ b0 o l => by
  refine wE_of (pe_callB call_w hg hm hv pa_w hn hdb he hpl) ((h G as H σ b0 o l).mono fun vs H1 ⟨G1, as1, ω1, g1, p1, o1, ss, r, q⟩ => ?_)
  exact (hR (b0.go g1 p1) o1 r q).mono fun v H' g => Go.back g1 p1 g
theorem WE_callTy {x : Str} {T : String} {p : Pos} {R : List S → List O → Prop} (hm : Y.X.mg x = none) (h : WA Y (e :: es) τ ω R)
    (hR : ∀ {G as H ω vs ss}, Base Y G as → Ok Y.X.K Y.T G H as ω → SRelL Y.X.K G as vs ss → R ss ω → wCall Y.X (.type T) vs H (Fin1 Y G as Q)) (hv : bootBuiltins x = some (.type T) := by decide +kernel) (hg : Gl Y.X x := by rfl)
    (hn : x ≠ "__name__" := by decide) (hdb : (x == ("__debug__" : Str)) = false := by decide) (he : starEach (e :: es) Y.X.env = (false, eval e Y.X.env) :: starEach es Y.X.env := by rfl) (hpl : (backTo pos (starEach es Y.X.env)).any (·.1) = false := by rfl) :
    WE Y (.Call (.Name x p) (e :: es) [] pos) τ ω Q := .mk fun G as H σ b0 o l => by
  refine wE_of (pe_callTy call_w hg hm hv pa_w hn hdb he hpl) ((h G as H σ b0 o l).mono fun vs H1 ⟨G1, as1, ω1, g1, p1, o1, ss, r, q⟩ => ?_)
  exact (hR (b0.go g1 p1) o1 r q).mono fun v H' g => Go.back g1 p1 g
end
end Z

set_option Elab.async false
set_option linter.all false
set_option maxRecDepth 100000
/-! # J: the built-ins one by one -/
namespace Z
open PySem PySem.Spec PyProof.Rows L2 LamX
section
variable {Y : Cy} {G H : Hp} {as : List Addr} {ω : List O} {τ : Tau} {Q : QS} {x y : V} {d : D} {e a b : Expr} {es : List Expr} {p pos apos : Pos}
theorem SRelL.one {K : PySem.W.Frag} {vs : List V} {s : S} (r : SRelL K G as vs [s]) : ∃ v, vs = [v] ∧ SRel K G as v s := by
  cases r with
  | cons a b => cases b; exact ⟨_, rfl, a⟩
theorem SRelL.two {K : PySem.W.Frag} {vs : List V} {s t : S} (r : SRelL K G as vs [s, t]) : ∃ v w, vs = [v, w] ∧ SRel K G as v s ∧ SRel K G as w t := by
  cases r with
  | cons a b => cases b with | cons c d => cases d; exact ⟨_, _, rfl, a, c⟩
/-- one argument, seen -/
def one1 (P : D → List O → Prop) : List S → List O → Prop := fun ss ω => ∃ s d, ss = [s] ∧ vw ω s = some d ∧ P d ω
theorem WA_one {P : D → List O → Prop} (h : WE Y a τ ω fun s ω1 => match vw ω1 s with | some d => P d ω1 | none => False) (hs : starEach [a] Y.X.env = (false, eval a Y.X.env) :: starEach [] Y.X.env := by rfl) : WA Y [a] τ ω (one1 P) :=
  WA_cons (h.mono fun s ω1 q => WA_nil (by
    split at q
    · rename_i d e; exact ⟨s, d, rfl, e, q⟩
    · exact q.elim)) hs
/-- two arguments, seen -/
def two2 (P : D → D → List O → Prop) : List S → List O → Prop := fun ss ω => ∃ s t d e, ss = [s, t] ∧ vw ω s = some d ∧ vw ω t = some e ∧ P d e ω
theorem WA_two {P : D → D → List O → Prop} (h : WE Y a τ ω fun s ω1 => WE Y b τ ω1 fun t ω2 => match vw ω2 s, vw ω2 t with | some d, some e => P d e ω2 | _, _ => False) (hs : starEach [a, b] Y.X.env = (false, eval a Y.X.env) :: starEach [b] Y.X.env := by rfl)
    (hs2 : starEach [b] Y.X.env = (false, eval b Y.X.env) :: starEach [] Y.X.env := by rfl) : WA Y [a, b] τ ω (two2 P) :=
  WA_cons (h.mono fun s ω1 q => WA_cons (q.mono fun t ω2 q2 => WA_nil (by
    split at q2
    · rename_i d e h1 h2; exact ⟨s, t, d, e, rfl, h1, h2, q2⟩
    · exact q2.elim)) hs2) hs
def lenD : D → (Nat → Prop) → Prop
  | .str z, P => z.length ≤ sizeLine ∧ P z.length
  | .list xs, P => P xs.length
  | .tup xs, P => P xs.length
  | .dict ks, P => P ks.length
  | .scr ns, P => P ns.length
  | _, _ => False
theorem DatK.length {K : PySem.W.Frag} : ∀ {vs : List (Key × V)} {ds : List (Key × D)}, DatK K G vs ds → vs.length = ds.length
  | _, _, .nil => rfl
  | _, _, .cons _ h => congrArg Nat.succ (DatK.length h)
/-- len -/
theorem WE_len (hm : Y.X.mg "len" = none) (h : WE Y a τ ω fun s ω1 => match vw ω1 s with | some d => (∀ ks, d ≠ .dict ks) ∧ lenD d fun n => Q (.d (.int (n : Int))) ω1 | none => False) (hg : Gl Y.X "len" := by rfl)
    (he : starEach (a :: []) Y.X.env = (false, eval a Y.X.env) :: starEach [] Y.X.env := by rfl) : WE Y (.Call (.Name "len" p) [a] [] pos) τ ω Q :=
  WE_callB hm (WA_one h he) (fun {G as H ω vs ss} _ o r ⟨s, d, e, hv, nd, q⟩ => by
    subst e
    obtain ⟨v, rfl, r1⟩ := r.one
    have w := vw_ok o r1 hv
    unfold lenD at q
    split at q
    · cases w; exact wCall_of call_len ⟨_, _, rfl, ⟨q.1, rfl⟩, fin_d o (.int _) q.2⟩
    · obtain ⟨p, xs, rfl, h1, h2⟩ := w
      exact wCall_of call_len ⟨_, _, rfl, .inl ⟨xs, SqL.of h1, rfl⟩, by rw [h2.length]; exact fin_d o (.int _) q⟩
    · cases w with
      | tup h1 h2 => exact wCall_of call_len ⟨_, _, rfl, .inr ⟨_, sqt_mono o.sub h1, rfl⟩, by rw [h2.length]; exact fin_d o (.int _) q⟩
    · exact (nd _ rfl).elim
    · cases w with
      | scr h1 => exact wCall_of call_len ⟨_, _, rfl, .inl ⟨_, o.sub.seq h1, rfl⟩, by rw [List.length_map]; exact fin_d o (.int _) q⟩
    · exact q.elim) (hg := hg) (he := he)
/-- abs -/
theorem WE_abs (hm : Y.X.mg "abs" = none) (h : WE Y a τ ω fun s ω1 => ∃ i, s = .d (.int i) ∧ Q (.d (.int (if i < 0 then -i else i))) ω1) (hg : Gl Y.X "abs" := by rfl)
    (he : starEach (a :: []) Y.X.env = (false, eval a Y.X.env) :: starEach [] Y.X.env := by rfl) : WE Y (.Call (.Name "abs" p) [a] [] pos) τ ω Q :=
  WE_callB hm (WA_one (P := fun d ω1 => ∃ i, d = .int i ∧ Q (.d (.int (if i < 0 then -i else i))) ω1) (h.mono fun s ω1 ⟨i, e, q⟩ => by subst e; exact ⟨i, rfl, q⟩) he) (fun {G as H ω vs ss} _ o r ⟨s, d, e, hv, i, ed, q⟩ => by
    subst e; subst ed
    obtain ⟨v, rfl, r1⟩ := r.one
    cases (vw_ok o r1 hv : Dat _ _ v (.int i))
    exact wCall_of call_abs ⟨_, rfl, fin_d o (.int _) q⟩) (hg := hg) (he := he)
def intD : D → (Int → Prop) → Prop
  | .int i, P => P i
  | .bool k, P => P (if k then 1 else 0)
  | _, _ => False
/-- int(n), int(flag) -/
theorem WE_int1 (hm : Y.X.mg "int" = none) (h : WE Y a τ ω fun s ω1 => match vw ω1 s with | some d => intD d fun i => Q (.d (.int i)) ω1 | none => False) (hg : Gl Y.X "int" := by rfl)
    (he : starEach (a :: []) Y.X.env = (false, eval a Y.X.env) :: starEach [] Y.X.env := by rfl) : WE Y (.Call (.Name "int" p) [a] [] pos) τ ω Q :=
  WE_callTy hm (WA_one h he) (fun {G as H ω vs ss} _ o r ⟨s, d, e, hv, q⟩ => by
    subst e
    obtain ⟨v, rfl, r1⟩ := r.one
    have w := vw_ok o r1 hv
    have q2 : intD d (fun i => Q (.d (.int i)) ω) := q
    unfold intD at q2
    split at q2
    · cases w; exact wCall_of call_int1 (.inl ⟨_, rfl, fin_d o (.int _) q2⟩)
    · cases w; exact wCall_of call_int1 (.inr ⟨_, rfl, fin_d o (.int _) q2⟩)
    · exact q2.elim) (hg := hg) (he := he)
/-- max(i, j), min(i, j) -/
theorem WE_max2 (hm : Y.X.mg "max" = none) (calm : Y.X.calm = true) (h : WE Y a τ ω fun s ω1 => WE Y b τ ω1 fun t ω2 => ∃ i j, s = .d (.int i) ∧ t = .d (.int j) ∧ Q (.d (.int (if j > i then j else i))) ω2) (hg : Gl Y.X "max" := by rfl)
    (he : starEach [a, b] Y.X.env = (false, eval a Y.X.env) :: starEach [b] Y.X.env := by rfl) (he2 : starEach [b] Y.X.env = (false, eval b Y.X.env) :: starEach [] Y.X.env := by rfl) (hpl : (backTo pos (starEach [b] Y.X.env)).any (·.1) = false := by rfl) : WE Y (.Call (.Name "max" p) [a, b] [] pos) τ ω Q :=
  WE_callB hm (WA_two (P := fun d e ω2 => ∃ i j, d = .int i ∧ e = .int j ∧ Q (.d (.int (if j > i then j else i))) ω2) (h.mono fun s ω1 q => q.mono fun t ω2 ⟨i, j, e1, e2, q2⟩ => by subst e1; subst e2; exact ⟨i, j, rfl, rfl, q2⟩) he he2) (fun {G as H ω vs ss} _ o r ⟨s, t, d, e, es, hv, hw, i, j, e1, e2, q⟩ => by
    subst es; subst e1; subst e2
    obtain ⟨v, w, rfl, r1, r2⟩ := r.two
    cases (vw_ok o r1 hv : Dat _ _ v (.int i))
    cases (vw_ok o r2 hw : Dat _ _ w (.int j))
    exact wCall_of (call_max2 calm) ⟨_, _, rfl, fin_d o (.int _) q⟩) (hg := hg) (he := he) (hpl := hpl)
theorem WE_min2 (hm : Y.X.mg "min" = none) (calm : Y.X.calm = true) (h : WE Y a τ ω fun s ω1 => WE Y b τ ω1 fun t ω2 => ∃ i j, s = .d (.int i) ∧ t = .d (.int j) ∧ Q (.d (.int (if j < i then j else i))) ω2) (hg : Gl Y.X "min" := by rfl)
    (he : starEach [a, b] Y.X.env = (false, eval a Y.X.env) :: starEach [b] Y.X.env := by rfl) (he2 : starEach [b] Y.X.env = (false, eval b Y.X.env) :: starEach [] Y.X.env := by rfl) (hpl : (backTo pos (starEach [b] Y.X.env)).any (·.1) = false := by rfl) : WE Y (.Call (.Name "min" p) [a, b] [] pos) τ ω Q :=
  WE_callB hm (WA_two (P := fun d e ω2 => ∃ i j, d = .int i ∧ e = .int j ∧ Q (.d (.int (if j < i then j else i))) ω2) (h.mono fun s ω1 q => q.mono fun t ω2 ⟨i, j, e1, e2, q2⟩ => by subst e1; subst e2; exact ⟨i, j, rfl, rfl, q2⟩) he he2) (fun {G as H ω vs ss} _ o r ⟨s, t, d, e, es, hv, hw, i, j, e1, e2, q⟩ => by
    subst es; subst e1; subst e2
    obtain ⟨v, w, rfl, r1, r2⟩ := r.two
    cases (vw_ok o r1 hv : Dat _ _ v (.int i))
    cases (vw_ok o r2 hw : Dat _ _ w (.int j))
    exact wCall_of (call_min2 calm) ⟨_, _, rfl, fin_d o (.int _) q⟩) (hg := hg) (he := he) (hpl := hpl)
/-! ### repr -/
def showD (d : D) : Str := (py d).shown
def shoD (d : D) : Prop := isPy d = true ∧ (py d).showable = true ∧ (py d).hasDict = false ∧ (py d).shown.length ≤ sizeLine ∧ (py d).depth ≤ 64
theorem call_reprD {X : Cx} (gd : X.A.guards = some []) (hu : X.A.units + 100 < cLine) : CallR X (.builtin "repr") (fun xs H Q => ∃ v d, xs = [v] ∧ Dp X.K H v d ∧ d.showable = true ∧ d.hasDict = false ∧ d.shown.length ≤ sizeLine ∧ d.depth ≤ 64 ∧ Q (.str d.shown) H) := by
  intro pins s σ H xs us Q I r h
  obtain ⟨v, d, rfl, hd, h1, h2, h3, h4, q⟩ := h
  obtain ⟨u, rfl, rv⟩ := vals1 r
  obtain ⟨as, rd⟩ := Dp.reads I d v u hd rv
  have fin : ∀ h' tk tk', (∀ b o, s.heap.get? b = some o → h'.get? b = some o) → EP X pins σ Q (.str d.shown tk) { s with heap := h', toks := tk' } := fun h' tk tk' k => ⟨.str d.shown, H, I.kept (t' := tk') k, ⟨tk, rfl⟩, q⟩
  cases hd with
  | non => cases rv; exact P.repr_of_none ⟨.str _, H, I.tok _, ⟨_, rfl⟩, q⟩
  | bl b => cases rv; exact P.repr_of_bool ⟨.str _, H, I.tok _, ⟨_, rfl⟩, q⟩
  | int i =>
    obtain ⟨t, rfl⟩ := rv
    exact P.repr_of_int (of_decide_eq_true h1) ⟨.str _, H, I.tok _, ⟨_, rfl⟩, q⟩
  | str x =>
    obtain ⟨t, rfl⟩ := rv
    exact P.repr_of_str ⟨.str _, H, I.tok _, ⟨_, rfl⟩, q⟩ h3
  | lst hs ha =>
    cases rv
    exact repr_of_reads' (h₀ := s.heap) rd h1 (noDict_hsm' h2) gd (by omega) (fun _ _ e => e) (fun h' u tk k => fin h' u tk k) h3
  | tup hs ha =>
    cases rv
    exact repr_of_reads' (h₀ := s.heap) rd h1 (noDict_hsm' h2) gd (by omega) (fun _ _ e => e) (fun h' u tk k => fin h' u tk k) h3
where noDict_hsm' {d : PyData} {as : List Addr} (h : d.hasDict = false) : d.hasDict = true → sysModules ∉ as := fun h' => by rw [h] at h'; cases h'
theorem WE_repr (hm : Y.X.mg "repr" = none) (gd : Y.X.A.guards = some []) (hu : Rm Y) (h : WE Y a τ ω fun s ω1 => match vw ω1 s with | some d => shoD d ∧ Q (.d (.str (showD d))) ω1 | none => False) (hg : Gl Y.X "repr" := by rfl)
    (he : starEach (a :: []) Y.X.env = (false, eval a Y.X.env) :: starEach [] Y.X.env := by rfl) : WE Y (.Call (.Name "repr" p) [a] [] pos) τ ω Q :=
  WE_callB hm (WA_one h he) (fun {G as H ω vs ss} _ o r ⟨s, d, e, hv, ⟨s1, s2, s3, s4, s5⟩, q⟩ => by
    subst e
    obtain ⟨v, rfl, r1⟩ := r.one
    have w := vw_ok o r1 hv
    exact wCall_of (call_reprD gd hu.un) ⟨v, _, rfl, w.dp o.sub s1, s2, s3, s4, s5, fin_d o (.str _) q⟩) (hg := hg) (he := he)
/-! ### list(..), tuple(..), sorted, sum -/
def seqD : D → (List D → Prop) → Prop
  | .list xs, P => P xs
  | .tup xs, P => P xs
  | .scr ns, P => P (ns.map D.int)
  | _, _ => False
theorem seqD_ok {K : PySem.W.Frag} {T : List (Addr × Str)} {P : List D → Prop} {v : V} (o : Ok K T G H as ω) (w : Vw K G H v d) (q : seqD d P) : ∃ a xs ds, v = .ref a ∧ (SqL K H a xs ∨ SqT K H a xs) ∧ DatL K G xs ds ∧ P ds := by
  unfold seqD at q
  split at q
  · obtain ⟨p, xs, rfl, h1, h2⟩ := w; exact ⟨p, xs, _, rfl, .inl (SqL.of h1), h2, q⟩
  · cases w with | tup h1 h2 => exact ⟨_, _, _, rfl, .inr (sqt_mono o.sub h1), h2, q⟩
  · cases w with | scr h1 => exact ⟨_, _, _, rfl, .inl (o.sub.seq h1), DatL.ints _, q⟩
  · exact q.elim
theorem WE_listOf (hm : Y.X.mg "list" = none) (h : WE Y a τ ω fun s ω1 => match vw ω1 s with | some d => seqD d fun xs => newL xs ω1 Q | none => False) (hg : Gl Y.X "list" := by rfl)
    (he : starEach (a :: []) Y.X.env = (false, eval a Y.X.env) :: starEach [] Y.X.env := by rfl) : WE Y (.Call (.Name "list" p) [a] [] pos) τ ω Q :=
  WE_callTy hm (WA_one h he) (fun {G as H ω vs ss} _ o r ⟨s, d, e, hv, q⟩ => by
    subst e
    obtain ⟨v, rfl, r1⟩ := r.one
    obtain ⟨p, xs, ds, rfl, h1, h2, q⟩ := seqD_ok o (vw_ok o r1 hv) q
    exact wCall_of call_list_of ⟨p, xs, rfl, h1, fun l hl => fin_newL o hl h2 q⟩) (hg := hg) (he := he)
theorem WE_tupOf (hm : Y.X.mg "tuple" = none) (h : WE Y a τ ω fun s ω1 => match vw ω1 s with | some d => seqD d fun xs => Q (.d (.tup xs)) ω1 | none => False) (hg : Gl Y.X "tuple" := by rfl)
    (he : starEach (a :: []) Y.X.env = (false, eval a Y.X.env) :: starEach [] Y.X.env := by rfl) : WE Y (.Call (.Name "tuple" p) [a] [] pos) τ ω Q :=
  WE_callTy hm (WA_one h he) (fun {G as H ω vs ss} _ o r ⟨s, d, e, hv, q⟩ => by
    subst e
    obtain ⟨v, rfl, r1⟩ := r.one
    have w := vw_ok o r1 hv
    have q2 : seqD d (fun xs => Q (.d (.tup xs)) ω) := q
    unfold seqD at q2
    split at q2
    · obtain ⟨p, xs, rfl, h1, h2⟩ := w
      exact wCall_of call_tuple_of ⟨p, xs, rfl, .inl ⟨SqL.of h1, fun l hl => fin_newT o hl h2 q2⟩⟩
    · cases w with
      | tup h1 h2 => exact wCall_of call_tuple_of ⟨_, _, rfl, .inr ⟨sqt_mono o.sub h1, fin_d o (.tup h1 h2) q2⟩⟩
    · cases w with
      | scr h1 => exact wCall_of call_tuple_of ⟨_, _, rfl, .inl ⟨o.sub.seq h1, fun l hl => fin_newT o hl (DatL.ints _) q2⟩⟩
    · exact q2.elim) (hg := hg) (he := he)
theorem WE_sortedI (hm : Y.X.mg "sorted" = none) (h : WE Y a τ ω fun s ω1 => ∃ ns : List Int, vw ω1 s = some (.list (ns.map D.int)) ∧ ∀ ns' : List Int, ns'.Perm ns → ns'.Pairwise (· ≤ ·) → newL (ns'.map D.int) ω1 Q) (hg : Gl Y.X "sorted" := by rfl)
    (he : starEach (a :: []) Y.X.env = (false, eval a Y.X.env) :: starEach [] Y.X.env := by rfl) : WE Y (.Call (.Name "sorted" p) [a] [] pos) τ ω Q :=
  WE_callB hm (WA_one (P := fun d ω1 => ∃ ns : List Int, d = .list (ns.map D.int) ∧ ∀ ns' : List Int, ns'.Perm ns → ns'.Pairwise (· ≤ ·) → newL (ns'.map D.int) ω1 Q) (h.mono fun s ω1 ⟨ns, e, q⟩ => by rw [e]; exact ⟨ns, rfl, q⟩) he) (fun {G as H ω vs ss} _ o r ⟨s, d, e, hv, ns, ed, q⟩ => by
    subst e; subst ed
    obtain ⟨v, rfl, r1⟩ := r.one
    obtain ⟨p, xs, rfl, h1, h2⟩ := (vw_ok o r1 hv : Vw _ _ _ v (.list (ns.map D.int)))
    have e := DatL.ints' h2
    subst e
    exact wCall_of cr_sortedI ⟨p, ns, rfl, SqL.of h1, fun ns' p' hp hs hn => fin_newL o hn (DatL.ints _) (q ns' hp hs)⟩) (hg := hg) (he := he)
theorem WE_sumI (hm : Y.X.mg "sum" = none) (calm : Y.X.calm = true) (h : WE Y a τ ω fun s ω1 => ∃ ns : List Int, vw ω1 s = some (.list (ns.map D.int)) ∧ Q (.d (.int ns.sum)) ω1) (hg : Gl Y.X "sum" := by rfl)
    (he : starEach (a :: []) Y.X.env = (false, eval a Y.X.env) :: starEach [] Y.X.env := by rfl) : WE Y (.Call (.Name "sum" p) [a] [] pos) τ ω Q :=
  WE_callB hm (WA_one (P := fun d ω1 => ∃ ns : List Int, d = .list (ns.map D.int) ∧ Q (.d (.int ns.sum)) ω1) (h.mono fun s ω1 ⟨ns, e, q⟩ => by rw [e]; exact ⟨ns, rfl, q⟩) he) (fun {G as H ω vs ss} _ o r ⟨s, d, e, hv, ns, ed, q⟩ => by
    subst e; subst ed
    obtain ⟨v, rfl, r1⟩ := r.one
    obtain ⟨p, xs, rfl, h1, h2⟩ := (vw_ok o r1 hv : Vw _ _ _ v (.list (ns.map D.int)))
    have e := DatL.ints' h2
    subst e
    exact wCall_of (cr_sum calm) ⟨p, ns, rfl, SqL.of h1, fin_d o (.int _) q⟩) (hg := hg) (he := he)
/-! ### isinstance -/
/-- the type of data, where it hangs on no class -/
def tyD : D → Option String
  | .none => some "NoneType" | .bool _ => some "bool" | .int _ => some "int" | .str _ => some "str"
  | .list _ => some "list" | .tup _ => some "tuple" | .dict _ => some "dict" | _ => none
theorem tyD_ok {K : PySem.W.Frag} {T : List (Addr × Str)} {t : String} {v : V} (o : Ok K T G H as ω) (w : Vw K G H v d) (e : tyD d = some t) (hk : ∀ xs, d = .tup xs → ∃ a xs, v = .ref a ∧ H a = some (.tup xs)) : TyX K H v (.type t) := by
  cases d with
  | none => cases w; cases e; exact .base .non
  | bool b => cases w; cases e; exact .base (.bl _)
  | int b => cases w; cases e; exact .base (.int _)
  | str b => cases w; cases e; exact .base (.str _)
  | list ds => obtain ⟨p, xs, rfl, h1, h2⟩ := w; cases e; exact .base (.lst h1)
  | tup ds =>
    cases e
    obtain ⟨a, xs, rfl, h1⟩ := hk ds rfl
    exact .base (.tup h1)
  | dict ds =>
    obtain ⟨p, xs, rfl, h1 | ⟨ob, h1⟩, h2⟩ := w
    · cases e; exact .base (.dK h1)
    · cases e; exact .fDict h1
  | scr _ => cases e
  | rng _ _ => cases e
  | ins _ _ => cases e
  | exc _ _ => cases e
  | ref _ => cases e
  | ty _ => cases e
/-- n.bit_length() -/
theorem WE_bits (h : WE Y a τ ω fun s ω1 => ∃ i, s = .d (.int i) ∧ Q (.d (.int (Builtin.Int.intBits i : Nat))) ω1) (hbase : attributeBase a "bit_length" Y.X.env (eval a Y.X.env) = eval a Y.X.env := by rfl) (hline : (apos.endLine == pos.line) = true := by rfl) :
    WE Y (.Call (.Attribute a "bit_length" apos) [] [] pos) τ ω Q := .mk fun G as H σ b0 o l =>
  wE_of (pe_bits pe_w hbase hline) ((h G as H σ b0 o l).mono fun x H1 ⟨G1, as1, ω1, g1, p1, o1, s, r, i, e, q⟩ => by
    subst e; cases r
    exact ⟨i, rfl, Go.back g1 p1 (fin_d o1 (.int _) q)⟩)
end
end Z

set_option Elab.async false
set_option linter.all false
set_option maxRecDepth 100000
/-! # K: targets, assignments, methods of lists and dicts -/
namespace Z
open PySem PySem.Spec PyProof.Rows L2 LamX

def wG (X : Cx) (tg : Expr) : TG := fun v σ H Q => ∀ pins st u, Inv X pins σ H st → RelV v u → wpAny (model X.prog X.w) X.A (assign tg X.env u) (fun _ s' => ∃ σ' H', Inv X pins σ' H' s' ∧ Q σ' H') X.xe st
theorem pg_w {X : Cx} {tg : Expr} : PG X tg (wG X tg) := ⟨fun pins s _ _ _ u _ I r h => h pins s u I r⟩
theorem wG_of {X : Cx} {tg : Expr} {t : TG} {v : V} {σ : L2.St} {H : Hp} {Q : L2.St → Hp → Prop} (h : PG X tg t) (q : t v σ H Q) : wG X tg v σ H Q := fun pins s u I r => h.run pins s σ H v u Q I r q
theorem wG.mono {X : Cx} {tg : Expr} {v : V} {σ : L2.St} {H : Hp} {Q Q' : L2.St → Hp → Prop} (h : wG X tg v σ H Q) (k : ∀ σ' H', Q σ' H' → Q' σ' H') : wG X tg v σ H Q' := fun pins s u I r => thn (h pins s u I r) fun _ _ ⟨σ', H', I', q⟩ => ⟨σ', H', I', k _ _ q⟩
def wGs (X : Cx) (tgs : List Expr) : TGs := fun vs σ H Q => ∀ pins st us, Inv X pins σ H st → Vals vs us → wpAny (model X.prog X.w) X.A (assignInOrder ((assignEach tgs X.env).map (·.2)) us) (fun _ s' => ∃ σ' H', Inv X pins σ' H' s' ∧ Q σ' H') X.xe st
theorem pgs_w {X : Cx} {tgs : List Expr} : PGs X tgs (wGs X tgs) := ⟨fun pins s _ _ _ u _ I r h => h pins s u I r⟩
theorem wGs_of {X : Cx} {tgs : List Expr} {t : TGs} {v : List V} {σ : L2.St} {H : Hp} {Q : L2.St → Hp → Prop} (h : PGs X tgs t) (q : t v σ H Q) : wGs X tgs v σ H Q := fun pins s u I r => h.run pins s σ H v u Q I r q
theorem wGs.mono {X : Cx} {tgs : List Expr} {v : List V} {σ : L2.St} {H : Hp} {Q Q' : L2.St → Hp → Prop} (h : wGs X tgs v σ H Q) (k : ∀ σ' H', Q σ' H' → Q' σ' H') : wGs X tgs v σ H Q' := fun pins s u I r => thn (h pins s u I r) fun _ _ ⟨σ', H', I', q⟩ => ⟨σ', H', I', k _ _ q⟩
abbrev FinG (Y : Cy) (G : Hp) (as : List Addr) (Q : Tau → List O → Prop) : L2.St → Hp → Prop := fun σ' H' => Go Y G as H' fun G' as' ω' => ∃ τ', SlR Y.X.K G' as' σ' τ' ∧ Q τ' ω'
def WGs0 (Y : Cy) (tgs : List Expr) (ss : List S) (τ : Tau) (ω : List O) (Q : Tau → List O → Prop) : Prop :=
  ∀ G as H σ vs, Base Y G as → Ok Y.X.K Y.T G H as ω → SlR Y.X.K G as σ τ → SRelL Y.X.K G as vs ss → wGs Y.X tgs vs σ H (FinG Y G as Q)
structure WGs (Y : Cy) (tgs : List Expr) (ss : List S) (τ : Tau) (ω : List O) (Q : Tau → List O → Prop) : Prop where
  run : WGs0 Y tgs ss τ ω Q
instance {Y : Cy} {tgs : List Expr} {ss : List S} {τ : Tau} {ω : List O} {Q : Tau → List O → Prop} : CoeFun (WGs Y tgs ss τ ω Q) (fun _ => WGs0 Y tgs ss τ ω Q) := ⟨fun h => h.run⟩
section
variable {Y : Cy} {G H : Hp} {as : List Addr} {τ : Tau} {ω : List O} {s : S} {ss : List S} {Q : Tau → List O → Prop} {tg e a b : Expr} {es : List Expr} {pos : Pos}
theorem WG.use (h : WG Y tg s τ ω Q) {σ : L2.St} {v : V} (b : Base Y G as) (o : Ok Y.X.K Y.T G H as ω) (l : SlR Y.X.K G as σ τ) (r : SRel Y.X.K G as v s) : wG Y.X tg v σ H (FinG Y G as Q) := fun pins st u I ru => h G as H σ v b o l r pins st u I ru
theorem WG.mono {Q' : Tau → List O → Prop} (h : WG Y tg s τ ω Q) (k : ∀ τ ω, Q τ ω → Q' τ ω) : WG Y tg s τ ω Q' := .mk fun G as H σ v b o l r => (h.use b o l r).mono fun σ' H' g => g.mono fun _ _ _ _ _ _ ⟨t, x, y⟩ => ⟨t, x, k _ _ y⟩
theorem WG_name (i : Nat) {x : Str} (q : Q (τ.set i (some s)) ω) (hN : Y.X.N.Nodup) (hi : Y.X.N[i]? = some x := by rfl) (hx : Loc Y.X.env.scope x := by first | exact .inl rfl | exact .inr rfl)
    (hf : Y.X.fn x = true ∨ Y.X.env.scope.names.lookup x = some .local := by first | exact .inl rfl | exact .inr rfl) : WG Y (.Name x pos) s τ ω Q := .mk fun G as H σ v b o l r =>
  wG_of (pg_name hN hi hx hf) (Go.here o ⟨_, l.set i r, q⟩)
theorem WGs_nil (q : Q τ ω) : WGs Y [] [] τ ω Q := .mk fun G as H σ vs b o l r => by
  cases r
  exact wGs_of pgs_nil ⟨rfl, Go.here o ⟨τ, l, q⟩⟩
theorem WGs_cons (h : WG Y e s τ ω fun τ1 ω1 => WGs Y es ss τ1 ω1 Q) (hs : (assignEach (e :: es) Y.X.env).map (·.2) = assign e Y.X.env :: (assignEach es Y.X.env).map (·.2) := by rfl) : WGs Y (e :: es) (s :: ss) τ ω Q := .mk fun G as H σ vs b o l r => by
  cases r with
  | cons r rr =>
    refine wGs_of (pgs_cons pg_w pgs_w hs) ⟨_, _, rfl, ?_⟩
    refine (h.use b o l r).mono fun σ1 H1 ⟨G1, as1, ω1, g1, p1, o1, τ1, l1, q1⟩ => ?_
    exact (q1 G1 as1 H1 σ1 _ (b.go g1 p1) o1 l1 (rr.mono g1 p1)).mono fun σ2 H2 g => Go.back g1 p1 g
/-- (a, b, ..) = a tuple -/
theorem WG_tup {k} (calm : Y.X.calm = true) (h : match s with | .d (.tup ds) => ds.length = es.length ∧ WGs Y es (ds.map S.d) τ ω Q | _ => False)
    (hn : (assignEach es Y.X.env).length = es.length := by rfl) (hst : (assignEach es Y.X.env).findIdx? (·.1) = none := by rfl) : WG Y (.Tuple es k pos) s τ ω Q := .mk fun G as H σ v b o l r => by
  split at h
  · rename_i ds
    cases r with
    | tup h1 h2 =>
      exact wG_of (pg_tup calm pgs_w hn hst) ⟨_, _, rfl, sqt_mono o.sub h1, by rw [h2.length]; exact h.1, h.2 G as H σ _ b o l (SRelL.of_dats h2)⟩
  · exact h.elim
/-! ### o[i] = v -/
def wPut (X : Cx) : TSet := fun o i v H Q => ∀ pins s σ ov iv u, Inv X pins σ H s → RelV o ov → RelV i iv → RelV v u → wpAny (model X.prog X.w) X.A (setItem ov iv u) (fun _ s' => ∃ H', Inv X pins σ H' s' ∧ Q H') X.xe s
theorem put_w {X : Cx} : PSet X (wPut X) := fun pins s σ _ _ _ _ ov iv u _ I r1 r2 r3 h => h pins s σ ov iv u I r1 r2 r3
theorem wPut_of {X : Cx} {t : TSet} {o i v : V} {H : Hp} {Q : Hp → Prop} (h : PSet X t) (q : t o i v H Q) : wPut X o i v H Q := fun pins s σ ov iv u I r1 r2 r3 => h pins s σ H o i v ov iv u Q I r1 r2 r3 q
theorem wPut.mono {X : Cx} {o i v : V} {H : Hp} {Q Q' : Hp → Prop} (h : wPut X o i v H Q) (k : ∀ H', Q H' → Q' H') : wPut X o i v H Q' := fun pins s σ ov iv u I r1 r2 r3 => thn (h pins s σ ov iv u I r1 r2 r3) fun _ _ ⟨H', I', q⟩ => ⟨H', I', k _ q⟩
def rPutD : V → V → V → Hp → (Hp → Prop) → Prop := fun o i v H Q => ∃ a H', o = .ref a ∧ DPut H a i v H' ∧ Q H'
theorem put_dict {X : Cx} (hu : X.A.units + 1 < cLine) : PSet X rPutD := by
  intro pins s σ H o i v ov iv u Q I ro ri rv h
  obtain ⟨a, H', rfl, g, q⟩ := h
  cases ro
  exact d_setItem hu I g ri rv fun s' I' => ⟨H', I', q⟩
def putD (ks : List (Key × D)) (k : Key) (d : D) : List (Key × D) :=
  if (ks.any fun kv => decide (kv.1 = k)) = true then ks.map (fun kv => if kv.1 = k then (kv.1, d) else kv) else ks ++ [(k, d)]
def putS0 : S → S → S → List O → (List O → Prop) → Prop
  | .o k, .d i, .d x, ω, Q => match ω[k]? with
    | some (.lst xs) => match i with
      | .int n => ∃ j, ixN xs.length n = some j ∧ Q (ω.set k (.lst (xs.set j x)))
      | _ => False
    | some (.dct ks) => match keyD i with
      | some key => ks.length < sizeLine ∧ Q (ω.set k (.dct (putD ks key x)))
      | none => False
    | _ => False
  | _, _, _, _, _ => False
structure putS (o i v : S) (ω : List O) (Q : List O → Prop) : Prop where
  h : putS0 o i v ω Q
theorem DatK.any {K : PySem.W.Frag} {G : Hp} {k : Key} : ∀ {vs : List (Key × V)} {ds : List (Key × D)}, DatK K G vs ds → (vs.any fun kv => decide (kv.1 = k)) = (ds.any fun kv => decide (kv.1 = k))
  | _, _, .nil => rfl
  | _, _, .cons _ r => by simp only [List.any_cons, DatK.any r]
theorem DatK.append {K : PySem.W.Frag} {G : Hp} : ∀ {vs ws : List (Key × V)} {ds es : List (Key × D)}, DatK K G vs ds → DatK K G ws es → DatK K G (vs ++ ws) (ds ++ es)
  | _, _, _, _, .nil, h => h
  | _, _, _, _, .cons a b, h => .cons a (DatK.append b h)
theorem DatK.put {K : PySem.W.Frag} {G : Hp} {k : Key} {v : V} {d : D} (r : Dat K G v d) {vs : List (Key × V)} {ds : List (Key × D)} (h : DatK K G vs ds) : DatK K G (putK vs k v) (putD ds k d) := by
  unfold putK putD
  rw [h.any (k := k)]
  split
  · have : ∀ {vs : List (Key × V)} {ds : List (Key × D)}, DatK K G vs ds → DatK K G (vs.map fun kv => if kv.1 = k then (kv.1, v) else kv) (ds.map fun kv => if kv.1 = k then (kv.1, d) else kv) := by
      intro vs ds h
      induction vs generalizing ds with
      | nil => cases h; exact .nil
      | cons p t ih =>
        cases h with
        | cons a b =>
          rename_i k' v' d' ds'
          simp only [List.map_cons]
          by_cases e : k' = k
          · simp only [e, if_true]; exact .cons r (ih b)
          · simp only [e, if_false]; exact .cons a (ih b)
    exact this h
  · exact h.append (.cons r .nil)
theorem keyD_ok {K : PySem.W.Frag} {v : V} {d : D} {key : Key} (r : Dat K G v d) (h : keyD d = some key) : v = kV key := by
  unfold keyD at h
  split at h
  · cases r; cases h; rfl
  · cases r; cases h; rfl
  · cases h
theorem putS_ok (hu : Rm Y) {so si sv : S} {x y z : V} {Q : List O → Prop} (o : Ok Y.X.K Y.T G H as ω) (hx : SRel Y.X.K G as x so) (hy : SRel Y.X.K G as y si) (hz : SRel Y.X.K G as z sv) (q : putS so si sv ω Q) :
    wPut Y.X x y z H fun H' => Go Y G as H' fun _ _ ω' => Q ω' := by
  have hu := hu.un
  obtain ⟨q⟩ := q
  unfold putS0 at q
  split at q
  · rename_i k i d
    obtain ⟨a, ha, rfl⟩ := hx
    split at q
    · rename_i xs hk
      have ow := o.own k a _ ha hk
      split at q
      · obtain ⟨j, hj, q⟩ := q
        obtain ⟨vs, h1, h2⟩ := ow
        cases hy
        refine wPut_of set_list ⟨a, vs, _, j, rfl, rfl, h1, by rw [h2.length]; exact hj, ?_⟩
        exact Go.here (o.upd ha hk (by intro e; cases e) (o' := .lst _) ⟨_, upd_same, h2.set j hz⟩) q
      · exact q.elim
    · rename_i ks hk
      have ow := o.own k a _ ha hk
      split at q
      · rename_i key hkey
        obtain ⟨kvs, h1, h2⟩ := ow
        have ey := keyD_ok hy hkey
        subst ey
        refine wPut_of (put_dict (by omega)) ⟨a, _, rfl, DPut.k h1 (by rw [h2.length]; exact q.1), ?_⟩
        exact Go.here (o.upd ha hk (by intro e; cases e) (o' := .dct _) ⟨_, upd_same, h2.put hz⟩) q.2
      · exact q.elim
    · exact q.elim
  · exact q.elim
theorem WG_sub (hu : Rm Y) (h : WE Y a τ ω fun so ω1 => WE Y b τ ω1 fun si ω2 => putS so si s ω2 fun ω3 => Q τ ω3)
    (ha : ∀ v, assign (.Subscript a b pos) Y.X.env v = (do
      let ov ← holding [v] (eval a Y.X.env)
      let iv ← holding [v, ov] (eval b Y.X.env)
      standAt pos
      holding [v, ov, iv] (setItem ov iv v)
      release [v, ov, iv] []) := by intro _; rfl) : WG Y (.Subscript a b pos) s τ ω Q := .mk fun G as H σ v b0 o l r => by
  refine wG_of (pg_sub pe_w pe_w put_w ha) ?_
  refine (h G as H σ b0 o l).mono fun x H1 ⟨G1, as1, ω1, g1, p1, o1, s1, r1, q1⟩ => ?_
  refine (q1 G1 as1 H1 σ (b0.go g1 p1) o1 (l.mono g1 p1)).mono fun y H2 ⟨G2, as2, ω2, g2, p2, o2, s2, r2, q2⟩ => ?_
  refine (putS_ok hu o2 (r1.mono g2 p2) r2 (r.mono (g1.trans g2) (p1.trans p2)) q2).mono fun H3 g => ?_
  exact Go.back (g1.trans g2) (p1.trans p2) (g.mono fun G3 as3 ω3 g3 p3 o3 q3 => ⟨τ, l.mono ((g1.trans g2).trans g3) ((p1.trans p2).trans p3), q3⟩)
/-- target = value -/
theorem WS_asg {D : En} (h : WE Y e τ ω fun s ω1 => WG Y tg s τ ω1 D.nx) (hs : swapsWithSole [tg] e pos.line Y.X.env = pure false := by rfl) (hw : swappedStores [tg] e Y.X.env = pure none := by rfl)
    (h1 : (assignEach [tg] Y.X.env).map (·.2) = [assign tg Y.X.env] := by rfl) : WS Y (.Assign [tg] e pos) τ ω D := .mk fun G as H σ b o l => by
  refine wS_of (ps_asg pe_w pg_w hs hw h1) ((h G as H σ b o l).mono fun x H1 ⟨G1, as1, ω1, g1, p1, o1, s1, r1, q1⟩ => ?_)
  exact (q1.use (b.go g1 p1) o1 (l.mono g1 p1) r1).mono fun σ' H' g => Go.back g1 p1 g
/-- a, b = x, y -/
theorem WS_par (i j : Nat) {x y : Str} {px py pt pt2 : Pos} {kt k2} {D : En} (h : WE Y a τ ω fun s ω1 => WE Y b τ ω1 fun t ω2 => D.nx ((τ.set i (some s)).set j (some t)) ω2) (calm : Y.X.calm = true) (hN : Y.X.N.Nodup) (hi : Y.X.N[i]? = some x := by rfl) (hj : Y.X.N[j]? = some y := by rfl) (hij : i ≠ j := by decide)
    (hx : Y.X.env.scope.names.lookup x = some .local := by rfl) (hy : Y.X.env.scope.names.lookup y = some .local := by rfl) 
    (hw : swappedStores [.Tuple [.Name x px, .Name y py] kt pt] (.Tuple [a, b] k2 pt2) Y.X.env = pure (some [x, y]) := by rfl)
    (hs : swapsWithSole [.Tuple [.Name x px, .Name y py] kt pt] (.Tuple [a, b] k2 pt2) pos.line Y.X.env = pure false := by rfl)
    (he : starEach [a, b] Y.X.env = (false, eval a Y.X.env) :: starEach [b] Y.X.env := by rfl) (he2 : starEach [b] Y.X.env = (false, eval b Y.X.env) :: starEach [] Y.X.env := by rfl) :
    WS Y (.Assign [.Tuple [.Name x px, .Name y py] kt pt] (.Tuple [a, b] k2 pt2) pos) τ ω D := .mk fun G as H σ b0 o l => by
  have hA : WA Y [a, b] τ ω fun ss ω2 => ∃ s t, ss = [s, t] ∧ D.nx ((τ.set i (some s)).set j (some t)) ω2 := WA_cons (h.mono fun s ω1 q => WA_cons (q.mono fun t ω2 q2 => WA_nil ⟨s, t, rfl, q2⟩) he2) he
  refine wS_of (ps_par calm hN hi hj hij hx hy pa_w hw hs) ((hA G as H σ b0 o l).mono fun vs H1 ⟨G1, as1, ω1, g1, p1, o1, ss, r, s, t, e, q⟩ => ?_)
  subst e
  obtain ⟨v, w, rfl, r1, r2⟩ := r.two
  exact ⟨v, w, rfl, G1, as1, ω1, g1, p1, o1, _, ((l.mono g1 p1).set i r1).set j r2, q⟩
/-- a, b, c = x, y, z -/
theorem WS_par3 (i j m : Nat) {x y z : Str} {c : Expr} {px py pz pt pt2 : Pos} {kt k2} {D : En} (h : WE Y a τ ω fun s ω1 => WE Y b τ ω1 fun t ω2 => WE Y c τ ω2 fun u ω3 => D.nx (((τ.set i (some s)).set j (some t)).set m (some u)) ω3) (calm : Y.X.calm = true) (hN : Y.X.N.Nodup) (hi : Y.X.N[i]? = some x := by rfl) (hj : Y.X.N[j]? = some y := by rfl) (hm : Y.X.N[m]? = some z := by rfl) (hij : i ≠ j := by decide) (him : i ≠ m := by decide) (hjm : j ≠ m := by decide)
    (hx : Y.X.env.scope.names.lookup x = some .local := by rfl) (hy : Y.X.env.scope.names.lookup y = some .local := by rfl) (hz : Y.X.env.scope.names.lookup z = some .local := by rfl) 
    (hw : swappedStores [.Tuple [.Name x px, .Name y py, .Name z pz] kt pt] (.Tuple [a, b, c] k2 pt2) Y.X.env = pure (some [x, y, z]) := by rfl)
    (hs : swapsWithSole [.Tuple [.Name x px, .Name y py, .Name z pz] kt pt] (.Tuple [a, b, c] k2 pt2) pos.line Y.X.env = pure false := by rfl)
    (he : starEach [a, b, c] Y.X.env = (false, eval a Y.X.env) :: starEach [b, c] Y.X.env := by rfl) (he2 : starEach [b, c] Y.X.env = (false, eval b Y.X.env) :: starEach [c] Y.X.env := by rfl) (he3 : starEach [c] Y.X.env = (false, eval c Y.X.env) :: starEach [] Y.X.env := by rfl) :
    WS Y (.Assign [.Tuple [.Name x px, .Name y py, .Name z pz] kt pt] (.Tuple [a, b, c] k2 pt2) pos) τ ω D := .mk fun G as H σ b0 o l => by
  have hA : WA Y [a, b, c] τ ω fun ss ω2 => ∃ s t u, ss = [s, t, u] ∧ D.nx (((τ.set i (some s)).set j (some t)).set m (some u)) ω2 := WA_cons (h.mono fun s ω1 q => WA_cons (q.mono fun t ω2 q2 => WA_cons (q2.mono fun u ω3 q3 => WA_nil ⟨s, t, u, rfl, q3⟩) he3) he2) he
  refine wS_of (ps_par3 calm hN hi hj hm hij him hjm hx hy hz pa_w hw hs) ((hA G as H σ b0 o l).mono fun vs H1 ⟨G1, as1, ω1, g1, p1, o1, ss, r, s, t, u, e, q⟩ => ?_)
  subst e
  cases r with
  | cons r1 r =>
    obtain ⟨v, w, rfl, r2, r3⟩ := r.two
    exact ⟨_, v, w, rfl, G1, as1, ω1, g1, p1, o1, _, (((l.mono g1 p1).set i r1).set j r2).set m r3, q⟩
/-- x += e of integers -/
theorem WS_aug (i : Nat) {x : Str} {pos' : Pos} {D : En} {n : Int} {op : Operator} {f : Int → Int → Int} (ho : PIp Y.X op (ipI f)) (h : WE Y e τ ω fun s ω1 => ∃ k, s = .d (.int k) ∧ D.nx (τ.set i (some (.d (.int (f n k))))) ω1) (hN : Y.X.N.Nodup) (hs : τ[i]? = some (some (.d (.int n))) := by rfl) (hi : Y.X.N[i]? = some x := by rfl)
    (hx : Loc Y.X.env.scope x := by first | exact .inl rfl | exact .inr rfl) (hf : Y.X.fn x = true ∨ Y.X.env.scope.names.lookup x = some .local := by first | exact .inl rfl | exact .inr rfl) : WS Y (.AugAssign (.Name x pos') op e pos) τ ω D := .mk fun G as H σ b o l => by
  obtain ⟨v, h1, h2⟩ := l.at_ i _ hs
  cases h2
  refine wS_of (ps_aug hN hi hx pe_w ho hf) ⟨_, h1, (h G as H σ b o l).mono fun y H1 ⟨G1, as1, ω1, g1, p1, o1, s, r, k, e, q⟩ => ?_⟩
  subst e; cases r
  exact ⟨n, k, rfl, rfl, G1, as1, ω1, g1, p1, o1, _, (l.mono g1 p1).set i (s := .d (.int (f n k))) (.int _), q⟩
end
end Z

set_option Elab.async false
set_option linter.all false
set_option maxRecDepth 100000
/-! # L: what is walked; for, while, comprehensions -/
namespace Z
open PySem PySem.Spec PyProof.Rows L2 LamX

/-- iter comes to a thing of n items, the i-th one y i, as long as keep is true of the owned objects -/
def wI (X : Cx) (tg iter : Expr) : TI := fun σ H R => ∀ pins s, Inv X pins σ H s → wpAny (model X.prog X.w) X.A (eval iter X.env) (fun v s1 => wpAny (model X.prog X.w) X.A (pyIter v) (PIE X pins σ tg R) X.xe s1) X.xe s
theorem pi_w {X : Cx} {tg iter : Expr} : PI X tg iter (wI X tg iter) := ⟨fun pins s _ _ _ I h => h pins s I⟩
theorem wI_of {X : Cx} {tg iter : Expr} {t : TI} {σ : L2.St} {H : Hp} {R : It → Hp → Prop} (h : PI X tg iter t) (q : t σ H R) : wI X tg iter σ H R := fun pins s I => h.run pins s σ H R I q
theorem wI.mono {X : Cx} {tg iter : Expr} {σ : L2.St} {H : Hp} {R R' : It → Hp → Prop} (h : wI X tg iter σ H R) (k : ∀ J H', R J H' → R' J H') : wI X tg iter σ H R' := fun pins s I => thn (h pins s I) fun _ _ h2 => thn h2 fun _ _ ⟨it, fp, tn, J, H', a, b, c, d, e, q⟩ => ⟨it, fp, tn, J, H', a, b, c, d, e, k J H' q⟩
def ItD0 (Y : Cy) (tg iter : Expr) (τ : Tau) (ω : List O) (R : (n : Nat) → (Nat → D) → (List O → Prop) → List O → Prop) : Prop :=
  ∀ G as H σ, Base Y G as → Ok Y.X.K Y.T G H as ω → SlR Y.X.K G as σ τ → wI Y.X tg iter σ H fun J H1 => ∃ G1 as1 ω1, Same G G1 ∧ as <+: as1 ∧ Ok Y.X.K Y.T G1 H1 as1 ω1 ∧
    ∃ n y keep Gd Yv, Walk J n Gd Yv ∧ (∀ G' H' as' ω', Same G1 G' → as1 <+: as' → Ok Y.X.K Y.T G' H' as' ω' → keep ω' → Gd H') ∧
      (∀ i x G' H' H'' as' ω', i < n → Same G1 G' → as1 <+: as' → Ok Y.X.K Y.T G' H' as' ω' → keep ω' → Yv i H' x H'' → ∃ G'', Same G' G'' ∧ Ok Y.X.K Y.T G'' H'' as' ω' ∧ Dat Y.X.K G'' x (y i)) ∧ R n y keep ω1
structure ItD (Y : Cy) (tg iter : Expr) (τ : Tau) (ω : List O) (R : (n : Nat) → (Nat → D) → (List O → Prop) → List O → Prop) : Prop where
  run : ItD0 Y tg iter τ ω R
instance {Y : Cy} {tg iter : Expr} {τ : Tau} {ω : List O} {R : (n : Nat) → (Nat → D) → (List O → Prop) → List O → Prop} : CoeFun (ItD Y tg iter τ ω R) (fun _ => ItD0 Y tg iter τ ω R) := ⟨fun h => h.run⟩
section
variable {Y : Cy} {τ : Tau} {ω : List O} {R R' : (n : Nat) → (Nat → D) → (List O → Prop) → List O → Prop} {tg iter e a b : Expr} {p pos : Pos}
theorem walk_listD {K : PySem.W.Frag} {a : Addr} {n : Nat} : Walk (Itl K a) n (fun H => ∃ vs, SqL K H a vs ∧ vs.length = n) (fun i H x H' => H' = H ∧ ∀ vs, SqL K H a vs → vs[i]? = some x) :=
  ⟨fun i H hi ⟨vs, q, l⟩ => ⟨vs, vs[i]'(by omega), q, by simp⟩, fun H ⟨vs, q, l⟩ => ⟨vs, q, Nat.le_of_eq l⟩, fun i H x H' hi _ y => y⟩
theorem walk_tupD {K : PySem.W.Frag} {a : Addr} {n : Nat} : Walk (Itt K a) n (fun H => ∃ vs, SqT K H a vs ∧ vs.length = n) (fun i H x H' => H' = H ∧ ∀ vs, SqT K H a vs → vs[i]? = some x) :=
  ⟨fun i H hi ⟨vs, q, l⟩ => ⟨vs, vs[i]'(by omega), q, by simp⟩, fun H ⟨vs, q, l⟩ => ⟨vs, q, Nat.le_of_eq l⟩, fun i H x H' hi _ y => y⟩
theorem getD_dat {K : PySem.W.Frag} {G : Hp} {vs : List V} {ds : List D} (r : DatL K G vs ds) {i : Nat} {x : V} (hi : i < ds.length) (h : vs[i]? = some x) : Dat K G x (ds.getD i .none) := by
  obtain ⟨d, h1, h2⟩ := r.get' h
  rw [List.getD_eq_getElem?_getD, h1]
  exact h2
/-- a list, as it is, and stays -/
theorem ItD_list (h : WE Y iter τ ω fun s ω1 => ∃ ds, vw ω1 s = some (.list ds) ∧ R ds.length (fun i => ds.getD i .none) (fun ω' => vw ω' s = some (.list ds)) ω1) : ItD Y tg iter τ ω R := by
  refine .mk fun G as H σ b o l => wI_of (pi_list pe_w) ?_
  refine (h G as H σ b o l).mono fun x H1 ⟨G1, as1, ω1, g1, p1, o1, s, r, ds, hv, q⟩ => ?_
  obtain ⟨a, xs, rfl, h1, h2⟩ := vw_ok o1 r hv
  refine ⟨a, rfl, ⟨xs, SqL.of h1⟩, G1, as1, ω1, g1, p1, o1, ds.length, _, _, _, _, walk_listD, fun G' H' as' ω' g p o' k => ?_, fun i x G' H' H'' as' ω' hi g p o' k y => ?_, q⟩
  · obtain ⟨a', xs', e, k1, k2⟩ := vw_ok o' (r.mono g p) k
    cases e
    exact ⟨xs', SqL.of k1, k2.length⟩
  · obtain ⟨a', xs', e, k1, k2⟩ := vw_ok o' (r.mono g p) k
    cases e
    obtain ⟨rfl, y⟩ := y
    exact ⟨G', Same.refl _, o', getD_dat k2 hi (y xs' (SqL.of k1))⟩
/-- the script -/
theorem ItD_scr (h : WE Y iter τ ω fun s ω1 => ∃ ns, s = .d (.scr ns) ∧ R ns.length (fun i => .int (ns.getD i 0)) (fun ω' => True) ω1) : ItD Y tg iter τ ω R := by
  refine .mk fun G as H σ b o l => wI_of (pi_list pe_w) ?_
  refine (h G as H σ b o l).mono fun x H1 ⟨G1, as1, ω1, g1, p1, o1, s, r, ns, e, q⟩ => ?_
  subst e
  cases r with
  | scr h1 =>
    refine ⟨_, rfl, ⟨_, o1.sub.seq h1⟩, G1, as1, ω1, g1, p1, o1, ns.length, _, _, _, _, walk_listD, fun G' H' as' ω' g p o' k => ⟨_, (g.trans o'.sub).seq h1, by simp⟩, fun i x G' H' H'' as' ω' hi g p o' k y => ?_, q⟩
    obtain ⟨rfl, y⟩ := y
    have e := y _ ((g.trans o'.sub).seq h1)
    rw [List.getElem?_map] at e
    refine ⟨G', Same.refl _, o', ?_⟩
    rw [List.getD_eq_getElem?_getD]
    cases q2 : ns[i]? with
    | none => rw [q2] at e; cases e
    | some z => rw [q2] at e; cases e; exact .int _
/-- a tuple -/
theorem ItD_tup (h : WE Y iter τ ω fun s ω1 => ∃ ds, s = .d (.tup ds) ∧ R ds.length (fun i => ds.getD i .none) (fun _ => True) ω1) : ItD Y tg iter τ ω R := by
  refine .mk fun G as H σ b o l => wI_of (pi_tup pe_w) ?_
  refine (h G as H σ b o l).mono fun x H1 ⟨G1, as1, ω1, g1, p1, o1, s, r, ds, e, q⟩ => ?_
  subst e
  cases r with
  | tup h1 h2 =>
    refine ⟨_, rfl, ⟨_, sqt_mono o1.sub h1⟩, G1, as1, ω1, g1, p1, o1, ds.length, _, _, _, _, walk_tupD, fun G' H' as' ω' g p o' k => ⟨_, sqt_mono (g.trans o'.sub) h1, h2.length⟩, fun i x G' H' H'' as' ω' hi g p o' k y => ?_, q⟩
    obtain ⟨rfl, y⟩ := y
    exact ⟨G', Same.refl _, o', getD_dat (h2.mono g) hi (y _ (sqt_mono (g.trans o'.sub) h1))⟩
/-- range(n) -/
theorem ItD_range1 (hm : Y.X.mg "range" = none) (h : WE Y a τ ω fun s ω1 => ∃ j : Int, s = .d (.int j) ∧ -(2 ^ 62) ≤ j ∧ j < 2 ^ 62 ∧ R j.toNat (fun i => .int (i : Nat)) (fun _ => True) ω1) (hg : Gl Y.X "range" := by rfl)
    (hs : starEach [a] Y.X.env = [(false, eval a Y.X.env)] := by rfl) : ItD Y tg (.Call (.Name "range" p) [a] [] pos) τ ω R := by
  refine .mk fun G as H σ b o l => wI_of (pi_range1 hg hm pa_w hs) ?_
  have hA : WA Y [a] τ ω fun ss ω1 => ∃ j : Int, ss = [.d (.int j)] ∧ -(2 ^ 62) ≤ j ∧ j < 2 ^ 62 ∧ R j.toNat (fun i => .int (i : Nat)) (fun _ => True) ω1 := WA_cons (h.mono fun s ω1 ⟨j, e, q⟩ => by subst e; exact WA_nil ⟨j, rfl, q⟩) hs
  refine (hA G as H σ b o l).mono fun vs H1 ⟨G1, as1, ω1, g1, p1, o1, ss, r, j, e, q1, q2, q⟩ => ?_
  subst e
  obtain ⟨v, rfl, r1⟩ := r.one
  cases r1
  refine ⟨j, rfl, q1, q2, G1, as1, ω1, g1, p1, o1, j.toNat, _, _, _, _, walk_range, fun _ _ _ _ _ _ _ _ => trivial, fun i x G' H' H'' as' ω' hi g p o' k y => ?_, q⟩
  obtain ⟨rfl, rfl⟩ := y
  exact ⟨G', Same.refl _, o', by
    have e : (0 : Int) + (i : Nat) = (i : Nat) := by omega
    simp only [e]
    exact .int _⟩
/-- range(a, b) -/
theorem ItD_range2 (hm : Y.X.mg "range" = none) (h : WE Y a τ ω fun s ω1 => WE Y b τ ω1 fun t ω2 => ∃ i j : Int, s = .d (.int i) ∧ t = .d (.int j) ∧ (-(2 ^ 62) ≤ i ∧ i < 2 ^ 62 ∧ -(2 ^ 62) ≤ j ∧ j < 2 ^ 62) ∧ R (j - i).toNat (fun k => .int (i + (k : Nat))) (fun _ => True) ω2) (hg : Gl Y.X "range" := by rfl)
    (hs : starEach [a, b] Y.X.env = [(false, eval a Y.X.env), (false, eval b Y.X.env)] := by rfl) (hs2 : starEach [b] Y.X.env = [(false, eval b Y.X.env)] := by rfl) : ItD Y tg (.Call (.Name "range" p) [a, b] [] pos) τ ω R := by
  refine .mk fun G as H σ b0 o l => wI_of (pi_range2 hg hm pa_w hs hs2) ?_
  have hA : WA Y [a, b] τ ω fun ss ω2 => ∃ i j : Int, ss = [.d (.int i), .d (.int j)] ∧ (-(2 ^ 62) ≤ i ∧ i < 2 ^ 62 ∧ -(2 ^ 62) ≤ j ∧ j < 2 ^ 62) ∧ R (j - i).toNat (fun k => .int (i + (k : Nat))) (fun _ => True) ω2 :=
    WA_cons (h.mono fun s ω1 q => WA_cons (q.mono fun t ω2 ⟨i, j, e1, e2, q2⟩ => WA_nil ⟨i, j, by rw [e1, e2], q2⟩) hs2) (hs.trans (by rw [hs2]))
  refine (hA G as H σ b0 o l).mono fun vs H1 ⟨G1, as1, ω1, g1, p1, o1, ss, r, i, j, e, q1, q⟩ => ?_
  subst e
  obtain ⟨v, w, rfl, r1, r2⟩ := r.two
  cases r1; cases r2
  refine ⟨i, j, rfl, q1, G1, as1, ω1, g1, p1, o1, (j - i).toNat, _, _, _, _, walk_range, fun _ _ _ _ _ _ _ _ => trivial, fun i x G' H' H'' as' ω' hi g p o' k y => ?_, q⟩
  obtain ⟨rfl, rfl⟩ := y
  exact ⟨G', Same.refl _, o', .int _⟩
/-- enumerate(list) -/
theorem ItD_enum {elts : List Expr} {kk : Nat} {tpos : Pos} (hm : Y.X.mg "enumerate" = none) (h : WE Y a τ ω fun s ω1 => ∃ ds, vw ω1 s = some (.list ds) ∧ R ds.length (fun i => .tup [.int (i : Nat), ds.getD i .none]) (fun ω' => vw ω' s = some (.list ds)) ω1) (hg : Gl Y.X "enumerate" := by rfl)
    (hs : starEach [a] Y.X.env = [(false, eval a Y.X.env)] := by rfl) : ItD Y (.Tuple elts kk tpos) (.Call (.Name "enumerate" p) [a] [] pos) τ ω R := by
  refine .mk fun G as H σ b o l => wI_of (pi_enum hg hm pa_w hs) ?_
  have hA : WA Y [a] τ ω fun ss ω1 => ∃ s ds, ss = [s] ∧ vw ω1 s = some (.list ds) ∧ R ds.length (fun i => .tup [.int (i : Nat), ds.getD i .none]) (fun ω' => vw ω' s = some (.list ds)) ω1 := WA_cons (h.mono fun s ω1 ⟨ds, q⟩ => WA_nil ⟨s, ds, rfl, q⟩) hs
  refine (hA G as H σ b o l).mono fun vs H1 ⟨G1, as1, ω1, g1, p1, o1, ss, r, s, ds, e, hv, q⟩ => ?_
  subst e
  obtain ⟨v, rfl, r1⟩ := r.one
  obtain ⟨a, xs, rfl, h1, h2⟩ := vw_ok o1 r1 hv
  have W : Walk (Ite Y.X.K a) ds.length (fun H => ∃ vs, SqL Y.X.K H a vs ∧ vs.length = ds.length) (fun i H v H' => ∃ T x, v = .ref T ∧ H T = none ∧ H' = upd H T (.tup [.int (i : Nat), x]) ∧ ∀ xs, SqL Y.X.K H a xs → xs[i]? = some x) :=
    ⟨fun i H hi ⟨vs, q, l⟩ => ⟨vs, vs[i]'(by omega), q, by simp⟩, fun H ⟨vs, q, l⟩ => ⟨vs, q, Nat.le_of_eq l⟩, fun i H x H' hi _ y => y⟩
  refine ⟨a, xs, rfl, SqL.of h1, G1, as1, ω1, g1, p1, o1, ds.length, _, _, _, _, W, fun G' H' as' ω' g p o' k => ?_, fun i x G' H' H'' as' ω' hi g p o' k y => ?_, q⟩
  · obtain ⟨a', xs', e, k1, k2⟩ := vw_ok o' (r1.mono g p) k
    cases e
    exact ⟨xs', SqL.of k1, k2.length⟩
  · obtain ⟨a', xs', e, k1, k2⟩ := vw_ok o' (r1.mono g p) k
    cases e
    obtain ⟨T, x, rfl, hn, rfl, y⟩ := y
    have hs := Evl.Ex.new (o := HO.tup [.int (i : Nat), x]) (o'.noG hn)
    exact ⟨_, hs, o'.newD hn (fun ps z => by cases z), .tup (SqT.of upd_same) (.cons (.int _) (.cons ((getD_dat k2 hi (y xs' (SqL.of k1))).mono hs) .nil))⟩
/-- zip(list, list) -/
theorem ItD_zip {elts : List Expr} {kk : Nat} {tpos : Pos} (hm : Y.X.mg "zip" = none) (h : WE Y a τ ω fun s ω1 => WE Y b τ ω1 fun t ω2 => ∃ ds es, vw ω2 s = some (.list ds) ∧ vw ω2 t = some (.list es) ∧ R (min ds.length es.length) (fun i => .tup [ds.getD i .none, es.getD i .none]) (fun ω' => vw ω' s = some (.list ds) ∧ vw ω' t = some (.list es)) ω2) (hg : Gl Y.X "zip" := by rfl)
    (hs : starEach [a, b] Y.X.env = (false, eval a Y.X.env) :: starEach [b] Y.X.env := by rfl) (hs2 : starEach [b] Y.X.env = (false, eval b Y.X.env) :: starEach [] Y.X.env := by rfl) (hpl : (backTo pos (starEach [b] Y.X.env)).any (·.1) = false := by rfl) : ItD Y (.Tuple elts kk tpos) (.Call (.Name "zip" p) [a, b] [] pos) τ ω R := by
  refine .mk fun G as H σ b0 o l => wI_of (pi_zip hg hm pa_w hs hpl) ?_
  have hA : WA Y [a, b] τ ω fun ss ω2 => ∃ s t ds es, ss = [s, t] ∧ vw ω2 s = some (.list ds) ∧ vw ω2 t = some (.list es) ∧ R (min ds.length es.length) (fun i => .tup [ds.getD i .none, es.getD i .none]) (fun ω' => vw ω' s = some (.list ds) ∧ vw ω' t = some (.list es)) ω2 :=
    WA_cons (h.mono fun s ω1 q => WA_cons (q.mono fun t ω2 ⟨ds, es, q⟩ => WA_nil ⟨s, t, ds, es, rfl, q⟩) hs2) hs
  refine (hA G as H σ b0 o l).mono fun vs H1 ⟨G1, as1, ω1, g1, p1, o1, ss, r, s, t, ds, es, e, hv, hw, q⟩ => ?_
  subst e
  obtain ⟨v, w, rfl, r1, r2⟩ := r.two
  obtain ⟨a, xs, rfl, h1, h2⟩ := vw_ok o1 r1 hv
  obtain ⟨c, ys, rfl, h3, h4⟩ := vw_ok o1 r2 hw
  have W : Walk (Itz Y.X.K a c) (min ds.length es.length) (fun H => ∃ xs ys, SqL Y.X.K H a xs ∧ SqL Y.X.K H c ys ∧ xs.length = ds.length ∧ ys.length = es.length) (fun i H v H' => ∃ T x y, v = .ref T ∧ H T = none ∧ H' = upd H T (.tup [x, y]) ∧ (∀ xs, SqL Y.X.K H a xs → xs[i]? = some x) ∧ ∀ ys, SqL Y.X.K H c ys → ys[i]? = some y) :=
    ⟨fun i H hi ⟨vs, ws, q, q', l, l'⟩ => ⟨vs, ws, vs[i]'(by omega), ws[i]'(by omega), q, q', by simp, by simp⟩, fun H ⟨vs, ws, q, q', l, l'⟩ => ⟨vs, ws, q, q', by omega⟩, fun i H x H' hi _ y => y⟩
  refine ⟨a, c, xs, ys, rfl, SqL.of h1, SqL.of h3, G1, as1, ω1, g1, p1, o1, _, _, _, _, _, W, fun G' H' as' ω' g p o' k => ?_, fun i x G' H' H'' as' ω' hi g p o' k y => ?_, q⟩
  · obtain ⟨a', xs', e, k1, k2⟩ := vw_ok o' (r1.mono g p) k.1
    cases e
    obtain ⟨a', ys', e, k3, k4⟩ := vw_ok o' (r2.mono g p) k.2
    cases e
    exact ⟨xs', ys', SqL.of k1, SqL.of k3, k2.length, k4.length⟩
  · obtain ⟨a', xs', e, k1, k2⟩ := vw_ok o' (r1.mono g p) k.1
    cases e
    obtain ⟨a', ys', e, k3, k4⟩ := vw_ok o' (r2.mono g p) k.2
    cases e
    obtain ⟨T, x, z, rfl, hn, rfl, y1, y2⟩ := y
    have hs := Evl.Ex.new (o := HO.tup [x, z]) (o'.noG hn)
    exact ⟨_, hs, o'.newD hn (fun ps z => by cases z), .tup (SqT.of upd_same) (.cons ((getD_dat k2 (by omega) (y1 xs' (SqL.of k1))).mono hs) (.cons ((getD_dat k4 (by omega) (y2 ys' (SqL.of k3))).mono hs) .nil))⟩
/-- a text, sign by sign -/
theorem ItD_str (h : WE Y iter τ ω fun s ω1 => ∃ z : Str, s = .d (.str z) ∧ R z.cps.size (fun i => .str ⟨#[z.cps.getD i 0]⟩) (fun _ => True) ω1) : ItD Y tg iter τ ω R := by
  refine .mk fun G as H σ b o l => wI_of (pi_str pe_w) ?_
  refine (h G as H σ b o l).mono fun x H1 ⟨G1, as1, ω1, g1, p1, o1, s, r, z, e, q⟩ => ?_
  subst e
  cases r
  refine ⟨_, rfl, G1, as1, ω1, g1, p1, o1, z.cps.size, _, _, _, _, walk_str, fun _ _ _ _ _ _ _ _ => trivial, fun i x G' H' H'' as' ω' hi g p o' k y => ?_, q⟩
  obtain ⟨rfl, c, hc, rfl⟩ := y
  refine ⟨G', Same.refl _, o', ?_⟩
  have e : z.cps.getD i 0 = c := by
    rw [Array.getD_eq_getD_getElem?, hc]; rfl
  rw [← e]
  exact .str _

/-! ### for -/
theorem WS_for {body : List Stmt} {D : En} (own : PassesOwn (model Y.X.prog Y.X.w) Y.X.A Y.X.env Y.X.xe) (calm : Y.X.calm = true)
    (h : ItD Y tg iter τ ω fun n y keep ω1 => ∃ Pv : Nat → Tau → List O → Prop, Pv 0 τ ω1 ∧ (∀ i τ' ω', i ≤ n → Pv i τ' ω' → keep ω') ∧
      (∀ i τ' ω', i < n → Pv i τ' ω' → WG Y tg (.d (y i)) τ' ω' fun τ2 ω2 => WB Y body τ2 ω2 { nx := Pv (i + 1), rt := D.rt, bk := D.nx, ct := Pv (i + 1) }) ∧ ∀ τ' ω', Pv n τ' ω' → D.nx τ' ω')
    (hs : ∀ x, foldedSetIterable iter Y.X.env x = pure x := by intro _; rfl) : WS Y (.For tg iter body [] pos) τ ω D := .mk fun G as H σ b o l => by
  refine wS_of (ps_for own calm pi_w pg_w pss_w hs) ?_
  have key : ∀ J H1, (∃ G1 as1 ω1, Same G G1 ∧ as <+: as1 ∧ Ok Y.X.K Y.T G1 H1 as1 ω1 ∧
    ∃ (n : Nat) (y : Nat → Z.D) (keep : List O → Prop) (Gd : Hp → Prop) (Yv : Nat → Hp → V → Hp → Prop), Walk J n Gd Yv ∧ (∀ G' H' as' ω', Same G1 G' → as1 <+: as' → Ok Y.X.K Y.T G' H' as' ω' → keep ω' → Gd H') ∧
      (∀ i x G' H' H'' as' ω', i < n → Same G1 G' → as1 <+: as' → Ok Y.X.K Y.T G' H' as' ω' → keep ω' → Yv i H' x H'' → ∃ G'', Same G' G'' ∧ Ok Y.X.K Y.T G'' H'' as' ω' ∧ Dat Y.X.K G'' x (y i)) ∧ ∃ Pv : Nat → Tau → List O → Prop, Pv 0 τ ω1 ∧ (∀ i τ' ω', i ≤ n → Pv i τ' ω' → keep ω') ∧
      (∀ i τ' ω', i < n → Pv i τ' ω' → WG Y tg (.d (y i)) τ' ω' fun τ2 ω2 => WB Y body τ2 ω2 { nx := Pv (i + 1), rt := D.rt, bk := D.nx, ct := Pv (i + 1) }) ∧ ∀ τ' ω', Pv n τ' ω' → D.nx τ' ω') →
    ∃ W : Nat → Nat → L2.St → Hp → Prop, (∃ m, W 0 m σ H1) ∧ ∀ i m σ H, W i m σ H →
      (J.stop i H ∧ (hi Y G as D).nx σ H) ∨ (J.go i H ∧ ∃ N : L2.St → Hp → Prop, (∀ σ' H', N σ' H' → ∃ m', m' < m ∧ W (i + 1) m' σ' H') ∧ ∀ x H', J.yld i H x H' → wG Y.X tg x σ H' fun σ2 H2 => wB Y.X body { hi Y G as D with nx := N, ct := N, bk := (hi Y G as D).nx } σ2 H2) := by
    intro J H1 ⟨G1, as1, ω1, g1, p1, o1, n, y, keep, Gd, Yv, W, k1, k2, Pv, h0, hk, hstep, hend⟩
    let PH : Nat → L2.St → Hp → Prop := fun i σ' H' => Go Y G1 as1 H' fun G' as' ω' => ∃ τ', SlR Y.X.K G' as' σ' τ' ∧ Pv i τ' ω'
    refine for_it W (D := hi Y G as D) PH (Go.here o1 ⟨τ, l.mono g1 p1, h0⟩) ?_ ?_ ?_
    · rintro i σ' H' hi' ⟨G', as', ω', g', p', o', τ', l', q'⟩
      exact k1 G' H' as' ω' g' p' o' (hk i τ' ω' hi' q')
    · rintro i x σ' H' H'' hi' ⟨G', as', ω', g', p', o', τ', l', q'⟩ hy
      obtain ⟨G'', g'', o'', r''⟩ := k2 i x G' H' H'' as' ω' hi' g' p' o' (hk i τ' ω' (Nat.le_of_lt hi') q') hy
      have gg := g'.trans g''
      refine (((hstep i τ' ω' hi' q')).use (v := x) (b.go (g1.trans gg) (p1.trans p')) o'' (l'.mono g'' (List.prefix_refl _)) r'').mono fun σ2 H2 ⟨G2, as2, ω2, g2, p2, o2, τ2, l2, q2⟩ => ?_
      have g3 := gg.trans g2
      have p3 := p'.trans p2
      refine (q2 G2 as2 H2 σ2 (b.go (g1.trans g3) (p1.trans p3)) o2 l2).mono ⟨fun σ3 H3 g => ?_, fun v H3 g => ?_, fun σ3 H3 g => ?_, fun σ3 H3 g => ?_⟩
      · exact Go.back g3 p3 g
      · exact Go.back (g1.trans g3) (p1.trans p3) g
      · exact Go.back (g1.trans g3) (p1.trans p3) g
      · exact Go.back g3 p3 g
    · rintro σ' H' ⟨G', as', ω', g', p', o', τ', l', q'⟩
      exact ⟨G', as', ω', g1.trans g', p1.trans p', o', τ', l', hend τ' ω' q'⟩
  exact (h G as H σ b o l).mono key
/-! ### while -/
theorem WS_while {c : Expr} {body : List Stmt} {D : En} (own : PassesOwn (model Y.X.prog Y.X.w) Y.X.A Y.X.env Y.X.xe) (Pv : Tau → List O → Prop) (μ : Tau → List O → Nat) (h0 : Pv τ ω)
    (h : ∀ τ' ω', Pv τ' ω' → WT Y c τ' ω' fun k ω2 => if k = true then WB Y body τ' ω2 { nx := fun τ2 ω3 => Pv τ2 ω3 ∧ μ τ2 ω3 < μ τ' ω', rt := D.rt, bk := D.nx, ct := fun τ2 ω3 => Pv τ2 ω3 ∧ μ τ2 ω3 < μ τ' ω' } else D.nx τ' ω2) : WS Y (.While c body [] pos) τ ω D := .mk fun G as H σ b o l => by
  refine wS_of (ps_while own pt_w pss_w) ?_
  refine ⟨fun m σ' H' => Go Y G as H' fun G' as' ω' => ∃ τ', SlR Y.X.K G' as' σ' τ' ∧ Pv τ' ω' ∧ μ τ' ω' = m, ⟨μ τ ω, Go.here o ⟨τ, l, h0, rfl⟩⟩, ?_⟩
  rintro m σ1 H1 ⟨G1, as1, ω1, g1, p1, o1, τ1, l1, q1, rfl⟩
  refine (h τ1 ω1 q1 G1 as1 H1 σ1 (b.go g1 p1) o1 l1).mono fun k H2 ⟨G2, as2, ω2, g2, p2, o2, q2⟩ => ?_
  have gg := g1.trans g2
  have pp := p1.trans p2
  cases k with
  | false =>
    rw [if_neg Bool.false_ne_true] at q2 ⊢
    exact ⟨G2, as2, ω2, gg, pp, o2, τ1, l1.mono g2 p2, q2⟩
  | true =>
    rw [if_pos rfl] at q2 ⊢
    refine ⟨fun σ' H' => Go Y G as H' fun G' as' ω' => ∃ τ', SlR Y.X.K G' as' σ' τ' ∧ Pv τ' ω' ∧ μ τ' ω' < μ τ1 ω1, fun σ' H' ⟨G', as', ω', a1, a2, a3, τ', a4, a5, a6⟩ => ⟨_, a6, G', as', ω', a1, a2, a3, τ', a4, a5, rfl⟩, ?_⟩
    refine (q2 G2 as2 H2 σ1 (b.go gg pp) o2 (l1.mono g2 p2)).mono ⟨fun σ3 H3 g => ?_, fun v H3 g => ?_, fun σ3 H3 g => ?_, fun σ3 H3 g => ?_⟩ <;> exact Go.back gg pp g
end

/-! ### comprehensions -/
theorem wipe_get (σ : L2.St) (vs : List Nat) (i : Nat) : (wipe σ vs)[i]? = if i ∈ vs then (σ[i]?).map (fun _ => none) else σ[i]? := by
  induction vs with
  | nil => simp [wipe]
  | cons v vs ih =>
    show ((wipe σ vs).set v none)[i]? = _
    by_cases e : v = i
    · subst e
      have hl : (wipe σ vs).length = σ.length := wipe_length σ vs
      by_cases h : v < σ.length
      · rw [List.getElem?_set_self (by omega)]
        simp [List.getElem?_eq_getElem h]
      · rw [List.getElem?_eq_none (by simp; omega)]
        simp [List.getElem?_eq_none (Nat.le_of_not_lt h)]
    · rw [List.getElem?_set_ne e, ih]
      by_cases m : i ∈ vs
      · simp [m]
      · have : ¬ (i = v) := fun z => e z.symm
        simp [m, this]
theorem wipe_wipe (σ : L2.St) (vs : List Nat) : wipe (wipe σ vs) vs = wipe σ vs := by
  apply List.ext_getElem?
  intro i
  rw [wipe_get, wipe_get]
  by_cases m : i ∈ vs
  · simp only [m, if_true]
    cases σ[i]? <;> rfl
  · simp only [m, if_false]
theorem wipe_set {σ : L2.St} {vs : List Nat} {i : Nat} {v : Option V} (h : i ∈ vs) : wipe (σ.set i v) vs = wipe σ vs := by
  apply List.ext_getElem?
  intro j
  rw [wipe_get, wipe_get]
  by_cases m : j ∈ vs
  · simp only [m, if_true]
    by_cases e : i = j
    · subst e
      by_cases hl : i < σ.length
      · rw [List.getElem?_set_self hl, List.getElem?_eq_getElem hl]; rfl
      · rw [List.getElem?_eq_none (by simp; omega), List.getElem?_eq_none (by omega)]
    · rw [List.getElem?_set_ne e]
  · simp only [m, if_false]
    rw [List.getElem?_set_ne (fun e => m (by rw [← e]; exact h))]
def wipeT (τ : Tau) : List Nat → Tau
  | [] => τ
  | v :: vs => (wipeT τ vs).set v none
section
variable {Y : Cy} {G H : Hp} {as : List Addr} {τ : Tau} {ω : List O} {s : S} {ss : List S} {Q : Tau → List O → Prop} {tg e a b elt iter : Expr} {es ifs : List Expr} {pos p : Pos} {vs : List Nat} {scope : Scope}
theorem SlR.wipe {K : PySem.W.Frag} {σ : L2.St} (h : SlR K G as σ τ) : ∀ vs, SlR K G as (L2.wipe σ vs) (wipeT τ vs)
  | [] => h
  | v :: vs => (SlR.wipe h vs).clear v
def WGv0 (Y : Cy) (tg : Expr) (s : S) (τ : Tau) (ω : List O) (vs : List Nat) (Q : Tau → List O → Prop) : Prop :=
  ∀ G as H σ v, Base Y G as → Ok Y.X.K Y.T G H as ω → SlR Y.X.K G as σ τ → SRel Y.X.K G as v s → wG Y.X tg v σ H fun σ' H' => L2.wipe σ' vs = L2.wipe σ vs ∧ FinG Y G as Q σ' H'
structure WGv (Y : Cy) (tg : Expr) (s : S) (τ : Tau) (ω : List O) (vs : List Nat) (Q : Tau → List O → Prop) : Prop where
  run : WGv0 Y tg s τ ω vs Q
instance {Y : Cy} {tg : Expr} {s : S} {τ : Tau} {ω : List O} {vs : List Nat} {Q : Tau → List O → Prop} : CoeFun (WGv Y tg s τ ω vs Q) (fun _ => WGv0 Y tg s τ ω vs Q) := ⟨fun h => h.run⟩
def WGvs0 (Y : Cy) (tgs : List Expr) (ss : List S) (τ : Tau) (ω : List O) (vs : List Nat) (Q : Tau → List O → Prop) : Prop :=
  ∀ G as H σ us, Base Y G as → Ok Y.X.K Y.T G H as ω → SlR Y.X.K G as σ τ → SRelL Y.X.K G as us ss → wGs Y.X tgs us σ H fun σ' H' => L2.wipe σ' vs = L2.wipe σ vs ∧ FinG Y G as Q σ' H'
structure WGvs (Y : Cy) (tgs : List Expr) (ss : List S) (τ : Tau) (ω : List O) (vs : List Nat) (Q : Tau → List O → Prop) : Prop where
  run : WGvs0 Y tgs ss τ ω vs Q
instance {Y : Cy} {tgs : List Expr} {ss : List S} {τ : Tau} {ω : List O} {vs : List Nat} {Q : Tau → List O → Prop} : CoeFun (WGvs Y tgs ss τ ω vs Q) (fun _ => WGvs0 Y tgs ss τ ω vs Q) := ⟨fun h => h.run⟩
theorem WGv_name (i : Nat) {x : Str} (q : Q (τ.set i (some s)) ω) (hN : Y.X.N.Nodup) (hv : i ∈ vs := by decide) (hi : Y.X.N[i]? = some x := by rfl) (hx : Loc Y.X.env.scope x := by first | exact .inl rfl | exact .inr rfl)
    (hf : Y.X.fn x = true ∨ Y.X.env.scope.names.lookup x = some .local := by first | exact .inr rfl | exact .inl rfl) : WGv Y (.Name x pos) s τ ω vs Q := .mk fun G as H σ v b o l r =>
  wG_of (pg_name hN hi hx hf) ⟨wipe_set hv, Go.here o ⟨_, l.set i r, q⟩⟩
theorem WGvs_nil (q : Q τ ω) : WGvs Y [] [] τ ω vs Q := .mk fun G as H σ us b o l r => by
  cases r
  exact wGs_of pgs_nil ⟨rfl, rfl, Go.here o ⟨τ, l, q⟩⟩
theorem WGvs_cons (h : WGv Y e s τ ω vs fun τ1 ω1 => WGvs Y es ss τ1 ω1 vs Q) (hs : (assignEach (e :: es) Y.X.env).map (·.2) = assign e Y.X.env :: (assignEach es Y.X.env).map (·.2) := by rfl) : WGvs Y (e :: es) (s :: ss) τ ω vs Q := .mk fun G as H σ us b o l r => by
  cases r with
  | cons r rr =>
    refine wGs_of (pgs_cons pg_w pgs_w hs) ⟨_, _, rfl, ?_⟩
    refine (h G as H σ _ b o l r).mono fun σ1 H1 ⟨ew, G1, as1, ω1, g1, p1, o1, τ1, l1, q1⟩ => ?_
    exact (q1 G1 as1 H1 σ1 _ (b.go g1 p1) o1 l1 (rr.mono g1 p1)).mono fun σ2 H2 ⟨ew2, g⟩ => ⟨ew2.trans ew, Go.back g1 p1 g⟩
theorem WGv_tup {k} {ds : List D} (calm : Y.X.calm = true) (hl : ds.length = es.length) (h : WGvs Y es (ds.map S.d) τ ω vs Q)
    (hn : (assignEach es Y.X.env).length = es.length := by rfl) (hst : (assignEach es Y.X.env).findIdx? (·.1) = none := by rfl) : WGv Y (.Tuple es k pos) (.d (.tup ds)) τ ω vs Q := .mk fun G as H σ v b o l r => by
  cases r with
  | tup h1 h2 =>
    exact wG_of (pg_tup calm pgs_w hn hst) ⟨_, _, rfl, sqt_mono o.sub h1, by rw [h2.length]; exact hl, h G as H σ _ b o l (SRelL.of_dats h2)⟩
/-- the clause's tests -/
def wTs (X : Cx) (ifs : List Expr) : TT := fun σ H Q => ∀ pins s, Inv X pins σ H s → wpAny (model X.prog X.w) X.A (forIn ifs true fun c r => if r = true then do let ok ← isTrue c X.env (eval c X.env); pure (ForInStep.yield ok) else pure (ForInStep.yield r)) (TP X pins σ Q) X.xe s
theorem pts_w {X : Cx} {ifs : List Expr} : PTs X ifs (wTs X ifs) := ⟨fun pins s _ _ _ I h => h pins s I⟩
theorem wTs_of {X : Cx} {ifs : List Expr} {t : TT} {σ : L2.St} {H : Hp} {Q : Bool → Hp → Prop} (h : PTs X ifs t) (q : t σ H Q) : wTs X ifs σ H Q := fun pins s I => h.run pins s σ H Q I q
theorem wTs.mono {X : Cx} {ifs : List Expr} {σ : L2.St} {H : Hp} {Q Q' : Bool → Hp → Prop} (h : wTs X ifs σ H Q) (k : ∀ v H', Q v H' → Q' v H') : wTs X ifs σ H Q' := fun pins s I => thn (h pins s I) fun b _ ⟨H', I', q⟩ => ⟨H', I', k b H' q⟩
def WTs0 (Y : Cy) (ifs : List Expr) (τ : Tau) (ω : List O) (Q : Bool → List O → Prop) : Prop :=
  ∀ G as H σ, Base Y G as → Ok Y.X.K Y.T G H as ω → SlR Y.X.K G as σ τ → wTs Y.X ifs σ H fun b H' => Go Y G as H' fun _ _ ω' => Q b ω'
structure WTs (Y : Cy) (ifs : List Expr) (τ : Tau) (ω : List O) (Q : Bool → List O → Prop) : Prop where
  run : WTs0 Y ifs τ ω Q
instance {Y : Cy} {ifs : List Expr} {τ : Tau} {ω : List O} {Q : Bool → List O → Prop} : CoeFun (WTs Y ifs τ ω Q) (fun _ => WTs0 Y ifs τ ω Q) := ⟨fun h => h.run⟩
theorem WTs_nil {Q : Bool → List O → Prop} (q : Q true ω) : WTs Y [] τ ω Q := .mk fun G as H σ b o l => wTs_of pts_nil (show tYes σ H _ from Go.here o q)
theorem WTs_one {Q : Bool → List O → Prop} (h : WT Y e τ ω Q) : WTs Y [e] τ ω Q := .mk fun G as H σ b o l => wTs_of (pts_one pt_w) (h G as H σ b o l)
/-- the context of a comprehension's block -/
def blkY (Y : Cy) (scope : Scope) (s : Shared) (H : Hp) (C : Addr) (cl : List (Str × Addr)) (fp : List Addr) : Cy :=
  ⟨Y.X.blk s H scope (compEnvC scope cl C Y.X.env) fp, Y.T, Y.G0, Y.as0, fun _ _ _ => False⟩
def bG (X : Cx) (scope : Scope) (tg : Expr) : TG := fun v σ H Q => ∀ s H0 C cl fp, wG (X.blk s H0 scope (compEnvC scope cl C X.env) fp) tg v σ H Q
def bT (X : Cx) (scope : Scope) (ifs : List Expr) : TT := fun σ H Q => ∀ s H0 C cl fp, wTs (X.blk s H0 scope (compEnvC scope cl C X.env) fp) ifs σ H Q
def bE (X : Cx) (scope : Scope) (e : Expr) : TE := fun σ H Q => ∀ s H0 C cl fp, wE (X.blk s H0 scope (compEnvC scope cl C X.env) fp) e σ H Q
/-- what a list comprehension asks -/
def LcD (Y : Cy) (tg : Expr) (ifs : List Expr) (elt : Expr) (scope : Scope) (vs : List Nat) (τ : Tau) (Q : QS) (n : Nat) (y : Nat → D) (keep : List O → Prop) (ω1 : List O) : Prop :=
  ∃ Pv : Nat → List D → List O → Prop, Pv 0 [] ω1 ∧ (∀ i acc ω', i ≤ n → Pv i acc ω' → ω'.length = ω1.length ∧ Below ω'.length ω' ∧ keep (ω' ++ [.lst acc])) ∧
    (∀ i acc ω', i < n → Pv i acc ω' → ∀ s H C cl fp, WGv (blkY Y scope s H C cl fp) tg (.d (y i)) (wipeT τ vs) (ω' ++ [.lst acc]) vs fun τ2 ω2 =>
      ∀ s H C cl fp, WTs (blkY Y scope s H C cl fp) ifs τ2 ω2 fun b ω3 => if b = true then
        ∀ s H C cl fp, WE (blkY Y scope s H C cl fp) elt τ2 ω3 fun u ω4 => ∃ d ω5, u = .d d ∧ ω4 = ω5 ++ [.lst acc] ∧ acc.length < sizeLine ∧ Pv (i + 1) (acc ++ [d]) ω5
      else ∃ ω5, ω3 = ω5 ++ [.lst acc] ∧ Pv (i + 1) acc ω5) ∧
    ∀ acc ω', Pv n acc ω' → Q (.d (.list acc)) ω' ∨ Q (.o ω'.length) (ω' ++ [.lst acc])
theorem take_pre {α : Type} {l : List α} {x : α} : (l ++ [x]).take l.length = l := by simp
theorem lc_ok {Q : QS} (h : ItD Y tg iter τ ω fun n y keep ω1 => LcD Y tg ifs elt scope vs τ Q n y keep ω1) {σ : L2.St} (b : Base Y G as) (o : Ok Y.X.K Y.T G H as ω) (l : SlR Y.X.K G as σ τ) {F : VK} (hF : ∀ v H', Fin1 Y G as Q v H' → F v H') :
    tLc (wI Y.X tg iter) (bG Y.X scope tg) (bT Y.X scope ifs) (bE Y.X scope elt) vs σ H F := by
  unfold tLc
  refine (h G as H σ b o l).mono fun J H1 hh => ?_
  obtain ⟨G1, as1, ω1, g1, p1, o1, n, y, keep, Gd, Yv, W, k1, k2, Pv, h0, hk, hstep, hend⟩ := hh
  intro Dn hD
  let PH : Nat → Hp → Prop := fun i H' => ∃ G' ω' acc, Same G1 G' ∧ Ok Y.X.K Y.T G' H' (as1 ++ [Dn]) (ω' ++ [.lst acc]) ∧ Pv i acc ω'
  have l1 : ∀ {acc ω' G' H'}, Ok Y.X.K Y.T G' H' (as1 ++ [Dn]) (ω' ++ [O.lst acc]) → as1.length = ω'.length := fun o => by
    have := o.len
    simpa using this
  refine lc_it W (Qd := fun H' => F (.ref Dn) H') PH ⟨G1, ω1, [], Same.refl _, o1.newO hD (o := .lst []) ⟨[], upd_same, .nil⟩, h0⟩ ?_ ?_ ?_
  · rintro i H' hi' ⟨G', ω', acc, g', o', q'⟩
    exact k1 G' H' _ _ g' pre_snoc o' (hk i acc ω' hi' q').2.2
  · rintro i x H' H'' hi' ⟨G', ω', acc, g', o', q'⟩ hy
    obtain ⟨G'', g'', o'', r''⟩ := k2 i x G' H' H'' _ _ hi' g' pre_snoc o' (hk i acc ω' (Nat.le_of_lt hi') q').2.2 hy
    have gg := g'.trans g''
    intro s0 H0 C cl fp
    have B : Base (blkY Y scope s0 H0 C cl fp) G'' (as1 ++ [Dn]) := b.go (g1.trans gg) (p1.trans pre_snoc)
    refine (hstep i acc ω' hi' q' s0 H0 C cl fp G'' (as1 ++ [Dn]) H'' (L2.wipe σ vs) x B o'' ((l.mono (g1.trans gg) (p1.trans pre_snoc)).wipe vs) r'').mono fun σ2 H2 ⟨ew, G2, as2, ω2, g2, p2, o2, τ2, l2, q2⟩ => ?_
    refine ⟨ew.trans (wipe_wipe σ vs), fun s0 H0 C cl fp => ?_⟩
    have B2 : Base Y G2 as2 := Base.go (Y := Y) B g2 p2
    refine (q2 s0 H0 C cl fp G2 as2 H2 σ2 B2 o2 l2).mono fun k H3 ⟨G3, as3, ω3, g3, p3, o3, q3⟩ => ?_
    -- the new list is the last of the table
    have tail : ∀ {G5 : Hp} {H5 : Hp} {as5 : List Addr} {ω5 : List O}, as1 ++ [Dn] <+: as5 → Ok Y.X.K Y.T G5 H5 as5 (ω5 ++ [.lst acc]) → ω5.length = as1.length → as5 = as1 ++ [Dn] := fun {G5 H5 as5 ω5} p o hl => by
      refine (p.eq_of_length ?_).symm
      have := o.len
      simp only [List.length_append, List.length_singleton] at this ⊢
      omega
    cases k with
    | true =>
      rw [if_pos rfl] at q3 ⊢
      intro s0 H0 C cl fp
      have B3 : Base Y G3 as3 := Base.go (Y := Y) B2 g3 p3
      refine (q3 s0 H0 C cl fp G3 as3 H3 σ2 B3 o3 (l2.mono g3 p3)).mono fun u H4 ⟨G4, as4, ω4, g4, p4, o4, s4, r4, d, ω5, e1, e2, hz, q4⟩ => ?_
      subst e1 e2
      have hl5 := (hk (i + 1) _ ω5 hi' q4).1
      have e5 := tail (p2.trans (p3.trans p4)) o4 (by rw [hl5]; exact o1.len.symm)
      subst e5
      have hD4 : (as1 ++ [Dn])[as1.length]? = some Dn := by simp
      have hl1 : as1.length = ω5.length := l1 o4
      have hW : (ω5 ++ [O.lst acc])[as1.length]? = some (.lst acc) := by rw [hl1]; simp
      obtain ⟨vs4, h41, h42⟩ := o4.own _ _ _ hD4 hW
      refine ⟨vs4, h41, by rw [h42.length]; exact hz, ?_⟩
      have o6 := o4.upd hD4 hW (by intro z; cases z) (o' := .lst (acc ++ [d])) (u := .lst (vs4 ++ [u])) ⟨_, upd_same, h42.append (.cons r4 .nil)⟩
      have e6 : (ω5 ++ [O.lst acc]).set as1.length (.lst (acc ++ [d])) = ω5 ++ [.lst (acc ++ [d])] := by rw [hl1]; simp
      rw [e6] at o6
      exact ⟨G4, ω5, acc ++ [d], gg.trans (g2.trans (g3.trans g4)), o6, q4⟩
    | false =>
      rw [if_neg Bool.false_ne_true] at q3 ⊢
      obtain ⟨ω5, e2, q4⟩ := q3
      subst e2
      have hl5 := (hk (i + 1) _ ω5 hi' q4).1
      have e5 := tail (p2.trans p3) o3 (by rw [hl5]; exact o1.len.symm)
      subst e5
      exact ⟨G3, ω5, acc, gg.trans (g2.trans g3), o3, q4⟩
  · rintro H' ⟨G', ω', acc, g', o', q'⟩
    obtain ⟨hl, hb, _⟩ := hk n acc ω' (Nat.le_refl _) q'
    have hl1 := l1 o'
    have hD4 : (as1 ++ [Dn])[as1.length]? = some Dn := by simp
    have hW : (ω' ++ [O.lst acc])[as1.length]? = some (.lst acc) := by rw [hl1]; simp
    rcases hend acc ω' q' with q | q
    · have o2 := o'.cut (n := ω'.length) (by simp) (by rw [take_pre]; exact hb)
      rw [take_pre, ← hl1, take_pre] at o2
      obtain ⟨vs4, h41, h42⟩ := o'.own _ _ _ hD4 hW
      have hG := o'.fre _ _ _ hD4 hW (by intro z; cases z)
      have o3 := o2.take hG h41 (fun ps z => by cases z) fun k u e1 e2 => by
        cases u with
        | gone => rfl
        | _ =>
          exfalso
          have hk1 : k < as1.length := (List.getElem?_eq_some_iff.mp e1).1
          have := o'.inj k as1.length Dn _ _ (by rw [List.getElem?_append_left hk1]; exact e1) hD4 (by rw [List.getElem?_append_left (by omega)]; exact e2) hW (by intro z; cases z) (by intro z; cases z)
          omega
      exact hF _ _ ⟨_, as1, ω', (g1.trans g').trans (Evl.Ex.new hG), p1, o3, .d (.list acc), .list upd_same (h42.mono (Evl.Ex.new hG)), q⟩
    · exact hF _ _ ⟨G', _, _, g1.trans g', p1.trans pre_snoc, o', .o ω'.length, ⟨Dn, by rw [← hl1]; exact hD4, rfl⟩, q⟩
/-- [elt for tg in iter if ..] -/
theorem WE_lc (own : List (Str × Nat)) {Q : QS} (calm : Y.X.calm = true) (hN : Y.X.N.Nodup) (ok : BlkOk Y.X.N Y.X.env.scope scope own) (h : ItD Y tg iter τ ω fun n y keep ω1 => LcD Y tg ifs elt scope (own.map (·.2)) τ Q n y keep ω1)
    (hs : ∀ x, foldedSetIterable iter Y.X.env x = pure x := by intro _; rfl) : WE Y (.ListComp elt [⟨tg, iter, ifs, 0⟩] scope pos) τ ω Q := .mk fun G as H σ b o l =>
  wE_of (pe_lc calm hN pi_w ok (fun s H C cl fp => ⟨fun pins st σ H v u Q I r h => h s _ C cl fp pins st u I r⟩) (fun s H C cl fp => ⟨fun pins st σ H Q I h => h s _ C cl fp pins st I⟩) (fun s H C cl fp => ⟨fun pins st σ H Q I h => h s _ C cl fp pins st I⟩) hs) (lc_ok h b o l fun _ _ g => g)
/-- y = [elt for tg in iter if ..] -/
theorem WS_setLc (i : Nat) (own : List (Str × Nat)) {x : Str} {py spos : Pos} {D : En} (calm : Y.X.calm = true) (hN : Y.X.N.Nodup) (ok : BlkOk Y.X.N Y.X.env.scope scope own)
    (h : ItD Y tg iter τ ω fun n y keep ω1 => LcD Y tg ifs elt scope (own.map (·.2)) τ (fun s ω' => D.nx (τ.set i (some s)) ω') n y keep ω1) (hsw : swapsWith (.ListComp elt [⟨tg, iter, ifs, 0⟩] scope pos) (some (.Name x py)) spos.line Y.X.env = pure true)
    (hi : Y.X.N[i]? = some x := by rfl) (hx : Y.X.env.scope.names.lookup x = some .local := by rfl) (hs : ∀ x, foldedSetIterable iter Y.X.env x = pure x := by intro _; rfl) : WS Y (.Assign [.Name x py] (.ListComp elt [⟨tg, iter, ifs, 0⟩] scope pos) spos) τ ω D := .mk fun G as H σ b o l => by
  refine wS_of (ps_setLc (wi := wI Y.X tg iter) (g := bG Y.X scope tg) (tt := bT Y.X scope ifs) (te := bE Y.X scope elt) calm hN hi hx hsw pi_w ok (fun s H C cl fp => ⟨fun pins st σ H v u Q I r h => h s _ C cl fp pins st u I r⟩) (fun s H C cl fp => ⟨fun pins st σ H Q I h => h s _ C cl fp pins st I⟩) (fun s H C cl fp => ⟨fun pins st σ H Q I h => h s _ C cl fp pins st I⟩) hs) ?_
  exact lc_ok h b o l fun v H' g => g.mono fun G1 as1 ω1 g1 p1 o1 ⟨s, r, q⟩ => ⟨_, (l.mono g1 p1).set i r, q⟩
end
end Z

set_option Elab.async false
set_option linter.all false
set_option maxRecDepth 100000
/-! # M: try: .., except X as n: m = n -/
namespace Z
open PySem PySem.Spec PyProof.Rows L2 LamX

section
variable {X : Cx} {pins : List (Addr × Obj)} {σ : L2.St} {H : Hp} {s : Shared}
theorem upd_ne2 {H : Hp} {a b : Addr} {u v : HO} (na : H a = none) (e : H b = some v) : upd H a u b = some v := by
  have hb : b ≠ a := fun z => by rw [z, na] at e; cases e
  rw [upd_ne hb]; exact e
/-- an exception's object that was not tracked is tracked now -/
theorem adopt (I : Inv X pins σ H s) {a C dx : Addr} {oe : Obj} {vs : Array Value} (ha : s.heap.get? a = some oe) (hz : Zc (.ref C) (some dx) oe) (hd : oe.data = .fields vs) (na : H a = none) (n0 : X.s_0.heap.get? a = none)
    (nL : a ≠ X.env.locals) (np : ∀ p ∈ X.pn ++ pins, p.1 ≠ a) : Inv X pins σ (upd H a (excH a C dx)) s := by
  have o0 : ∀ {b o}, X.s_0.heap.get? b = some o → b ≠ a := fun {b o} e z => by rw [z, n0] at e; cases e
  have nc : ∀ x c, X.env.cells.lookup x = some c → c ≠ a := fun x c e z => by
    obtain ⟨v, o, h1, h2⟩ := I.cell x c e
    rw [z, ha] at h1; cases h1
    rw [hd] at h2; cases h2
  have keep := fun {b v} (e : H b = some v) => upd_ne2 (u := excH a C dx) na e
  constructor
  · exact I.ok
  · exact I.os
  · exact I.bare
  · exact { keep := I.base.keep, slot := I.base.slot, there := I.base.there
            free := fun b o e n x => (upd_ne (o0 e)).trans (I.base.free b o e n x)
            tups := fun b xs e => keep (I.base.tups b xs e), frzs := fun b o u e => keep (I.base.frzs b o u e)
            tbls := fun b ps e => by obtain ⟨m, q⟩ := I.base.tbls b ps e; exact ⟨m, keep q⟩ }
  · exact I.loc
  · exact I.cell
  · exact (upd_ne (Ne.symm nL)).trans I.free
  · exact fun x c e => (upd_ne (nc x c e)).trans (I.freeC x c e)
  · exact fun p hp => by
      obtain ⟨p1, p2, p3⟩ := I.pin p hp
      exact ⟨p1, (upd_ne (np p hp)).trans p2, p3⟩
  · intro b u e
    by_cases hb : b = a
    · subst hb
      rw [upd_same] at e; cases e
      exact ⟨⟨oe, vs, ha, hz.1, hz.2, hd⟩, ⟨oe, ha⟩, fun h1 h2 ⟨o1, v1, q1, q2⟩ st => ⟨o1, v1, st _ q1, q2⟩⟩
    · rw [upd_ne hb] at e
      exact (I.hok b u e).stay (fun _ _ _ q => q) (fun c q => keep q) fun c xs q => keep q
  · exact I.len
/-- what the clause 'except c as n (slot i): m = n (slot j)' wishes of an exception -/
def wKeep (K : PySem.W.Frag) (c : Value) (i j : Nat) (D : Ends) : WX := fun cls d σ H =>
  PySem.W.exmOne K cls c = some true ∧ ∃ C dx, cls = .ref C ∧ d = some dx ∧ ∀ a, H a = none → D.nx ((σ.set j (some (.ref a))).set i none) (upd H a (excH a C dx))
def wTry (X : Cx) (body : List Stmt) (W : WX) : TS := fun D σ H => ∀ pn xe, Takes (X.tr pn xe) W → PassesOwn (model X.prog X.w) X.A X.env xe → wB (X.tr pn xe) body D σ H
theorem ps_try_keep {x n m : Str} {c : Value} {i j : Nat} {body : List Stmt} {np mp np2 sp pos pos' : Pos} (stk : X.stack = X.env :: X.outer) (fr : X.env.frame = some X.env.locals) (hex : X.ex = []) (hN : X.N.Nodup)
    (hi : X.N[i]? = some n) (hln : X.env.kindOf n = some .local) (hj : X.N[j]? = some m) (hlm : X.env.kindOf m = some .local) (hij : j ≠ i) (hc : Names X x c) (hdn : (n == ("__debug__" : Str)) = false) (hcn : (n == ("__classdict__" : Str)) = false) :
    PS X (.Try body [.ExceptHandler (some (.Name x np)) (some n) [.Assign [.Name m mp] (.Name n np2) sp] pos'] [] [] pos) (fun D σ H => wTry X body (wKeep X.K c i j D) D σ H) := by
  refine ⟨fun pins s σ H D I h => ?_⟩
  have ok := I.ok
  have hfr : X.A.frames = some (X.env :: X.outer) := ok.frames.trans (congrArg some stk)
  refine wpAny_Try_except ?_
  have run := h (X.pn ++ pins) (fun e s₁ => wpAny (model X.prog X.w) X.A (noteFrame e X.env) (fun _ s₂ => wpAny (model X.prog X.w) X.A (setFlight e none) (fun _ s₃ =>
    wpAny (model X.prog X.w) X.A (handleBy e X.env [.ExceptHandler (some (.Name x np)) (some n) [.Assign [.Name m mp] (.Name n np2) sp] pos']) (SP X pins D) X.xe s₃) X.xe s₂) X.xe s₁) ?_ PassesOwn.looking [] s (I.toTry _)
  · refine wpAny_mono run (fun f s1 r => ?_) fun _ _ r => r
    cases f with
    | next => obtain ⟨σ', H', J, q⟩ := r; exact wpAny_execs_nil ⟨σ', H', J.ofTry ok, q⟩
    | brk => obtain ⟨σ', H', J, q⟩ := r; exact ⟨σ', H', J.ofTry ok, q⟩
    | cont => obtain ⟨σ', H', J, q⟩ := r; exact ⟨σ', H', J.ofTry ok, q⟩
    | ret u => obtain ⟨v, σ', H', J, rv, q⟩ := r; exact ⟨v, σ', H', J.ofTry ok, rv, q⟩
  · rintro u s' ⟨a, B, sI, pins', σ', H', cls, d, rfl, J', nb, up, sky, na, os, ag, hex1, C, dx, rfl, rfl, q⟩
    have J := J'.ofTry ok
    have hil : i < σ'.length := by rw [J.len]; exact (List.getElem?_eq_some_iff.mp hi).1
    have skyB : Sky B (X.env :: X.outer) a (Zc (.ref C) (some dx)) X.env.locals s'.heap := stk ▸ sky
    refine Sky.land (A := X.A) Zc.steady hfr fr skyB fun h3 fl3 up3 => ?_
    -- where the exception's object does not stand
    have nB : B.get? a = none := fl3.2.1
    obtain ⟨oe3, vs3, he3, hz3, hd3⟩ := fl3.there
    have nfr : a ∉ frs (X.env :: X.outer) := fun hm => by
      obtain ⟨_, o', e', hnf⟩ := fl3.2.2.1.mem hm
      rw [he3] at e'; cases e'
      exact hnf _ hd3
    have nL : a ≠ X.env.locals := fun z => nfr (List.mem_filterMap.mpr ⟨X.env, List.mem_cons_self, by rw [fr, z]⟩)
    have nF : a ∉ X.fs := fun hm => by
      obtain ⟨e, he, q⟩ := List.mem_filterMap.mp hm
      exact nfr (List.mem_filterMap.mpr ⟨e, List.mem_cons_of_mem _ he, q⟩)
    have nS : a ∉ frs X.stack := stk ▸ nfr
    have nI : sI.heap.get? a = none := by
      cases e : sI.heap.get? a with
      | none => rfl
      | some o => rw [nb a o e nS] at nB; cases nB
    have n0 : X.s_0.heap.get? a = none := by
      cases e : X.s_0.heap.get? a with
      | none => rfl
      | some o =>
        obtain ⟨o', e'⟩ := J.base.there a o e (by rw [hex]; exact List.not_mem_nil)
        rw [nI] at e'; cases e'
    have npin : ∀ p ∈ X.pn ++ pins, p.1 ≠ a := fun p hp z => by
      have e := (J.pin p hp).1
      rw [z, nI] at e; cases e
    have J3 := J.landed (s' := { s' with heap := h3 }) nb fl3.1 (up.trans up3) os ag
    have S3 := J3.suite he3 hd3 na nL nF
    refine wpAny_handleBy_cons (codeAny_handlers_test ?_) (by intro z; cases z)
    have LT : PySem.W.Looks (model X.prog X.w) h3 (typeOf (.ref a)) (.ref C) := fun A Q E s k r => wpAny_typeOf_ref (k _ _ he3) (by rw [hz3.1]; exact r)
    have test : ∀ {Q : Value → Shared → Prop} {E : Value → Shared → Prop}, Q c { s' with heap := h3 } → wpAny (model X.prog X.w) (X.A.mark (some (.ref a))) (eval (.Name x np) X.env) Q E { s' with heap := h3 } := fun {Q E} r => by
      obtain ⟨hg, hdb, hm | ⟨hm, hv, hnn⟩⟩ := hc
      · exact ld_glob S3 hg hm r hdb
      · exact ld_blt S3 hg hm hv r hnn hdb
    refine test ((PySem.W.exm_one (M := model X.prog X.w) J3.kIn LT hex1).here ?_)
    refine codeAny_handlers_suite_as (HandSPX.lands_againZ fl3 fun h4 fl4 up4 => ?_)
    obtain ⟨oe4, vs4, he4, hz4, hd4⟩ := fl4.there
    have J4 := J.landed (s' := { s' with heap := h4 }) nb fl4.1 ((up.trans up3).trans up4) os ag
    refine store_ok (X := X.suite a ((a, oe4) :: (X.pn ++ pins))) (v := .ref a) (J4.suite he4 hd4 na nL nF) hN hi (.inl hln) rfl (fun s5 S5 => ?_) (.inr hln)
    have set : PS (X.suite a ((a, oe4) :: (X.pn ++ pins))) (.Assign [.Name m mp] (.Name n np2) sp) (tAsg (tVar i) (gName j)) := ps_set hN hj (.inl hlm) (pe_var hi (.inl hln) hdn hcn) (by rfl) (.inr hlm)
    have hset : tAsg (tVar i) (gName j) ⟨fun σ6 H6 => σ6 = (σ'.set i (some (.ref a))).set j (some (.ref a)) ∧ H6 = H', fun _ _ => False, fun _ _ => False, fun _ _ => False⟩ (σ'.set i (some (.ref a))) H' :=
      ⟨.ref a, by rw [List.getElem?_set_self hil], rfl, rfl⟩
    refine wpAny_mono ((pss_one set).run [] s5 _ H' _ S5 hset) (fun f s6 r => ?_) (fun _ _ z => False.elim z)
    cases f with
    | next =>
      obtain ⟨σ6, H6, S6, rfl, rfl⟩ := r
      refine gone_ok (X := X.suite a ((a, oe4) :: (X.pn ++ pins))) S6 hN hi hln fun s7 S7 => ?_
      have e7 := (S7.pin (a, oe4) (List.mem_append_left _ List.mem_cons_self)).1
      have J7 := adopt (S7.unsuite ok) e7 hz4 hd4 na n0 nL npin
      refine ⟨_, _, J7, ?_⟩
      have e : (((σ'.set i (some (V.ref a))).set j (some (V.ref a))).set i none) = (σ'.set j (some (.ref a))).set i none := by
        rw [List.set_comm _ _ hij, List.set_set]
        exact (List.set_comm _ _ (Ne.symm hij)).symm ▸ rfl
      rw [e]
      exact q a na
    | brk => obtain ⟨_, _, _, z⟩ := r; exact z.elim
    | cont => obtain ⟨_, _, _, z⟩ := r; exact z.elim
    | ret u => obtain ⟨_, _, _, _, _, z⟩ := r; exact z.elim
end
end Z

set_option Elab.async false
set_option linter.all false
set_option maxRecDepth 100000
/-! # N: try over data, an error's fields, isinstance, methods -/
namespace Z
open PySem PySem.Spec PyProof.Rows L2 LamX

/-- the context of a try's suite -/
def trY (Y : Cy) (pn : List (Addr × Obj)) (xe : Value → Shared → Prop) (G : Hp) (as : List Addr) (rz : XD → Tau → List O → Prop) : Cy := ⟨Y.X.tr pn xe, Y.T, G, as, rz⟩
/-- what is wished of an exception in a try: it is caught, and kept in slot j -/
def rzTry (Y : Cy) (c : Value) (i j : Nat) (D : En) : XD → Tau → List O → Prop := fun x τ ω => PySem.W.exmOne Y.X.K (.ref x.C) c = some true ∧ D.nx ((τ.set j (some (.d (.exc x.C x.fs)))).set i none) ω
section
variable {W : Wd} {Y : Cy} {k : Nat}
theorem Cal.tr (c : Cal W k Y) {pn : List (Addr × Obj)} {xe : Value → Shared → Prop} {G : Hp} {as : List Addr} {rz : XD → Tau → List O → Prop} (z : Rz (trY Y pn xe G as rz)) : Cal W k (trY Y pn xe G as rz) :=
  ⟨⟨c.inn.P, c.inn.w, c.inn.K, c.inn.mg, c.inn.base, c.inn.T⟩, c.room, c.gds, z⟩
theorem Cal.blk (c : Cal W k Y) {scope : Scope} {s : Shared} {H : Hp} {C : Addr} {cl : List (Str × Addr)} {fp : List Addr} : Cal W k (blkY Y scope s H C cl fp) :=
  ⟨⟨c.inn.P, c.inn.w, c.inn.K, c.inn.mg, c.inn.base, c.inn.T⟩, c.room, c.gds, ⟨fun _ _ _ _ => False, L2.takes0, fun x dx G as H σ τ ω _ _ _ _ q => q.elim⟩⟩
theorem Cal.rm (c : Cal W k Y) : Rm Y := rm_of c.room
end
section
variable {Y : Cy} {G H : Hp} {as : List Addr} {ω : List O} {τ : Tau} {e a b : Expr} {es : List Expr} {p pos apos : Pos}
/-- try: body, except x as n: m = n -/
theorem WS_try (i j : Nat) {x n m : Str} {c : Value} {body : List Stmt} {np mp np2 sp pos' : Pos} {D : En} (stk : Y.X.stack = Y.X.env :: Y.X.outer) (fr : Y.X.env.frame = some Y.X.env.locals) (hex : Y.X.ex = []) (hN : Y.X.N.Nodup)
    (hc : Names Y.X x c)
    (h : ∀ pn xe G as, Base Y G as → PassesOwn (model Y.X.prog Y.X.w) Y.X.A Y.X.env xe → Rz (trY Y pn xe G as (rzTry Y c i j D)) → WB (trY Y pn xe G as (rzTry Y c i j D)) body τ ω D)
    (hi : Y.X.N[i]? = some n := by rfl) (hln : Y.X.env.kindOf n = some .local := by rfl) (hj : Y.X.N[j]? = some m := by rfl) (hlm : Y.X.env.kindOf m = some .local := by rfl) (hij : j ≠ i := by decide)
    (hdn : (n == ("__debug__" : Str)) = false := by decide) (hcn : (n == ("__classdict__" : Str)) = false := by decide) :
    WS Y (.Try body [.ExceptHandler (some (.Name x np)) (some n) [.Assign [.Name m mp] (.Name n np2) sp] pos'] [] [] pos) τ ω D := .mk fun G as H σ b o l => by
  refine wS_of (ps_try_keep stk fr hex hN hi hln hj hlm hij hc hdn hcn) ?_
  intro pn xe tk own
  refine h pn xe G as b own ⟨_, tk, fun x dx G' as' H' σ' τ' ω' b' o' l' ea ⟨q1, q2⟩ => ?_⟩ G as H σ ⟨Same.refl _, List.prefix_refl _⟩ o l
  obtain ⟨fs, e1, e2⟩ := ea
  refine ⟨q1, x.C, dx, rfl, rfl, fun a na => ?_⟩
  have s1 : Same G' (upd G' a (excH a x.C dx)) := Evl.Ex.new (o'.noG na)
  refine ⟨upd G' a (excH a x.C dx), as', ω', b'.1.trans s1, b'.2, o'.newD na (fun ps z => by cases z), _, ((l'.mono s1 (List.prefix_refl _)).set j (s := .d (.exc x.C x.fs)) ?_).clear i, q2⟩
  exact .exc upd_same (s1 _ _ e1) (e2.mono s1)
/-! ### e.f of an error that is kept -/
structure ExF (K : PySem.W.Frag) (C : Addr) (f : Str) : Prop where
  ga : PySem.W.findIn K (.ref C) "__getattribute__" = some (some (.builtin "BaseException.__getattribute__"))
  gg : ∃ gt, PySem.W.findIn K (.ref C) "__getattr__" = some gt
  exC : PySem.W.subIn K (.ref C) (.type "BaseException") = some true
  hd : PySem.W.hasDictIn K C = true
  no : PySem.W.findIn K (.ref C) f = some none
/-- the object of an error that is kept, at a state -/
theorem exc_at {X : Cx} {pins : List (Addr × Obj)} {σ : L2.St} {s : Shared} {a C dx : Addr} {fs : List (Str × V)} (I : Inv X pins σ H s) (h1 : H a = some (excH a C dx)) (h2 : H dx = some (.xd fs)) :
    ∃ (o od : Obj) (mA : Str → Option Value), PySem.W.InstAt s.heap a o C (some od) ∧ (∀ f, PySem.W.lookIn f od = some (mA f)) ∧ ∀ f, RelO (fs.lookup f) (mA f) := by
  obtain ⟨⟨o, vs, e1, e2, e3, e4⟩, _, _⟩ := I.hok a _ h1
  obtain ⟨mA, hns, hr⟩ := I.hok dx _ h2
  obtain ⟨od, ho, hl⟩ := lookIn_ns hns
  exact ⟨o, od, mA, ⟨e1, e2, by unfold PySem.W.notCls; rw [e4] <;> rfl, by rw [e3]; exact ho⟩, hl, hr⟩
theorem WE_exf {f : Str} {Q : QS} (h : WE Y e τ ω fun s ω1 => ∃ C fs d, s = .d (.exc C fs) ∧ ExF Y.X.K C f ∧ fs.lookup f = some d ∧ Q (.d d) ω1) (hb : attributeBase e f Y.X.env (eval e Y.X.env) = eval e Y.X.env := by rfl) : WE Y (.Attribute e f pos) τ ω Q := .mk fun G as H σ b o l => by
  intro pins s I
  refine attr_of hb (thn ((h G as H σ b o l) pins s I) fun u s1 hh => ?_)
  obtain ⟨x, H1, I1, rx, G1, as1, ω1, g1, p1, o1, s2, r, C, fs, d, es, T, hf, q⟩ := hh
  subst es
  cases r with
  | exc h1 h2 h3 =>
    cases (show u = Value.ref _ from rx)
    obtain ⟨ox, od, mA, J, hl, hr⟩ := exc_at I1 (o1.sub _ _ h1) (o1.sub _ _ h2)
    obtain ⟨v, hv, rv⟩ := h3.lookup hf
    obtain ⟨u, hu, ru⟩ := RelO.some_of (v := v) (o := mA f) (by rw [← hv]; exact hr f)
    obtain ⟨gt, hg⟩ := T.gg
    exact HandSPX.exc_get I1.kIn J T.ga hg T.exC (PySem.W.findObj_own T.hd T.no rfl (by rw [hl, hu])) (handed_of ru) ⟨v, H1, I1.tok _, ru, G1, as1, ω1, g1, p1, o1, .d d, rv, q⟩
/-! ### isinstance -/
structure ExI (K : PySem.W.Frag) (C : Addr) : Prop where
  cl : (PySem.W.clsIn K C).isSome = true
  ga : PySem.W.findIn K (.ref C) "__getattribute__" = some (some (.builtin "BaseException.__getattribute__"))
  gg : ∃ gt, PySem.W.findIn K (.ref C) "__getattr__" = some gt
  exC : PySem.W.subIn K (.ref C) (.type "BaseException") = some true
  ha : PySem.W.findIn K (.ref C) "__class__" = some (some (.builtin "object.__class__"))
  hn : PySem.W.specialIn K (.builtin "object.__class__") "__get__" = some (some (.builtin "getset_descriptor.__get__"))
  htk : PySem.W.takesIn K (.builtin "object.__class__") = some true
  hm : PySem.W.mroIn K C (.type "object") = some true
structure InI (K : PySem.W.Frag) (C : Addr) : Prop where
  cl : Cls K C
  ha : PySem.W.findIn K (.ref C) "__class__" = some (some (.builtin "object.__class__"))
  hn : PySem.W.specialIn K (.builtin "object.__class__") "__get__" = some (some (.builtin "getset_descriptor.__get__"))
  htk : PySem.W.takesIn K (.builtin "object.__class__") = some true
  hm : PySem.W.mroIn K C (.type "object") = some true
/-- the class of a value -/
def clsD (K : PySem.W.Frag) : D → Value → Prop
  | .none, T => T = .type "NoneType" | .bool _, T => T = .type "bool" | .int _, T => T = .type "int" | .str _, T => T = .type "str"
  | .list _, T => T = .type "list" | .tup _, T => T = .type "tuple" | .dict _, T => T = .type "dict"
  | .exc C _, T => T = .ref C ∧ ExI K C
  | .ins C _, T => T = .ref C ∧ InI K C
  | _, _ => False
/-- of an owned instance, too -/
def clsS (K : PySem.W.Frag) (ω : List O) (s : S) (T : Value) : Prop := match s with
  | .d d => clsD K d T
  | .o k => match ω[k]? with
    | some (.lst _) => T = .type "list"
    | some (.dct _) => T = .type "dict"
    | some (.lok _) => T = .type "dict"
    | some (.obj C _) => T = .ref C ∧ InI K C
    | _ => False
theorem kit_s {s : S} {v : V} {T : Value} {X : Cx} {TT : List (Addr × Str)} {pins : List (Addr × Obj)} {σ : L2.St} {st : Shared} {u : Value} (o : Ok X.K TT G H as ω) (r : SRel X.K G as v s) (h : clsS X.K ω s T) (I : Inv X pins σ H st) (ru : RelV v u) :
    ∃ P : Heap → Prop, PySem.W.KitX X.K u T P ∧ P st.heap ∧ u ≠ .builtin "__main__.__loader__#opaque" := by
  cases s with
  | d x =>
    have h : clsD X.K x T := h
    have r : Dat X.K G v x := r
    cases r with
    | none => cases h; exact kit_of I ru (.base .non)
    | bool => cases h; exact kit_of I ru (.base (.bl _))
    | int => cases h; exact kit_of I ru (.base (.int _))
    | str => cases h; exact kit_of I ru (.base (.str _))
    | list h1 h2 => cases h; exact kit_of I ru (.base (.lst (o.sub _ _ h1)))
    | tup h1 h2 =>
      cases h
      rcases h1 with (h1 | ⟨ob, h1⟩) | ⟨ob, its, n, h1, h3, _⟩
      · exact kit_of I ru (.base (.tup (o.sub _ _ h1)))
      · exact kit_of I ru (.fTuple (o.sub _ _ h1))
      · exact kit_of I ru (.kTuple h1 h3)
    | dict h1 h2 => cases h; exact kit_of I ru (.fDict (o.sub _ _ h1))
    | scr => exact h.elim
    | rng => exact h.elim
    | ref => exact h.elim
    | ty => exact h.elim
    | ins h1 h2 =>
      obtain ⟨rfl, hI⟩ := h
      exact kit_of I ru (.base (.ins (o.sub _ _ h1) hI.cl hI.ha hI.hn hI.htk hI.hm))
    | exc h1 h2 h3 =>
      obtain ⟨rfl, hI⟩ := h
      cases (show u = Value.ref _ from ru)
      obtain ⟨ox, od, mA, J, _, _⟩ := exc_at I (o.sub _ _ h1) (o.sub _ _ h2)
      obtain ⟨gt, hg⟩ := hI.gg
      exact ⟨_, PySem.W.kitx_exc hI.cl hI.ga hg hI.exC hI.ha hI.hn hI.htk hI.hm, J, fun z => nomatch z⟩
  | o k =>
    obtain ⟨a, ha, rfl⟩ := r
    unfold clsS at h
    simp only at h
    split at h
    · rename_i hk; cases h; obtain ⟨vs, q, _⟩ := o.own k a _ ha hk; exact kit_of I ru (.base (.lst q))
    · rename_i hk; cases h; obtain ⟨vs, q, _⟩ := o.own k a _ ha hk; exact kit_of I ru (.base (.dK q))
    · rename_i hk; cases h; obtain ⟨ob, vs, q, _⟩ := o.own k a _ ha hk; exact kit_of I ru (.fDict q)
    · rename_i hk
      obtain ⟨rfl, hI⟩ := h
      obtain ⟨dx, vs, q, _⟩ := o.own k a _ ha hk
      exact kit_of I ru (.base (.ins q hI.cl hI.ha hI.hn hI.htk hI.hm))
    · exact h.elim
/-- what a class is written as -/
def clsV : D → Option Value
  | .ty n => some (.type n)
  | .ref C => some (.ref C)
  | _ => none
def clsVs : List D → Option (List Value)
  | [] => some []
  | d :: r => match clsV d, clsVs r with
    | some v, some vs => some (v :: vs)
    | _, _ => none
/-- isinstance's answer -/
def isiS0 (K : PySem.W.Frag) (s t : S) (ω : List O) (Q : Bool → Prop) : Prop := ∃ T, clsS K ω s T ∧ match t with
  | .d (.tup cs) => ∃ us b, clsVs cs = some us ∧ PySem.W.kitAny K T us = some b ∧ Q b
  | .d c => ∃ u b, clsV c = some u ∧ PySem.W.kitOne K T u = some b ∧ Q b
  | _ => False
structure isiS (K : PySem.W.Frag) (s t : S) (ω : List O) (Q : Bool → Prop) : Prop where
  h : isiS0 K s t ω Q
theorem clsV_ok {K : PySem.W.Frag} {v : V} {d : D} {u w : Value} (r : Dat K G v d) (h : clsV d = some u) (rw' : RelV v w) : w = u := by
  unfold clsV at h
  split at h
  · cases r; cases h; exact rw'
  · cases r; cases h; exact rw'
  · cases h
theorem clsVs_ok {K : PySem.W.Frag} : ∀ {vs : List V} {ds : List D} {us ws : List Value}, DatL K G vs ds → clsVs ds = some us → Vals vs ws → ws = us
  | _, _, us, _, .nil, h, .nil => by cases h; rfl
  | _, _, us, _, .cons r rr, h, .cons q qq => by
    unfold clsVs at h
    split at h
    · rename_i v vs h1 h2
      cases h
      rw [clsV_ok r h1 q, clsVs_ok rr h2 qq]
    · cases h
def isiB : List S → List O → (K : PySem.W.Frag) → QS → Prop := fun ss ω K Q => ∃ s t, ss = [s, t] ∧ isiS K s t ω fun b => Q (.d (.bool b)) ω
theorem WE_isi {Q : QS} (hm : Y.X.mg "isinstance" = none) (h : WE Y a τ ω fun s ω1 => WE Y b τ ω1 fun t ω2 => isiS Y.X.K s t ω2 fun k => Q (.d (.bool k)) ω2) (hg : Gl Y.X "isinstance" := by rfl)
    (he : starEach [a, b] Y.X.env = (false, eval a Y.X.env) :: starEach [b] Y.X.env := by rfl) (he2 : starEach [b] Y.X.env = (false, eval b Y.X.env) :: starEach [] Y.X.env := by rfl) (hpl : (backTo pos (starEach [b] Y.X.env)).any (·.1) = false := by rfl) :
    WE Y (.Call (.Name "isinstance" p) [a, b] [] pos) τ ω Q :=
  WE_callB hm (R := fun ss ω2 => isiB ss ω2 Y.X.K Q) (WA_cons (h.mono fun s ω1 q => WA_cons (q.mono fun t ω2 q2 => WA_nil ⟨s, t, rfl, q2⟩) he2) he) (fun {G as H ω vs ss} _ o r ⟨s, t, es, ⟨T, hs, q⟩⟩ => by
    subst es
    obtain ⟨v, w, rfl, r1, r2⟩ := r.two
    intro pins st σ us I ru
    obtain ⟨u1, u2, rfl, q1, q2⟩ := vals2 ru
    obtain ⟨P, Z, hp, hx⟩ := kit_s o r1 hs I q1
    split at q
    · rename_i cs
      obtain ⟨us, k, e1, e2, q⟩ := q
      cases r2 with
      | tup h1 h2 =>
        cases (show u2 = Value.ref _ from q2)
        obtain ⟨its, rv, ht, hz⟩ := I.tuple (sqt_mono o.sub h1)
        have e3 := clsVs_ok h2 e1 rv
        subst e3
        obtain ⟨ob, t1, t2, n, t3⟩ := ht
        obtain ⟨oc, od, dt, sl⟩ := ob
        simp only at t2 t3
        subst t2 t3
        exact PySem.W.kia_tup Z I.kIn hp t1 e2 hx fun tk => ⟨.bl k, H, I.tok tk, rfl, fin_d o (.bool k) q⟩
    · obtain ⟨u, k, e1, e2, q⟩ := q
      have e3 := clsV_ok r2 e1 q2
      subst e3
      exact PySem.W.kia_one Z I.kIn hp e2 hx fun tk => ⟨.bl k, H, I.tok tk, rfl, fin_d o (.bool k) q⟩
    · exact q.elim) (hg := hg) (he := he) (hpl := hpl)
/-! ### methods of lists -/
theorem WE_append {Q : QS} (h : WE Y a τ ω fun s ω1 => ∃ k, s = .o k ∧ (∃ xs, ω1[k]? = some (.lst xs)) ∧ WE Y e τ ω1 fun t ω2 => ∃ xs x, ω2[k]? = some (.lst xs) ∧ t = .d x ∧ xs.length < sizeLine ∧ Q (.d .none) (ω2.set k (.lst (xs ++ [x]))))
    (hbase : attributeBase a "append" Y.X.env (eval a Y.X.env) = eval a Y.X.env := by rfl)
    (hfew : ((backTo pos (starEach [e] Y.X.env)).all (fun x => !x.1) && (backToKw pos (keywordEach [] Y.X.env)).all (fun x => x.1.isSome) && decide (([e] : List Expr).length + ([] : List Keyword).length + (if ([] : List Keyword).isEmpty then 0 else 1) < 30)) = true := by rfl)
    (hline : (apos.endLine == pos.line) = true := by rfl) (hs : starEach [e] Y.X.env = (false, eval e Y.X.env) :: starEach [] Y.X.env := by rfl) (hplain : (backTo pos (starEach [] Y.X.env)).any (·.1) = false := by rfl) :
    WE Y (.Call (.Attribute a "append" apos) [e] [] pos) τ ω Q := .mk fun G as H σ b o l => by
  refine wE_of (pe_bm PySem.F.plainAttrs_list PySem.F.slot_list_append PySem.F.type_list_append mt_append pe_w pa_w hbase hfew hline hs hplain) ?_
  refine (h G as H σ b o l).mono fun x H1 ⟨G1, as1, ω1, g1, p1, o1, s, r, k, es, ⟨xs0, hk0⟩, q⟩ => ?_
  subst es
  obtain ⟨ad, ha, rfl⟩ := r
  obtain ⟨vs0, e0, _⟩ := o1.own k ad _ ha hk0
  refine ⟨.inl ⟨rfl, vs0, SqL.of e0⟩, ?_⟩
  have hA : WA Y [e] τ ω1 fun ss ω2 => ∃ xs x, ss = [.d x] ∧ ω2[k]? = some (.lst xs) ∧ xs.length < sizeLine ∧ Q (.d .none) (ω2.set k (.lst (xs ++ [x]))) := WA_cons (q.mono fun t ω2 ⟨xs, x, h1, h2, h3⟩ => WA_nil ⟨xs, x, by rw [h2], h1, h3⟩) hs
  refine (hA G1 as1 H1 σ (b.go g1 p1) o1 (l.mono g1 p1)).mono fun vs H2 ⟨G2, as2, ω2, g2, p2, o2, ss, r2, xs, x, es, hk, hz, q2⟩ => ?_
  subst es
  obtain ⟨v, rfl, r3⟩ := r2.one
  have ha2 := pre_get p2 ha
  obtain ⟨vs1, e1, f1⟩ := o2.own k ad _ ha2 hk
  refine ⟨ad, vs1, v, rfl, rfl, e1, by rw [f1.length]; exact hz, ?_⟩
  exact Go.back (g1.trans g2) (p1.trans p2) (fin_d (o2.upd ha2 hk (by intro z; cases z) (o' := .lst (xs ++ [x])) ⟨_, upd_same, f1.append (.cons r3 .nil)⟩) .none q2)
end
end Z

set_option Elab.async false
set_option linter.all false
set_option maxRecDepth 100000
set_option maxHeartbeats 1000000
/-! # O: lambdas without arguments, at most one default that is an integer -/
namespace Z
open PySem PySem.Spec PyProof.Rows L2 LamX
open PySem.W (kdv_obj kdv_fn kdv_tup kdv_makeTail kdv_makeTailHit)

/-- the parameters of such a lambda -/
inductive LamP : Arguments → List Str → Prop where
  | zero : LamP ⟨[], [], none, [], [], none, []⟩ []
  | one (a : Str) (p : Pos) (i : Int) (j : Nat) (q : Pos) : LamP ⟨[], [⟨a, none, p⟩], none, [], [], none, [.Constant (.int i) j q]⟩ [a]
structure LamN (N : List Str) (sc scope : Scope) (own : List Str) : Prop where
  kind : scope.kind = .function
  co : scope.isCoroutine = false
  gen : scope.isGenerator = false
  nc : ∀ y ∈ scope.names, y.2 ≠ .cell
  apart : ∀ y ∈ scope.names, y.2 = .local → y.1 ∉ N
  free : ∀ y ∈ scope.names, y.2 = .free → sc.names.lookup y.1 = some .cell ∨ sc.names.lookup y.1 = some .free
  has : ∀ a ∈ own, scope.names.lookup a = some .local
def lamNB (N : List Str) (sc scope : Scope) (own : List Str) : Bool :=
  decide (scope.kind = .function) && !scope.isCoroutine && !scope.isGenerator && (scope.names.all fun y => !decide (y.2 = .cell) && (!decide (y.2 = .local) || decide (y.1 ∉ N)) && (!decide (y.2 = .free) || decide (sc.names.lookup y.1 = some .cell) || decide (sc.names.lookup y.1 = some .free))) &&
    own.all fun a => decide (scope.names.lookup a = some .local)
theorem lamN_by {N : List Str} {sc scope : Scope} {own : List Str} (h : lamNB N sc scope own = true) : LamN N sc scope own := by
  unfold lamNB at h
  simp only [Bool.and_eq_true, Bool.or_eq_true, Bool.not_eq_true', decide_eq_true_eq, decide_eq_false_iff_not, List.all_eq_true] at h
  obtain ⟨⟨⟨⟨h1, h2⟩, h3⟩, h4⟩, h5⟩ := h
  refine ⟨h1, h2, h3, fun y hy => (h4 y hy).1.1, fun y hy e => ?_, fun y hy e => ?_, h5⟩
  · exact (h4 y hy).1.2.elim (fun z => absurd e z) id
  · rcases (h4 y hy).2 with (z | z) | z
    · exact absurd e z
    · exact .inl z
    · exact .inr z
/-- the default's tuple -/
def Dfl (h : Heap) (H : Hp) (fr : List Addr) (own : List Str) (dV : Value) : Prop := (own = [] ∧ dV = .none) ∨ ∃ a d i t, own = [a] ∧ dV = .ref d ∧ h.get? d = some (kdv_tup [.int i t]) ∧ H d = none ∧ d ∉ fr
section
variable {X : Cx} {pins : List (Addr × Obj)} {σ : L2.St} {H HZ : Hp} {s s1 : Shared} {T : List (Addr × Str)} {c P : Addr} {params : Arguments} {own : List Str} {body : Expr} {scope : Scope} {pos : Pos} {E : Value → Shared → Prop} {Q : Value → Shared → Prop}
theorem hasN (L : LamN X.N X.env.scope scope own) (ok : X.Ok) : ∀ y ∈ scope.names, y.2 = .free → ∃ c, X.env.cells.lookup y.1 = some c := fun y hy e => (L.free y hy e).elim (fun k => ok.has _ (.inl k)) fun k => ok.has _ (.inr k)
theorem nofr {f : Addr} (I : Inv X pins σ H s) (hf : s.heap.objs.size ≤ f) : f ∉ frs X.stack := fun z => by
  rcases List.mem_cons.mp (I.stkSub _ z) with e | e
  · have h1 := I.lt
    rw [← e] at h1
    exact Nat.lt_irrefl _ (Nat.lt_of_lt_of_le h1 hf)
  · exact I.nofs hf e
/-- what is known of a lambda that was made -/
structure Made (X : Cx) (pins : List (Addr × Obj)) (σ : L2.St) (T : List (Addr × Str)) (H : Hp) (params : Arguments) (own : List Str) (body : Expr) (scope : Scope) (f c' : Addr) (H1 : Hp) (s' : Shared) : Prop where
  inv : Inv X pins σ H1 s'
  ext : ExtN H H1
  tab : Tabs T H1
  obj : ∃ dV doc pm ctv, s'.heap.get? f = some (kdv_obj "<lambda>" (X.env.qual ++ "<lambda>") params (.expr body) scope (cloFrom X.env.cells scope.names []) dV doc pm c' ctv) ∧ Dfl s'.heap H1 (frs X.stack) own dV
  fre : H1 f = none
  nfr : f ∉ frs X.stack
  code : H1 c' = some (CodeO c' (X.env.qual ++ "<lambda>"))
theorem lam_tail {dV : Value} (I : Inv X pins σ H s) (TB : TabB X.base X.mg c P) (hcode : X.env.code = .ref c) (hm : (P, X.env.qual ++ "<lambda>") ∈ T) (hu : ∀ p ∈ T, p.1 = P → p.2 = X.env.qual ++ "<lambda>") (hT : Tabs T H) (L : LamN X.N X.env.scope scope own)
    (hd : Dfl s.heap H (frs X.stack) own dV) (h : ∀ (f c' : Addr) (H1 : Hp) (s' : Shared), Made X pins σ T H params own body scope f c' H1 s' → Q (.ref f) s') :
    wpAny (model X.prog X.w) X.A (PySem.makeTail "<lambda>" (X.env.qual ++ "<lambda>") params (.expr body) scope X.env dV .none none pos pos.line) Q E s := by
  obtain ⟨ps, hP, ht, ha⟩ := hT _ hm
  have hfree := hasN L I.ok
  have bP : s.heap.BuiltinsAt X.mg P := TB.bm.keeps I.bk
  have hP' : s.heap.get? P = some { cls := .none, data := .fields ps } := I.hok P _ hP
  -- the default's tuple stays
  have dK : ∀ {h' : Heap} {H' : Hp}, (∀ b o, b ≠ P → s.heap.get? b = some o → h'.get? b = some o) → (∀ b o, s.heap.get? b = some o → H b = none → H' b = none) → Dfl h' H' (frs X.stack) own dV := fun {h' H'} k k2 => by
    rcases hd with e | ⟨a, d, i, t, e1, e2, e3, e4, e5⟩
    · exact .inl e
    · exact .inr ⟨a, d, i, t, e1, e2, k d _ (fun z => by rw [z, hP] at e4; cases e4) e3, k2 d _ e3 e4, e5⟩
  cases hc : codeAmong pos ps.toList with
  | none =>
    refine kdv_makeTail (mg := X.mg) (c := c) (P := P) (ps := ps) (closure_ok hfree) I.ok.glob (I.mod.glob.keeps I.bk) hcode (TB.code.keeps I.bk) hP' ht hc TB.gP bP fun c' ctv doc h' tk hx hge hlt hrec htb => ?_
    obtain ⟨c2, oc, vs, t, e2, hoc, hdt, hv⟩ := hrec
    cases e2
    have hsz : s.heap.objs.size ≤ h'.objs.size := Nat.le_trans hge (Nat.le_of_lt hlt)
    have nC : H c' = none := I.hok.fresh hge
    generalize hO : kdv_obj "<lambda>" (X.env.qual ++ "<lambda>") params (.expr body) scope (cloFrom X.env.cells scope.names []) dV doc ((X.mg "__name__").getD .none) c' ctv = ob
    have I1 := inv_table (t' := tk) (more := #[rawInt pos.line, rawInt pos.col, .ref c']) (h' := h'.push ob) I hP (fun b o hb e => Heap.get?_push_of_some _ (hx b o hb e)) (Heap.get?_push_of_some _ htb) hge ⟨oc, vs, t, Heap.get?_push_of_some _ hoc, hdt, hv⟩
    have up : ∀ b, b ≠ c' → b ≠ P → upd (upd H P (.tbl (ps ++ #[rawInt pos.line, rawInt pos.col, .ref c']))) c' (CodeO c' (X.env.qual ++ "<lambda>")) b = H b := fun b h1 h2 => by rw [upd_ne h1, upd_ne h2]
    have hE : ExtN H (upd (upd H P (.tbl (ps ++ #[rawInt pos.line, rawInt pos.col, .ref c']))) c' (CodeO c' (X.env.qual ++ "<lambda>"))) := fun b o e n => by
      rw [up b (ne_of_none e nC) (fun z => n ps (Option.some.inj (e.symm.trans (by rw [z]; exact hP))))]
      exact e
    have eL : (ps ++ #[rawInt pos.line, rawInt pos.col, .ref c']).toList = ps.toList ++ [rawInt pos.line, rawInt pos.col, .ref c'] := by simp
    refine h h'.objs.size c' _ _ ⟨I1, hE, fun p hp => ?_, ⟨dV, doc, ((X.mg "__name__").getD .none), ctv, (Heap.get?_push_size _ (by rw [← hO] <;> rfl)).trans (congrArg some hO.symm), dK (fun b o hb e => Heap.get?_push_of_some _ (hx b o hb e)) fun b o e n => ?_⟩, ?_, nofr I hsz, upd_same⟩
    · by_cases hb : p.1 = P
      · rw [hu p hp hb, hb]
        refine ⟨_, by rw [upd_ne (ne_of_none hP nC), upd_same], by rw [eL]; exact PySem.TriplesOk_snoc _ _ _ _ ht, fun p' cv hcv => ?_⟩
        rw [eL] at hcv
        rcases among_app _ ht hcv with z | z
        · obtain ⟨c0, e1, e2⟩ := ha p' cv z
          exact ⟨c0, e1, hE _ _ e2 codeO_ne⟩
        · exact ⟨c', z, upd_same⟩
      · obtain ⟨ps', a1, a2, a3⟩ := hT p hp
        refine ⟨ps', by rw [up _ (ne_of_none a1 nC) hb]; exact a1, a2, fun p' cv hcv => ?_⟩
        obtain ⟨c0, e1, e2⟩ := a3 p' cv hcv
        exact ⟨c0, e1, hE _ _ e2 codeO_ne⟩
    · rw [up b (Nat.ne_of_lt (Nat.lt_of_lt_of_le (Heap.lt_size e) hge)) (fun z => by rw [z, hP] at n; cases n)]
      exact n
    · rw [up _ (Nat.ne_of_gt hlt) (Nat.ne_of_gt (Nat.lt_of_lt_of_le (Heap.lt_size hP') hsz))]
      exact I.hok.fresh hsz
  | some cv =>
    obtain ⟨c', e, hco⟩ := ha pos cv hc
    subst e
    refine kdv_makeTailHit (mg := X.mg) (c := c) (P := P) (ps := ps) (closure_ok hfree) I.ok.glob (I.mod.glob.keeps I.bk) hcode (TB.code.keeps I.bk) hP' ht hc bP fun ctv doc h' tk hx hsz => ?_
    refine h h'.objs.size c' H _ ⟨I.kept fun b o e => Heap.get?_push_of_some _ (hx b o e), ExtN.refl H, hT, ⟨dV, doc, ((X.mg "__name__").getD .none), ctv, Heap.get?_push_size _ rfl, dK (fun b o _ e => Heap.get?_push_of_some _ (hx b o e)) fun _ _ _ n => n⟩, I.hok.fresh hsz, nofr I hsz, hco⟩
theorem lam_make (I : Inv X pins σ H s) (TB : TabB X.base X.mg c P) (hcode : X.env.code = .ref c) (hm : (P, X.env.qual ++ "<lambda>") ∈ T) (hu : ∀ p ∈ T, p.1 = P → p.2 = X.env.qual ++ "<lambda>") (hT : Tabs T H) (L : LamN X.N X.env.scope scope own) (hp : LamP params own)
    (h : ∀ (f c' : Addr) (H1 : Hp) (s' : Shared), Made X pins σ T H params own body scope f c' H1 s' → Q (.ref f) s') : wpAny (model X.prog X.w) X.A (eval (.Lambda params body scope pos) X.env) Q E s := by
  cases hp with
  | zero =>
    refine PySem.W.kla_eval rfl ?_
    rw [PySem.makeFunction_eq]
    simp only [List.zip_nil_right, List.filterMap_nil, List.isEmpty_nil, if_true, pure_bind]
    exact lam_tail I TB hcode hm hu hT L (.inl ⟨rfl, rfl⟩) h
  | one a p i j q =>
    refine PySem.W.kdv_lam rfl rfl (PySem.W.kdv_all1 (wpAny_Constant_int (PySem.W.kdv_all0 ?_)))
    rw [PySem.makeFunction_eq]
    simp only [List.zip_nil_right, List.filterMap_nil, List.isEmpty_nil, List.isEmpty_cons, if_true, pure_bind, Bool.false_eq_true, if_false]
    refine wpAny_bind (wpAny_newTextTuple ?_)
    have I2 : Inv X pins σ H { s with heap := s.heap.push (kdv_tup [.int i s.toks]), toks := s.toks + 1 } := I.kept fun b o e => Heap.get?_push_of_some _ e
    exact lam_tail I2 TB hcode hm hu hT L (.inr ⟨a, _, i, s.toks, rfl, rfl, Heap.get?_push_size _ rfl, I.hok.fresh (Nat.le_refl _), nofr I (Nat.le_refl _)⟩) h
/-- the lambda's frame is laid -/
theorem la_start {A : Around} {outer : List Env} {E : XK} {f c' : Addr} {h₁ : Heap} {tk : Nat} {m : Str → Option Value} (I : Inv X pins σ H s) (L : LamN X.N X.env.scope scope own) (e0 : Env0 X.prog X.w X.K X.mg X.base A outer s1 HZ) (hd : A.handled = none)
    (un : Un (frs X.stack) [] H HZ s.heap s1.heap) (hns : h₁.Ns s1.heap.objs.size m) (kp : ∀ b o, s1.heap.get? b = some o → h₁.get? b = some o) : Inv (lamCx X A outer s1 HZ E scope f c') [] σ HZ { s1 with heap := h₁, toks := tk } := by
  have hfree := hasN L I.ok
  have cm : ∀ {y c}, (cloFrom X.env.cells scope.names []).lookup y = some c → X.env.cells.lookup y = some c := fun {y c} e => by
    rcases cloFrom_mem (PySem.mem_of_lookup e) with z | ⟨z1, z2⟩
    · cases z
    · obtain ⟨c1, hc⟩ := hfree _ z1 rfl
      have hc : X.env.cells.lookup y = some c1 := hc
      have e2 : c = c1 := by rw [z2, hc] <;> rfl
      rw [e2]; exact hc
  have look : ∀ {y}, scope.names.lookup y = some .free → ∃ c, (cloFrom X.env.cells scope.names []).lookup y = some c := fun {y} hl => mem_lookup (cloFrom_has (cells := X.env.cells) (acc := []) (PySem.mem_of_lookup hl))
  have cellK : ∀ {c : Addr} {v : Option Value}, H c = none → s.heap.IsCell c v → h₁.IsCell c v := fun {c v} n ⟨o, ho, hd⟩ => by
    obtain ⟨sl, q⟩ := un.any ho n (by simp)
    exact ⟨_, kp _ _ q, hd⟩
  have noA : ∀ b : Addr, b ∉ (lamCx X A outer s1 HZ E scope f c').ex := fun b z => absurd (show b ∈ ([] : List Addr) from z) (by simp)
  constructor
  · constructor
    · exact e0.mod
    · exact L.kind
    · rfl
    · rfl
    · exact Nat.le_refl _
    · exact fun y z c e1 e2 => I.ok.inj y z c (cm e1) (cm e2)
    · intro y hy
      rcases (show scope.names.lookup y = some .cell ∨ scope.names.lookup y = some .free from hy) with hy | hy
      · exact absurd rfl (L.nc _ (PySem.mem_of_lookup hy))
      · exact look hy
    · exact fun y c z _ => nomatch (show false = true from z)
    · exact fun _ => hd
    · exact Around.frames_deeper e0.frames
    · exact .inr ⟨rfl, rfl⟩
    · exact fun b z => absurd z (noA b)
    · exact e0.bs
    · exact e0.bsz
    · exact fun b _ _ => noA b
    · exact fun b z => absurd z (noA b)
    · exact e0.funs
    · exact e0.frf
  · rfl
  · exact e0.bare
  · exact Un.kept kp
  · refine ⟨_, hns, fun i y v e1 e2 e3 => ?_⟩
    have e1 : X.N[i]? = some y := e1
    rcases (show Vis scope y from e3) with k | k | k
    · exact absurd (List.mem_of_getElem? e1) (L.apart _ (PySem.mem_of_lookup k) rfl)
    · exact absurd rfl (L.nc _ (PySem.mem_of_lookup k))
    · obtain ⟨m0, hn, hl⟩ := I.loc
      have hfr := L.free _ (PySem.mem_of_lookup k) rfl
      obtain ⟨w', r, q⟩ := hl i y v e1 e2 (hfr.elim (fun k => .inr (.inl k)) (fun k => .inr (.inr k)))
      obtain ⟨c2, h2⟩ := look k
      refine ⟨w', r, .inr ⟨.inr k, c2, h2, ?_⟩⟩
      rcases q with ⟨k', _⟩ | ⟨_, c3, e', z⟩
      · have k' : X.env.scope.names.lookup y = some .local := k'
        rcases hfr with k2 | k2 <;> rw [show X.env.scope.names.lookup y = _ from k2] at k' <;> cases k'
      · rw [cm h2] at e'
        cases e'
        exact cellK (I.freeC y _ (cm h2)) z
  · intro y c e
    obtain ⟨w', z⟩ := I.cell y c (cm e)
    exact ⟨w', cellK (I.freeC y c (cm e)) z⟩
  · exact e0.hok.fresh (Nat.le_refl _)
  · intro y c e
    obtain ⟨v, o, ho, hd⟩ := I.cell y c (cm e)
    exact un.free c o ho (I.freeC y c (cm e)) (by simp)
  · exact fun q hq => absurd (show q ∈ ([] : List (Addr × Obj)) ++ [] from hq) (by simp)
  · exact e0.hok.kept kp
  · exact I.len
/-- how it binds -/
theorem lam_binds {dV doc pm ctv : Value} {q : Str} {cl : List (Str × Addr)} {c' : Addr} {fr : List Addr} (hp : LamP params own) (hd : Dfl s1.heap HZ fr own dV) :
    ∃ bs : List (Str × Value), (∀ y ∈ bs, y.1 ∈ own) ∧ BindsTo s1 (kdv_fn "<lambda>" q params (.expr body) scope cl dV doc pm (.ref c') ctv) ⟨[], []⟩ bs := by
  cases hp with
  | zero =>
    rcases hd with ⟨_, rfl⟩ | ⟨a, d, i, t, e, _⟩
    · exact ⟨[], fun y hy => (nomatch hy), fun M A Q E q => wpAny_of_eq rfl q⟩
    · cases e
  | one a p i j qp =>
    rcases hd with ⟨e, _⟩ | ⟨a', d, i, t, e, rfl, hg, _⟩
    · cases e
    · refine ⟨[(a, .int i t)], fun y hy => ?_, BindsTo.of_defaults (T := d) (items := #[.int i t]) rfl hg rfl rfl ?_⟩
      · have : y = (a, .int i t) := by simpa using hy
        subst this; simp
      · simp [List.lookup]
/-- the lambda runs -/
theorem la_run {f c' : Addr} {k : Nat} {A : Around} {outer : List Env} {QV : VK} {E : XK} {tb : TE} (I : Inv X pins σ H s) (L : LamN X.N X.env.scope scope own) (hp : LamP params own)
    (hob : ∃ dV doc pm ctv, s.heap.get? f = some (kdv_obj "<lambda>" (X.env.qual ++ "<lambda>") params (.expr body) scope (cloFrom X.env.cells scope.names []) dV doc pm c' ctv) ∧ Dfl s.heap H (frs X.stack) own dV) (hfn : H f = none) (hfr : f ∉ frs X.stack)
    (hr : Room (k + 1) A) (e0 : Env0 X.prog X.w X.K X.mg X.base A outer s1 HZ) (un : Un (frs X.stack) [] H HZ s.heap s1.heap) (hc : HZ c' = some (CodeO c' (X.env.qual ++ "<lambda>")))
    (hbody : Room k (A.deeper (lamEnv X scope s1.heap.objs.size f c')) → PE (lamCx X A outer s1 HZ E scope f c') body tb) (ht : tb σ HZ QV) :
    codeAny (model X.prog X.w) A (.call (.ref f) ⟨[], []⟩) (CR (L2.CX X.prog X.w) outer X.prog X.w HZ s1 QV E) s1 := by
  obtain ⟨dV, doc, pm, ctv, hf, hd⟩ := hob
  have of1 := un.keep f _ hf hfn hfr (by simp)
  have hd1 : Dfl s1.heap HZ (frs X.stack) own dV := by
    rcases hd with e | ⟨a, d, i, t, e1, e2, e3, e4, e5⟩
    · exact .inl e
    · exact .inr ⟨a, d, i, t, e1, e2, un.keep d _ e3 e4 e5 (by simp), un.free d _ e3 e4 (by simp), e5⟩
  obtain ⟨bs, hb1, hb2⟩ := lam_binds (doc := doc) (pm := pm) (ctv := ctv) (q := X.env.qual ++ "<lambda>") (cl := cloFrom X.env.cells scope.names []) (c' := c') (body := body) (scope := scope) hp hd1
  obtain ⟨⟨oc, vs, t, hoc, hdc, hvc⟩, _, _⟩ := e0.hok c' _ hc
  have lim : s1.heap.NoLimit := e0.mod.nolimit.keeps fun b o e => (e0.bs b o e).1
  refine PySem.W.kla_callFunE hr.depth of1 rfl L.co L.gen rfl ⟨c', oc, vs, t, rfl, hoc, hdc, hvc⟩ (hb2 _ _ _ _ ?_)
  refine wpAny_newFunctionEnv (fun y hy => L.nc y hy) (fun y hy => L.has _ (hb1 y hy)) (fun h₁ hns hsb => ⟨lim.fresh _ hsb, ?_⟩) L.kind
  show codeAny _ _ (.expr body (lamEnv X scope s1.heap.objs.size f c')) _ _
  have kp : ∀ b o, s1.heap.get? b = some o → h₁.get? b = some o := fun b o e => hsb.extBut b o (Nat.ne_of_lt (Heap.lt_size e)) (Heap.get?_push_of_some _ e)
  have J := la_start (E := E) (f := f) (c' := c') (tk := s1.toks + bs.length) I L e0 hr.hd un hns kp
  refine PySem.W.kla_codeExpr (wpAny_mono ((hbody (hr.deeper _)).run [] _ _ HZ QV J ht) (fun v s' hq => ?_) fun e s' hq => hq)
  obtain ⟨w', H', J', rv, q⟩ := hq
  exact ⟨w', H', J'.os, J'.bare, J'.base, J'.hok, rv, q⟩
end
end Z

set_option Elab.async false
set_option linter.all false
set_option maxRecDepth 100000
set_option maxHeartbeats 1000000
/-! # P: a lambda handed to a def, over data -/
namespace Z
open PySem PySem.Spec PyProof.Rows L2 LamX
open PySem.W (kdv_obj kdv_fn kdv_tup)

/-- what a call without arguments asks, answers, raises -/
abbrev Thk := List O → QS → (XD → List O → Prop) → Prop
/-- the def object at f, called without arguments at any later state, keeps spc -/
structure ActD (W : Wd) (k : Nat) (f : Addr) (outer : List Env) (s0 : Shared) (H0 : Hp) (G0 : Hp) (as0 : List Addr) (spc : Thk) : Prop where
  fn : ∃ c d fd sl, s0.heap.get? f = some ⟨c, d, .func fd, sl⟩
  fre : H0 f = none
  nfr : f ∉ frs outer
  run : ∀ (A : Around) (outer' : List Env) (sZ : Shared) (HZ : Hp) (Q : VK) (E : XK) (G : Hp) (as : List Addr) (ω : List O) (Q0 : QS) (E0 : XD → List O → Prop), A.guards = some [] → Room k A → Env0 W.P W.w W.K W.mg W.base A outer' sZ HZ → Un (frs outer) [] H0 HZ s0.heap sZ.heap →
    Same G0 G → as0 <+: as → Ok W.K W.T G HZ as ω → spc ω Q0 E0 →
    (∀ s ω', Q0 s ω' → ∀ G' H' as' v, Same G G' → as <+: as' → Ok W.K W.T G' H' as' ω' → SRel W.K G' as' v s → Q v H') →
    (∀ x ω', E0 x ω' → ∀ G' H' as' dx, Same G G' → as <+: as' → Ok W.K W.T G' H' as' ω' → ExcAt W.K G' dx x → E (.ref x.C) (some dx) H') →
    codeAny (model W.P W.w) A (.call (.ref f) ⟨[], []⟩) (CR (L2.CX W.P W.w) outer' W.P W.w HZ sZ Q E) sZ
section
variable {W : Wd} {Y : Cy} {τ : Tau} {ω : List O}
/-- x(), x a lambda that came in -/
theorem WE_ask (i : Nat) {k j : Nat} {f : Addr} {spc : Thk} {a : Str} {p1 p2 : Pos} {Q : QS} {G0 : Hp} {as0 : List Addr} (Act : ActD W j f Y.X.outer Y.X.s_0 Y.X.H_0 G0 as0 spc) (c : Cal W k Y) (hj : j ≤ k) (hex : Y.X.ex = []) (hG : ∀ G as, Base Y G as → Same G0 G ∧ as0 <+: as)
    (h : spc ω Q fun x ω2 => Y.rz x τ ω2) (hi : τ[i]? = some (some (.d (.ref f))) := by rfl) (hN : Y.X.N[i]? = some a := by rfl) (hv : Vis Y.X.env.scope a := by first | exact Or.inl rfl | exact Or.inr (Or.inl rfl) | exact Or.inr (Or.inr rfl))
    (hd : (a == ("__debug__" : Str)) = false := by decide) (hcd : (a == ("__classdict__" : Str)) = false := by decide) : WE Y (.Call (.Name a p1) [] [] p2) τ ω Q := .mk fun G as H σ b o l => by
  obtain ⟨Wx, tk, link⟩ := c.rz
  have In := c.inn
  obtain ⟨v, h1, h2⟩ := l.at_ i _ hi
  cases h2
  intro pins s I
  refine wpAny_Call_Name_kw (thn ((pe_var (pos := p1) (i := i) hN hv hd hcd).run pins s σ H (fun v H1 => v = .ref f ∧ H1 = H) I ⟨.ref f, h1, rfl, rfl⟩) fun u s1 ⟨v, H1, I1, r1, ev, eH⟩ => ?_)
  subst ev
  subst eH
  obtain rfl : u = Value.ref f := r1
  have un : Un (frs Y.X.outer) [] Y.X.H_0 H1 Y.X.s_0.heap s1.heap := by have := I1.base; rw [hex] at this; exact this
  obtain ⟨fc, fdd, fd, fsl, hf⟩ := Act.fn
  refine PySem.W.callWith_F0 ⟨_, _, _, _, un.keep f _ hf Act.fre Act.nfr (by simp)⟩ ?_
  obtain ⟨g1, p1'⟩ := hG G as b
  have e0 : Env0 W.P W.w W.K W.mg W.base Y.X.A Y.X.stack s1 H1 := by
    have := I1.env0
    rw [In.P, In.w, In.K, In.mg, In.base] at this
    exact this
  have o' : Ok W.K W.T G H1 as ω := by
    have := o
    rw [In.K, In.T] at this
    exact this
  have rc := Act.run Y.X.A Y.X.stack s1 H1 (Fin1 Y G as Q) (L2.WE Wx σ) G as ω Q (fun x ω2 => Y.rz x τ ω2) c.gds (c.room.mono hj) e0 un g1 p1' o' h
    (fun s ω' q G' H' as' v g p o r => ⟨G', as', ω', g, p, by rw [In.K, In.T]; exact o, s, by rw [In.K]; exact r, q⟩)
    (fun x ω' q G' H' as' dx g p o e => link x dx G' as' H' σ τ ω' (b.go g p) (by rw [In.K, In.T]; exact o) (l.mono g p) (by rw [In.K]; exact e) q)
  rw [← In.P, ← In.w] at rc
  refine wpAny_call (codeAny_mono rc fun r s' hq => ?_)
  cases r with
  | error e => exact (passAt tk σ) pins H1 s1 e s' I1 hq
  | ok fl =>
    cases fl with
    | ret u => exact I1.after hq
    | next => exact False.elim hq
    | brk => exact False.elim hq
    | cont => exact False.elim hq
end
/-- a def whose first argument is a lambda -/
def FnL (W : Wd) (kl k : Nat) (g : Addr) (fd : FuncData) (ps : List Str) (sp : Thk → Spc) : Prop :=
  ∀ (A : Around) (outer : List Env) (s : Shared) (H : Hp) (args : Args) (f : Addr) (us : List Value) (vs : List V) (Q : VK) (E : XK) (G : Hp) (as : List Addr) (ss : List S) (ω : List O) (Q0 : QS) (E0 : XD → List O → Prop) (spc : Thk),
    A.guards = some [] → Room k A → Env0 W.P W.w W.K W.mg W.base A outer s H → BindsTo s fd args (ps.zip (.ref f :: us)) → Vals vs us → Ok W.K W.T G H as ω → SRelL W.K G as vs ss → ss.length + 1 = ps.length → ActD W kl f outer s H G as spc → sp spc ss ω Q0 E0 →
    (∀ s ω', Q0 s ω' → ∀ G' H' as' v, Same G G' → as <+: as' → Ok W.K W.T G' H' as' ω' → SRel W.K G' as' v s → Q v H') →
    (∀ x ω', E0 x ω' → ∀ G' H' as' dx, Same G G' → as <+: as' → Ok W.K W.T G' H' as' ω' → ExcAt W.K G' dx x → E (.ref x.C) (some dx) H') →
    codeAny (model W.P W.w) A (.call (.ref g) args) (CR (L2.CX W.P W.w) outer W.P W.w H s Q E) s
/-- what its body is to show -/
def BodyL (W : Wd) (N ps : List Str) (qual : Str) (sc : Scope) (cdv : Value) (body : List Stmt) (kl k : Nat) (sp : Thk → Spc) : Prop :=
  ∀ (f : Addr) (A : Around) (outer : List Env) (s : Shared) (H : Hp) (E : XK) (G : Hp) (as : List Addr) (rz : XD → Tau → List O → Prop) (fl : Addr) (ss : List S) (ω : List O) (Q0 : QS) (E0 : XD → List O → Prop) (spc : Thk),
    Bd W N qual sc cdv k ω E0 (bdY W N qual sc f cdv A outer s H E G as rz) → ss.length + 1 = ps.length → ActD W kl fl outer s H G as spc → sp spc ss ω Q0 E0 →
    WB (bdY W N qual sc f cdv A outer s H E G as rz) body ((S.d (.ref fl) :: ss).map some ++ List.replicate (N.length - ps.length) none) ω { nx := fun _ ω' => Rt ω.length Q0 (.d .none) ω', rt := Rt ω.length Q0 }
theorem fnL_ok {W : Wd} {x qual : Str} {params : Arguments} {body : List Stmt} {scope : Scope} {dvs : List V} {kws : List (Str × V)} {f : Addr} {fd : FuncData} {N ps : List Str} {kl k : Nat} {sp : Thk → Spc} (F : FunD W.K x qual params body scope dvs kws f fd) (FS : FnScope N ps scope)
    (hbody : ∀ cdv, fd.code = cdv → BodyL W N ps qual scope cdv body kl k sp) : FnL W kl (k + 1) f fd ps sp := by
  obtain ⟨oc, od, dV, kV, doc, pm, an, cdv, ct, osl, rfl, lk, hcd, _, _⟩ := F.ex
  intro A outer s H args fl us vs Q E G as ss ω Q0 E0 spc hgd hr0 he hbd hvals o r l act q hQ hE
  exact run_body (ss := .d (.ref fl) :: ss) lk hcd FS hgd hr0 he hbd (.cons (show L2.RelV (.ref fl) (.ref fl) from rfl) hvals) o (.cons (.ref fl) r) (by simpa using l) hQ hE fun rz B => hbody cdv rfl f A outer s H E G as rz fl ss ω Q0 E0 spc B l act q
/-- the context of a lambda's body: the maker's slots -/
def lamY (Y : Cy) (scope : Scope) (f c' : Addr) (A : Around) (outer : List Env) (s : Shared) (H : Hp) (E : XK) (G : Hp) (as : List Addr) (rz : XD → Tau → List O → Prop) : Cy :=
  ⟨lamCx Y.X A outer s H E scope f c', Y.T, G, as, rz⟩
structure Bl (W : Wd) (k : Nat) (ω0 : List O) (E : XD → List O → Prop) (Y : Cy) : Prop where
  cal : Cal W k Y
  rzE : Y.rz = fun x _ ω => ∃ ω1, ω1 <+: ω ∧ ω0.length ≤ ω1.length ∧ Below ω1.length ω1 ∧ E x ω1
  bel : Below ω0.length ω0
/-- what the lambda's body is to show -/
def LamB (W : Wd) (Y : Cy) (scope : Scope) (body : Expr) (k : Nat) (τ : Tau) : Thk := fun ω Q0 E0 => ∀ f c' A outer s H E G as rz, Bl W k ω E0 (lamY Y scope f c' A outer s H E G as rz) → WE (lamY Y scope f c' A outer s H E G as rz) body τ ω (Rt ω.length Q0)
/-- a def as it is called, its first argument a lambda -/
structure DefL (W : Wd) (x : Str) (kl k : Nat) (ps : List Str) (sp : Thk → Spc) : Prop where
  ex : ∃ f fd, FnL W kl k f fd ps sp ∧ W.mg x = some (.ref f) ∧ PySem.W.keepIn W.K (.ref f) = true ∧ Binds W.K fd ps []
/-- the tables of code objects, for lambdas made in a def whose code is cd -/
structure Lams (W : Wd) (Y : Cy) : Prop where
  ex : ∃ c P, TabB W.base W.mg c P ∧ Y.X.env.code = .ref c ∧ (P, Y.X.env.qual ++ "<lambda>") ∈ W.T ∧ ∀ p ∈ W.T, p.1 = P → p.2 = Y.X.env.qual ++ "<lambda>"
section
variable {W : Wd} {Y : Cy} {τ : Tau} {ω : List O}
theorem pin_new {X : Cx} {pins : List (Addr × Obj)} {σ : L2.St} {H : Hp} {s : Shared} (I : Inv X pins σ H s) {f : Addr} {o : Obj} (e : s.heap.get? f = some o) (n : H f = none) (nl : f ≠ X.env.locals) (nf : f ∉ X.fs) (d : ∀ v, o.data ≠ .cell v) : Inv X ((f, o) :: pins) σ H s :=
  I.pins_of fun p hp => by
    rcases List.mem_cons.mp hp with z | z
    · rw [z]; exact ⟨e, n, nl, nf, d⟩
    · exact I.pin p (List.mem_append_right _ z)
theorem not_tbl {c : Addr} {q : Str} : ∀ ps, CodeO c q ≠ .tbl ps := fun ps => codeO_ne ps
/-- the lambda is a thing to call -/
theorem act_of {own : List Str} {params : Arguments} {body : Expr} {scope : Scope} {k kl : Nat} {f c' : Addr} {pins : List (Addr × Obj)} {σ : L2.St} {H : Hp} {s : Shared} {G : Hp} {as : List Addr} (c : Cal W k Y) (I : Inv Y.X pins σ H s) (L : LamN Y.X.N Y.X.env.scope scope own) (hp : LamP params own)
    (hob : ∃ dV doc pm ctv, s.heap.get? f = some (kdv_obj "<lambda>" (Y.X.env.qual ++ "<lambda>") params (.expr body) scope (cloFrom Y.X.env.cells scope.names []) dV doc pm c' ctv) ∧ Dfl s.heap H (frs Y.X.stack) own dV) (hfn : H f = none) (hfr : f ∉ frs Y.X.stack)
    (hG : G c' = some (CodeO c' (Y.X.env.qual ++ "<lambda>"))) (l : SlR Y.X.K G as σ τ) : ActD W (kl + 1) f Y.X.stack s H G as (LamB W Y scope body kl τ) := by
  have In := c.inn
  refine ⟨?_, hfn, hfr, fun A outer' sZ HZ Q E G' as' ω' Q0 E0 hg hr e0 un g p o q hQ hE => ?_⟩
  · obtain ⟨dV, doc, pm, ctv, hf, _⟩ := hob
    exact ⟨_, _, _, _, hf⟩
  have e1 : Env0 Y.X.prog Y.X.w Y.X.K Y.X.mg Y.X.base A outer' sZ HZ := by
    rw [In.P, In.w, In.K, In.mg, In.base]; exact e0
  rw [← In.P, ← In.w]
  have lG : SlR Y.X.K G' as' σ τ := l.mono g p
  have oY : Ok Y.X.K Y.T G' HZ as' ω' := by rw [In.K, In.T]; exact o
  refine la_run (c' := c') I L hp hob hfn hfr hr e1 un (o.sub _ _ (g _ _ hG)) (fun hr2 => pe_w) ?_
  have tk : Takes (lamCx Y.X A outer' sZ HZ E scope f c') (fun cls d _ H => E cls d H) := takes_of rfl rfl rfl rfl
  have B : Bl W kl ω' E0 (lamY Y scope f c' A outer' sZ HZ E G' as' (fun x _ ω2 => ∃ ω1, ω1 <+: ω2 ∧ ω'.length ≤ ω1.length ∧ Below ω1.length ω1 ∧ E0 x ω1)) := by
    refine ⟨⟨⟨In.P, In.w, In.K, In.mg, In.base, In.T⟩, hr.deeper _, hg, ⟨_, tk, fun x dx G2 as2 H2 σ2 τ2 ω2 b o' l' e ⟨ω1, pre, hl, q2, q1⟩ => ?_⟩⟩, rfl, o.bel⟩
    have e3 := pre_take pre
    have o2 : Ok W.K W.T G2 H2 as2 ω2 := by have o' : Ok Y.X.K Y.T G2 H2 as2 ω2 := o'; rw [In.K, In.T] at o'; exact o'
    have e2 : ExcAt W.K G2 dx x := by have e : ExcAt Y.X.K G2 dx x := e; rw [In.K] at e; exact e
    refine hE _ _ q1 G2 H2 (as2.take ω1.length) dx b.1 ?_ (by have := o2.cut (n := ω1.length) pre.length_le (by rw [e3]; exact q2); rw [e3] at this; exact this) e2
    exact List.prefix_take_iff.mpr ⟨b.2, by show as'.length ≤ _; rw [o.len]; exact hl⟩
  refine (q f c' A outer' sZ HZ E G' as' _ B G' as' HZ σ ⟨Same.refl _, List.prefix_refl _⟩ oY lG).mono fun v H2 ⟨G2, as2, ω2, g2, p2, o2, t, r, ⟨ω1, pre, hl, hin, hb, q1⟩⟩ => ?_
  have o2 : Ok W.K W.T G2 H2 as2 ω2 := by have o' : Ok Y.X.K Y.T G2 H2 as2 ω2 := o2; rw [In.K, In.T] at o'; exact o'
  have e3 := pre_take pre
  refine hQ _ _ q1 G2 H2 (as2.take ω1.length) v g2 (List.prefix_take_iff.mpr ⟨p2, by rw [o.len]; exact hl⟩) (by have := o2.cut (n := ω1.length) pre.length_le (by rw [e3]; exact hb); rw [e3] at this; exact this) ?_
  cases t with
  | d x => have r : Dat Y.X.K G2 v x := r; rw [In.K] at r; exact r
  | o j =>
    obtain ⟨a, h1, h2⟩ := r
    exact ⟨a, by rw [List.getElem?_take_of_lt hin]; exact h1, h2⟩
/-- x(lambda: body, e, ..) -/
theorem WE_lam {own : List Str} {params : Arguments} {body : Expr} {scope : Scope} {lpos p pos : Pos} {es : List Expr} {x : Str} {kl j k : Nat} {ps : List Str} {sp : Thk → Spc} {Q : QS} (Df : DefL W x (kl + 1) j ps sp) (c : Cal W k Y) (hj : j ≤ k) (LS : Lams W Y) (hp : LamP params own) (L : LamN Y.X.N Y.X.env.scope scope own)
    (h : WA Y es τ ω fun ss ω1 => ss.length + 1 = ps.length ∧ sp (LamB W Y scope body kl τ) ss ω1 Q fun x ω2 => Y.rz x τ ω2) (hg : Gl Y.X x := by rfl) (hdb : (x == ("__debug__" : Str)) = false := by decide)
    (he : starEach (.Lambda params body scope lpos :: es) Y.X.env = (false, eval (.Lambda params body scope lpos) Y.X.env) :: starEach es Y.X.env := by rfl) (hpl : (backTo pos (starEach es Y.X.env)).any (·.1) = false := by rfl) :
    WE Y (.Call (.Name x p) (.Lambda params body scope lpos :: es) [] pos) τ ω Q := .mk fun G as H σ b o l => by
  obtain ⟨g, fd, F, hm, hk, hb⟩ := Df.ex
  obtain ⟨Wx, tk, link⟩ := c.rz
  obtain ⟨cc, P, TB, hcode, hmT, hu⟩ := LS.ex
  have In := c.inn
  intro pins s I
  refine wpAny_Call_Name_kw (ld_glob I hg (by rw [In.mg]; exact hm) ?_ hdb)
  refine PySem.W.callWith_K (h₀ := Y.X.base) I.ok.mod.kin (by rw [In.K]; exact hk) ?_ he hpl
  rw [he]
  show wpAny _ _ (spliced ((false, eval (.Lambda params body scope lpos) Y.X.env) :: backTo pos (starEach es Y.X.env))) _ _ s
  refine Calls.spliced_cons (lam_make I (by rw [In.base, In.mg]; exact TB) hcode (T := Y.T) (by rw [In.T]; exact hmT) (by rw [In.T]; exact hu) o.tab L hp fun f c' H1 s' M => ?_)
  obtain ⟨dV, doc, pm, ctv, hf, hd⟩ := M.obj
  -- the code object joins the ground
  obtain ⟨G1, o1, s1, hG1⟩ : ∃ G1, Ok Y.X.K Y.T G1 H1 as ω ∧ Same G G1 ∧ G1 c' = some (CodeO c' (Y.X.env.qual ++ "<lambda>")) := by
    have o1 := o.heap (H' := H1) (fun a u e n => M.ext a u e n) M.tab
    cases q : G c' with
    | some u =>
      have e := o1.sub _ _ q
      rw [M.code] at e
      cases e
      exact ⟨G, o1, Same.refl _, q⟩
    | none =>
      refine ⟨_, o1.take q M.code not_tbl fun k u e1 e2 => ?_, Evl.Ex.new q, upd_same⟩
      cases u with
      | gone => rfl
      | lst ds => obtain ⟨vs, q1, _⟩ := o1.own k c' _ e1 e2; rw [M.code] at q1; unfold CodeO at q1; cases q1
      | dct ds => obtain ⟨vs, q1, _⟩ := o1.own k c' _ e1 e2; rw [M.code] at q1; unfold CodeO at q1; cases q1
      | lok ds => obtain ⟨_, vs, q1, _⟩ := o1.own k c' _ e1 e2; rw [M.code] at q1; unfold CodeO at q1; cases q1
      | obj C ds => obtain ⟨_, vs, q1, _⟩ := o1.own k c' _ e1 e2; rw [M.code] at q1; unfold CodeO at q1; cases q1
  have l1 := l.mono s1 (List.prefix_refl as)
  have nfs : ∀ {a : Addr}, a ∉ frs Y.X.stack → ∀ {u : Obj}, s'.heap.get? a = some u → (∀ es ep, u.data ≠ .dict es ep) → a ≠ Y.X.env.locals ∧ a ∉ Y.X.fs := fun {a} na {u} e nd => by
    refine ⟨fun z => ?_, fun z => na ?_⟩
    · obtain ⟨m, ⟨ob, es1, ep1, h1, h2, _⟩, _⟩ := M.inv.loc
      rw [← z, e] at h1; cases h1
      exact nd _ _ h2
    · rcases I.ok.stk with q | ⟨q, hf⟩
      · rw [q]; exact z
      · rw [q]
        obtain ⟨e2, h1, h2⟩ := List.mem_filterMap.mp z
        exact List.mem_filterMap.mpr ⟨e2, List.mem_cons_of_mem _ h1, h2⟩
  obtain ⟨nfL, nfF⟩ := nfs M.nfr hf (fun es ep z => by cases z)
  have J1 := pin_new M.inv hf M.fre nfL nfF (fun v z => by cases z)
  -- the default's tuple is pinned, too
  obtain ⟨pins2, J2, back⟩ : ∃ pins2, Inv Y.X pins2 σ H1 s' ∧ ∀ {H2 : Hp} {s2 : Shared}, Inv Y.X pins2 σ H2 s2 → Inv Y.X pins σ H2 s2 ∧ (s2.heap.get? f = some (kdv_obj "<lambda>" (Y.X.env.qual ++ "<lambda>") params (.expr body) scope (cloFrom Y.X.env.cells scope.names []) dV doc pm c' ctv) ∧ H2 f = none) ∧ Dfl s2.heap H2 (frs Y.X.stack) own dV := by
    rcases hd with e | ⟨a, d, i, t, e1, e2, e3, e4, e5⟩
    · refine ⟨_, J1, fun {H2 s2} J => ⟨J.pins_of fun p hp => J.pin p (List.mem_append_right _ (List.mem_cons_of_mem _ hp)), ?_, .inl e⟩⟩
      have q := J.pin _ (List.mem_append_right _ List.mem_cons_self)
      exact ⟨q.1, q.2.1⟩
    · obtain ⟨ndL, ndF⟩ := nfs e5 e3 (fun es ep z => by cases z)
      refine ⟨_, pin_new J1 e3 e4 ndL ndF (fun v z => by cases z), fun {H2 s2} J => ⟨J.pins_of fun p hp => J.pin p (List.mem_append_right _ (List.mem_cons_of_mem _ (List.mem_cons_of_mem _ hp))), ?_, .inr ⟨a, d, i, t, e1, e2, ?_⟩⟩⟩
      · have q := J.pin _ (List.mem_append_right _ (List.mem_cons_of_mem _ List.mem_cons_self))
        exact ⟨q.1, q.2.1⟩
      · have q := J.pin _ (List.mem_append_right _ List.mem_cons_self)
        exact ⟨q.1, q.2.1, e5⟩
  refine thn ((h G1 as H1 σ (b.go s1 (List.prefix_refl _)) o1 l1) pos pins2 s' J2) fun us s2 ⟨vs, H2, I2, r2, G2, as2, ω2, g2, p2, o2, ss, rs, hl, q⟩ => ?_
  obtain ⟨I3, ⟨hf3, hn3⟩, hd3⟩ := back I2
  refine ⟨I3.kIn, ?_⟩
  have b2 : Base Y G2 as2 := (b.go s1 (List.prefix_refl _)).go g2 p2
  have act := act_of (kl := kl) (c' := c') c I3 L hp ⟨dV, doc, pm, ctv, hf3, hd3⟩ hn3 M.nfr (g2 _ _ hG1) (l1.mono g2 p2)
  have e0 : Env0 W.P W.w W.K W.mg W.base Y.X.A Y.X.stack s2 H2 := by
    have := I3.env0
    rw [In.P, In.w, In.K, In.mg, In.base] at this
    exact this
  have o2' : Ok W.K W.T G2 H2 as2 ω2 := by have := o2; rw [In.K, In.T] at this; exact this
  have rs' : SRelL W.K G2 as2 vs ss := by have := rs; rw [In.K] at this; exact this
  have hlen : (Value.ref f :: us).length = ps.length := by
    rw [← hl, List.length_cons, ← r2.length, rs.length]
  have bd : BindsTo s2 fd ⟨.ref f :: us, []⟩ (ps.zip (.ref f :: us)) := by
    have := hb s2 (.ref f :: us) (by have := I3.kIn; rw [In.K] at this; exact this) (by simpa using hlen)
    simpa using this
  have rc := F Y.X.A Y.X.stack s2 H2 ⟨.ref f :: us, []⟩ f us vs (Fin1 Y G as Q) (L2.WE Wx σ) G2 as2 ss ω2 Q (fun x ω3 => Y.rz x τ ω3) (LamB W Y scope body kl τ) c.gds (c.room.mono hj) e0 bd r2 o2' rs' hl act q
    (fun s ω' q G' H' as' v g p o r => ⟨G', as', ω', (s1.trans g2).trans g, p2.trans p, by rw [In.K, In.T]; exact o, s, by rw [In.K]; exact r, q⟩)
    (fun x ω' q G' H' as' dx g p o e => link x dx G' as' H' σ τ ω' (b2.go g p) (by rw [In.K, In.T]; exact o) (((l1.mono g2 p2)).mono g p) (by rw [In.K]; exact e) q)
  rw [← In.P, ← In.w] at rc
  refine wpAny_call (codeAny_mono rc fun r s3 hq => ?_)
  cases r with
  | error e => exact (passAt tk σ) pins H2 s2 e s3 I3 hq
  | ok fl =>
    cases fl with
    | ret u => exact I3.after hq
    | next => exact False.elim hq
    | brk => exact False.elim hq
    | cont => exact False.elim hq
end
end Z

set_option Elab.async false
set_option linter.all false
set_option maxRecDepth 100000
set_option maxHeartbeats 2000000
/-! # Q: the end of a law; calls with keywords -/
namespace Z
open PySem PySem.Spec PyProof.Rows L2 LamX

section
variable {P : Program} {w : World} {K : PySem.W.Frag} {mg mb : Str → Option Value} {k : Nat} {fa a : Addr} {cs : List (Addr × Addr)} {fd : FuncData} {x : Str} {sp : Sp} {s : Shared} {vs : List Value} {ns : List Int}
/-- what is tracked at the entry: the tables of code objects, the script (unless it stands in the written part) -/
def H0 (K : PySem.W.Frag) (cs : List (Addr × Addr)) (a : Addr) (ob : Obj) (ns : List Int) : Hp := fun b =>
  if b ∈ cs.map (·.2) then some (.tbl #[]) else if b = a ∧ K.lookup a = none then some (.frz ob (.lst (ns.map V.int))) else none
theorem H0_cases {ob : Obj} {b : Addr} {u : HO} (h : H0 K cs a ob ns b = some u) : (b ∈ cs.map (·.2) ∧ u = .tbl #[]) ∨ (b = a ∧ K.lookup a = none ∧ u = .frz ob (.lst (ns.map V.int))) := by
  unfold H0 at h
  split at h
  · rename_i hb; exact .inl ⟨hb, (Option.some.inj h).symm⟩
  · split at h
    · rename_i hb; exact .inr ⟨hb.1, hb.2, (Option.some.inj h).symm⟩
    · cases h
theorem end_call (KX : K.In s.heap) (hns : s.heap.Ns mainGlobals mg) (hb : s.heap.Ns builtinsNs mb) (hbb : ∀ x : Str, x ≠ "__name__" → mb x = bootBuiltins x) (lim : s.heap.NoLimit) (hg : s.gens = #[])
    (hT : ∀ p ∈ cs, s.heap.get? p.2 = some { cls := .none, data := .fields #[] }) (nT : ∀ p ∈ cs, K.lookup p.2 = none) (C : ∀ p ∈ cs, PySem.W.CodeHd s.heap p.1 p.2)
    (hbm : ∃ (bm : Addr) (ob : Obj), mg "__builtins__" = some (.ref bm) ∧ bm ≠ builtinsNs ∧ s.heap.get? bm = some ob ∧ ob.cls = .type "module" ∧ ob.dict = some builtinsNs ∧ ob.data = .plain)
    (ha : s.heap.get? a = some { cls := .type "list", data := .seq vs.toArray }) (hi : IntsAre vs ns) (hl : ns.length ≤ sizeLine) (hr : Room k callerA)
    (F : ∀ base : Heap, K.In base → base.Ns mainGlobals mg → (∀ p ∈ cs, TabB base mg p.1 p.2) → FnG P w K mg base k fa fd [x] sp) (hbind : ∀ (s : Shared) (u : Value), BindsTo s fd ⟨[u], []⟩ [(x, u)])
    (hsp : ∀ H : Hp, (∀ p ∈ cs, H p.2 = some (.tbl #[])) → SqL K H a (ns.map V.int) → sp [.ref a] H (fun v _ => v = .bl true) fun _ _ _ => False) :
    codeAny (model P w) callerA (.call (.ref fa) ⟨[.ref a], []⟩) (fun r s' => r = .ok (.ret (.bool true)) ∧ OldK s.heap s'.heap ∧ s'.os = s.os ∧ AllBare s'.gens) s := by
  have rv := vals_ints hi
  have lenV := hi.length
  generalize hO : ({ cls := .type "list", data := .seq vs.toArray } : Obj) = ob at ha
  have obd : ob.data = .seq vs.toArray := by rw [← hO]
  generalize hH : H0 K cs a ob ns = H
  have cas : ∀ {b u}, H b = some u → (b ∈ cs.map (·.2) ∧ u = .tbl #[]) ∨ (b = a ∧ K.lookup a = none ∧ u = .frz ob (.lst (ns.map V.int))) := fun {b u} e => H0_cases (hH ▸ e)
  have tabAt : ∀ {b}, b ∈ cs.map (·.2) → s.heap.get? b = some { cls := .none, data := .fields #[] } := fun {b} z => by
    obtain ⟨p, hp, rfl⟩ := List.mem_map.mp z
    exact hT p hp
  have tabN : ∀ {b}, b ∈ cs.map (·.2) → K.lookup b = none := fun {b} z => by
    obtain ⟨p, hp, rfl⟩ := List.mem_map.mp z
    exact nT p hp
  have HT : ∀ p ∈ cs, H p.2 = some (.tbl #[]) := fun p hp => by rw [← hH]; exact if_pos (List.mem_map.mpr ⟨p, hp, rfl⟩)
  have naT : a ∉ cs.map (·.2) := fun z => by
    have q := tabAt z
    rw [ha] at q
    cases (congrArg Obj.data (Option.some.inj q)).symm.trans obd
  -- an object of another kind is not tracked
  have other : ∀ {b o}, s.heap.get? b = some o → (∀ l n, o.data ≠ .seq l n) → o.data ≠ .fields #[] → H b = none := fun {b o} e n1 n2 => by
    cases q : H b with
    | none => rfl
    | some u =>
      rcases cas q with ⟨z, _⟩ | ⟨z, _⟩
      · rw [tabAt z] at e; cases e; exact (n2 rfl).elim
      · rw [z, ha] at e; cases e; exact (n1 _ _ obd).elim
  have inB : ∀ {b o}, s.heap.get? b = some o → H b = none → (hidT s.heap H).get? b = some o := fun e n => hidT_get e n
  have nsB : ∀ {b m}, s.heap.Ns b m → (hidT s.heap H).Ns b m := fun {b m} ⟨o, es, ep, e, d, r⟩ => ⟨o, es, ep, inB e (other e (fun l n z => by rw [d] at z; cases z) (fun z => by rw [d] at z; cases z)), d, r⟩
  have KB : K.In (hidT s.heap H) := fun b o e => inB (KX b o e) (by
    cases q : H b with
    | none => rfl
    | some u =>
      rcases cas q with ⟨z, _⟩ | ⟨z, z2, _⟩
      · rw [tabN z] at e; cases e
      · rw [z, z2] at e; cases e)
  have md : L2.Mod K mg (hidT s.heap H) := ⟨KB, nsB hns, ⟨mb, nsB hb, hbb⟩, let ⟨mc, h1, h2⟩ := lim; ⟨mc, nsB h1, h2⟩⟩
  have hok : HOk P w H s.heap := fun b u e => by
    rcases cas e with ⟨z, rfl⟩ | ⟨z, _, rfl⟩
    · exact tabAt z
    · subst z
      exact ⟨ha, by rw [List.length_map]; exact hl, vs, _, rv, ha.trans (congrArg some hO.symm)⟩
  have seq : SqL K H a (ns.map V.int) := by
    cases q : K.lookup a with
    | some o =>
      have e := KX a o q
      rw [ha] at e; cases e
      refine .inr ⟨ob, vs.toArray, _, q, by rw [← hO], by rw [← hO], obd, by rw [List.size_toArray, lenV]; exact hl, by simpa using rv⟩
    | none => exact .inl (.inr ⟨ob, by rw [← hH]; exact (if_neg naT).trans (if_pos ⟨rfl, q⟩)⟩)
  have TB : ∀ p ∈ cs, TabB (hidT s.heap H) mg p.1 p.2 := fun p hp => by
    have tp := hT p hp
    constructor
    · obtain ⟨o, us, file, tf, flags, tg, inF, text, tt, e1, r1, r2, r3, rest⟩ := C p hp
      exact ⟨o, us, file, tf, flags, tg, inF, text, tt, inB e1 (other e1 (fun l n z => by rw [r2] at z; cases z) (fun z => by rw [r2] at z; cases z; simp at r3)), r1, r2, r3, rest⟩
    · obtain ⟨bm, bo, b1, b2, b3, b4, b5, b6⟩ := hbm
      have dict : ∀ {m}, s.heap.Ns bm m → False := fun {m} ⟨o, es, ep, e, d, _⟩ => by rw [b3] at e; cases e; rw [d] at b6; cases b6
      refine ⟨bm, bo, b1, b2, fun z => dict (m := mg) (by rw [z]; exact hns), fun z => ?_, inB b3 (other b3 (fun l n z => by rw [b6] at z; cases z) (fun z => by rw [b6] at z; cases z)), b4, b5, b6⟩
      rw [z, tp] at b3; cases b3; cases b6
    · intro z
      obtain ⟨o, es, ep, e, d, _⟩ := hns
      rw [z, tp] at e; cases e; cases d
  have e0 : Env0 P w K mg (hidT s.heap H) callerA [] s H := ⟨rfl, md, fun b o e => of_hidT e, Nat.le_of_eq (hidT_size _ _), trivial, fun b hb => (List.not_mem_nil (show b ∈ ([] : List Addr) from hb)).elim, hok, .of_eq hg⟩
  refine codeAny_mono ((F _ KB (nsB hns) TB).run callerA [] s H ⟨[.ref a], []⟩ [.ref a] [.ref a] _ _ rfl hr e0 (hbind s (.ref a)) (.cons rfl .nil) (hsp H HT seq)) fun r s' h => ?_
  cases r with
  | error e =>
    obtain ⟨_, _, _, _, _, _, _, _, _, _, _, _, z⟩ := h
    exact z.elim
  | ok fl =>
    cases fl with
    | next => exact False.elim h
    | brk => exact False.elim h
    | cont => exact False.elim h
    | ret u =>
      obtain ⟨v, H', os, bare, un, hok', r', q⟩ := h
      subst q
      obtain rfl : u = Value.bool true := r'
      have tabG : ∀ {b}, b ∈ cs.map (·.2) → ∃ more : Array Value, s'.heap.get? b = some { cls := .none, data := .fields more } := fun {b} hb => by
        obtain ⟨p, hp, rfl⟩ := List.mem_map.mp hb
        obtain ⟨more, z⟩ := un.tbls p.2 #[] (HT p hp)
        exact ⟨_, hok' p.2 _ z⟩
      have stay : ∀ {b o}, b ∉ cs.map (·.2) → s.heap.get? b = some o → s'.heap.get? b = some o := fun {b o} nb e => by
        cases q : H b with
        | none => exact un.keep b o e q (fun z => List.not_mem_nil (show b ∈ ([] : List Addr) from z)) (by simp)
        | some u =>
          rcases cas q with ⟨z, _⟩ | ⟨z, _, rfl⟩
          · exact (nb z).elim
          · have e2 := (hok' b _ (un.frzs b ob _ q)).1
            have e1 := (hok b _ q).1
            rw [e] at e1; cases e1
            exact e2
      refine ⟨rfl, ⟨fun b o e => ?_, fun b o e => ?_⟩, os, bare⟩
      · by_cases hb : b ∈ cs.map (·.2)
        · obtain ⟨p, hp, rfl⟩ := List.mem_map.mp hb
          obtain ⟨more, hm⟩ := tabG hb
          rw [hT p hp] at e; cases e
          exact .inr (.inl ⟨((C p hp).tab (hT p hp)).isCodeTable, rfl, #[], more, rfl, by rw [Array.empty_append]; exact hm⟩)
        · exact .inl (stay hb e)
      · by_cases hb : b ∈ cs.map (·.2)
        · obtain ⟨more, hm⟩ := tabG hb
          exact ⟨_, hm⟩
        · exact ⟨o, stay hb e⟩
end
/-- what is known of the law's def at the head's heap -/
def LawEnd (l : PySem.W.OpenLaw) (w : World) (K : PySem.W.Frag) (k n : Nat) (x : Str) (mg : Str → Option Value) (fa : Addr) (h : Heap) : Prop :=
  ∃ (fd : FuncData) (cs : List (Addr × Addr)) (T : List (Addr × Str)) (sp : Spc), (∀ p ∈ cs, h.get? p.2 = some { cls := .none, data := .fields #[] }) ∧ (∀ p ∈ cs, K.lookup p.2 = none) ∧ (∀ p ∈ cs, PySem.W.CodeHd h p.1 p.2) ∧ (∀ p ∈ T, ∃ q ∈ cs, q.2 = p.1) ∧
    (∀ (s : Shared) (u : Value), BindsTo s fd ⟨[u], []⟩ [(x, u)]) ∧ (∀ ns : List Int, ns.length ≤ n → (∀ z ∈ ns, Builtin.Int.intBits z ≤ 1048576) → ∀ Q : QS, Q (.d (.bool true)) [] → sp [.d (.scr ns)] [] Q fun _ _ => False) ∧
    ∀ base : Heap, K.In base → base.Ns mainGlobals mg → (∀ p ∈ cs, TabB base mg p.1 p.2) → FnD ⟨l.prog, w, K, mg, base, T⟩ k fa fd [x] sp
/-- the heap without tables -/
def noTbl (H : Hp) : Hp := fun b => match H b with
  | some (.tbl _) => none
  | u => u
theorem noTbl_of {H : Hp} {b : Addr} {u : HO} (h : H b = some u) (n : ∀ ps, u ≠ .tbl ps) : noTbl H b = some u := by
  unfold noTbl
  rw [h]
  cases u with
  | tbl ps => exact (n ps rfl).elim
  | _ => rfl
theorem of_noTbl {H : Hp} {b : Addr} {u : HO} (h : noTbl H b = some u) : H b = some u ∧ ∀ ps, u ≠ .tbl ps := by
  unfold noTbl at h
  cases q : H b with
  | none => rw [q] at h; cases h
  | some v =>
    rw [q] at h
    cases v with
    | tbl ps => cases h
    | _ => cases h; exact ⟨rfl, fun ps z => by cases z⟩
theorem walk_end {l : PySem.W.OpenLaw} {n k : Nat} {q : Program} {loose : List Str} {XP : (Str → Option Value) → Heap → Prop} {YP : World → Heap → Prop} {d : DefRec} {x : Str}
    (hn : l.most = some n) (hn2 : n ≤ sizeLine) (hdf : d.params.defaults = []) (hr : Room k callerA)
    (F : ∀ (w : World) (mg : Str → Option Value) (fa : Addr) (h : Heap), YP w h → h.Ns mainGlobals mg → mg d.name = some (.ref fa) → ∃ K : PySem.W.Frag, K.In h ∧ LawEnd l w K k n x mg fa h) :
    PySem.W.WalkO q loose XP YP l.row.toRowW d [] (fun f vs => PySem.call f vs) := by
  refine Att.attach_callB hn hdf fun w s₀ s₁ mg mb fa o pm cd doc a vs ns G Y ho hd hcd hmg hobj hints hlen hbits hg => ?_
  obtain ⟨K, KX, fd, cs, T, sp, hT, nT, C, hTc, hb, hsp, hF⟩ := F w mg fa _ Y G.T.g hmg
  refine end_call (sp := toSp K T 1 sp) KX G.T.g G.T.b G.T.builtins G.T.nolimit hg hT nT C G.T.bmain hobj hints (Nat.le_trans hlen hn2) hr (fun base b1 b2 b3 => hF base b1 b2 b3) hb fun H hH hS => ?_
  have seq : SqL K (noTbl H) a (ns.map V.int) := by
    rcases hS with (z | ⟨o, z⟩) | z
    · exact .inl (.inl (noTbl_of z fun ps e => by cases e))
    · exact .inl (.inr ⟨o, noTbl_of z fun ps e => by cases e⟩)
    · exact .inr z
  have ok : Ok K T (noTbl H) H [] [] := by
    constructor
    · exact fun b u e => (of_noTbl e).1
    · exact fun b ps e => (of_noTbl e).2 ps rfl
    · rfl
    · intro k b o e; simp at e
    · intro k b o e; simp at e
    · intro j k b o u e; simp at e
    · intro p hp
      obtain ⟨q, hq, e⟩ := hTc p hp
      exact TabS.nil (by rw [← e]; exact hH q hq)
    · intro k C fs e; simp at e
  refine ⟨noTbl H, [], [.d (.scr ns)], [], fun s _ => s = .d (.bool true), fun _ _ => False, ok, .cons (show SRel K (noTbl H) [] (.ref a) (.d (.scr ns)) from .scr seq) .nil, rfl, hsp ns hlen hbits _ rfl, fun s ω' e G' H' as' v _ _ _ r => ?_, fun _ _ z => z.elim⟩
  subst e
  cases r
  rfl
end Z

set_option Elab.async false
set_option linter.all false
set_option maxRecDepth 100000
set_option maxHeartbeats 1000000
/-! # R: calls with keywords; own errors as one fact; what the head reads -/
namespace Z
open PySem PySem.Spec PyProof.Rows L2 LamX

/-! ### keywords -/
def pick {α : Type} (sel : List Nat) (d : α) (l : List α) : List α := sel.map fun i => l.getD i d
/-- how a def binds n values by place and the ones at ks by name -/
structure KBy (K : PySem.W.Frag) (fd : FuncData) (ps : List Str) (n : Nat) (ks : List Str) (sel : List Nat) : Prop where
  to : ∀ (s : Shared) (us ws : List Value), K.In s.heap → us.length = n → ws.length = ks.length → BindsTo s fd ⟨us, ks.zip ws⟩ (ps.zip (pick sel .none (us ++ ws)))
  lt : ∀ i ∈ sel, i < n + ks.length
structure DefK (W : Wd) (x : Str) (k : Nat) (ps : List Str) (sp : Spc) (n : Nat) (ks : List Str) (sel : List Nat) : Prop where
  ex : ∃ f fd, FnD W k f fd ps sp ∧ W.mg x = some (.ref f) ∧ PySem.W.keepIn W.K (.ref f) = true ∧ KBy W.K fd ps n ks sel
theorem getD_rel {K : PySem.W.Frag} {G : Hp} {as : List Addr} : ∀ {vs : List V} {ss : List S}, SRelL K G as vs ss → ∀ {i : Nat}, i < ss.length → SRel K G as (vs.getD i .non) (ss.getD i default)
  | _, _, .nil, i, h => by simp at h
  | _, _, .cons a b, 0, h => a
  | _, _, .cons a b, i + 1, h => by simpa using getD_rel b (i := i) (by simpa using h)
theorem pick_rel {K : PySem.W.Frag} {G : Hp} {as : List Addr} {vs : List V} {ss : List S} (r : SRelL K G as vs ss) : ∀ {sel : List Nat}, (∀ i ∈ sel, i < ss.length) → SRelL K G as (pick sel .non vs) (pick sel default ss)
  | [], _ => .nil
  | i :: t, h => .cons (getD_rel r (h i (by simp))) (pick_rel r fun j hj => h j (by simp [hj]))
theorem getD_val : ∀ {vs : List V} {us : List Value}, Vals vs us → ∀ {i : Nat}, i < vs.length → RelV (vs.getD i .non) (us.getD i .none)
  | _, _, .nil, i, h => by simp at h
  | _, _, .cons a b, 0, h => a
  | _, _, .cons a b, i + 1, h => by simpa using getD_val b (i := i) (by simpa using h)
theorem pick_val {vs : List V} {us : List Value} (r : Vals vs us) : ∀ {sel : List Nat}, (∀ i ∈ sel, i < vs.length) → Vals (pick sel .non vs) (pick sel .none us)
  | [], _ => .nil
  | i :: t, h => .cons (getD_val r (h i (by simp))) (pick_val r fun j hj => h j (by simp [hj]))
section
variable {W : Wd} {Y : Cy} {τ : Tau} {ω : List O}
/-- f(e, .., x=e, ..) -/
theorem WE_callK {k j n : Nat} {x : Str} {ps ks : List Str} {sel : List Nat} {sp : Spc} {e : Expr} {es : List Expr} {kws : List Keyword} {p pos : Pos} {Q : QS} (Df : DefK W x j ps sp n ks sel) (c : Cal W k Y) (hj : j ≤ k)
    (h : WA Y (e :: es) τ ω fun ss ω1 => WK Y kws τ ω1 fun ts ω2 => ss.length = n ∧ ts.length = ks.length ∧ sel.length = ps.length ∧ sp (pick sel default (ss ++ ts)) ω2 Q fun x ω3 => Y.rz x τ ω3) (hg : Gl Y.X x := by rfl)
    (hall : (backToKw pos (keywordEach kws Y.X.env)).all (·.1.isSome) = true := by rfl) (hks : (backToKw pos (keywordEach kws Y.X.env)).filterMap (·.1) = ks := by rfl) (hdb : (x == ("__debug__" : Str)) = false := by decide)
    (he : starEach (e :: es) Y.X.env = (false, eval e Y.X.env) :: starEach es Y.X.env := by rfl) (hpl : ((backTo pos (starEach (e :: es) Y.X.env)).any (·.1) || (backToKw pos (keywordEach kws Y.X.env)).any (·.1.isNone)) = false := by rfl) :
    WE Y (.Call (.Name x p) (e :: es) kws pos) τ ω Q := .mk fun G as H σ b o l => by
  obtain ⟨f, fd, F, hm, hk, hb⟩ := Df.ex
  obtain ⟨Wx, tk, link⟩ := c.rz
  have I := c.inn
  intro pins s Iv
  refine wpAny_Call_Name_kw (ld_glob Iv hg (by rw [I.mg]; exact hm) ?_ hdb)
  refine PySem.W.callWith_KW (h₀ := Y.X.base) Iv.ok.mod.kin (by rw [I.K]; exact hk) hall (thn ((h G as H σ b o l) pos pins s Iv) fun us s1 ⟨vs, H1, I1, r, G1, as1, ω1, g1, p1, o1, ss, rs, q⟩ => ?_) hpl he
  refine thn ((q G1 as1 H1 σ (b.go g1 p1) o1 (l.mono g1 p1)) pos pins s1 I1) fun ws s2 ⟨zs, H2, I2, rz, G2, as2, ω2, g2, p2, o2, ts, rt, hn, hks2, hsl, q2⟩ => ⟨I2.kIn, ?_⟩
  rw [hks]
  have lv : vs.length = n := by rw [rs.length]; exact hn
  have lz : zs.length = ks.length := by rw [rt.length]; exact hks2
  have rr : SRelL Y.X.K G2 as2 (vs ++ zs) (ss ++ ts) := (rs.mono g2 p2).append rt
  have lt1 : ∀ i ∈ sel, i < (ss ++ ts).length := fun i hi => by rw [List.length_append, hn, hks2]; exact hb.lt i hi
  have lt2 : ∀ i ∈ sel, i < (vs ++ zs).length := fun i hi => by rw [List.length_append, lv, lz]; exact hb.lt i hi
  have sm := sp_meet (ps := ps) (sp := sp) (dvs := []) (dss := []) (Wx := Wx) (Q := Q) link ((b.go g1 p1).go g2 p2) o2 ((l.mono g1 p1).mono g2 p2) (pick_rel rr lt1) (fun _ => .nil) (by simpa [pick] using hsl) (by simpa using q2)
  have sm' : toSp Y.X.K Y.T ps.length sp (pick sel .non (vs ++ zs)) H2 (Fin1 Y G as Q) (L2.WE Wx σ) := by
    obtain ⟨G3, as3, ss3, ω3, Q0, E0, o3, r3, l3, q3, k1, k2⟩ := sm
    exact ⟨G3, as3, ss3, ω3, Q0, E0, o3, by simpa using r3, l3, q3, fun s ω' a G' H' as' v x1 x2 x3 x4 => Go.back (g1.trans g2) (p1.trans p2) (k1 s ω' a G' H' as' v x1 x2 x3 x4), k2⟩
  refine run_fnG (F.at I) c.gds (c.room.mono hj) tk I2 (fun hl => hb.to s2 us ws ?_ (by rw [← r.length]; exact lv) (by rw [← rz.length]; exact lz)) (pick_val (Vals.append r rz) lt2) sm'
  have := I2.kIn
  rw [I.K] at this
  exact this
/-- f(x=e, ..) -/
theorem WE_callK0 {k j : Nat} {x : Str} {ps ks : List Str} {sel : List Nat} {sp : Spc} {kws : List Keyword} {p pos : Pos} {Q : QS} (Df : DefK W x j ps sp 0 ks sel) (c : Cal W k Y) (hj : j ≤ k)
    (h : WK Y kws τ ω fun ts ω2 => ts.length = ks.length ∧ sel.length = ps.length ∧ sp (pick sel default ts) ω2 Q fun x ω3 => Y.rz x τ ω3) (hg : Gl Y.X x := by rfl)
    (hall : (backToKw pos (keywordEach kws Y.X.env)).all (·.1.isSome) = true := by rfl) (hks : (backToKw pos (keywordEach kws Y.X.env)).filterMap (·.1) = ks := by rfl) (hdb : (x == ("__debug__" : Str)) = false := by decide)
    (hpl : ((backTo pos (starEach [] Y.X.env)).any (·.1) || (backToKw pos (keywordEach kws Y.X.env)).any (·.1.isNone)) = false := by rfl) :
    WE Y (.Call (.Name x p) [] kws pos) τ ω Q := .mk fun G as H σ b o l => by
  obtain ⟨f, fd, F, hm, hk, hb⟩ := Df.ex
  obtain ⟨Wx, tk, link⟩ := c.rz
  have I := c.inn
  intro pins s Iv
  refine wpAny_Call_Name_kw (ld_glob Iv hg (by rw [I.mg]; exact hm) ?_ hdb)
  refine PySem.W.callWith_KW0 (h₀ := Y.X.base) Iv.ok.mod.kin (by rw [I.K]; exact hk) hall ?_ hpl
  refine thn ((h G as H σ b o l) pos pins s Iv) fun ws s2 ⟨zs, H2, I2, rz, G2, as2, ω2, g2, p2, o2, ts, rt, hks2, hsl, q2⟩ => ⟨I2.kIn, ?_⟩
  rw [hks]
  have lz : zs.length = ks.length := by rw [rt.length]; exact hks2
  have lt1 : ∀ i ∈ sel, i < ts.length := fun i hi => by rw [hks2]; have := hb.lt i hi; omega
  have lt2 : ∀ i ∈ sel, i < zs.length := fun i hi => by rw [lz]; have := hb.lt i hi; omega
  have sm := sp_meet (ps := ps) (sp := sp) (dvs := []) (dss := []) (Wx := Wx) (Q := Q) link (b.go g2 p2) o2 (l.mono g2 p2) (pick_rel rt lt1) (fun _ => .nil) (by simpa [pick] using hsl) (by simpa using q2)
  have sm' : toSp Y.X.K Y.T ps.length sp (pick sel .non zs) H2 (Fin1 Y G as Q) (L2.WE Wx σ) := by
    obtain ⟨G3, as3, ss3, ω3, Q0, E0, o3, r3, l3, q3, k1, k2⟩ := sm
    exact ⟨G3, as3, ss3, ω3, Q0, E0, o3, by simpa using r3, l3, q3, fun s ω' a G' H' as' v x1 x2 x3 x4 => Go.back g2 p2 (k1 s ω' a G' H' as' v x1 x2 x3 x4), k2⟩
  have kin : W.K.In s2.heap := by
    have := I2.kIn
    rw [I.K] at this
    exact this
  have bd := hb.to s2 [] ws kin rfl (by rw [← rz.length]; exact lz)
  exact run_fnG (F.at I) c.gds (c.room.mono hj) tk I2 (fun hl => by simpa using bd) (pick_val rz lt2) sm'
end

/-! ### an own error -/
structure Err (W : Wd) (x : Str) (C : Addr) (fs : List Str) : Prop where
  ex : ∃ fI cc cda body, Sup W.P W.K W.mg x C fI cc cda fs ∧ SupFn W.P W.K fI cc cda fs body
  few : (∃ f, fs = [f]) ∨ ∃ f g, fs = [f, g] ∧ ¬ g = f
section
variable {W : Wd} {Y : Cy} {τ : Tau} {ω : List O}
theorem WS_raiseE {k : Nat} {x : Str} {C : Addr} {fs : List Str} {e : Expr} {es : List Expr} {p pos pos2 : Pos} {D : En} (T : Err W x C fs) (c : Cal W k Y) (calm : Y.X.calm = true)
    (h : WA Y (e :: es) τ ω fun ss ω1 => ∃ ds, ss = ds.map S.d ∧ ds.length = fs.length ∧ Y.rz ⟨C, fs.zip ds⟩ τ ω1) (hr : 3 ≤ k := by omega) (hg : Gl Y.X x := by rfl) (hdb : (x == ("__debug__" : Str)) = false := by decide)
    (he : starEach (e :: es) Y.X.env = (false, eval e Y.X.env) :: starEach es Y.X.env := by rfl) (hpl : (backTo pos (starEach es Y.X.env)).any (·.1) = false := by rfl) : WS Y (.Raise (some (.Call (.Name x p) (e :: es) [] pos)) none pos2) τ ω D := by
  obtain ⟨fI, cc, cda, body, S1, S2⟩ := T.ex
  have I := c.inn
  have S1' : Sup Y.X.prog Y.X.K Y.X.mg x C fI cc cda fs := by rw [I.P, I.K, I.mg]; exact S1
  have S2' : SupFn Y.X.prog Y.X.K fI cc cda fs body := by rw [I.P, I.K]; exact S2
  refine WS_raise c.rz calm (pmk_sup (k := k) S1' (by rcases T.few with ⟨f, rfl⟩ | ⟨f, g, rfl, _⟩ <;> simp) ?_ c.room pa_w hg hdb he hpl) h
  intro us w s x t0 A R hl md X kb hx hnx hroom hq
  rcases T.few with ⟨f, rfl⟩ | ⟨f, g, rfl, hfg⟩
  · obtain ⟨v, rfl⟩ : ∃ v, us = [v] := by
      match us, hl with
      | [v], _ => exact ⟨v, rfl⟩
    exact sup_init1 S1' S2' X md kb hx hnx hroom hq
  · obtain ⟨v, v2, rfl⟩ : ∃ v v2, us = [v, v2] := by
      match us, hl with
      | [v, v2], _ => exact ⟨v, v2, rfl⟩
    exact sup_init2 S1' S2' X md kb hfg hx hnx hroom hq
end
end Z

set_option Elab.async false
set_option linter.all false
set_option maxRecDepth 100000
set_option maxHeartbeats 1000000
/-! # S: what the head reads -/
namespace Z
open PySem PySem.Spec PyProof.Rows L2 LamX
open PySem.W (findIn typeIn keepIn subIn mroIn nsIn codeIn clsIn hasDictIn specialIn takesIn exmOne kitOne Frag)
open He (ga ma fAd eqO eqO_ok Fa DefD AlD obsD valD SaysD Defn frT asD tabsB cT ba)

/-- one thing more that is read of the written part -/
inductive Ck where
  | exm (x y : Str) (b : Bool)
  | kit (x y : Str) (b : Bool)
  | kitT (t : String) (y : Str) (b : Bool)
  | kitC (x : Str) (t : String) (b : Bool)
  | exf (x f : Str)
  | exi (x : Str)
  | sup (x : Str) (fs : List Str)
  | kby (x : Str)
deriving DecidableEq
def isNoneV : Value → Bool
  | .none => true
  | _ => false
theorem isNoneV_ok {v : Value} (h : isNoneV v = true) : v = .none := by
  cases v with
  | none => rfl
  | _ => cases h
def clsB (K : Frag) (C : Addr) : Bool := match K.lookup C with
  | some ⟨.type t, _, .cls cd, sl⟩ => (match cd.mro, sl.toList with
    | .ref C' :: bm, [_, _, _, _, some (.builtin n), _] => t == "type" && (C' == C && (n == "ValueError.__new__" && (!cd.hasDel && (cd.hasDict && (PySem.HandSPX.refsVE bm && eqO (PySem.W.alongIn K "__init__" (((Value.ref C :: bm).dropWhile (· != .ref C)).drop 1)) (some (some (.builtin "ValueError.__init__"))))))))
    | _, _ => false)
  | _ => false
/-- how __init__ stands: its cell, its code, no defaults -/
def iniB (P : Program) (K : Frag) (f C : Addr) : Bool := match K.lookup f with
  | some ⟨_, _, .func fd, _⟩ => (match fd.closure, fd.code with
    | [(n, cc)], .ref cda => n == PySem.Str.ofString "__class__" && ((match K.lookup cc with | some ⟨_, _, .cell (some (.ref C')), _⟩ => C' == C | _ => false) &&
      ((match K.lookup cda with | some ⟨_, _, .fields vs, _⟩ => (match vs[2]? with | some (Value.str file _) => (P.main.file : Str) == file | _ => false) | _ => false) && (isNoneV fd.defaults && (isNoneV fd.kwdefaults && codeIn K (.ref cda) fd.qualname))))
    | _, _ => false)
  | _ => false
def Ck.ok (P : Program) (K : Frag) : Ck → Bool
  | .exm x y b => decide (exmOne K (.ref (ga K x)) (.ref (ga K y)) = some b)
  | .kit x y b => decide (kitOne K (.ref (ga K x)) (.ref (ga K y)) = some b)
  | .kitT t y b => decide (kitOne K (.type t) (.ref (ga K y)) = some b)
  | .kitC x t b => decide (kitOne K (.ref (ga K x)) (.type t) = some b)
  | .exf x f => eqO (findIn K (.ref (ga K x)) "__getattribute__") (some (some (.builtin "BaseException.__getattribute__"))) && ((findIn K (.ref (ga K x)) "__getattr__").isSome && (decide (subIn K (.ref (ga K x)) (.type "BaseException") = some true) && (hasDictIn K (ga K x) && eqO (findIn K (.ref (ga K x)) f) (some none))))
  | .exi x => (clsIn K (ga K x)).isSome && (eqO (findIn K (.ref (ga K x)) "__getattribute__") (some (some (.builtin "BaseException.__getattribute__"))) && ((findIn K (.ref (ga K x)) "__getattr__").isSome && (decide (subIn K (.ref (ga K x)) (.type "BaseException") = some true) &&
      (eqO (findIn K (.ref (ga K x)) "__class__") (some (some (.builtin "object.__class__"))) && (eqO (specialIn K (.builtin "object.__class__") "__get__") (some (some (.builtin "getset_descriptor.__get__"))) && (decide (takesIn K (.builtin "object.__class__") = some true) && decide (mroIn K (ga K x) (.type "object") = some true)))))))
  | .sup x fs => clsB K (ga K x) && (eqO (findIn K (.ref (ga K x)) "__setattr__") (some (some (.builtin "object.__setattr__"))) && ((fs.all fun f => eqO (findIn K (.ref (ga K x)) f) (some none)) && (eqO (findIn K (.ref (ga K x)) "__init__") (some (some (.ref (ma K (ga K x) "__init__")))) &&
      (decide (typeIn K (.ref (ma K (ga K x) "__init__")) = some (.type "function")) && (keepIn K (.ref (ga K x)) && (decide (subIn K (.ref (ga K x)) (.type "BaseException") = some true) && (decide (subIn K (.ref (ga K x)) (.type "ValueError") = some true) && (decide (typeIn K (.ref (ga K x)) = some (.type "type")) &&
      (decide (mroIn K (ga K x) (.ref (ga K x)) = some true) && (eqO (nsIn K cStatics "thirdparty.any") (some none) && (iniB P K (ma K (ga K x) "__init__") (ga K x) && !(P.main.scope.names.lookup ("super" : Str)).isSome)))))))))))
  | .kby x => keepIn K (.ref (ga K x))
section
variable {P : Program} {K : Frag} {x y f : Str} {b : Bool} {t : String} {fs : List Str}
theorem exf_ok (c : (Ck.exf x f).ok P K = true) : ExF K (ga K x) f := by
  obtain ⟨c1, c⟩ := ba c
  obtain ⟨c2, c⟩ := ba c
  obtain ⟨c3, c⟩ := ba c
  obtain ⟨c4, c5⟩ := ba c
  exact ⟨eqO_ok c1, Option.isSome_iff_exists.mp c2, of_decide_eq_true c3, c4, eqO_ok c5⟩
theorem exi_ok (c : (Ck.exi x).ok P K = true) : ExI K (ga K x) := by
  obtain ⟨c1, c⟩ := ba c
  obtain ⟨c2, c⟩ := ba c
  obtain ⟨c3, c⟩ := ba c
  obtain ⟨c4, c⟩ := ba c
  obtain ⟨c5, c⟩ := ba c
  obtain ⟨c6, c⟩ := ba c
  obtain ⟨c7, c8⟩ := ba c
  exact ⟨c1, eqO_ok c2, Option.isSome_iff_exists.mp c3, of_decide_eq_true c4, eqO_ok c5, eqO_ok c6, of_decide_eq_true c7, of_decide_eq_true c8⟩
theorem clsB_ok {C : Addr} (h : clsB K C = true) : ∃ nm q N bs bm sn sub ab col dd k0 k1 k2 k3 k5, K.lookup C = some (excClassObj nm q C N bs bm true sn sub ab col dd k0 k1 k2 k3 k5 "ValueError.__new__") ∧ PySem.HandSPX.refsVE bm = true ∧
    PySem.W.alongIn K "__init__" (((Value.ref C :: bm).dropWhile (· != .ref C)).drop 1) = some (some (.builtin "ValueError.__init__")) := by
  unfold clsB at h
  split at h
  · rename_i t dd cd sl e
    split at h
    · rename_i C' bm k0 k1 k2 k3 n k5 em es
      obtain ⟨h1, h⟩ := ba h
      obtain ⟨h2, h⟩ := ba h
      obtain ⟨h3, h⟩ := ba h
      obtain ⟨h4, h⟩ := ba h
      obtain ⟨h5, h⟩ := ba h
      obtain ⟨h6, h7⟩ := ba h
      have e1 : t = "type" := eq_of_beq h1
      have e2 : C' = C := eq_of_beq h2
      have e3 : n = "ValueError.__new__" := eq_of_beq h3
      subst e1 e2 e3
      obtain ⟨nm, bs, mro, N, q, hasDict, sn, sub, ab, col, hasDel⟩ := cd
      simp only at em h4 h5
      subst em
      have e4 : hasDel = false := by simpa using h4
      have e5 : hasDict = true := h5
      subst e4 e5
      have e6 : sl = #[k0, k1, k2, k3, some (.builtin "ValueError.__new__"), k5] := by
        have := congrArg List.toArray es
        simpa using this
      subst e6
      exact ⟨nm, q, N, bs, bm, sn, sub, ab, col, dd, k0, k1, k2, k3, k5, e, h6, eqO_ok h7⟩
    · cases h
  · cases h
end
/-! ### own errors' __init__ -/
structure IniD where
  cls : Str
  qual : Str
  params : Arguments
  body : List Stmt
  scope : Scope
abbrev IniW : Type := Option (Str × Str × Arguments × FuncBody × Scope × Addr × Addr)
def iniW (K : Frag) (x : Str) : IniW := match K.lookup (ma K (ga K x) "__init__") with
  | some ⟨_, _, .func fd, _⟩ => some (fd.name, fd.qualname, fd.params, fd.body, fd.scope, fd.globals, fd.builtins)
  | _ => none
def IniD.val (d : IniD) : IniW := some ("__init__", d.qual, d.params, .stmts d.body, d.scope, mainGlobals, builtinsNs)
/-- what the text of such an __init__ is to be -/
structure IniText (d : IniD) (fs : List Str) : Prop where
  sc : SupSc fs
  scope : d.scope = xScope fs
  ar : ∃ ar : Arg, (d.params.posonlyargs ++ d.params.args).head? = some ar ∧ ar.arg = PySem.Str.ofString "self"
  bind : ∀ (doc pm ct : Value) (an : Option Addr) (cda cc : Addr) (us : List Value), us.length = fs.length + 1 → bindArgs (PySem.W.ksFn "__init__" d.qual d.params d.body (xScope fs) .none .none doc pm an (.ref cda) ct cc) ⟨us, []⟩ = pure ((PySem.Str.ofString "self" :: fs).zip us)
  text : ∃ (msg : Str) (j : Nat) (p0 p1 p2 p3 p4 p5 : Pos) (qs : List (Pos × Pos × Pos × Pos)) (pl : Sem Bool), qs.length = fs.length ∧ d.body = xSuper msg j p0 p1 p2 p3 p4 p5 :: (fs.zip qs).map (fun y => xSet y.1 y.2.1 y.2.2.1 y.2.2.2.1 y.2.2.2.2) ∧
    (∀ L fI cda cc, eval (.Call (.Attribute (.Call (.Name "super" p0) [] [] p1) "__init__" p2) [.Constant (.str msg) j p3] [] p4) (PySem.W.ksEnv d.qual (xScope fs) L fI (.ref cda) cc) = (do
      let ov ← attributeBase (.Call (.Name "super" p0) [] [] p1) "__init__" (PySem.W.ksEnv d.qual (xScope fs) L fI (.ref cda) cc) (eval (.Call (.Name "super" p0) [] [] p1) (PySem.W.ksEnv d.qual (xScope fs) L fI (.ref cda) cc))
      standAt p2.atName
      let (f, first) ← holding [ov] (getMethod ov "__init__" pl)
      callWith p4 f first (backTo p4 (starEach [.Constant (.str msg) j p3] (PySem.W.ksEnv d.qual (xScope fs) L fI (.ref cda) cc))) [])) ∧
    (∀ L fI cda cc, ∀ y ∈ fs.zip qs, swapsWith (.Name y.1 y.2.2.2.1) (some (.Attribute (.Name "self" y.2.1) y.1 y.2.2.1)) y.2.2.2.2.line (PySem.W.ksEnv d.qual (xScope fs) L fI (.ref cda) cc) = pure false)
theorem err_of {P : Program} {w : World} {K : Frag} {mg : Str → Option Value} {base : Heap} {T : List (Addr × Str)} {x : Str} {fs : List Str} {d : IniD} (hg : mg x = some (.ref (ga K x))) (hs : mg "super" = none) (c : (Ck.sup x fs).ok P K = true) (e : iniW K x = d.val) (t : IniText d fs)
    (few : (∃ f, fs = [f]) ∨ ∃ f g, fs = [f, g] ∧ ¬ g = f) : Err ⟨P, w, K, mg, base, T⟩ x (ga K x) fs := by
  obtain ⟨c1, c⟩ := ba c
  obtain ⟨c2, c⟩ := ba c
  obtain ⟨c3, c⟩ := ba c
  obtain ⟨c4, c⟩ := ba c
  obtain ⟨c5, c⟩ := ba c
  obtain ⟨c6, c⟩ := ba c
  obtain ⟨c7, c⟩ := ba c
  obtain ⟨c8, c⟩ := ba c
  obtain ⟨c9, c⟩ := ba c
  obtain ⟨c10, c⟩ := ba c
  obtain ⟨c11, c⟩ := ba c
  obtain ⟨c12, c13⟩ := ba c
  unfold iniB at c12
  unfold iniW at e
  cases q : K.lookup (ma K (ga K x) "__init__") with
  | none => rw [q] at c12; cases c12
  | some o =>
    obtain ⟨oc, od, dt, osl⟩ := o
    rw [q] at c12 e
    cases dt with
    | func fd =>
      simp only at c12 e
      split at c12
      · rename_i n cc cda ecl ecd
        obtain ⟨i1, i⟩ := ba c12
        obtain ⟨i2, i⟩ := ba i
        obtain ⟨i3, i⟩ := ba i
        obtain ⟨i4, i⟩ := ba i
        obtain ⟨i5, i6⟩ := ba i
        obtain ⟨n1, n2, n3, n4, n5, n6, n7, n8, n9, n10, n11, n12, n13, n14, n15⟩ := fd
        simp only [IniD.val, Option.some.injEq, Prod.mk.injEq] at e
        obtain ⟨e1, e2, e3, e4, e5, e6, e7⟩ := e
        simp only at ecl ecd i4 i5 i6
        have en := eq_of_beq i1
        have e8 := isNoneV_ok i4
        have e9 := isNoneV_ok i5
        subst en ecl ecd e8 e9 e1 e3 e4 e6 e7
        have e2' : n2 = d.qual := e2
        subst e2'
        have e5' : n5 = xScope fs := e5.trans t.scope
        subst e5'
        refine ⟨⟨ma K (ga K x) "__init__", cc, cda, d.body, ?_, ?_⟩, few⟩
        · refine ⟨hg, clsB_ok c1, eqO_ok c2, fun f hf => eqO_ok (List.all_eq_true.mp c3 f hf), eqO_ok c4, of_decide_eq_true c5, c6, of_decide_eq_true c7, of_decide_eq_true c8, of_decide_eq_true c9, of_decide_eq_true c10, eqO_ok c11, hs, ?_, ?_, by simpa using c13⟩
          · split at i2
            · rename_i a b C' sl hcc
              have := eq_of_beq i2
              subst this
              exact ⟨_, _, _, hcc⟩
            · cases i2
          · split at i3
            · rename_i a b vs sl hcd
              split at i3
              · rename_i file tf hv
                exact ⟨_, _, vs, _, file, tf, hcd, hv, i3⟩
              · cases i3
            · cases i3
        · obtain ⟨ar, ha1, ha2⟩ := t.ar
          obtain ⟨msg, j, p0, p1, p2, p3, p4, p5, qs, pl, t1, t2, t3, t4⟩ := t.text
          exact ⟨t.sc, oc, od, d.qual, d.params, ar, _, _, _, _, osl, q, i6, ha1, ha2, fun us s hl => .of_eq (t.bind _ _ _ _ _ _ us hl), msg, j, p0, p1, p2, p3, p4, p5, qs, pl, t1, t2, fun L => t3 L _ _ _, fun L => t4 L _ _ _⟩
      · cases c12
    | _ => cases c12
/-! ### the Hook -/
def asZ (n : Nat) (g : Addr → Option Obj) : List Addr := cStatics :: asD g n
abbrev AlZ : Type := AlD × Bool × List IniW
structure SaysZ (P : Program) (fa : List Fa) (fn : List DefD) (tf : List Defn) (fi : List IniD) (cks : List Ck) (h : Heap) (K : Frag) : Prop where
  d : SaysD fa fn K
  ck : ∀ c ∈ cks, c.ok P K = true
  hd : ∀ p ∈ tf, PySem.W.codeHdIn K (cT K p).1 (cT K p).2 = true
  out : ∀ p ∈ tf, K.lookup (cT K p).2 = none
  empty : ∀ p ∈ tf, h.get? (cT K p).2 = some { cls := .none, data := .fields #[] }
  ini : ∀ d ∈ fi, iniW K d.cls = d.val
def obsZ (n : Nat) (P : Program) (fa : List Fa) (fn : List DefD) (tf : List Defn) (fi : List IniD) (cks : List Ck) (g : Addr → Option Obj) : AlZ :=
  (obsD fa fn (frT g (asZ n g)), (cks.all fun c => c.ok P (frT g (asZ n g))) && tabsB g tf (frT g (asZ n g)), fi.map fun d => iniW (frT g (asZ n g)) d.cls)
def valZ (fn : List DefD) (fi : List IniD) : AlZ := (valD fn, true, fi.map IniD.val)
theorem saysZ_of {n : Nat} {P : Program} {fa : List Fa} {fn : List DefD} {tf : List Defn} {fi : List IniD} {cks : List Ck} {h : Heap} (e : obsZ n P fa fn tf fi cks h.get? = valZ fn fi) : SaysZ P fa fn tf fi cks h (frT h.get? (asZ n h.get?)) := by
  have e1 : obsD fa fn (frT h.get? (asZ n h.get?)) = valD fn := congrArg (fun z : AlZ => z.1) e
  have e2 : ((cks.all fun c => c.ok P (frT h.get? (asZ n h.get?))) && tabsB h.get? tf (frT h.get? (asZ n h.get?))) = true := congrArg (fun z : AlZ => z.2.1) e
  have e3 : (fi.map fun d => iniW (frT h.get? (asZ n h.get?)) d.cls) = fi.map IniD.val := congrArg (fun z : AlZ => z.2.2) e
  obtain ⟨h1, h2⟩ := ba e2
  have key : ∀ p ∈ tf, PySem.W.codeHdIn (frT h.get? (asZ n h.get?)) (cT (frT h.get? (asZ n h.get?)) p).1 (cT (frT h.get? (asZ n h.get?)) p).2 = true ∧ ∃ o, h.get? (cT (frT h.get? (asZ n h.get?)) p).2 = some o ∧ He.emptyTab o = true := fun p hp => by
    obtain ⟨h3, h4⟩ := ba (List.all_eq_true.mp h2 p hp)
    refine ⟨h3, ?_⟩
    split at h4
    · rename_i o q; exact ⟨o, q, h4⟩
    · cases h4
  refine ⟨e1, List.all_eq_true.mp h1, fun p hp => (key p hp).1, fun p hp => ?_, fun p hp => ?_, fun d hd => ?_⟩
  · obtain ⟨_, o, q, z⟩ := key p hp
    exact He.frT_none q z
  · obtain ⟨_, o, q, z⟩ := key p hp
    rw [q, He.emptyTab_eq z]
  · obtain ⟨i, hi, ei⟩ := List.mem_iff_getElem.mp hd
    have e4 := congrArg (fun l : List IniW => l[i]?) e3
    simp only [List.getElem?_map, List.getElem?_eq_getElem hi, Option.map_some, ei] at e4
    exact Option.some.inj e4
def hookZ (n : Nat) (P : Program) (fa : List Fa) (fn : List DefD) (tf : List Defn) (fi : List IniD) (cks : List Ck) : PySem.W.Hook where
  α := AlZ
  obs := fun s => obsZ n P fa fn tf fi cks s.heap.get?
  val := fun _ => valZ fn fi
  says := fun _ h => ∃ K : Frag, K.In h ∧ SaysZ P fa fn tf fi cks h K
  of := fun _ _ e => ⟨_, He.frT_in, saysZ_of e⟩
  keeps := fun _ _ _ ⟨K, hK, c⟩ k => ⟨K, PySem.W.Frag.In.keeps hK k, ⟨c.d, c.ck, c.hd, c.out, fun p hp => k _ _ (c.empty p hp), c.ini⟩⟩
theorem obsZ_eq {n : Nat} {P : Program} {fa : List Fa} {fn : List DefD} {tf : List Defn} {fi : List IniD} {cks : List Ck} {g : Addr → Option Obj} {s : Shared} (h : ∀ a, g a = s.heap.get? a) : obsZ n P fa fn tf fi cks g = (hookZ n P fa fn tf fi cks).obs s := by
  have e : g = s.heap.get? := funext h
  rw [e] <;> rfl
end Z

set_option Elab.async false
set_option linter.all false
set_option maxRecDepth 100000
set_option maxHeartbeats 1000000
/-! # T: steps that are read off the values -/
namespace Z
open PySem PySem.Spec PyProof.Rows L2 LamX

/-- the built-ins' names -/
def blts : List Str := ["len", "range", "int", "abs", "repr", "sorted", "list", "tuple", "isinstance", "max", "min", "sum", "enumerate", "zip", "bool", "str", "super", "dict", "set", "all", "any", "type", "reversed"]
/-- names that the module does not bind -/
structure Bs (W : Wd) (l : List Str) : Prop where
  no : ∀ x ∈ l, W.mg x = none
theorem Bd.cal {W : Wd} {N : List Str} {qual : Str} {sc : Scope} {cd : Value} {k : Nat} {ω0 : List O} {E : XD → List O → Prop} {Y : Cy} (B : Bd W N qual sc cd k ω0 E Y) : Cal W k Y := ⟨B.inn, B.room, B.gds, B.rz⟩
section
variable {ω : List O} {Q : QS} {i j : Int} {K : PySem.W.Frag}
/-! ### operators on integers -/
theorem b_add (q : Q (.d (.int (i + j))) ω) : bopS .Add (.d (.int i)) (.d (.int j)) ω Q := ⟨q⟩
theorem b_addB {b : Bool} (q : Q (.d (.int (i + b2i b))) ω) : bopS .Add (.d (.int i)) (.d (.bool b)) ω Q := ⟨q⟩
theorem b_sub (q : Q (.d (.int (i - j))) ω) : bopS .Sub (.d (.int i)) (.d (.int j)) ω Q := ⟨q⟩
theorem b_mul (h : CMulX i j) (q : Q (.d (.int (i * j))) ω) : bopS .Mult (.d (.int i)) (.d (.int j)) ω Q := ⟨⟨h, q⟩⟩
theorem b_div (h : CDivW i j) (q : Q (.d (.int (i / j))) ω) : bopS .FloorDiv (.d (.int i)) (.d (.int j)) ω Q := ⟨⟨h, q⟩⟩
theorem b_mod (h : 0 < j) (q : Q (.d (.int (i % j))) ω) : bopS .Mod (.d (.int i)) (.d (.int j)) ω Q := ⟨⟨h, q⟩⟩
theorem b_pow (h : CPow i j) (q : Q (.d (.int (i ^ j.toNat))) ω) : bopS .Pow (.d (.int i)) (.d (.int j)) ω Q := ⟨⟨h, q⟩⟩
theorem b_shl (h : CShl i j) (q : Q (.d (.int (i * 2 ^ j.toNat))) ω) : bopS .LShift (.d (.int i)) (.d (.int j)) ω Q := ⟨⟨h, q⟩⟩
theorem b_shr (h : 0 ≤ j) (q : Q (.d (.int (i / 2 ^ j.toNat))) ω) : bopS .RShift (.d (.int i)) (.d (.int j)) ω Q := ⟨⟨h, q⟩⟩
theorem b_and (q : Q (.d (.int (Builtin.bitAnd i j))) ω) : bopS .BitAnd (.d (.int i)) (.d (.int j)) ω Q := ⟨q⟩
theorem b_or (q : Q (.d (.int (Builtin.bitOr i j))) ω) : bopS .BitOr (.d (.int i)) (.d (.int j)) ω Q := ⟨q⟩
theorem b_xor (q : Q (.d (.int (Builtin.bitXor i j))) ω) : bopS .BitXor (.d (.int i)) (.d (.int j)) ω Q := ⟨q⟩
theorem b_str {a b : Str} (h : a.length + b.length ≤ sizeLine) (q : Q (.d (.str (a ++ b))) ω) : bopS .Add (.d (.str a)) (.d (.str b)) ω Q := ⟨⟨h, q⟩⟩
theorem b_cat {s t : S} {a b : List D} (hs : vw ω s = some (.list a)) (ht : vw ω t = some (.list b)) (q : newL (a ++ b) ω Q) : bopS .Add s t ω Q := by refine ⟨?_⟩; unfold bopS0; rw [hs, ht]; exact q
theorem b_rep {s : S} {a : List D} {k : Int} (hs : vw ω s = some (.list a)) (h : k < 2 ^ 63 ∧ -(2 ^ 63) ≤ k) (q : newL (List.replicate k.toNat a).flatten ω Q) : bopS .Mult s (.d (.int k)) ω Q := by
  refine ⟨?_⟩; unfold bopS0; rw [hs]; exact ⟨h, q⟩
theorem u_neg (q : Q (.d (.int (-i))) ω) : unS .USub (.d (.int i)) ω Q := ⟨q⟩
/-! ### comparisons -/
variable {B : QB} {s t : S} {d e : D}
theorem c_lt (q : B (decide (i < j))) : cmpS .Lt (.d (.int i)) (.d (.int j)) ω B := ⟨q⟩
theorem c_le (q : B (decide (i ≤ j))) : cmpS .LtE (.d (.int i)) (.d (.int j)) ω B := ⟨q⟩
theorem c_gt (q : B (decide (j < i))) : cmpS .Gt (.d (.int i)) (.d (.int j)) ω B := ⟨q⟩
theorem c_ge (q : B (decide (j ≤ i))) : cmpS .GtE (.d (.int i)) (.d (.int j)) ω B := ⟨q⟩
theorem c_eq (q : B (decide (i = j))) : cmpS .Eq (.d (.int i)) (.d (.int j)) ω B := ⟨q⟩
theorem c_ne (q : B (!decide (i = j))) : cmpS .NotEq (.d (.int i)) (.d (.int j)) ω B := ⟨q⟩
theorem c_eqS {a b : Str} (q : B (decide (a = b))) : cmpS .Eq (.d (.str a)) (.d (.str b)) ω B := ⟨q⟩
theorem c_neS {a b : Str} (q : B (!decide (a = b))) : cmpS .NotEq (.d (.str a)) (.d (.str b)) ω B := ⟨q⟩
theorem c_isN (hs : vw ω s = some d) (q : B (isND d)) : cmpS .Is s (.d .none) ω B := by
  refine ⟨?_⟩; unfold cmpS0; rw [hs]
  show cmpD .Is d .none B
  cases d <;> exact q
theorem c_notN (hs : vw ω s = some d) (q : B (!isND d)) : cmpS .IsNot s (.d .none) ω B := by
  refine ⟨?_⟩; unfold cmpS0; rw [hs]
  show cmpD .IsNot d .none B
  cases d <;> exact q
theorem c_isB {a b : Bool} (q : B (decide (a = b))) : cmpS .Is (.d (.bool a)) (.d (.bool b)) ω B := ⟨q⟩
theorem c_notB {a b : Bool} (q : B (!decide (a = b))) : cmpS .IsNot (.d (.bool a)) (.d (.bool b)) ω B := ⟨q⟩
theorem eqD_int : eqD (.int i) (.int j) = decide (i = j) := rfl
theorem c_eqD (hs : vw ω s = some d) (ht : vw ω t = some e) (h1 : okD d) (h2 : okD e) (q : B (eqD d e)) : cmpS .Eq s t ω B := by
  refine ⟨?_⟩; unfold cmpS0; rw [hs, ht]
  show cmpD .Eq d e B
  cases d <;> cases e <;> first | exact ⟨h1, h2, q⟩ | exact q
theorem c_neD (hs : vw ω s = some d) (ht : vw ω t = some e) (h1 : okD d) (h2 : okD e) (q : B (!eqD d e)) : cmpS .NotEq s t ω B := by
  refine ⟨?_⟩; unfold cmpS0; rw [hs, ht]
  show cmpD .NotEq d e B
  cases d <;> cases e <;> first | exact ⟨h1, h2, q⟩ | exact q
theorem c_in {xs : List D} (hs : vw ω s = some d) (ht : vw ω t = some (.list xs)) (h1 : okD d) (h2 : okD (.list xs)) (q : B (xs.any fun z => eqD z d)) : cmpS .In s t ω B := by
  refine ⟨?_⟩; unfold cmpS0; rw [hs, ht]
  show cmpD .In d (.list xs) B
  cases d <;> exact ⟨h1, h2, q⟩
theorem c_notIn {xs : List D} (hs : vw ω s = some d) (ht : vw ω t = some (.list xs)) (h1 : okD d) (h2 : okD (.list xs)) (q : B (!xs.any fun z => eqD z d)) : cmpS .NotIn s t ω B := by
  refine ⟨?_⟩; unfold cmpS0; rw [hs, ht]
  show cmpD .NotIn d (.list xs) B
  cases d <;> exact ⟨h1, h2, q⟩
/-! ### truth -/
theorem t_bool {b : Bool} (q : B b) : truS (.d (.bool b)) ω B := ⟨q⟩
theorem t_int (q : B (i != 0)) : truS (.d (.int i)) ω B := ⟨q⟩
theorem t_none (q : B false) : truS (.d .none) ω B := ⟨q⟩
theorem t_list {xs : List D} (hs : vw ω s = some (.list xs)) (q : B (!xs.isEmpty)) : truS s ω B := by refine ⟨?_⟩; unfold truS0; rw [hs]; exact q
theorem t_tup {xs : List D} (q : B (!xs.isEmpty)) : truS (.d (.tup xs)) ω B := ⟨q⟩
/-! ### if -/
theorem ite_t {A C : Prop} (h : A) : if true = true then A else C := h
theorem ite_f {A C : Prop} (h : C) : if false = true then A else C := h
theorem ite_d {p : Prop} [Decidable p] {A C : Prop} (h1 : p → A) (h2 : ¬ p → C) : if decide p = true then A else C := by
  by_cases hp : p
  · rw [if_pos (decide_eq_true hp)]; exact h1 hp
  · rw [if_neg (by simpa using hp)]; exact h2 hp
theorem ite_nd {p : Prop} [Decidable p] {A C : Prop} (h1 : ¬ p → A) (h2 : p → C) : if (!decide p) = true then A else C := by
  by_cases hp : p
  · rw [if_neg (by simpa using hp)]; exact h2 hp
  · rw [if_pos (by simpa using hp)]; exact h1 hp
theorem ite_b {b : Bool} {A C : Prop} (h1 : b = true → A) (h2 : b = false → C) : if b = true then A else C := by
  cases b
  · exact h2 rfl
  · exact h1 rfl
/-! ### items -/
theorem x_list {xs : List D} (hs : vw ω s = some (.list xs)) (h : atI xs i = some d) (q : Q (.d d) ω) : ixS s (.d (.int i)) ω Q := by
  refine ⟨?_⟩; unfold ixS0; rw [hs]; exact ⟨d, h, q⟩
theorem x_tup {xs : List D} (h : atI xs i = some d) (q : Q (.d d) ω) : ixS (.d (.tup xs)) (.d (.int i)) ω Q := ⟨⟨d, h, q⟩⟩
theorem p_list {k n : Nat} {xs : List D} {R : List O → Prop} (hk : ω[k]? = some (.lst xs)) (hj : ixN xs.length i = some n) (q : R (ω.set k (.lst (xs.set n d)))) : putS (.o k) (.d (.int i)) (.d d) ω R := by
  refine ⟨?_⟩; unfold putS0; simp only [hk]; exact (⟨n, hj, q⟩ : ∃ j, ixN xs.length i = some j ∧ R (ω.set k (.lst (xs.set j d))))
/-! ### isinstance -/
def tyL : List String := ["NoneType", "int", "bool", "str", "list", "tuple", "dict"]
def isiT (a t : String) : Bool := a == t || (a == "bool" && t == "int")
theorem kitB_all : (tyL.all fun a => tyL.all fun t => t == "NoneType" || kitB a t == some (isiT a t)) = true := by decide +kernel
theorem kit_tt {K : PySem.W.Frag} {a t : String} (ha : a ∈ tyL) (ht : t ∈ tyL) (hn : t ≠ "NoneType") : PySem.W.kitOne K (.type a) (.type t) = some (isiT a t) := by
  have h := List.all_eq_true.mp (List.all_eq_true.mp kitB_all a ha) t ht
  have hn' : (t == "NoneType") = false := by simpa using hn
  rw [hn', Bool.false_or] at h
  exact kit_ty (eq_of_beq h)
theorem tyD_cls {d : D} {a : String} (h : tyD d = some a) : clsD K d (.type a) := by
  cases d <;> first | (cases h; done) | (have h := Option.some.inj h; subst h; rfl)
theorem tyD_mem {d : D} {a : String} (h : tyD d = some a) : a ∈ tyL := by
  cases d <;> first | (cases h; done) | (have h := Option.some.inj h; subst h; decide)
theorem i_ty {a t : String} (h : tyD d = some a) (q : B (isiT a t)) (ht : t ∈ tyL := by decide) (hn : t ≠ "NoneType" := by decide) : isiS K (.d d) (.d (.ty t)) ω B := ⟨⟨.type a, tyD_cls h, .type t, isiT a t, rfl, kit_tt (tyD_mem h) ht hn, q⟩⟩
theorem i_tyO {k : Nat} {xs : List D} {t : String} (h : ω[k]? = some (.lst xs)) (q : B (isiT "list" t)) (ht : t ∈ tyL := by decide) (hn : t ≠ "NoneType" := by decide) : isiS K (.o k) (.d (.ty t)) ω B := ⟨⟨.type "list", by show clsS K ω (.o k) _; unfold clsS; simp only [h], .type t, isiT "list" t, rfl, kit_tt (by decide) ht hn, q⟩⟩
theorem kit_any {a : String} (ha : a ∈ tyL) : ∀ ts : List String, (∀ t ∈ ts, t ∈ tyL ∧ t ≠ "NoneType") → ∃ us, clsVs (ts.map D.ty) = some us ∧ PySem.W.kitAny K (.type a) us = some (ts.any fun t => isiT a t)
  | [], _ => ⟨[], rfl, rfl⟩
  | t :: r, h => by
    obtain ⟨us, h1, h2⟩ := kit_any ha r fun x hx => h x (by simp [hx])
    obtain ⟨ht, hn⟩ := h t (by simp)
    refine ⟨.type t :: us, ?_, ?_⟩
    · simp only [List.map_cons, clsVs, clsV, h1]
    · refine kitAny_cons (b := isiT a t) (kit_tt ha ht hn) (fun e => ?_) (fun e => ?_)
      · rw [h2]; simp [e]
      · simp [e]
theorem i_tup {a : String} {ts : List String} (h : tyD d = some a) (q : B (ts.any fun t => isiT a t)) (ht : ∀ t ∈ ts, t ∈ tyL ∧ t ≠ "NoneType" := by decide) : isiS K (.d d) (.d (.tup (ts.map D.ty))) ω B := by
  obtain ⟨us, h1, h2⟩ := kit_any (K := K) (tyD_mem h) ts ht
  exact ⟨⟨.type a, tyD_cls h, us, _, h1, h2, q⟩⟩
theorem i_exc {C C2 : Addr} {fs : List (Str × D)} {b : Bool} (hI : ExI K C) (hk : PySem.W.kitOne K (.ref C) (.ref C2) = some b) (q : B b) : isiS K (.d (.exc C fs)) (.d (.ref C2)) ω B := ⟨⟨.ref C, ⟨rfl, hI⟩, .ref C2, b, rfl, hk, q⟩⟩
theorem i_cls {C2 : Addr} {a : String} {b : Bool} (h : tyD d = some a) (hk : PySem.W.kitOne K (.type a) (.ref C2) = some b) (q : B b) : isiS K (.d d) (.d (.ref C2)) ω B := ⟨⟨.type a, tyD_cls h, .ref C2, b, rfl, hk, q⟩⟩
end
/-! ### type names, the end of a body -/
section
variable {Y : Cy} {τ : Tau} {ω : List O} {Q : QS} {pos : Pos}
theorem bt_int : bootBuiltins "int" = some (.type "int") := by decide +kernel
theorem bt_bool : bootBuiltins "bool" = some (.type "bool") := by decide +kernel
theorem bt_str : bootBuiltins "str" = some (.type "str") := by decide +kernel
theorem bt_list : bootBuiltins "list" = some (.type "list") := by decide +kernel
theorem bt_tuple : bootBuiltins "tuple" = some (.type "tuple") := by decide +kernel
theorem bt_dict : bootBuiltins "dict" = some (.type "dict") := by decide +kernel
theorem ty_int (hm : Y.X.mg "int" = none) (q : Q (.d (.ty "int")) ω) (hg : Gl Y.X "int" := by rfl) : WE Y (.Name "int" pos) τ ω Q := WE_ty hm q bt_int hg
theorem ty_bool (hm : Y.X.mg "bool" = none) (q : Q (.d (.ty "bool")) ω) (hg : Gl Y.X "bool" := by rfl) : WE Y (.Name "bool" pos) τ ω Q := WE_ty hm q bt_bool hg
theorem ty_str (hm : Y.X.mg "str" = none) (q : Q (.d (.ty "str")) ω) (hg : Gl Y.X "str" := by rfl) : WE Y (.Name "str" pos) τ ω Q := WE_ty hm q bt_str hg
theorem ty_list (hm : Y.X.mg "list" = none) (q : Q (.d (.ty "list")) ω) (hg : Gl Y.X "list" := by rfl) : WE Y (.Name "list" pos) τ ω Q := WE_ty hm q bt_list hg
theorem ty_tuple (hm : Y.X.mg "tuple" = none) (q : Q (.d (.ty "tuple")) ω) (hg : Gl Y.X "tuple" := by rfl) : WE Y (.Name "tuple" pos) τ ω Q := WE_ty hm q bt_tuple hg
theorem ty_dict (hm : Y.X.mg "dict" = none) (q : Q (.d (.ty "dict")) ω) (hg : Gl Y.X "dict" := by rfl) : WE Y (.Name "dict" pos) τ ω Q := WE_ty hm q bt_dict hg
theorem rt_d {x : D} (hb : Below ω.length ω) (q : Q (.d x) ω) : Rt ω.length Q (.d x) ω := ⟨⟨ω, List.prefix_refl _, Nat.le_refl _, trivial, hb, q⟩⟩
theorem rt_g {n : Nat} {s : S} {ω' ω1 : List O} (h1 : ω1 <+: ω') (hn : n ≤ ω1.length) (hs : inS ω1.length s) (hb : Below ω1.length ω1) (q : Q s ω1) : Rt n Q s ω' := ⟨⟨ω1, h1, hn, hs, hb, q⟩⟩
theorem rz_of {E : XD → List O → Prop} {x : XD} {n : Nat} {ω' ω1 : List O} (h1 : ω1 <+: ω') (hn : n ≤ ω1.length) (hb : Below ω1.length ω1) (q : E x ω1) : ∃ ω1, ω1 <+: ω' ∧ n ≤ ω1.length ∧ Below ω1.length ω1 ∧ E x ω1 := ⟨ω1, h1, hn, hb, q⟩
end
/-! ### checks that all laws have -/
def isI : D → Bool
  | .int _ => true
  | _ => false
theorem isI_eq {d : D} {a : String} (h : tyD d = some a) : isI d = (isiT a "int" && !isiT a "bool") := by
  cases d <;> first | (cases h; done) | (have h := Option.some.inj h; subst h; simp [isI, isiT])
/-- is_integer(value) -/
abbrev spIsI : Spc := fun ss ω Q E => ∃ d a, ss = [.d d] ∧ tyD d = some a ∧ Q (.d (.bool (isI d))) ω
def optD : Option Int → D
  | none => .none
  | some i => .int i
def lowB : Option Int → Int → Bool
  | none, _ => true
  | some l, i => decide (l ≤ i)
def topB : Option Int → Int → Bool
  | none, _ => true
  | some m, i => decide (i ≤ m)
def isW (d : D) (l m : Option Int) : Bool := match d with
  | .int i => lowB l i && topB m i
  | _ => false
/-- is_within(value, least, most) -/
abbrev spIsW : Spc := fun ss ω Q E => ∃ d a l m, ss = [.d d, .d (optD l), .d (optD m)] ∧ tyD d = some a ∧ Q (.d (.bool (isW d l m))) ω
/-! ### the row that draws -/
theorem mulS {i j : Int} (h1 : -1152921504606846976 < i) (h2 : i < 1152921504606846976) (h3 : -1152921504606846976 < j) (h4 : j < 1152921504606846976) : CMulX i j := mulx_ok (a := 60) (b := 60) (by omega) (by omega) (by decide)
theorem powS {i : Int} {j : Int} (h1 : -9223372036854775808 < i) (h2 : i < 9223372036854775808) (h3 : 0 ≤ j) (h4 : j ≤ 1000) : CPow i j := ⟨h3, by omega, by omega⟩
/-- so many bits are let for what is drawn below -/
def lots : Nat := 8000
theorem divS {i j : Int} (h : 0 < j) (hb : j < 2 ^ lots) : CDivW i j := wide_div (b := lots) h (by
  have e : ((2 : Int) ^ lots) = ((2 ^ lots : Nat) : Int) := (Int.natCast_pow 2 lots).symm
  rw [e] at hb
  omega) (by decide) (by decide)
theorem lots_small {j : Int} {n : Nat} (h : j < 2 ^ n) (hn : n ≤ 8000) : j < 2 ^ lots := by
  have e1 : ((2 : Int) ^ n) = ((2 ^ n : Nat) : Int) := (Int.natCast_pow 2 n).symm
  have e2 : ((2 : Int) ^ lots) = ((2 ^ lots : Nat) : Int) := (Int.natCast_pow 2 lots).symm
  have h3 : 2 ^ n ≤ 2 ^ lots := Nat.pow_le_pow_right (by decide) hn
  rw [e1] at h
  rw [e2]
  omega
theorem bits_le {n k : Nat} (h : n < 2 ^ k) : Builtin.Int.intBits (n : Int) ≤ k := by
  unfold Builtin.Int.intBits
  split
  · omega
  · rename_i e
    have hn : n ≠ 0 := by intro z; subst z; simp at e
    have : ((n : Int)).natAbs = n := by omega
    rw [this]
    have := (Nat.log2_lt hn).mpr h
    omega
theorem get_set {α : Type} {l : List α} {k : Nat} {x y : α} (h : l[k]? = some x) : (l.set k y)[k]? = some y := List.getElem?_set_self (List.getElem?_eq_some_iff.mp h).1
theorem below_lst {ω : List O} {k : Nat} {xs : List D} (h : Below ω.length ω) : Below (ω.set k (.lst xs)).length (ω.set k (.lst xs)) := h.set fun C fs e => by cases e
theorem rt_set {Q : QS} {ω : List O} {k : Nat} {xs : List D} {x : D} (hb : Below ω.length ω) (q : Q (.d x) (ω.set k (.lst xs))) : Rt ω.length Q (.d x) (ω.set k (.lst xs)) :=
  rt_g (List.prefix_refl _) (by simp) trivial (below_lst hb) q
def quay (ns : List Int) (t l : Int) : O := .lst [.list (ns.map D.int), .int t, .int l]
/-- draws from the row at k -/
abbrev spMoor : Spc := fun ss ω Q E => ∃ k ns t l many, ss = [.o k, .d (.int many)] ∧ ω[k]? = some (quay ns t l) ∧ (∀ z ∈ ns, Builtin.Int.intBits z ≤ 1048576) ∧ 0 ≤ t ∧ t < 1000000 ∧ 1 ≤ many ∧ many < 2 ^ lots ∧
  ∀ r t' l', 0 ≤ r → r < many → t ≤ t' → t' ≤ t + 1 → Q (.d (.int r)) (ω.set k (quay ns t' l'))
theorem vw_quay {ω : List O} {k : Nat} {ns : List Int} {t l : Int} (h : ω[k]? = some (quay ns t l)) : vw ω (.o k) = some (.list [.list (ns.map D.int), .int t, .int l]) := vwL h
/-- the row made of a script -/
abbrev spQuay : Spc := fun ss ω Q E => ∃ ns, ss = [.d (.scr ns)] ∧ ns.length ≤ 63 ∧ Q (.o ω.length) (ω ++ [quay (ns.take 60) 0 0])
theorem bits_abs {z : Int} {n : Nat} (h : Builtin.Int.intBits z ≤ n) : z.natAbs < 2 ^ n := by
  unfold Builtin.Int.intBits at h
  split at h
  · rename_i e
    have : z = 0 := by simpa using e
    subst this
    exact Nat.pos_of_ne_zero (by simp)
  · rename_i e
    have : z ≠ 0 := by simpa using e
    exact (Nat.log2_lt (by omega)).mp (by omega)
/-! ### comprehensions that leave the owned objects as they are -/
section
variable {Y : Cy} {tg elt : Expr} {scope : Scope} {vs : List Nat} {τ : Tau} {Q : QS} {n : Nat} {y : Nat → D} {keep : List O → Prop} {ω : List O}
theorem lc_map (f : Nat → D) (hb : Below ω.length ω) (hk : ∀ acc, keep (ω ++ [.lst acc])) (hn : n ≤ sizeLine)
    (step : ∀ i acc, i < n → ∀ s H C cl fp, WGv (blkY Y scope s H C cl fp) tg (.d (y i)) (wipeT τ vs) (ω ++ [.lst acc]) vs fun τ2 ω2 => ∀ s H C cl fp, WE (blkY Y scope s H C cl fp) elt τ2 ω2 fun u ω4 => u = .d (f i) ∧ ω4 = ω ++ [.lst acc])
    (fin : Q (.d (.list ((List.range n).map f))) ω) : LcD Y tg [] elt scope vs τ Q n y keep ω := by
  refine ⟨fun i acc ω' => acc = (List.range i).map f ∧ ω' = ω, ⟨rfl, rfl⟩, ?_, ?_, ?_⟩
  · rintro i acc ω' hi ⟨rfl, rfl⟩
    exact ⟨rfl, hb, hk _⟩
  · rintro i acc ω' hi ⟨rfl, rfl⟩ s H C cl fp
    refine .mk fun G as H' σ v b o l r => ?_
    refine (step i _ hi s H C cl fp G as H' σ v b o l r).mono fun σ' H2 ⟨e, g⟩ => ⟨e, g.mono fun _ _ ω2 _ _ _ ⟨τ2, l2, q⟩ => ⟨τ2, l2, fun s H C cl fp => WTs_nil (ite_t fun s H C cl fp => (q s H C cl fp).mono fun u ω4 ⟨e1, e2⟩ => ⟨f i, ω', e1, e2, ?_, ?_, rfl⟩)⟩⟩
    · rw [List.length_map, List.length_range]; omega
    · rw [List.range_succ, List.map_append]; rfl
  · rintro acc ω' ⟨rfl, rfl⟩
    exact .inl fin
end
theorem range_ints (xs : List Int) : (List.range xs.length).map (fun i => D.int (xs.getD i 0)) = xs.map D.int := by
  apply List.ext_getElem?
  intro i
  rw [List.getElem?_map, List.getElem?_map]
  by_cases h : i < xs.length
  · simp [h, List.getD_eq_getElem?_getD]
  · simp [h]
theorem map_getD {α : Type} (f : α → D) {xs : List α} {i : Nat} {a : α} (h : i < xs.length) : (xs.map f).getD i .none = f (xs.getD i a) := by
  simp [List.getD_eq_getElem?_getD, h]
theorem cut_take (xs : List D) (k : Nat) : cutD xs none (some (k : Int)) = xs.take k := by
  unfold cutD
  simp only [HT.sIx, List.drop_zero, Nat.sub_zero]
  have h : ¬ ((k : Int) < 0) := by omega
  simp only [h, if_false]
  by_cases hl : k ≤ xs.length
  · rw [show min (k : Int).toNat xs.length = k by omega]
  · rw [List.take_of_length_le (by omega), List.take_of_length_le (by omega)]
theorem push_lst {ω : List O} {xs : List D} (h : Below ω.length ω) : Below (ω ++ [O.lst xs]).length (ω ++ [O.lst xs]) := h.push fun C fs e => by cases e
theorem rt_new {Q : QS} {ω : List O} {xs : List D} (hb : Below ω.length ω) (q : Q (.o ω.length) (ω ++ [.lst xs])) : Rt ω.length Q (.o ω.length) (ω ++ [.lst xs]) :=
  rt_g (List.prefix_refl _) (by simp) (by show ω.length < _; simp) (push_lst hb) q
theorem sl_of {s : S} {d : D} {lo hi : Option Int} {ω : List O} {Q : QS} (hs : vw ω s = some d) (q : slD d lo hi ω Q) : slS s lo hi ω Q := by
  refine ⟨?_⟩; unfold slS0; rw [hs]; exact q
theorem wo_none {Y : Cy} {τ : Tau} {ω : List O} {Q : Option Int → List O → Prop} (q : Q none ω) : WO Y none τ ω Q := q
theorem wo_int {Y : Cy} {τ : Tau} {ω : List O} {Q : Option Int → List O → Prop} {e : Expr} (h : WE Y e τ ω fun s ω1 => ∃ i, s = .d (.int i) ∧ Q (some i) ω1) : WO Y (some e) τ ω Q := by
  show WE Y e τ ω _
  refine h.mono fun s ω1 ⟨i, e, q⟩ => ?_
  subst e; exact q
theorem small_le {n : Nat} (h : n ≤ 1000000) : n ≤ sizeLine := by rw [PySem.sizeLine_eq]; omega
theorem small_lt {n : Nat} (h : n < 1000000) : n < sizeLine := by rw [PySem.sizeLine_eq]; omega
section
variable {Y : Cy} {a b : Expr} {τ : Tau} {ω : List O} {Q : QS} {p pos : Pos}
theorem WE_intI (hm : Y.X.mg "int" = none) (h : WE Y a τ ω fun s ω1 => ∃ i, s = .d (.int i) ∧ Q (.d (.int i)) ω1) (hg : Gl Y.X "int" := by rfl)
    (he : starEach (a :: []) Y.X.env = (false, eval a Y.X.env) :: starEach [] Y.X.env := by rfl) : WE Y (.Call (.Name "int" p) [a] [] pos) τ ω Q :=
  WE_int1 hm (h.mono fun s ω1 ⟨i, e, q⟩ => by subst e; exact q) hg he
theorem WE_intB (hm : Y.X.mg "int" = none) (h : WE Y a τ ω fun s ω1 => ∃ b, s = .d (.bool b) ∧ Q (.d (.int (if b then 1 else 0))) ω1) (hg : Gl Y.X "int" := by rfl)
    (he : starEach (a :: []) Y.X.env = (false, eval a Y.X.env) :: starEach [] Y.X.env := by rfl) : WE Y (.Call (.Name "int" p) [a] [] pos) τ ω Q :=
  WE_int1 hm (h.mono fun s ω1 ⟨i, e, q⟩ => by subst e; exact q) hg he
theorem WE_lenL (hm : Y.X.mg "len" = none) (h : WE Y a τ ω fun s ω1 => ∃ xs, vw ω1 s = some (.list xs) ∧ Q (.d (.int (xs.length : Nat))) ω1) (hg : Gl Y.X "len" := by rfl)
    (he : starEach (a :: []) Y.X.env = (false, eval a Y.X.env) :: starEach [] Y.X.env := by rfl) : WE Y (.Call (.Name "len" p) [a] [] pos) τ ω Q :=
  WE_len hm (h.mono fun s ω1 ⟨xs, e, q⟩ => by rw [e]; exact ⟨fun ks z => (by cases z), q⟩) hg he
theorem WE_reprI (hm : Y.X.mg "repr" = none) (h : WE Y a τ ω fun s ω1 => ∃ i, s = .d (.int i) ∧ i.natAbs.log2 < 1920 ∧ Q (.d (.str (showD (.int i)))) ω1) (hg : Gl Y.X "repr" := by rfl)
    (he : starEach (a :: []) Y.X.env = (false, eval a Y.X.env) :: starEach [] Y.X.env := by rfl) : WE Y (.Call (.Name "repr" p) [a] [] pos) τ ω Q :=
  WE_callB hm (WA_one (P := fun d ω1 => ∃ i, d = .int i ∧ i.natAbs.log2 < 1920 ∧ Q (.d (.str (showD (.int i)))) ω1) (h.mono fun s ω1 ⟨i, e, q⟩ => by subst e; exact ⟨i, rfl, q⟩) he) (fun {G as H ω vs ss} _ o r ⟨s, d, e, hv, i, ed, hl, q⟩ => by
    subst e; subst ed
    obtain ⟨v, rfl, r1⟩ := r.one
    cases (vw_ok o r1 hv : Dat _ _ v (.int i))
    intro pins st σ us I ru
    obtain ⟨u, rfl, rv⟩ := vals1 ru
    obtain ⟨t, rfl⟩ := rv
    exact P.repr_of_int hl ⟨.str _, H, I.tok _, ⟨_, rfl⟩, fin_d o (.str _) q⟩) (hg := hg) (he := he)
end
theorem WB_seq {Y : Cy} {st : Stmt} {rest : List Stmt} {τ : Tau} {ω : List O} {D : En} (R : Tau → List O → Prop) (h : WS Y st τ ω { D with nx := R }) (k : ∀ τ' ω', R τ' ω' → WB Y rest τ' ω' D) : WB Y (st :: rest) τ ω D :=
  WB_cons (h.mono ⟨k, fun _ _ q => q, fun _ _ q => q, fun _ _ q => q⟩)
/-! ### plain data of a depth -/
structure okN (n : Nat) (d : D) : Prop where
  py : isPy d = true
  lay : (Z.py d).canLay0 = true
  dep : (Z.py d).depth ≤ n
theorem okN.ok {n : Nat} {d : D} (h : okN n d) (hn : n ≤ 64 := by decide) : okD d := ⟨h.py, by
  show ((Z.py d).canLay0 && decide ((Z.py d).depth ≤ 64)) = true
  rw [h.lay, Bool.true_and]
  exact decide_eq_true (Nat.le_trans h.dep hn)⟩
theorem okN.mono {n m : Nat} {d : D} (h : okN n d) (hn : n ≤ m) : okN m d := ⟨h.py, h.lay, Nat.le_trans h.dep hn⟩
theorem ok_none {n : Nat} : okN n .none := ⟨rfl, by decide, by show PyData.depth .none ≤ n; simp [PyData.depth]⟩
theorem ok_bool {n : Nat} {b : Bool} : okN n (.bool b) := ⟨rfl, by show PyData.canLay0 (.bool b) = true; simp [PyData.canLay0], by show PyData.depth (.bool b) ≤ n; simp [PyData.depth]⟩
theorem ok_int {n : Nat} {b : Int} : okN n (.int b) := ⟨rfl, by show PyData.canLay0 (.int b) = true; simp [PyData.canLay0], by show PyData.depth (.int b) ≤ n; simp [PyData.depth]⟩
theorem ok_all {n : Nat} : ∀ {xs : List D}, (∀ x ∈ xs, okN n x) → isPyL xs = true ∧ PyData.canLayAll0 (pyL xs) = true ∧ PyData.depthAll (pyL xs) ≤ n
  | [], _ => ⟨rfl, by show PyData.canLayAll0 [] = true; simp [PyData.canLayAll0], by show PyData.depthAll [] ≤ n; simp [PyData.depthAll]⟩
  | x :: r, h => by
    obtain ⟨h1, h2, h3⟩ := ok_all (xs := r) fun y hy => h y (by simp [hy])
    have hx := h x (by simp)
    refine ⟨?_, ?_, ?_⟩
    · show (isPy x && isPyL r) = true
      rw [hx.py, h1]; rfl
    · show PyData.canLayAll0 (Z.py x :: pyL r) = true
      simp only [PyData.canLayAll0, hx.lay, h2, Bool.and_self]
    · show PyData.depthAll (Z.py x :: pyL r) ≤ n
      simp only [PyData.depthAll]
      exact Nat.max_le.mpr ⟨hx.dep, h3⟩
theorem ok_list {n : Nat} {xs : List D} (h : ∀ x ∈ xs, okN n x) : okN (n + 1) (.list xs) := by
  obtain ⟨h1, h2, h3⟩ := ok_all h
  exact ⟨h1, by show PyData.canLay0 (.list (pyL xs)) = true; simpa only [PyData.canLay0] using h2, by show PyData.depth (.list (pyL xs)) ≤ n + 1; simp only [PyData.depth]; omega⟩
theorem ok_tup {n : Nat} {xs : List D} (h : ∀ x ∈ xs, okN n x) : okN (n + 1) (.tup xs) := by
  obtain ⟨h1, h2, h3⟩ := ok_all h
  exact ⟨h1, by show PyData.canLay0 (.tuple (pyL xs)) = true; simpa only [PyData.canLay0] using h2, by show PyData.depth (.tuple (pyL xs)) ≤ n + 1; simp only [PyData.depth]; omega⟩
theorem ok_ints {ns : List Int} : okN 1 (.list (ns.map D.int)) := ok_list fun x hx => by
  obtain ⟨i, _, rfl⟩ := List.mem_map.mp hx
  exact ok_int
theorem eqD_nil {xs : List D} : eqD (.list xs) (.list []) = xs.isEmpty := by
  cases xs with
  | nil => show PyData.eqv (.list []) (.list []) = true; simp [PyData.eqv, PyData.eqvAll]
  | cons x r => show PyData.eqv (.list (Z.py x :: pyL r)) (.list []) = false; simp [PyData.eqv, PyData.eqvAll]
theorem eqL_ints : ∀ {xs ys : List Int}, PyData.eqvAll (pyL (xs.map D.int)) (pyL (ys.map D.int)) = decide (xs = ys)
  | [], [] => by show PyData.eqvAll [] [] = _; simp [PyData.eqvAll]
  | [], y :: r => by show PyData.eqvAll [] (_ :: _) = _; simp [PyData.eqvAll]
  | x :: r, [] => by show PyData.eqvAll (_ :: _) [] = _; simp [PyData.eqvAll]
  | x :: r, y :: r' => by
    show PyData.eqvAll (.int x :: pyL (r.map D.int)) (.int y :: pyL (r'.map D.int)) = _
    simp only [PyData.eqvAll, PyData.eqv, eqL_ints (xs := r) (ys := r')]
    by_cases h : x = y <;> by_cases h2 : r = r' <;> simp [h, h2]
theorem eqD_ints {xs ys : List Int} : eqD (.list (xs.map D.int)) (.list (ys.map D.int)) = decide (xs = ys) := by
  show PyData.eqv (.list (pyL (xs.map D.int))) (.list (pyL (ys.map D.int))) = _
  simp only [PyData.eqv, eqL_ints]
theorem at_mod {xs : List Int} (t : Int) (h : 0 < xs.length) : ∃ z, atI (xs.map D.int) (t % (xs.length : Int)) = some (.int z) ∧ z ∈ xs := by
  have h1 := Int.emod_nonneg t (show (xs.length : Int) ≠ 0 by omega)
  have h2 := Int.emod_lt_of_pos t (show (0 : Int) < xs.length by omega)
  have h3 : (t % (xs.length : Int)).toNat < xs.length := by omega
  refine ⟨xs[(t % (xs.length : Int)).toNat], ?_, List.getElem_mem _⟩
  unfold atI ixN
  simp only [List.length_map, if_pos h1, if_pos h2, Option.bind_some, List.getElem?_map, List.getElem?_eq_getElem h3, Option.map_some]
theorem bits_int {z : Int} {k : Nat} (h1 : -(2 : Int) ^ 60 < z) (h2 : z < 2 ^ 60) (hk : 60 ≤ k := by decide) : Builtin.Int.intBits z ≤ k := by
  unfold Builtin.Int.intBits
  split
  · omega
  · rename_i e
    have hz : z ≠ 0 := by simpa using e
    have := (Nat.log2_lt (n := z.natAbs) (k := 60) (by omega)).mpr (by omega)
    omega
theorem far_abs {c : Int} {n m : Nat} (h : c.natAbs < 2 ^ n) (hn : 60 ≤ n) (hm : n + 1 ≤ m) : ((if c < 0 then -c else c) - 10 ^ Int.toNat 18).natAbs < 2 ^ m := by
  have e1 : (2 : Nat) ^ 60 ≤ 2 ^ n := Nat.pow_le_pow_right (by decide) hn
  have e2 : (2 : Nat) ^ (n + 1) ≤ 2 ^ m := Nat.pow_le_pow_right (by decide) hm
  have e3 : (2 : Nat) ^ (n + 1) = 2 * 2 ^ n := by rw [Nat.pow_succ]; omega
  have e4 : ((10 : Int) ^ Int.toNat 18) = 1000000000000000000 := by decide
  rw [e4]
  generalize 2 ^ n = N at *
  generalize 2 ^ m = M at *
  split <;> omega
theorem prod_lt {a b A B : Int} (h1 : 0 ≤ a) (h2 : a ≤ A) (h3 : 0 ≤ b) (h4 : b ≤ B) : 0 ≤ a * b ∧ a * b ≤ A * B :=
  ⟨Int.mul_nonneg h1 h3, Int.mul_le_mul h2 h4 h3 (by omega)⟩
/-- one of a list, drawn -/
abbrev spOne : Spc := fun ss ω Q E => ∃ k ns t l xs, ss = [.o k, .d (.list xs)] ∧ ω[k]? = some (quay ns t l) ∧ (∀ z ∈ ns, Builtin.Int.intBits z ≤ 1048576) ∧ 0 ≤ t ∧ t < 1000000 ∧ 1 ≤ xs.length ∧ xs.length < 1000000 ∧
  ∀ x t' l', x ∈ xs → t ≤ t' → t' ≤ t + 1 → Q (.d x) (ω.set k (quay ns t' l'))
theorem at_nat {xs : List D} {r : Int} (h1 : 0 ≤ r) (h2 : r < xs.length) : ∃ x, atI xs r = some x ∧ x ∈ xs := by
  have h3 : r.toNat < xs.length := by omega
  refine ⟨xs[r.toNat], ?_, List.getElem_mem _⟩
  unfold atI ixN
  simp only [if_pos h1, if_pos h2, Option.bind_some, List.getElem?_eq_getElem h3]
theorem million : (1000000 : Int) < 2 ^ lots := lots_small (n := 20) (by decide) (by decide)
theorem shl1 {b : Nat} (h : b ≤ 100000) : CShl 1 (b : Int) := shl_ok (n := 1) (by decide) (by omega)
theorem one_shl (b : Nat) : (1 : Int) * 2 ^ (b : Int).toNat = ((2 ^ b : Nat) : Int) := by
  rw [Int.one_mul, Int.toNat_natCast, Int.natCast_pow]
  rfl
theorem div_pow {b : Nat} (h : b < 8000) : CDivW i ((2 ^ b : Nat) : Int) := wide_div (b := b + 1) (by have : 0 < 2 ^ b := Nat.pow_pos (by decide); omega) (by rw [Int.natAbs_natCast]; exact Nat.pow_lt_pow_right (by decide) (by omega)) (by omega) (by omega)
theorem bit_is (w b : Nat) : decide (((w : Int) / ((2 ^ b : Nat) : Int)) % 2 = 1) = w.testBit b := by
  rw [Nat.testBit_eq_decide_div_mod_eq]
  have e : ((w : Int) / ((2 ^ b : Nat) : Int)) % 2 = ((w / 2 ^ b % 2 : Nat) : Int) := by omega
  rw [e]
  exact decide_eq_decide.mpr (by omega)
theorem c_neB {a b : Bool} {ω : List O} {B : QB} (q : B (a != b)) : cmpS .NotEq (.d (.bool a)) (.d (.bool b)) ω B :=
  c_neD rfl rfl (ok_bool (n := 0)).ok (ok_bool (n := 0)).ok (by
    have e : (!eqD (.bool a) (.bool b)) = (a != b) := by cases a <;> cases b <;> rfl
    rw [e]; exact q)
theorem c_eqB {a b : Bool} {ω : List O} {B : QB} (q : B (a == b)) : cmpS .Eq (.d (.bool a)) (.d (.bool b)) ω B :=
  c_eqD rfl rfl (ok_bool (n := 0)).ok (ok_bool (n := 0)).ok (by
    have e : eqD (.bool a) (.bool b) = (a == b) := by cases a <;> cases b <;> rfl
    rw [e]; exact q)
theorem c_neS1 {a : Str} {ω : List O} {B : QB} (q : B false) : cmpS .NotEq (.d (.str a)) (.d (.str a)) ω B := c_neS (by simpa using q)
theorem c_eqS1 {a : Str} {ω : List O} {B : QB} (q : B true) : cmpS .Eq (.d (.str a)) (.d (.str a)) ω B := c_eqS (by simpa using q)
theorem log_lt {n k : Nat} (h : n < 2 ^ k) (hk : k ≤ 1920) (h0 : 0 < k) : ((n : Int)).natAbs.log2 < 1920 := by
  rw [Int.natAbs_natCast]
  by_cases e : n = 0
  · subst e; decide
  · exact Nat.lt_of_lt_of_le ((Nat.log2_lt e).mpr h) hk
end Z

set_option Elab.async false
set_option linter.all false
set_option maxRecDepth 100000
set_option maxHeartbeats 1000000
/-! # V: list(range(n)), lambdas that came in -/
namespace Z
open PySem PySem.Spec PyProof.Rows L2 LamX
section
variable {W : Wd} {Y : Cy} {τ : Tau} {ω : List O} {a : Expr} {p pos p2 pos2 : Pos}
theorem rgV0 (n : Nat) : rgV 0 (n : Int) = ((List.range n).map fun i : Nat => (i : Int)).map V.int := by
  unfold rgV
  rw [List.map_map]
  simp
theorem WE_listRg {Q : QS} (hm : Y.X.mg "list" = none) (hr : Y.X.mg "range" = none) (calm : Y.X.calm = true)
    (h : WE Y a τ ω fun s ω1 => ∃ n : Nat, s = .d (.int n) ∧ n ≤ 16777216 ∧ newL (((List.range n).map fun i : Nat => (i : Int)).map D.int) ω1 Q) (hg : Gl Y.X "list" := by rfl) (hg2 : Gl Y.X "range" := by rfl)
    (hs1 : starEach [a] Y.X.env = (false, eval a Y.X.env) :: starEach [] Y.X.env := by rfl)
    (hs2 : starEach [.Call (.Name "range" p2) [a] [] pos2] Y.X.env = (false, eval (.Call (.Name "range" p2) [a] [] pos2) Y.X.env) :: starEach [] Y.X.env := by rfl) :
    WE Y (.Call (.Name "list" p) [.Call (.Name "range" p2) [a] [] pos2] [] pos) τ ω Q := .mk fun G as H σ b0 o l =>
  wE_of (pe_listRg calm hg hm (prg_1 hg2 hr pe_w hs1) hs2) ((h G as H σ b0 o l).mono fun x H1 ⟨G1, as1, ω1, g1, p1, o1, s, r, n, e, hn, q⟩ => by
    subst e; cases r
    refine ⟨_, rfl, RgOk.of_le (by decide) (by omega) (by decide) (by omega), fun q' hq => Go.back g1 p1 (fin_newL o1 hq ?_ q)⟩
    rw [rgV0]
    exact DatL.ints _)
/-- x() in a try -/
theorem WE_askT (i : Nat) {N : List Str} {qual : Str} {sc : Scope} {cdv : Value} {f : Addr} {A : Around} {outer : List Env} {s : Shared} {H : Hp} {E : XK} {G G2 : Hp} {as as2 : List Addr} {rz rz2 : XD → Tau → List O → Prop} {pn : List (Addr × Obj)} {xe : Value → Shared → Prop}
    {k j : Nat} {fl : Addr} {spc : Thk} {x : Str} {p1 p2 : Pos} {Q : QS} (act : ActD W j fl outer s H G as spc) (bs : Base (bdY W N qual sc f cdv A outer s H E G as rz) G2 as2)
    (c : Cal W k (trY (bdY W N qual sc f cdv A outer s H E G as rz) pn xe G2 as2 rz2)) (hj : j ≤ k) (h : spc ω Q fun y ω2 => rz2 y τ ω2) (hi : τ[i]? = some (some (.d (.ref fl))) := by rfl) (hN : N[i]? = some x := by rfl) (hv : Vis sc x := by first | exact Or.inl rfl | exact Or.inr (Or.inl rfl) | exact Or.inr (Or.inr rfl))
    (hd : (x == ("__debug__" : Str)) = false := by decide) (hcd : (x == ("__classdict__" : Str)) = false := by decide) : WE (trY (bdY W N qual sc f cdv A outer s H E G as rz) pn xe G2 as2 rz2) (.Call (.Name x p1) [] [] p2) τ ω Q :=
  WE_ask (Y := trY (bdY W N qual sc f cdv A outer s H E G as rz) pn xe G2 as2 rz2) i act c hj rfl (fun G3 as3 b => ⟨bs.1.trans b.1, bs.2.trans b.2⟩) h (hi := hi) (hN := hN) (hv := hv) (hd := hd) (hcd := hcd)
end
end Z

set_option Elab.async false
set_option linter.all false
set_option maxRecDepth 100000
set_option maxHeartbeats 1000000
/-! # W: more rules (filters, reversed slices, pop(i), index, bits) -/
namespace Z
open PySem PySem.Spec PyProof.Rows L2 LamX
section
variable {Y : Cy} {tg elt c : Expr} {scope : Scope} {vs : List Nat} {τ : Tau} {Q : QS} {n : Nat} {y : Nat → D} {keep : List O → Prop} {ω : List O}
theorem lc_filter (f : Nat → D) (p : Nat → Bool) (hb : Below ω.length ω) (hk : ∀ acc, keep (ω ++ [.lst acc])) (hn : n ≤ sizeLine)
    (step : ∀ i acc, i < n → ∀ s H C cl fp, WGv (blkY Y scope s H C cl fp) tg (.d (y i)) (wipeT τ vs) (ω ++ [.lst acc]) vs fun τ2 ω2 => ∀ s H C cl fp, WT (blkY Y scope s H C cl fp) c τ2 ω2 fun b ω3 => b = p i ∧ ω3 = ω ++ [.lst acc] ∧ ∀ s H C cl fp, WE (blkY Y scope s H C cl fp) elt τ2 ω3 fun u ω4 => u = .d (f i) ∧ ω4 = ω ++ [.lst acc])
    (fin : newL (((List.range n).filter p).map f) ω Q) : LcD Y tg [c] elt scope vs τ Q n y keep ω := by
  refine ⟨fun i acc ω' => acc = ((List.range i).filter p).map f ∧ ω' = ω, ⟨rfl, rfl⟩, ?_, ?_, ?_⟩
  · rintro i acc ω' hi ⟨rfl, rfl⟩
    exact ⟨rfl, hb, hk _⟩
  · rintro i acc ω' hi ⟨rfl, rfl⟩ s H C cl fp
    refine .mk fun G as H' σ v b o l r => ?_
    refine (step i _ hi s H C cl fp G as H' σ v b o l r).mono fun σ' H2 ⟨e, g⟩ => ⟨e, g.mono fun _ _ ω2 _ _ _ ⟨τ2, l2, q⟩ => ⟨τ2, l2, fun s H C cl fp => WTs_one ((q s H C cl fp).mono fun b ω3 ⟨e1, e2, q3⟩ => ?_)⟩⟩
    have hr : (List.range (i + 1)).filter p = (List.range i).filter p ++ if p i = true then [i] else [] := by
      rw [List.range_succ, List.filter_append]
      congr 1
      by_cases h : p i = true <;> simp [h]
    subst e1
    by_cases h : p i = true
    · rw [if_pos h]
      intro s H C cl fp
      refine (q3 s H C cl fp).mono fun u ω4 ⟨e4, e5⟩ => ⟨f i, ω', e4, e5, ?_, ?_, rfl⟩
      · rw [List.length_map]
        have := List.length_filter_le p (List.range i)
        rw [List.length_range] at this
        omega
      · rw [hr, if_pos h, List.map_append]; rfl
    · rw [if_neg h]
      exact ⟨ω', e2, by rw [hr, if_neg h, List.append_nil], rfl⟩
  · rintro acc ω' ⟨rfl, rfl⟩
    exact fin.2
end
theorem DatL.eraseIdx {K : PySem.W.Frag} {G : Hp} : ∀ {vs : List V} {ds : List D}, DatL K G vs ds → ∀ (i : Nat), DatL K G (vs.eraseIdx i) (ds.eraseIdx i)
  | _, _, .nil, _ => .nil
  | _, _, .cons _ rs, 0 => rs
  | _, _, .cons r rs, i + 1 => .cons r (rs.eraseIdx i)
theorem DatL.bools' {K : PySem.W.Frag} {G : Hp} : ∀ {vs : List V} {bs : List Bool}, DatL K G vs (bs.map D.bool) → vs = bs.map V.bl
  | _, [], .nil => rfl
  | _, _ :: _, .cons (.bool _) rs => by rw [rs.bools']; rfl
section
variable {Y : Cy} {τ : Tau} {ω : List O} {a e : Expr} {p p1 p2 p3 pos apos : Pos}
theorem WE_rev {Q : QS} {k : Nat} (h : WE Y a τ ω fun s ω1 => ∃ xs, vw ω1 s = some (.list xs) ∧ newL xs.reverse ω1 Q) : WE Y (.Subscript a (.Slice none none (some (.UnaryOp .USub (.Constant (.int 1) k p1) p2)) p3) pos) τ ω Q := .mk fun G as H σ b0 o l =>
  wE_of (pe_revL pe_w) ((h G as H σ b0 o l).mono fun x H1 ⟨G1, as1, ω1, g1, p1', o1, s, r, xs, e, q⟩ => by
    obtain ⟨ad, vs, rfl, h1, h2⟩ := (vw_ok o1 r e : Vw _ _ _ x (.list xs))
    exact ⟨ad, vs, rfl, SqL.of h1, fun p hp => Go.back g1 p1' (fin_newL o1 hp (DatL.reverse h2) q)⟩)
/-- xs.pop(i), the list an own one -/
theorem WE_popAt {Q : QS} (h : WE Y a τ ω fun s ω1 => ∃ k, s = .o k ∧ (∃ xs, ω1[k]? = some (.lst xs)) ∧ WE Y e τ ω1 fun t ω2 => ∃ xs x, ∃ i : Nat, ω2[k]? = some (.lst xs) ∧ t = .d (.int i) ∧ xs[i]? = some x ∧ i < 2 ^ 62 ∧ Q (.d x) (ω2.set k (.lst (xs.eraseIdx i))))
    (hbase : attributeBase a "pop" Y.X.env (eval a Y.X.env) = eval a Y.X.env := by rfl)
    (hfew : ((backTo pos (starEach [e] Y.X.env)).all (fun x => !x.1) && (backToKw pos (keywordEach [] Y.X.env)).all (fun x => x.1.isSome) && decide (([e] : List Expr).length + ([] : List Keyword).length + (if ([] : List Keyword).isEmpty then 0 else 1) < 30)) = true := by rfl)
    (hline : (apos.endLine == pos.line) = true := by rfl) (hs : starEach [e] Y.X.env = (false, eval e Y.X.env) :: starEach [] Y.X.env := by rfl) (hplain : (backTo pos (starEach [] Y.X.env)).any (·.1) = false := by rfl) :
    WE Y (.Call (.Attribute a "pop" apos) [e] [] pos) τ ω Q := .mk fun G as H σ b o l => by
  refine wE_of (pe_bm PySem.F.plainAttrs_list PySem.F.slot_list_pop PySem.F.type_list_pop mt_popAt pe_w pa_w hbase hfew hline hs hplain) ?_
  refine (h G as H σ b o l).mono fun x H1 ⟨G1, as1, ω1, g1, p1, o1, s, r, k, es, ⟨xs0, hk0⟩, q⟩ => ?_
  subst es
  obtain ⟨ad, ha, rfl⟩ := r
  obtain ⟨vs0, e0, _⟩ := o1.own k ad _ ha hk0
  refine ⟨.inl ⟨rfl, vs0, SqL.of e0⟩, ?_⟩
  have hA : WA Y [e] τ ω1 fun ss ω2 => ∃ xs x, ∃ i : Nat, ss = [.d (.int i)] ∧ ω2[k]? = some (.lst xs) ∧ xs[i]? = some x ∧ i < 2 ^ 62 ∧ Q (.d x) (ω2.set k (.lst (xs.eraseIdx i))) := WA_cons (q.mono fun t ω2 ⟨xs, x, i, h1, h2, h3, h4, h5⟩ => WA_nil ⟨xs, x, i, by rw [h2], h1, h3, h4, h5⟩) hs
  refine (hA G1 as1 H1 σ (b.go g1 p1) o1 (l.mono g1 p1)).mono fun vs H2 ⟨G2, as2, ω2, g2, p2, o2, ss, r2, xs, x, i, es, hk, hx, hi, q2⟩ => ?_
  subst es
  obtain ⟨v, rfl, r3⟩ := r2.one
  have r4 : Dat Y.X.K G2 v (.int i) := r3
  cases r4
  have ha2 := pre_get p2 ha
  obtain ⟨vs1, e1, f1⟩ := o2.own k ad _ ha2 hk
  have hl := f1.length
  obtain ⟨hlt, -⟩ := List.getElem?_eq_some_iff.mp hx
  obtain ⟨w, hw⟩ : ∃ w, vs1[i]? = some w := ⟨_, List.getElem?_eq_getElem (by rw [hl]; exact hlt)⟩
  have rd : Dat Y.X.K G2 w x := by
    have := getD_dat f1 (i := i) (x := w) hlt hw
    rw [List.getD_eq_getElem?_getD, hx] at this
    exact this
  refine ⟨ad, vs1, i, i, w, rfl, rfl, e1, by omega, by omega, ?_, hw, ?_⟩
  · unfold seqIndex?
    rw [hl]
    simp
    omega
  · exact Go.back (g1.trans g2) (p1.trans p2) (fin_d (o2.upd ha2 hk (by intro z; cases z) (o' := .lst (xs.eraseIdx i)) ⟨_, upd_same, DatL.eraseIdx f1 i⟩) rd q2)
/-- xs.index(b), xs truths -/
theorem WE_indexB {Q : QS} (h : WE Y a τ ω fun s ω1 => ∃ bs : List Bool, vw ω1 s = some (.list (bs.map D.bool)) ∧ WE Y e τ ω1 fun t ω2 => vw ω2 s = some (.list (bs.map D.bool)) ∧ ∃ y j, t = .d (.bool y) ∧ bs[j]? = some y ∧ (∀ m, m < j → bs[m]? ≠ some y) ∧ Q (.d (.int (j : Nat))) ω2)
    (hbase : attributeBase a "index" Y.X.env (eval a Y.X.env) = eval a Y.X.env := by rfl)
    (hfew : ((backTo pos (starEach [e] Y.X.env)).all (fun x => !x.1) && (backToKw pos (keywordEach [] Y.X.env)).all (fun x => x.1.isSome) && decide (([e] : List Expr).length + ([] : List Keyword).length + (if ([] : List Keyword).isEmpty then 0 else 1) < 30)) = true := by rfl)
    (hline : (apos.endLine == pos.line) = true := by rfl) (hs : starEach [e] Y.X.env = (false, eval e Y.X.env) :: starEach [] Y.X.env := by rfl) (hplain : (backTo pos (starEach [] Y.X.env)).any (·.1) = false := by rfl) :
    WE Y (.Call (.Attribute a "index" apos) [e] [] pos) τ ω Q := .mk fun G as H σ b o l => by
  refine wE_of (pe_bm PySem.F.plainAttrs_list PySem.F.slot_list_index PySem.F.type_list_index mt_index pe_w pa_w hbase hfew hline hs hplain) ?_
  refine (h G as H σ b o l).mono fun x H1 ⟨G1, as1, ω1, g1, p1, o1, s, r, bs, es, q⟩ => ?_
  obtain ⟨ad, vs0, rfl, h0, _⟩ := (vw_ok o1 r es : Vw _ _ _ x (.list (bs.map D.bool)))
  refine ⟨.inl ⟨rfl, vs0, SqL.of h0⟩, ?_⟩
  have hA : WA Y [e] τ ω1 fun ss ω2 => vw ω2 s = some (.list (bs.map D.bool)) ∧ ∃ y j, ss = [.d (.bool y)] ∧ bs[j]? = some y ∧ (∀ m, m < j → bs[m]? ≠ some y) ∧ Q (.d (.int (j : Nat))) ω2 := WA_cons (q.mono fun t ω2 ⟨h1, y, j, h2, h3, h4, h5⟩ => WA_nil ⟨h1, y, j, by rw [h2], h3, h4, h5⟩) hs
  refine (hA G1 as1 H1 σ (b.go g1 p1) o1 (l.mono g1 p1)).mono fun vs H2 ⟨G2, as2, ω2, g2, p2, o2, ss, r2, hv2, y, j, es2, hy, hno, q2⟩ => ?_
  subst es2
  obtain ⟨v, rfl, r3⟩ := r2.one
  have r4 : Dat Y.X.K G2 v (.bool y) := r3
  cases r4
  obtain ⟨ad2, vs1, ead, e1, f1⟩ := (vw_ok o2 (r.mono g2 p2) hv2 : Vw _ _ _ (V.ref ad) (.list (bs.map D.bool)))
  cases ead
  have ev := f1.bools'
  subst ev
  refine ⟨ad, _, .bl y, j, .bl y, rfl, rfl, SqL.of e1, rfl, ?_, by rw [List.getElem?_map, hy]; rfl, by simp [eqV], ?_, Go.back (g1.trans g2) (p1.trans p2) (fin_d o2 (.int _) q2)⟩
  · simp [flatV]
  · intro m z' hm hz
    rw [List.getElem?_map] at hz
    cases e3 : bs[m]? with
    | none => rw [e3] at hz; cases hz
    | some w =>
      rw [e3] at hz
      cases hz
      have := hno m hm
      rw [e3] at this
      cases w <;> cases y <;> simp_all [eqV]
end
theorem set_last {ω : List O} {x y : O} : (ω ++ [x]).set ω.length y = ω ++ [y] := by simp
theorem get_last {ω : List O} {x : O} : (ω ++ [x])[ω.length]? = some x := by simp
theorem shlN {a b : Nat} : (a : Int) * 2 ^ (b : Int).toNat = ((a * 2 ^ b : Nat) : Int) := by
  rw [Int.toNat_natCast, Int.natCast_mul, Int.natCast_pow]; rfl
theorem ok_str {n : Nat} {b : Str} (h : PyData.strOk b = true) : okN n (.str b) := ⟨rfl, by show PyData.canLay0 (.str b) = true; simpa [PyData.canLay0] using h, by show PyData.depth (.str b) ≤ n; simp [PyData.depth]⟩
/-! ### bits -/
theorem xorInt {a b : Nat} : Builtin.bitXor (a : Int) (b : Int) = ((a ^^^ b : Nat) : Int) := by
  rw [Bits.bitXor_pp (Int.natCast_nonneg a) (Int.natCast_nonneg b)]
  rfl
theorem andInt2 {a b : Nat} : Builtin.bitAnd (a : Int) (b : Int) = ((a &&& b : Nat) : Int) := by
  rw [PyProof.Rows.bitAnd_pp (Int.natCast_nonneg a) (Int.natCast_nonneg b)]
  rfl
theorem andInt {a : Nat} : Builtin.bitAnd (a : Int) 1 = ((a % 2 : Nat) : Int) := by
  have := PyProof.Rows.bitAnd_pp (Int.natCast_nonneg a) (Int.natCast_nonneg 1)
  rw [show ((1 : Nat) : Int) = 1 from rfl] at this
  rw [this, ← Nat.and_one_is_mod]
  rfl
theorem divInt {a k : Nat} : (a : Int) / 2 ^ k = ((a / 2 ^ k : Nat) : Int) := by exact_mod_cast rfl
abbrev bl (n : Nat) : Nat := Builtin.Int.intBits (n : Int)
theorem lt_bl (n : Nat) : n < 2 ^ bl n := by
  have := bits_abs (z := (n : Int)) (Nat.le_refl _)
  simpa using this
theorem bit_shift (w b : Nat) : decide (((w / 2 ^ b % 2 : Nat) : Int) = 1) = w.testBit b := by
  rw [Nat.testBit_eq_decide_div_mod_eq]
  exact decide_eq_decide.mpr (by omega)
def wid : Nat := 60000
/-- is_one(word, bit) -/
abbrev spOneAt : Spc := fun ss ω Q E => ∃ w b : Nat, ss = [.d (.int w), .d (.int b)] ∧ Q (.d (.bool (w.testBit b))) ω
/-- bits_in(word) -/
abbrev bitsD (w : Nat) : List D := ((List.range (bl w)).filter w.testBit).map fun i : Nat => .int (i : Int)
abbrev spBits : Spc := fun ss ω Q E => ∃ w : Nat, ss = [.d (.int w)] ∧ w < 2 ^ wid ∧ Q (.d (.tup (bitsD w))) ω
theorem isW_of {p : Nat} : isW (.int p) (some 0) none = true := by
  show (decide ((0 : Int) ≤ p) && true) = true
  simp
theorem isW_nat {d : D} (h : isW d (some 0) none = true) : ∃ p : Nat, d = .int p := by
  cases d with
  | int i =>
    have h : (decide (0 ≤ i) && true) = true := h
    have h : 0 ≤ i := by simpa using h
    exact ⟨i.toNat, by rw [Int.toNat_of_nonneg h]⟩
  | _ => cases h
theorem isW_to {p m : Nat} : isW (.int p) (some 0) (some (m : Int)) = decide (p ≤ m) := by
  show (decide ((0 : Int) ≤ p) && decide ((p : Int) ≤ m)) = _
  simp
abbrev spNeedW (W : Wd) : Spc := fun ss ω Q E => ∃ d a part, ss = [.d d, .d (.str part)] ∧ tyD d = some a ∧ (isW d (some 0) none = true → Q (.d .none) ω) ∧ (isW d (some 0) none = false → E ⟨He.ga W.K "BadWord", [("part", .str part)]⟩ ω)
end Z

set_option Elab.async false
set_option linter.all false
set_option maxRecDepth 100000
set_option maxHeartbeats 1000000
/-! # Y: all and any, sorted tuples, how many unlike ones -/
namespace SrtO
open PySem PyProof.Rows Srt
section
variable {prog : Program} {w : World} {A : Around} {E : Value → Shared → Prop} {s : Shared}
theorem gather_tup {c : Addr} {us : List Value} {P : List Value → Shared → Prop} (ht : s.heap.IsTuple c us.toArray) (hn : us.length ≤ sizeLine)
    (q : P us { s with heap := (s.heap.push (seqObj "list" #[] 0)).update s.heap.objs.size (Obj.mapSeq (· ++ us.toArray)) }) : wpAny (model prog w) A (collect (.ref c)) P E s := by
  obtain ⟨ob, h1, h2, m, h3⟩ := id ht
  unfold collect
  refine wpAny_bind (wpAny_runValue (codeAny_builtin entry_proto_collect' ?_))
  show wpAny _ _ (do
    again (.builtin "list.__iadd__" ⟨[← newList [], .ref c], []⟩)) _ _ s
  refine wpAny_bind (wpAny_newList (wpAny_pure ⟨Code.quiet_builtin _ (by decide +kernel),
    codeAny_builtin entry_list_iadd' ?_⟩))
  show wpAny _ _ (Builtin.List.listExtendWith (.ref s.heap.objs.size)
    (.ref c) (.ref s.heap.objs.size)) _ _ { s with heap := s.heap.push (seqObj "list" #[] 0) }
  unfold Builtin.List.listExtendWith
  have h4 : (s.heap.push (seqObj "list" #[] 0)).get? c = some ob := Heap.get?_push_of_some _ h1
  refine wpAny_bind (wpAny_typeOf (T := "tuple") ⟨ob, h4, h2⟩ ?_)
  have tt : (Value.type "tuple" == Value.type "tuple") = true := by rfl
  rw [if_pos (by rw [tt]; simp)]
  refine wpAny_bind (listItems_at h4 h3 ?_)
  have h5 : (s.heap.push (seqObj "list" #[] 0)).get? s.heap.objs.size = some (seqObj "list" #[] 0) := Heap.get?_push_size _ rfl
  refine wpAny_bind (listItems_at h5 rfl ?_)
  rw [if_neg (by simp)]
  refine wpAny_bind (listUpdate_at h5 rfl ?_ (Nat.zero_le _)
    (by show (#[] ++ us.toArray).size ≤ sizeLine + 1; simp only [Array.size_append, List.size_toArray, List.length_nil]; omega))
  refine wpAny_pure ?_
  show wpAny (model prog w) A (do
      let ob ← load s.heap.objs.size
      match ob.data with
      | .seq ys _ => pure ys.toList
      | _ => unsupported "internal:collect") P E _
  refine wpAny_bind (wpAny_load (get?_update_seq h5 _) ?_)
  show wpAny _ _ (pure ((#[] : Array Value) ++ us.toArray).toList) P E _
  rw [show ((#[] : Array Value) ++ us.toArray).toList = us by simp]
  exact wpAny_pure q
theorem sorted_tup {c : Addr} {us : List Value} {f : Value → Value → Bool} {P : Value → Shared → Prop} (O : Swo f) (ht : s.heap.IsTuple c us.toArray) (hn : us.length ≤ sizeLine)
    (hc : 2 ≤ us.length → ∀ (h1 : Heap) (a : Addr), h1.get? a = some (seqObj "list" us.toArray 0) → (∀ b o, s.heap.get? b = some o → b ≠ a ∧ h1.get? b = some o) → SortableO prog w A.in1.in1 { s with heap := h1 } a us f)
    (q : ∀ out : List Value, Srtd f out → Stb f out us → P (.ref (s.heap.objs.size + 1)) { s with heap := sortedAll s.heap us out.toArray }) : wpAny (model prog w) A (call (.builtin "sorted") [.ref c]) P E s := by
  refine Calls.call_function_entry kind_sorted plain_sorted entry_sorted (args_sorted1 _) ?_
  unfold Builtin.«sorted»
  refine wpAny_bind (m := checkCount "sorted" 1 1 _) (wpAny_pure ?_)
  refine wpAny_bind (gather_tup ht hn ?_)
  refine wpAny_bind (wpAny_newList ?_ hn)
  generalize hg : (s.heap.push (seqObj "list" #[] 0)).update s.heap.objs.size (Obj.mapSeq (· ++ us.toArray)) = g
  have sz : g.objs.size = s.heap.objs.size + 1 := by rw [← hg, Heap.size_update, size_push']
  have at1 : (g.push (seqObj "list" us.toArray 0)).get? (s.heap.objs.size + 1) = some (seqObj "list" us.toArray 0) := by rw [← sz]; exact Heap.get?_push_size _ rfl
  have old : ∀ b o, s.heap.get? b = some o → b ≠ s.heap.objs.size + 1 ∧ (g.push (seqObj "list" us.toArray 0)).get? b = some o := fun b o e => by
    have lt : b < s.heap.objs.size := Heap.lt_size e
    refine ⟨Nat.ne_of_lt (Nat.lt_succ_of_lt lt), Heap.get?_push_of_some _ ?_⟩
    rw [← hg, Heap.get?_update_ne _ _ _ _ (Nat.ne_of_lt lt)]
    exact Heap.get?_push_of_some _ e
  show wpAny _ _ _ _ _ { s with heap := g.push (seqObj "list" us.toArray 0) }
  rw [sz]
  refine wpAny_bind (wpAny_holding (wpAny_call_entry slot_list_sort ⟨_, at1, rfl⟩ entry_list_sort
    (list_sort_ord O at1 hn (fun h2 => hc h2 _ _ at1 old) fun out r1 r2 => ⟨_, rfl, ?_⟩) (args_list_sort _)))
  refine wpAny_pure ⟨_, rfl, ?_⟩
  have := q out r1 r2
  unfold sortedAll at this
  rw [hg] at this
  exact this
end
end SrtO
namespace Z
open PySem PySem.Spec PyProof.Rows L2 LamX
section
variable {X : Cx}
theorem cr_sortedT : CallR X (.builtin "sorted") (fun vs H Q => ∃ (a : Addr) (ns : List Int), vs = [V.ref a] ∧ SqT X.K H a (ns.map V.int) ∧
    ∀ (ns' : List Int) (p : Addr), ns'.Perm ns → ns'.Pairwise (· ≤ ·) → H p = none → Q (.ref p) (upd H p (.lst (ns'.map V.int)))) := by
  intro pins s σ H vs us Q I r h
  obtain ⟨a, ns, rfl, hs, q⟩ := h
  obtain ⟨its, rv, hl, hz⟩ := I.tuple hs
  rw [Vals.ref1 r]
  have ei := rv.ints
  have hl2 : s.heap.IsTuple a its.toArray := hl
  refine SrtO.sorted_tup SrtO.swo_int hl2 (by rw [← rv.length]; exact hz) (fun h2 _ _ _ _ => SrtO.ints_sortable ei h2) fun out h1 h2 => ?_
  have k := SrtO.ints_out ei h1 h2
  obtain ⟨ep, hep⟩ := PyProof.Rows.sortedAll_at s.heap its out.toArray
  have hlen : ((out.map SrtO.iv).map V.int).length ≤ sizeLine := by
    have z := hz
    rw [List.length_map] at z ⊢
    rw [k.2.1.length_eq]; exact z
  have I2 := I.laid (t' := s.toks) (fun _ _ => PyProof.Rows.sortedAll_old) (Nat.le_succ _) (a := s.heap.objs.size + 1) (o := .lst ((out.map SrtO.iv).map V.int)) ⟨hlen, out, ep, vals_of_ints k.1, hep⟩
  exact ⟨.ref _, _, I2, rfl, q _ _ k.2.1 k.2.2 (I.hok.fresh (Nat.le_succ _))⟩
end
theorem DatL.intsV {K : PySem.W.Frag} {G : Hp} {vs : List V} {ns : List Int} (r : DatL K G vs (ns.map D.int)) : vs = ns.map V.int := DatL.ints' r
/-! ### how many unlike ones -/
theorem in_all {l m : List Int} (hn : l.Nodup) (h : ∀ x ∈ l, x ∈ m) : l.length ≤ m.length ∧ (l.length = m.length → m.Perm l) := by
  induction l generalizing m with
  | nil =>
    refine ⟨Nat.zero_le _, fun e => ?_⟩
    have : m = [] := List.length_eq_zero_iff.mp e.symm
    subst this
    exact List.Perm.refl _
  | cons a l ih =>
    have ha : a ∈ m := h a List.mem_cons_self
    have p := List.perm_cons_erase ha
    have el := p.length_eq
    rw [List.length_cons] at el
    have hn' := List.nodup_cons.mp hn
    obtain ⟨i1, i2⟩ := ih (m := m.erase a) hn'.2 fun x hx => by
      have hne : x ≠ a := fun e => hn'.1 (e ▸ hx)
      exact (List.mem_erase_of_ne hne).mpr (h x (List.mem_cons_of_mem _ hx))
    rw [List.length_cons]
    exact ⟨by omega, fun e => p.trans ((i2 (by omega)).cons a)⟩
theorem unlike_iff {l m : List Int} (hn : l.Nodup) (h : ∀ x, x ∈ l ↔ x ∈ m) : l.length = m.length ↔ m.Nodup := by
  constructor
  · intro e
    exact ((in_all hn fun x hx => (h x).mp hx).2 e).nodup_iff.mpr hn
  · intro hm
    have h1 := (in_all hn fun x hx => (h x).mp hx).1
    have h2 := (in_all hm fun x hx => (h x).mpr hx).1
    omega
theorem fst_ok (f : Nat → Int) : ∀ n, (firstMet f n).Nodup ∧ ∀ x, x ∈ firstMet f n ↔ ∃ i, i < n ∧ f i = x
  | 0 => ⟨by rw [firstMet_zero]; exact List.nodup_nil, fun x => by rw [firstMet_zero]; simp⟩
  | n + 1 => by
    obtain ⟨h1, h2⟩ := fst_ok f n
    have hb : firstMet f (n + 1) = if (firstMet f n).any (· == f n) = true then firstMet f n else firstMet f n ++ [f n] := firstMet_succ f n
    rw [hb]
    by_cases c : (firstMet f n).any (· == f n) = true
    · rw [if_pos c]
      obtain ⟨y, hy, ey⟩ := List.any_eq_true.mp c
      have ey : y = f n := eq_of_beq ey
      subst ey
      refine ⟨h1, fun x => (h2 x).trans ⟨fun ⟨i, a, b⟩ => ⟨i, by omega, b⟩, fun ⟨i, a, b⟩ => ?_⟩⟩
      by_cases e : i = n
      · subst e; rw [← b]; exact (h2 _).mp hy
      · exact ⟨i, by omega, b⟩
    · rw [if_neg c]
      have no : f n ∉ firstMet f n := fun hm => c (List.any_eq_true.mpr ⟨_, hm, by simp⟩)
      refine ⟨?_, fun x => ?_⟩
      · rw [List.nodup_append]
        refine ⟨h1, by simp, fun a ha b hb e => ?_⟩
        rw [List.mem_singleton.mp hb] at e
        exact no (e ▸ ha)
      · rw [List.mem_append, List.mem_singleton, h2]
        constructor
        · rintro (⟨i, a, b⟩ | e)
          · exact ⟨i, by omega, b⟩
          · exact ⟨n, by omega, e.symm⟩
        · rintro ⟨i, a, b⟩
          by_cases e : i = n
          · subst e; exact .inr b.symm
          · exact .inl ⟨i, by omega, b⟩
theorem mem_getD {ns : List Int} (x : Int) : (∃ i, i < ns.length ∧ ns.getD i 0 = x) ↔ x ∈ ns := by
  constructor
  · rintro ⟨i, h, e⟩
    rw [List.getD_eq_getElem?_getD, List.getElem?_eq_getElem h] at e
    rw [← e]
    exact List.getElem_mem h
  · intro h
    obtain ⟨i, hi, e⟩ := List.mem_iff_getElem.mp h
    exact ⟨i, hi, by rw [List.getD_eq_getElem?_getD, List.getElem?_eq_getElem hi]; exact e⟩
def tLenS (K : PySem.W.Frag) (ta : TE) : TE := fun σ H Q => ta σ H fun x H1 => ∃ (l : Addr) (ns : List Int), x = .ref l ∧ (SqL K H1 l (ns.map V.int) ∨ SqT K H1 l (ns.map V.int)) ∧ ns.length ≤ 4000 ∧ ∀ c : Nat, c ≤ ns.length → (c = ns.length ↔ ns.Nodup) → Q (.int c) H1
theorem pe_lenS {X : Cx} {a : Expr} {ta : TE} {p p2 q pos : Pos} (hg : Gl X "len") (hm : X.mg "len" = none) (hg2 : Gl X "set") (hm2 : X.mg "set" = none) (ha : PE X a ta) (hc : X.calm = true)
    (na : starEach [a] X.env = (false, eval a X.env) :: starEach [] X.env := by rfl) : PE X (.Call (.Name "len" p) [.Call (.Name "set" p2) [a] [] q] [] pos) (tLenS X.K ta) := by
  refine ⟨fun pins s σ H Q I h => ?_⟩
  refine Call_ (ld_blt I hg hm PySem.boot_len ?_)
  refine callWith_builtin1 (args_cons ?_ rfl) rfl rfl
  refine Call_ (ld_blt I hg2 hm2 boot_set ?_)
  refine callWith_type1 (args_cons (thn (ha.run pins s σ H _ I h) fun v s1 ⟨x, H1, I1, r1, q1⟩ => args_nil ?_) na) na rfl
  obtain ⟨l, ns, rfl, hq, hn, q1⟩ := q1
  cases r1
  rcases hq with hq | hq
  · obtain ⟨its, r, pl, hz⟩ := I1.list hq
    have hlen : its.toArray.size = ns.length := by rw [List.size_toArray, ← r.length, List.length_map]
    refine call_set_list (I1.ok.hd hc) pl.isList (by simpa using r.ints) (by rw [hlen]; unfold scanBound; omega) fun h' tk hS hk => args_nil ?_
    rw [hlen] at hS
    obtain ⟨o, es, ep, t, ho, hex, hd, _, _, _, hf, hne⟩ := hS
    have I2 : Inv X pins σ H1 { s1 with heap := h', toks := tk } := I1.kept fun b o e => hk b o (Heap.lt_size e) e
    obtain ⟨f1, f2⟩ := fst_ok (fun i => ns.getD i 0) ns.length
    have ui := unlike_iff f1 fun x => (f2 x).trans (mem_getD x)
    have le := firstMet_length_le (fun i => ns.getD i 0) ns.length
    generalize (firstMet (fun i => ns.getD i 0) ns.length).length = c at hne ui le
    exact call_len_set ho hex hd hf (by rw [hne]; omega) ⟨.int c, H1, I2.tok _, ⟨_, by rw [hne]⟩, q1 c le ui⟩
  · obtain ⟨its, r, pl, hz⟩ := I1.tuple hq
    have hlen : its.length = ns.length := by rw [← r.length, List.length_map]
    refine call_set_tupI ns (I1.ok.hd hc) pl (by simpa using r.ints) (by unfold scanBound; omega) fun h' tk c hS hle hk => args_nil ?_
    obtain ⟨o, es, ep, t, ho, hex, hd, hge, hnd, hmem, _, hf, hne, _, _⟩ := hS
    have I2 : Inv X pins σ H1 { s1 with heap := h', toks := tk } := I1.kept hk
    have ui := unlike_iff hnd fun x => ((hmem x).symm.trans (by simp) : _ ↔ x ∈ ns)
    rw [List.length_map, Array.length_toList, hne] at ui
    exact call_len_set ho hex hd hf (by rw [hne]; omega) ⟨.int c, H1, I2.tok _, ⟨_, by rw [hne]⟩, q1 c hle ui⟩
section
variable {Y : Cy} {τ : Tau} {ω : List O} {a e : Expr} {p p2 pos q2 : Pos}
/-- len(set(xs)), ints in a list or a tuple -/
theorem WE_lenS {Q : QS} (hm : Y.X.mg "len" = none) (hm2 : Y.X.mg "set" = none) (calm : Y.X.calm = true) (h : WE Y a τ ω fun s ω1 => ∃ ns : List Int, (vw ω1 s = some (.list (ns.map D.int)) ∨ vw ω1 s = some (.tup (ns.map D.int))) ∧ ns.length ≤ 4000 ∧ ∀ c : Nat, c ≤ ns.length → (c = ns.length ↔ ns.Nodup) → Q (.d (.int c)) ω1)
    (hg : Gl Y.X "len" := by rfl) (hg2 : Gl Y.X "set" := by rfl) (na : starEach [a] Y.X.env = (false, eval a Y.X.env) :: starEach [] Y.X.env := by rfl) :
    WE Y (.Call (.Name "len" p) [.Call (.Name "set" p2) [a] [] q2] [] pos) τ ω Q := .mk fun G as H σ b0 o l =>
  wE_of (pe_lenS hg hm hg2 hm2 pe_w calm na) ((h G as H σ b0 o l).mono fun x H1 ⟨G1, as1, ω1, g1, p1, o1, s, r, ns, e, hn, q⟩ => by
    rcases e with e | e
    · obtain ⟨ad, vs, rfl, h1, h2⟩ := (vw_ok o1 r e : Vw _ _ _ x (.list (ns.map D.int)))
      rw [DatL.ints' h2] at h1
      exact ⟨ad, ns, rfl, .inl (SqL.of h1), hn, fun c h1 h2 => Go.back g1 p1 (fin_d o1 (.int _) (q c h1 h2))⟩
    · cases (vw_ok o1 r e : Dat _ _ x (.tup (ns.map D.int))) with
      | tup h1 h2 =>
        rw [DatL.ints' h2] at h1
        exact ⟨_, ns, rfl, .inr (sqt_mono o1.sub h1), hn, fun c h1 h2 => Go.back g1 p1 (fin_d o1 (.int _) (q c h1 h2))⟩)
theorem WE_allB {Q : QS} (hm : Y.X.mg "all" = none) (calm : Y.X.calm = true) (h : WE Y a τ ω fun s ω1 => ∃ bs : List Bool, vw ω1 s = some (.list (bs.map D.bool)) ∧ Q (.d (.bool (bs.all id))) ω1) (hg : Gl Y.X "all" := by rfl)
    (he : starEach (a :: []) Y.X.env = (false, eval a Y.X.env) :: starEach [] Y.X.env := by rfl) : WE Y (.Call (.Name "all" p) [a] [] pos) τ ω Q :=
  WE_callB hm (WA_one (P := fun d ω1 => ∃ bs : List Bool, d = .list (bs.map D.bool) ∧ Q (.d (.bool (bs.all id))) ω1) (h.mono fun s ω1 ⟨bs, e, q⟩ => by rw [e]; exact ⟨bs, rfl, q⟩) he) (fun {G as H ω vs ss} _ o r ⟨s, d, e, hv, bs, ed, q⟩ => by
    subst e; subst ed
    obtain ⟨v, rfl, r1⟩ := r.one
    obtain ⟨ad, xs, rfl, h1, h2⟩ := (vw_ok o r1 hv : Vw _ _ _ v (.list (bs.map D.bool)))
    rw [h2.bools'] at h1
    exact wCall_of (cr_all calm) ⟨ad, bs, rfl, SqL.of h1, fin_d o (.bool _) q⟩) (hg := hg) (he := he)
/-- sorted(xs), ints in a tuple -/
theorem WE_sortedT {Q : QS} (hm : Y.X.mg "sorted" = none) (h : WE Y a τ ω fun s ω1 => ∃ ns : List Int, vw ω1 s = some (.tup (ns.map D.int)) ∧ ∀ ns' : List Int, ns'.Perm ns → ns'.Pairwise (· ≤ ·) → newL (ns'.map D.int) ω1 Q) (hg : Gl Y.X "sorted" := by rfl)
    (he : starEach (a :: []) Y.X.env = (false, eval a Y.X.env) :: starEach [] Y.X.env := by rfl) : WE Y (.Call (.Name "sorted" p) [a] [] pos) τ ω Q :=
  WE_callB hm (WA_one (P := fun d ω1 => ∃ ns : List Int, d = .tup (ns.map D.int) ∧ ∀ ns' : List Int, ns'.Perm ns → ns'.Pairwise (· ≤ ·) → newL (ns'.map D.int) ω1 Q) (h.mono fun s ω1 ⟨ns, e, q⟩ => by rw [e]; exact ⟨ns, rfl, q⟩) he) (fun {G as H ω vs ss} _ o r ⟨s, d, e, hv, ns, ed, q⟩ => by
    subst e; subst ed
    obtain ⟨v, rfl, r1⟩ := r.one
    cases (vw_ok o r1 hv : Dat _ _ v (.tup (ns.map D.int))) with
    | tup h1 h2 =>
      rw [DatL.ints' h2] at h1
      exact wCall_of cr_sortedT ⟨_, ns, rfl, sqt_mono o.sub h1, fun ns' p' hp hs hn => fin_newL o hn (DatL.ints _) (q ns' hp hs)⟩) (hg := hg) (he := he)
end
end Z

set_option Elab.async false
set_option linter.all false
set_option maxRecDepth 100000
set_option maxHeartbeats 1000000
/-! # Y2: what repr shows -/
namespace Z
open PySem PySem.Spec PyProof.Rows L2 LamX
structure shB (m b : Nat) (d : D) : Prop where
  py : isPy d = true
  sh : (Z.py d).showable = true
  nd : (Z.py d).hasDict = false
  lv : PyData.leavesShort 1921 (Z.py d) = true
  bk : (Z.py d).bulk ≤ b
  dp : PyData.depth (Z.py d) ≤ m
theorem shB.ok {m b : Nat} {d : D} (h : shB m b d) (hm : m ≤ 64 := by decide) (hb : b ≤ 8000 := by decide) : shoD d := by
  refine ⟨h.py, h.sh, h.nd, ?_, Nat.le_trans h.dp hm⟩
  have h1 := PyData.shown_le_bulk 1921 (by decide) (Z.py d) h.lv
  have h2 : (1921 + 2) * (Z.py d).bulk ≤ 1923 * 8000 := Nat.mul_le_mul (by omega) (Nat.le_trans h.bk hb)
  have h3 := sizeLine_eq
  omega
theorem shB.mono {m b m' b' : Nat} {d : D} (h : shB m b d) (hm : m ≤ m') (hb : b ≤ b') : shB m' b' d := ⟨h.py, h.sh, h.nd, h.lv, Nat.le_trans h.bk hb, Nat.le_trans h.dp hm⟩
theorem sh_none : shB 0 0 .none := ⟨rfl, by show PyData.showable .none = true; simp [PyData.showable], by show PyData.hasDict .none = false; simp [PyData.hasDict], by show PyData.leavesShort _ .none = true; simp [PyData.leavesShort], by show PyData.bulk .none ≤ 0; simp [PyData.bulk], by show PyData.depth .none ≤ 0; simp [PyData.depth]⟩
theorem sh_bool {x : Bool} : shB 0 0 (.bool x) := ⟨rfl, by show PyData.showable (.bool x) = true; simp [PyData.showable], by show PyData.hasDict (.bool x) = false; simp [PyData.hasDict], by show PyData.leavesShort _ (.bool x) = true; simp [PyData.leavesShort], by show PyData.bulk (.bool x) ≤ 0; simp [PyData.bulk], by show PyData.depth (.bool x) ≤ 0; simp [PyData.depth]⟩
theorem sh_int {i : Int} (h : i.natAbs.log2 < 1920) : shB 0 0 (.int i) := ⟨rfl, by show PyData.showable (.int i) = true; simp [PyData.showable, h], by show PyData.hasDict (.int i) = false; simp [PyData.hasDict], by
    show PyData.leavesShort _ (.int i) = true
    simp only [PyData.leavesShort, decide_eq_true_eq]
    exact int_text_len_1921 h, by show PyData.bulk (.int i) ≤ 0; simp [PyData.bulk], by show PyData.depth (.int i) ≤ 0; simp [PyData.depth]⟩
theorem sh_all {m b : Nat} : ∀ {xs : List D}, (∀ x ∈ xs, shB m b x) → isPyL xs = true ∧ PyData.showableAll (pyL xs) = true ∧ PyData.hasDictAll (pyL xs) = false ∧ PyData.leavesShortAll 1921 (pyL xs) = true ∧ PyData.bulkAll (pyL xs) ≤ (b + 1) * xs.length ∧ PyData.depthAll (pyL xs) ≤ m
  | [], _ => ⟨rfl, by show PyData.showableAll [] = true; simp [PyData.showableAll], by show PyData.hasDictAll [] = false; simp [PyData.hasDictAll], by show PyData.leavesShortAll _ [] = true; simp [PyData.leavesShortAll], by show PyData.bulkAll [] ≤ _; simp [PyData.bulkAll], by show PyData.depthAll [] ≤ m; simp [PyData.depthAll]⟩
  | x :: r, h => by
    obtain ⟨h1, h2, h3, h4, h5, h6⟩ := sh_all (xs := r) fun y hy => h y (by simp [hy])
    have hx := h x (by simp)
    refine ⟨?_, ?_, ?_, ?_, ?_, ?_⟩
    · show (isPy x && isPyL r) = true
      rw [hx.py, h1]; rfl
    · show PyData.showableAll (Z.py x :: pyL r) = true
      simp only [PyData.showableAll, hx.sh, h2, Bool.and_self]
    · show PyData.hasDictAll (Z.py x :: pyL r) = false
      simp only [PyData.hasDictAll, hx.nd, h3, Bool.or_self]
    · show PyData.leavesShortAll _ (Z.py x :: pyL r) = true
      simp only [PyData.leavesShortAll, hx.lv, h4, Bool.and_self]
    · show PyData.bulkAll (Z.py x :: pyL r) ≤ _
      have := hx.bk
      simp only [PyData.bulkAll, List.length_cons, Nat.mul_add]
      omega
    · show PyData.depthAll (Z.py x :: pyL r) ≤ m
      simp only [PyData.depthAll]
      exact Nat.max_le.mpr ⟨hx.dp, h6⟩
theorem sh_list {m b : Nat} {xs : List D} (h : ∀ x ∈ xs, shB m b x) : shB (m + 1) ((b + 1) * xs.length) (.list xs) := by
  obtain ⟨h1, h2, h3, h4, h5, h6⟩ := sh_all h
  exact ⟨h1, by show PyData.showable (.list (pyL xs)) = true; simpa only [PyData.showable] using h2, by show PyData.hasDict (.list (pyL xs)) = false; simpa only [PyData.hasDict] using h3,
    by show PyData.leavesShort _ (.list (pyL xs)) = true; simpa only [PyData.leavesShort] using h4, by show PyData.bulk (.list (pyL xs)) ≤ _; simpa only [PyData.bulk] using h5, by show PyData.depth (.list (pyL xs)) ≤ _; simp only [PyData.depth]; omega⟩
theorem sh_tup {m b : Nat} {xs : List D} (h : ∀ x ∈ xs, shB m b x) : shB (m + 1) ((b + 1) * xs.length) (.tup xs) := by
  obtain ⟨h1, h2, h3, h4, h5, h6⟩ := sh_all h
  exact ⟨h1, by show PyData.showable (.tuple (pyL xs)) = true; simpa only [PyData.showable] using h2, by show PyData.hasDict (.tuple (pyL xs)) = false; simpa only [PyData.hasDict] using h3,
    by show PyData.leavesShort _ (.tuple (pyL xs)) = true; simpa only [PyData.leavesShort] using h4, by show PyData.bulk (.tuple (pyL xs)) ≤ _; simpa only [PyData.bulk] using h5, by show PyData.depth (.tuple (pyL xs)) ≤ _; simp only [PyData.depth]; omega⟩
theorem sho_tupI {ns : List Int} (h : ∀ i ∈ ns, i.natAbs.log2 < 1920) (hl : ns.length ≤ 8000) : shoD (.tup (ns.map D.int)) := by
  have := sh_tup (m := 0) (b := 0) (xs := ns.map D.int) fun x hx => by
    obtain ⟨i, hi, rfl⟩ := List.mem_map.mp hx
    exact sh_int (h i hi)
  rw [List.length_map] at this
  exact this.ok (by decide) (by omega)
theorem sho_listI {ns : List Int} (h : ∀ i ∈ ns, i.natAbs.log2 < 1920) (hl : ns.length ≤ 8000) : shoD (.list (ns.map D.int)) := by
  have := sh_list (m := 0) (b := 0) (xs := ns.map D.int) fun x hx => by
    obtain ⟨i, hi, rfl⟩ := List.mem_map.mp hx
    exact sh_int (h i hi)
  rw [List.length_map] at this
  exact this.ok (by decide) (by omega)
section
variable {Y : Cy} {τ : Tau} {ω : List O} {a : Expr} {p pos : Pos}
theorem WE_reprD {Q : QS} (hm : Y.X.mg "repr" = none) {W : Wd} {k : Nat} (cal : Cal W k Y) (h : WE Y a τ ω fun s ω1 => ∃ d, vw ω1 s = some d ∧ shoD d ∧ Q (.d (.str (showD d))) ω1) (hg : Gl Y.X "repr" := by rfl)
    (he : starEach (a :: []) Y.X.env = (false, eval a Y.X.env) :: starEach [] Y.X.env := by rfl) : WE Y (.Call (.Name "repr" p) [a] [] pos) τ ω Q :=
  WE_repr hm cal.gds cal.rm (h.mono fun s ω1 ⟨d, e, h1, h2⟩ => by rw [e]; exact ⟨h1, h2⟩) hg he
end
end Z

set_option Elab.async false
set_option linter.all false
set_option maxRecDepth 100000
set_option maxHeartbeats 1000000
/-! # Y3: an own list that is changed no more -/
namespace Z
open PySem PySem.Spec PyProof.Rows L2 LamX
section
variable {Y : Cy} {τ : Tau} {ω : List O} {e : Expr}
theorem WE_frz {Q : QS} (h : WE Y e τ ω fun s ω1 => ∃ k xs, s = .o k ∧ ω1[k]? = some (.lst xs) ∧ Q (.d (.list xs)) (ω1.set k .gone)) : WE Y e τ ω Q := .mk fun G as H σ b o l => by
  refine wE.mono (h G as H σ b o l) fun v H1 ⟨G1, as1, ω1, g1, p1, o1, s, r, k, xs, es, hk, q⟩ => ?_
  subst es
  obtain ⟨a, ha, rfl⟩ := r
  obtain ⟨vs, e0, r0⟩ := o1.own k a _ ha hk
  have hn : G1 a = none := o1.fre k a _ ha hk (by intro z; cases z)
  have o2 := (o1.drop (k := k)).take (a := a) (u := .lst vs) hn e0 (by intro ps z; cases z) (fun j o hj ho => by
    by_cases ej : j = k
    · subst ej
      rw [List.getElem?_set_self (List.getElem?_eq_some_iff.mp hk).1] at ho
      cases ho; rfl
    · rw [List.getElem?_set_ne (Ne.symm ej)] at ho
      by_cases hg : o = .gone
      · exact hg
      · exact absurd (o1.inj j k a o _ hj ha ho hk hg (by intro z; cases z)) ej)
  have s1 : Same G1 (upd G1 a (.lst vs)) := Evl.Ex.new hn
  exact ⟨_, as1, _, g1.trans s1, p1, o2, .d (.list xs), .list upd_same (r0.mono s1), q⟩
end
theorem set_same {α : Type} {l : List α} {k : Nat} {x : α} (h : l[k]? = some x) : l.set k x = l := by
  obtain ⟨h1, h2⟩ := List.getElem?_eq_some_iff.mp h
  rw [← h2]
  exact List.set_getElem_self h1
end Z

set_option Elab.async false
set_option linter.all false
set_option maxRecDepth 100000
set_option maxHeartbeats 1000000
/-! # Y4: lots of bits -/
namespace Z
open PySem PySem.Spec PyProof.Rows L2 LamX
abbrev natD (b : Nat) : D := .int (b : Int)
def inLot (d : D) : Bool := isW d (some 0) (some 20000)
def intOf : D → Int
  | .int i => i
  | _ => 0
def isLot (xs : List D) : Bool := xs.all inLot && decide (xs.map intOf).Nodup
theorem inLot_nat {d : D} (h : inLot d = true) : ∃ b : Nat, d = natD b ∧ b ≤ 20000 := by
  cases d with
  | int i =>
    have h : (decide (0 ≤ i) && decide (i ≤ 20000)) = true := h
    rw [Bool.and_eq_true] at h
    have h1 := of_decide_eq_true h.1
    have h2 := of_decide_eq_true h.2
    exact ⟨i.toNat, by rw [natD, Int.toNat_of_nonneg h1], by omega⟩
  | _ => cases h
theorem nat_inLot {b : Nat} (h : b ≤ 20000) : inLot (natD b) = true := by
  show (decide ((0 : Int) ≤ b) && decide ((b : Int) ≤ 20000)) = true
  simp; omega
theorem all_nat : ∀ {xs : List D}, xs.all inLot = true → ∃ L : List Nat, xs = L.map natD ∧ ∀ b ∈ L, b ≤ 20000
  | [], _ => ⟨[], rfl, by simp⟩
  | x :: r, h => by
    rw [List.all_cons, Bool.and_eq_true] at h
    obtain ⟨b, rfl, hb⟩ := inLot_nat h.1
    obtain ⟨L, rfl, hL⟩ := all_nat h.2
    refine ⟨b :: L, rfl, fun y hy => ?_⟩
    rcases List.mem_cons.mp hy with e | e
    · subst e; exact hb
    · exact hL y e
theorem ints_nat (L : List Nat) : (L.map natD).map intOf = L.map fun b : Nat => (b : Int) := by rw [List.map_map]; rfl
theorem nd_cast {L : List Nat} : (L.map fun b : Nat => (b : Int)).Nodup ↔ L.Nodup := by
  unfold List.Nodup
  rw [List.pairwise_map]
  exact ⟨fun h => h.imp fun a e => a (by rw [e]), fun h => h.imp fun a e => a (by exact_mod_cast e)⟩
theorem isLot_nat {xs : List D} (h : isLot xs = true) : ∃ L : List Nat, xs = L.map natD ∧ (∀ b ∈ L, b ≤ 20000) ∧ L.Nodup := by
  unfold isLot at h
  rw [Bool.and_eq_true] at h
  obtain ⟨L, rfl, hL⟩ := all_nat h.1
  have := of_decide_eq_true h.2
  rw [ints_nat] at this
  exact ⟨L, rfl, hL, nd_cast.mp this⟩
theorem isLot_of {L : List Nat} (h1 : ∀ b ∈ L, b ≤ 20000) (h2 : L.Nodup) : isLot (L.map natD) = true := by
  unfold isLot
  rw [Bool.and_eq_true]
  refine ⟨List.all_eq_true.mpr fun x hx => ?_, ?_⟩
  · obtain ⟨b, hb, rfl⟩ := List.mem_map.mp hx
    exact nat_inLot (h1 b hb)
  · rw [ints_nat]
    exact decide_eq_true (nd_cast.mpr h2)
theorem ty_item {x : D} (h : inLot x = true) : ∃ a, tyD x = some a := by
  obtain ⟨b, rfl, _⟩ := inLot_nat h
  exact ⟨_, rfl⟩
/-- in ascending order -/
theorem asc_of {L : List Nat} {ns : List Int} (hn : L.Nodup) (h1 : ns.Perm (L.map fun b : Nat => (b : Int))) (h2 : ns.Pairwise (· ≤ ·)) : ∃ m : List Nat, ns = m.map (fun b : Nat => (b : Int)) ∧ m.Perm L ∧ m.Pairwise (· < ·) := by
  have e : ns = (ns.map Int.toNat).map (fun b : Nat => (b : Int)) := by
    rw [List.map_map]
    conv => lhs; rw [← List.map_id ns]
    refine List.map_congr_left fun x hx => ?_
    obtain ⟨b, _, rfl⟩ := List.mem_map.mp (h1.mem_iff.mp hx)
    rfl
  have p : (ns.map Int.toNat).Perm L := by
    have := h1.map Int.toNat
    rw [List.map_map] at this
    refine this.trans (List.Perm.of_eq ?_)
    conv => rhs; rw [← List.map_id L]
    rfl
  refine ⟨ns.map Int.toNat, e, p, ?_⟩
  have nd : (ns.map Int.toNat).Nodup := p.nodup_iff.mpr hn
  have le : (ns.map Int.toNat).Pairwise (· ≤ ·) := by
    rw [List.pairwise_map]
    exact h2.imp fun h => by omega
  exact (le.and nd).imp fun ⟨a, b⟩ => by omega
theorem asc_unique {a b : List Nat} (ha : a.Pairwise (· < ·)) (hb : b.Pairwise (· < ·)) (h : ∀ x, x ∈ a ↔ x ∈ b) : a = b :=
  List.Perm.eq_of_pairwise (fun x y _ _ h1 h2 => by omega) ha hb ((List.perm_ext_iff_of_nodup (ha.imp fun h => by omega) (hb.imp fun h => by omega)).mpr h)
def noSeq (a : String) : Prop := a ≠ "list" ∧ a ≠ "tuple"
/-- is_lot(value) -/
abbrev spLot : Spc := fun ss ω Q E => ∃ d, ss = [.d d] ∧ ((∃ a, tyD d = some a ∧ a ≠ "list" ∧ a ≠ "tuple" ∧ Q (.d (.bool false)) ω) ∨ ∃ xs, (d = .list xs ∨ d = .tup xs) ∧ xs.length ≤ 4000 ∧ (∀ x ∈ xs, ∃ a, tyD x = some a) ∧ Q (.d (.bool (isLot xs))) ω)
/-- need_bits(value, part) -/
abbrev spNeedB (W : Wd) : Spc := fun ss ω Q E => ∃ d, ∃ part : Str, ss = [.d d, .d (.str part)] ∧ ((∃ a, tyD d = some a ∧ a ≠ "list" ∧ a ≠ "tuple" ∧ E ⟨He.ga W.K "BadBits", [("part", .str part)]⟩ ω) ∨
  (∃ xs, (d = .list xs ∨ d = .tup xs) ∧ xs.length ≤ 4000 ∧ (∀ x ∈ xs, ∃ a, tyD x = some a) ∧ isLot xs = false ∧ E ⟨He.ga W.K "BadBits", [("part", .str part)]⟩ ω) ∨
  ∃ L : List Nat, (d = .list (L.map natD) ∨ d = .tup (L.map natD)) ∧ L.length ≤ 4000 ∧ (∀ b ∈ L, b ≤ 20000) ∧ L.Nodup ∧ ∀ m : List Nat, m.Perm L → m.Pairwise (· < ·) → Q (.d (.tup (m.map natD))) ω)
theorem no_isi {a : String} (h1 : a ≠ "list") (h2 : a ≠ "tuple") : (["list", "tuple"].any fun t => isiT a t) = false := by
  show (isiT a "list" || (isiT a "tuple" || false)) = false
  unfold isiT
  simp [h1, h2]
theorem map_natD (L : List Nat) : (L.map fun b : Nat => (b : Int)).map D.int = L.map natD := by rw [List.map_map]; rfl
end Z

set_option Elab.async false
set_option linter.all false
set_option maxRecDepth 100000
set_option maxHeartbeats 1000000
/-! # Y5: several except clauses, small dicts -/
namespace Z
open PySem PySem.Spec PyProof.Rows L2 LamX
section
variable {X : Cx} {pins : List (Addr × Obj)} {σ : L2.St} {H : Hp} {s : Shared}
theorem ps_try_keeps {more : List ExceptHandler} {x n m : Str} {c : Value} {i j : Nat} {body : List Stmt} {np mp np2 sp pos pos' : Pos} (stk : X.stack = X.env :: X.outer) (fr : X.env.frame = some X.env.locals) (hex : X.ex = []) (hN : X.N.Nodup)
    (hi : X.N[i]? = some n) (hln : X.env.kindOf n = some .local) (hj : X.N[j]? = some m) (hlm : X.env.kindOf m = some .local) (hij : j ≠ i) (hc : Names X x c) (hdn : (n == ("__debug__" : Str)) = false) (hcn : (n == ("__classdict__" : Str)) = false) :
    PS X (.Try body (.ExceptHandler (some (.Name x np)) (some n) [.Assign [.Name m mp] (.Name n np2) sp] pos' :: more) [] [] pos) (fun D σ H => wTry X body (wKeep X.K c i j D) D σ H) := by
  refine ⟨fun pins s σ H D I h => ?_⟩
  have ok := I.ok
  have hfr : X.A.frames = some (X.env :: X.outer) := ok.frames.trans (congrArg some stk)
  refine wpAny_Try_except ?_
  have run := h (X.pn ++ pins) (fun e s₁ => wpAny (model X.prog X.w) X.A (noteFrame e X.env) (fun _ s₂ => wpAny (model X.prog X.w) X.A (setFlight e none) (fun _ s₃ =>
    wpAny (model X.prog X.w) X.A (handleBy e X.env (.ExceptHandler (some (.Name x np)) (some n) [.Assign [.Name m mp] (.Name n np2) sp] pos' :: more)) (SP X pins D) X.xe s₃) X.xe s₂) X.xe s₁) ?_ PassesOwn.looking [] s (I.toTry _)
  · refine wpAny_mono run (fun f s1 r => ?_) fun _ _ r => r
    cases f with
    | next => obtain ⟨σ', H', J, q⟩ := r; exact wpAny_execs_nil ⟨σ', H', J.ofTry ok, q⟩
    | brk => obtain ⟨σ', H', J, q⟩ := r; exact ⟨σ', H', J.ofTry ok, q⟩
    | cont => obtain ⟨σ', H', J, q⟩ := r; exact ⟨σ', H', J.ofTry ok, q⟩
    | ret u => obtain ⟨v, σ', H', J, rv, q⟩ := r; exact ⟨v, σ', H', J.ofTry ok, rv, q⟩
  · rintro u s' ⟨a, B, sI, pins', σ', H', cls, d, rfl, J', nb, up, sky, na, os, ag, hex1, C, dx, rfl, rfl, q⟩
    have J := J'.ofTry ok
    have hil : i < σ'.length := by rw [J.len]; exact (List.getElem?_eq_some_iff.mp hi).1
    have skyB : Sky B (X.env :: X.outer) a (Zc (.ref C) (some dx)) X.env.locals s'.heap := stk ▸ sky
    refine Sky.land (A := X.A) Zc.steady hfr fr skyB fun h3 fl3 up3 => ?_
    -- where the exception's object does not stand
    have nB : B.get? a = none := fl3.2.1
    obtain ⟨oe3, vs3, he3, hz3, hd3⟩ := fl3.there
    have nfr : a ∉ frs (X.env :: X.outer) := fun hm => by
      obtain ⟨_, o', e', hnf⟩ := fl3.2.2.1.mem hm
      rw [he3] at e'; cases e'
      exact hnf _ hd3
    have nL : a ≠ X.env.locals := fun z => nfr (List.mem_filterMap.mpr ⟨X.env, List.mem_cons_self, by rw [fr, z]⟩)
    have nF : a ∉ X.fs := fun hm => by
      obtain ⟨e, he, q⟩ := List.mem_filterMap.mp hm
      exact nfr (List.mem_filterMap.mpr ⟨e, List.mem_cons_of_mem _ he, q⟩)
    have nS : a ∉ frs X.stack := stk ▸ nfr
    have nI : sI.heap.get? a = none := by
      cases e : sI.heap.get? a with
      | none => rfl
      | some o => rw [nb a o e nS] at nB; cases nB
    have n0 : X.s_0.heap.get? a = none := by
      cases e : X.s_0.heap.get? a with
      | none => rfl
      | some o =>
        obtain ⟨o', e'⟩ := J.base.there a o e (by rw [hex]; exact List.not_mem_nil)
        rw [nI] at e'; cases e'
    have npin : ∀ p ∈ X.pn ++ pins, p.1 ≠ a := fun p hp z => by
      have e := (J.pin p hp).1
      rw [z, nI] at e; cases e
    have J3 := J.landed (s' := { s' with heap := h3 }) nb fl3.1 (up.trans up3) os ag
    have S3 := J3.suite he3 hd3 na nL nF
    refine wpAny_handleBy_cons (codeAny_handlers_test ?_) (by intro z; cases z)
    have LT : PySem.W.Looks (model X.prog X.w) h3 (typeOf (.ref a)) (.ref C) := fun A Q E s k r => wpAny_typeOf_ref (k _ _ he3) (by rw [hz3.1]; exact r)
    have test : ∀ {Q : Value → Shared → Prop} {E : Value → Shared → Prop}, Q c { s' with heap := h3 } → wpAny (model X.prog X.w) (X.A.mark (some (.ref a))) (eval (.Name x np) X.env) Q E { s' with heap := h3 } := fun {Q E} r => by
      obtain ⟨hg, hdb, hm | ⟨hm, hv, hnn⟩⟩ := hc
      · exact ld_glob S3 hg hm r hdb
      · exact ld_blt S3 hg hm hv r hnn hdb
    refine test ((PySem.W.exm_one (M := model X.prog X.w) J3.kIn LT hex1).here ?_)
    refine codeAny_handlers_suite_as (HandSPX.lands_againZ fl3 fun h4 fl4 up4 => ?_)
    obtain ⟨oe4, vs4, he4, hz4, hd4⟩ := fl4.there
    have J4 := J.landed (s' := { s' with heap := h4 }) nb fl4.1 ((up.trans up3).trans up4) os ag
    refine store_ok (X := X.suite a ((a, oe4) :: (X.pn ++ pins))) (v := .ref a) (J4.suite he4 hd4 na nL nF) hN hi (.inl hln) rfl (fun s5 S5 => ?_) (.inr hln)
    have set : PS (X.suite a ((a, oe4) :: (X.pn ++ pins))) (.Assign [.Name m mp] (.Name n np2) sp) (tAsg (tVar i) (gName j)) := ps_set hN hj (.inl hlm) (pe_var hi (.inl hln) hdn hcn) (by rfl) (.inr hlm)
    have hset : tAsg (tVar i) (gName j) ⟨fun σ6 H6 => σ6 = (σ'.set i (some (.ref a))).set j (some (.ref a)) ∧ H6 = H', fun _ _ => False, fun _ _ => False, fun _ _ => False⟩ (σ'.set i (some (.ref a))) H' :=
      ⟨.ref a, by rw [List.getElem?_set_self hil], rfl, rfl⟩
    refine wpAny_mono ((pss_one set).run [] s5 _ H' _ S5 hset) (fun f s6 r => ?_) (fun _ _ z => False.elim z)
    cases f with
    | next =>
      obtain ⟨σ6, H6, S6, rfl, rfl⟩ := r
      refine gone_ok (X := X.suite a ((a, oe4) :: (X.pn ++ pins))) S6 hN hi hln fun s7 S7 => ?_
      have e7 := (S7.pin (a, oe4) (List.mem_append_left _ List.mem_cons_self)).1
      have J7 := adopt (S7.unsuite ok) e7 hz4 hd4 na n0 nL npin
      refine ⟨_, _, J7, ?_⟩
      have e : (((σ'.set i (some (V.ref a))).set j (some (V.ref a))).set i none) = (σ'.set j (some (.ref a))).set i none := by
        rw [List.set_comm _ _ hij, List.set_set]
        exact (List.set_comm _ _ (Ne.symm hij)).symm ▸ rfl
      rw [e]
      exact q a na
    | brk => obtain ⟨_, _, _, z⟩ := r; exact z.elim
    | cont => obtain ⟨_, _, _, z⟩ := r; exact z.elim
    | ret u => obtain ⟨_, _, _, _, _, z⟩ := r; exact z.elim

end
section
variable {Y : Cy} {G H : Hp} {as : List Addr} {ω : List O} {τ : Tau} {e a b : Expr} {es : List Expr} {p pos apos : Pos}
theorem WS_trys (i j : Nat) {more : List ExceptHandler} {x n m : Str} {c : Value} {body : List Stmt} {np mp np2 sp pos' : Pos} {D : En} (stk : Y.X.stack = Y.X.env :: Y.X.outer) (fr : Y.X.env.frame = some Y.X.env.locals) (hex : Y.X.ex = []) (hN : Y.X.N.Nodup)
    (hc : Names Y.X x c)
    (h : ∀ pn xe G as, Base Y G as → PassesOwn (model Y.X.prog Y.X.w) Y.X.A Y.X.env xe → Rz (trY Y pn xe G as (rzTry Y c i j D)) → WB (trY Y pn xe G as (rzTry Y c i j D)) body τ ω D)
    (hi : Y.X.N[i]? = some n := by rfl) (hln : Y.X.env.kindOf n = some .local := by rfl) (hj : Y.X.N[j]? = some m := by rfl) (hlm : Y.X.env.kindOf m = some .local := by rfl) (hij : j ≠ i := by decide)
    (hdn : (n == ("__debug__" : Str)) = false := by decide) (hcn : (n == ("__classdict__" : Str)) = false := by decide) :
    WS Y (.Try body (.ExceptHandler (some (.Name x np)) (some n) [.Assign [.Name m mp] (.Name n np2) sp] pos' :: more) [] [] pos) τ ω D := .mk fun G as H σ b o l => by
  refine wS_of (ps_try_keeps stk fr hex hN hi hln hj hlm hij hc hdn hcn) ?_
  intro pn xe tk own
  refine h pn xe G as b own ⟨_, tk, fun x dx G' as' H' σ' τ' ω' b' o' l' ea ⟨q1, q2⟩ => ?_⟩ G as H σ ⟨Same.refl _, List.prefix_refl _⟩ o l
  obtain ⟨fs, e1, e2⟩ := ea
  refine ⟨q1, x.C, dx, rfl, rfl, fun a na => ?_⟩
  have s1 : Same G' (upd G' a (excH a x.C dx)) := Evl.Ex.new (o'.noG na)
  refine ⟨upd G' a (excH a x.C dx), as', ω', b'.1.trans s1, b'.2, o'.newD na (fun ps z => by cases z), _, ((l'.mono s1 (List.prefix_refl _)).set j (s := .d (.exc x.C x.fs)) ?_).clear i, q2⟩
  exact .exc upd_same (s1 _ _ e1) (e2.mono s1)

end
section
variable {Y : Cy} {τ : Tau} {ω : List O} {a : Expr} {p p2 pos q2 : Pos}
/-- {i: j} -/
theorem WE_dictII {i j : Int} {u v : Nat} {p1 p2 : Pos} {Q : QS} (h : newK [(.inl i, .int j)] ω Q) : WE Y (.Dict [some (.Constant (.int i) u p1)] [.Constant (.int j) v p2] pos) τ ω Q := .mk fun G as H σ b o l =>
  wE_lock <| wE_of (pe_disp (pps_cons pe_int pe_int pps_nil) rfl rfl (by simp) (by simp)) (fun p hp => by
    refine ⟨upd_same, [(.inl i, .int j)], rfl, by simp, ?_⟩
    have e : upd (upd H p (.dK [])) p (.dK (mergeK [] [((.inl i : Key), V.int j)])) = upd H p (.dK [((.inl i : Key), V.int j)]) := by
      funext x
      by_cases c : x = p
      · subst c; rw [upd_same, upd_same]; rfl
      · rw [upd_ne c, upd_ne c, upd_ne c]
    rw [e]
    exact fin_newK o hp (.cons (.int j) .nil) h)
/-- each int once, in the order of its first place -/
def firsts : List Int → List Int → List Int
  | acc, [] => acc
  | acc, n :: r => firsts (if n ∈ acc then acc else acc ++ [n]) r
theorem firsts_ok : ∀ (r acc : List Int), acc.Nodup → (firsts acc r).Nodup ∧ ∀ x ∈ firsts acc r, x ∈ acc ∨ x ∈ r
  | [], acc, h => ⟨h, fun x hx => .inl hx⟩
  | n :: r, acc, h => by
    unfold firsts
    by_cases c : n ∈ acc
    · rw [if_pos c]
      obtain ⟨h1, h2⟩ := firsts_ok r acc h
      exact ⟨h1, fun x hx => (h2 x hx).imp id (List.mem_cons_of_mem _)⟩
    · rw [if_neg c]
      obtain ⟨h1, h2⟩ := firsts_ok r (acc ++ [n]) (by
        rw [List.nodup_append]
        refine ⟨h, by simp, fun x hx y hy e => ?_⟩
        rw [List.mem_singleton.mp hy] at e
        exact c (e ▸ hx))
      refine ⟨h1, fun x hx => ?_⟩
      rcases h2 x hx with h | h
      · rcases List.mem_append.mp h with h | h
        · exact .inl h
        · rw [List.mem_singleton.mp h]; exact .inr List.mem_cons_self
      · exact .inr (List.mem_cons_of_mem _ h)
theorem firsts_len : ∀ (r acc : List Int), (firsts acc r).length ≤ acc.length + r.length
  | [], acc => Nat.le_refl _
  | n :: r, acc => by
    unfold firsts
    have := firsts_len r (if n ∈ acc then acc else acc ++ [n])
    have h2 : (if n ∈ acc then acc else acc ++ [n]).length ≤ acc.length + 1 := by
      split
      · omega
      · simp
    rw [List.length_cons]
    omega
def kvB (ns : List Int) (b : Bool) : List (Key × V) := ns.map fun n => ((.inl n : Key), V.bl b)
theorem merge_kvB (b : Bool) : ∀ (r acc : List Int), mergeK (kvB acc b) (kvB r b) = kvB (firsts acc r) b
  | [], acc => rfl
  | n :: r, acc => by
    have e : putK (kvB acc b) (.inl n) (V.bl b) = kvB (if n ∈ acc then acc else acc ++ [n]) b := by
      unfold putK
      have ea : ((kvB acc b).any fun kv => decide (kv.1 = (.inl n : Key))) = decide (n ∈ acc) := by
        rw [Bool.eq_iff_iff, List.any_eq_true, decide_eq_true_eq]
        constructor
        · rintro ⟨x, hx, e⟩
          obtain ⟨m, hm, rfl⟩ := List.mem_map.mp hx
          have : m = n := by simpa using e
          exact this ▸ hm
        · intro h
          exact ⟨_, List.mem_map.mpr ⟨n, h, rfl⟩, by simp⟩
      rw [ea]
      by_cases c : n ∈ acc
      · rw [if_pos (by simpa using c), if_pos c]
        unfold kvB
        rw [List.map_map]
        refine List.map_congr_left fun x hx => ?_
        by_cases e : x = n
        · subst e; simp
        · simp [e]
      · rw [if_neg (by simpa using c), if_neg c]
        unfold kvB
        rw [List.map_append]; rfl
    show mergeK (putK (kvB acc b) (.inl n) (V.bl b)) (kvB r b) = _
    rw [e, merge_kvB b r]
    rfl
theorem pair_at {K : PySem.W.Frag} {G : Hp} {b : Bool} : ∀ {ns : List Int} {vs : List V}, DatL K G vs (ns.map fun n => .tup [.int n, .bool b]) → ∃ ps : List Addr, vs = ps.map V.ref ∧ Paired (fun p kv => SqT K G p [kV kv.1, kv.2]) ps (kvB ns b)
  | [], _, .nil => ⟨[], rfl, .nil⟩
  | n :: ns, _, .cons r rs => by
    obtain ⟨ps, rfl, h⟩ := pair_at rs
    cases r with
    | tup h1 h2 =>
      cases h2 with
      | cons a1 h3 =>
        cases h3 with
        | cons a2 h4 =>
          cases h4
          cases a1
          cases a2
          exact ⟨_ :: ps, rfl, .cons h1 h⟩
/-- list(dict(ps)), ps a list of (int, b) -/
theorem WE_keysP {Q : QS} (hm : Y.X.mg "list" = none) (hm2 : Y.X.mg "dict" = none) (calm : Y.X.calm = true) (b : Bool) (h : WE Y a τ ω fun s ω1 => ∃ ns : List Int, vw ω1 s = some (.list (ns.map fun n => .tup [.int n, .bool b])) ∧ newL ((firsts [] ns).map D.int) ω1 Q)
    (hg : Gl Y.X "list" := by rfl) (hg2 : Gl Y.X "dict" := by rfl) (he : starEach [a] Y.X.env = (false, eval a Y.X.env) :: starEach [] Y.X.env := by rfl)
    (he2 : starEach [.Call (.Name "dict" p2) [a] [] q2] Y.X.env = (false, eval (.Call (.Name "dict" p2) [a] [] q2) Y.X.env) :: starEach [] Y.X.env := by rfl) : WE Y (.Call (.Name "list" p) [.Call (.Name "dict" p2) [a] [] q2] [] pos) τ ω Q := by
  have hd : WE Y (.Call (.Name "dict" p2) [a] [] q2) τ ω fun s ω1 => ∃ ns : List Int, s = .d (.dict ((firsts [] ns).map fun n => ((.inl n : Key), D.bool b))) ∧ newL ((firsts [] ns).map D.int) ω1 Q :=
    WE_callTy hm2 (WA_one (P := fun d ω1 => ∃ ns : List Int, d = .list (ns.map fun n => .tup [.int n, .bool b]) ∧ newL ((firsts [] ns).map D.int) ω1 Q) (h.mono fun s ω1 ⟨ns, e, q⟩ => by rw [e]; exact ⟨ns, rfl, q⟩) he) (fun {G as H ω vs ss} _ o r ⟨s, d, e, hv, ns, ed, q⟩ => by
      subst e; subst ed
      obtain ⟨v, rfl, r1⟩ := r.one
      obtain ⟨ad, xs, rfl, h1, h2⟩ := (vw_ok o r1 hv : Vw _ _ _ v (.list (ns.map fun n => .tup [.int n, .bool b])))
      obtain ⟨ps, rfl, hp⟩ := pair_at h2
      refine wCall_lock <| wCall_of (call_dictP calm) ⟨ad, ps, kvB ns b, rfl, SqL.of h1, Paired.mapP hp fun _ _ z => sqt_mono o.sub z, fun l hl => ?_⟩
      rw [show ([] : List (Key × V)) = kvB [] b from rfl, merge_kvB]
      refine fin_newK o hl (ds := (firsts [] ns).map fun n => ((.inl n : Key), D.bool b)) ?_ ⟨.inl ⟨ns, rfl, q⟩⟩
      unfold kvB
      induction firsts [] ns with
      | nil => exact .nil
      | cons n r ih => exact .cons (.bool b) ih) (hg := hg2) (he := he)
  have hA : WA Y [.Call (.Name "dict" p2) [a] [] q2] τ ω fun ss ω1 => ∃ ns : List Int, ss = [.d (.dict ((firsts [] ns).map fun n => ((.inl n : Key), D.bool b)))] ∧ newL ((firsts [] ns).map D.int) ω1 Q :=
    WA_cons (hd.mono fun s ω1 ⟨ns, e, q⟩ => WA_nil ⟨ns, by rw [e], q⟩) he2
  exact WE_callTy (T := "list") hm hA (fun {G as H ω vs ss} _ o r ⟨ns, e, q⟩ => by
    subst e
    obtain ⟨v, rfl, r1⟩ := r.one
    have r2 : Dat Y.X.K G v (.dict ((firsts [] ns).map fun n => ((.inl n : Key), D.bool b))) := r1
    cases r2 with
    | dict h1 h2 =>
      refine wCall_of (call_listD calm) ⟨_, _, rfl, .inr ⟨_, o.sub _ _ h1⟩, fun l hl => ?_⟩
      have key : ∀ {L : List Int} {kvs : List (Key × V)}, DatK Y.X.K G kvs (L.map fun n => ((.inl n : Key), D.bool b)) → kvs.map (fun kv => kV kv.1) = L.map V.int := by
        intro L
        induction L with
        | nil => intro kvs h; cases h; rfl
        | cons n r ih =>
          intro kvs h
          cases h with
          | cons a t => rw [List.map_cons, List.map_cons, ih t]; rfl
      rw [key h2]
      exact fin_newL o hl (DatL.ints _) q) (hg := hg) (he := he2)
end
end Z

set_option Elab.async false
set_option linter.all false
set_option maxRecDepth 100000
set_option maxHeartbeats 1000000
/-! # Y6: comprehensions that draw, xs[i:], min and max of a list -/
namespace Z
open PySem PySem.Spec PyProof.Rows L2 LamX
section
variable {Y : Cy} {tg elt : Expr} {scope : Scope} {vs : List Nat} {τ : Tau} {Q : QS} {n : Nat} {y : Nat → D} {keep : List O → Prop} {ω : List O}
theorem lc_run (Pv : Nat → List D → List O → Prop) (h0 : Pv 0 [] ω) (hk : ∀ i acc ω', i ≤ n → Pv i acc ω' → ω'.length = ω.length ∧ Below ω'.length ω' ∧ keep (ω' ++ [.lst acc]))
    (step : ∀ i acc ω', i < n → Pv i acc ω' → ∀ s H C cl fp, WGv (blkY Y scope s H C cl fp) tg (.d (y i)) (wipeT τ vs) (ω' ++ [.lst acc]) vs fun τ2 ω2 => ∀ s H C cl fp, WE (blkY Y scope s H C cl fp) elt τ2 ω2 fun u ω4 => ∃ d ω5, u = .d d ∧ ω4 = ω5 ++ [.lst acc] ∧ acc.length < sizeLine ∧ Pv (i + 1) (acc ++ [d]) ω5)
    (fin : ∀ acc ω', Pv n acc ω' → Q (.d (.list acc)) ω') : LcD Y tg [] elt scope vs τ Q n y keep ω := by
  refine ⟨Pv, h0, hk, ?_, fun acc ω' h => .inl (fin acc ω' h)⟩
  intro i acc ω' hi hp s H C cl fp
  refine .mk fun G as H' σ v b o l r => ?_
  refine (step i acc ω' hi hp s H C cl fp G as H' σ v b o l r).mono fun σ' H2 ⟨e, g⟩ => ⟨e, g.mono fun _ _ ω2 _ _ _ ⟨τ2, l2, q⟩ => ⟨τ2, l2, fun s H C cl fp => WTs_nil (ite_t fun s H C cl fp => q s H C cl fp)⟩⟩
end
theorem cut_drop (xs : List D) (k : Nat) (h : k ≤ xs.length) : Z.cutD xs (some (k : Int)) none = xs.drop k := by
  unfold Z.cutD
  rw [HT.sIx_nat, HT.sIx_none, Nat.min_eq_left h]
  exact List.take_of_length_le (by rw [List.length_drop]; omega)
section
variable {Y : Cy} {τ : Tau} {ω : List O} {a : Expr} {p pos : Pos}
theorem WE_minL {Q : QS} (hm : Y.X.mg "min" = none) (calm : Y.X.calm = true) (h : WE Y a τ ω fun s ω1 => ∃ ns : List Int, vw ω1 s = some (.list (ns.map D.int)) ∧ 0 < ns.length ∧ ∀ m, m ∈ ns → (∀ y, y ∈ ns → m ≤ y) → Q (.d (.int m)) ω1) (hg : Gl Y.X "min" := by rfl)
    (he : starEach (a :: []) Y.X.env = (false, eval a Y.X.env) :: starEach [] Y.X.env := by rfl) : WE Y (.Call (.Name "min" p) [a] [] pos) τ ω Q :=
  WE_callB hm (WA_one (P := fun d ω1 => ∃ ns : List Int, d = .list (ns.map D.int) ∧ 0 < ns.length ∧ ∀ m, m ∈ ns → (∀ y, y ∈ ns → m ≤ y) → Q (.d (.int m)) ω1) (h.mono fun s ω1 ⟨ns, e, q⟩ => by rw [e]; exact ⟨ns, rfl, q⟩) he) (fun {G as H ω vs ss} _ o r ⟨s, d, e, hv, ns, ed, hn, q⟩ => by
    subst e; subst ed
    obtain ⟨v, rfl, r1⟩ := r.one
    obtain ⟨p, xs, rfl, h1, h2⟩ := (vw_ok o r1 hv : Vw _ _ _ v (.list (ns.map D.int)))
    have e := DatL.ints' h2
    subst e
    exact wCall_of (cr_min calm) ⟨p, ns, rfl, SqL.of h1, hn, fun m a b => fin_d o (.int _) (q m a b)⟩) (hg := hg) (he := he)
theorem WE_maxL {Q : QS} (hm : Y.X.mg "max" = none) (calm : Y.X.calm = true) (h : WE Y a τ ω fun s ω1 => ∃ ns : List Int, vw ω1 s = some (.list (ns.map D.int)) ∧ 0 < ns.length ∧ ∀ m, m ∈ ns → (∀ y, y ∈ ns → y ≤ m) → Q (.d (.int m)) ω1) (hg : Gl Y.X "max" := by rfl)
    (he : starEach (a :: []) Y.X.env = (false, eval a Y.X.env) :: starEach [] Y.X.env := by rfl) : WE Y (.Call (.Name "max" p) [a] [] pos) τ ω Q :=
  WE_callB hm (WA_one (P := fun d ω1 => ∃ ns : List Int, d = .list (ns.map D.int) ∧ 0 < ns.length ∧ ∀ m, m ∈ ns → (∀ y, y ∈ ns → y ≤ m) → Q (.d (.int m)) ω1) (h.mono fun s ω1 ⟨ns, e, q⟩ => by rw [e]; exact ⟨ns, rfl, q⟩) he) (fun {G as H ω vs ss} _ o r ⟨s, d, e, hv, ns, ed, hn, q⟩ => by
    subst e; subst ed
    obtain ⟨v, rfl, r1⟩ := r.one
    obtain ⟨p, xs, rfl, h1, h2⟩ := (vw_ok o r1 hv : Vw _ _ _ v (.list (ns.map D.int)))
    have e := DatL.ints' h2
    subst e
    exact wCall_of (cr_max calm) ⟨p, ns, rfl, SqL.of h1, hn, fun m a b => fin_d o (.int _) (q m a b)⟩) (hg := hg) (he := he)
end
theorem bad_nat {L : List Nat} : ∀ x ∈ L.map natD, ∃ a, tyD x = some a := fun x hx => by
  obtain ⟨b, _, rfl⟩ := List.mem_map.mp hx
  exact ⟨_, rfl⟩
theorem at_natD {L : List Nat} {i : Nat} (h : i < L.length) : atI (L.map natD) (i : Int) = some (natD (L.getD i 0)) := by
  unfold atI
  rw [show ixN (L.map natD).length (i : Int) = some i by unfold ixN; simp; omega]
  simp [List.getElem?_eq_getElem h]
theorem at_fun {n i : Nat} (f : Nat → Nat) (h : i < n) : atI ((List.range n).map fun k => natD (f k)) (i : Int) = some (natD (f i)) := by
  have hl : ((List.range n).map fun k => natD (f k)).length = n := by rw [List.length_map, List.length_range]
  unfold atI
  rw [show ixN ((List.range n).map fun k => natD (f k)).length (i : Int) = some i by unfold ixN; rw [hl]; simp; omega]
  simp [h]
end Z

set_option Elab.async false
set_option linter.all false
set_option maxRecDepth 100000
set_option maxHeartbeats 1000000
/-! # Y7: dict comprehensions, a dict walked -/
namespace L2
open PySem PySem.Spec PyProof.Rows
theorem dc_it {J : It} {n : Nat} {G : Hp → Prop} {Y : Nat → Hp → V → Hp → Prop} (w : Walk J n G Y) {g : TG} {tt : TT} {tk tv : TE} {vs : List Nat} {σ : St} {H1 : Hp} {D : Addr} {Qd : Hp → Prop} (Pv : Nat → Hp → Prop) (h0 : Pv 0 (upd H1 D (.dK []))) (hG : ∀ i H, i ≤ n → Pv i H → G H)
    (hs : ∀ i x H H', i < n → Pv i H → Y i H x H' → g x (wipe σ vs) H' fun σ2 H2 => wipe σ2 vs = wipe σ vs ∧ tt σ2 H2 fun b H3 =>
      if b = true then tk σ2 H3 fun y H4 => tv σ2 H4 fun z H5 => ∃ kvs k, y = kV k ∧ H5 D = some (.dK kvs) ∧ kvs.length < sizeLine ∧ Pv (i + 1) (upd H5 D (.dK (putK kvs k z))) else Pv (i + 1) H3) (hd : ∀ H, Pv n H → Qd H) :
    ∃ W : Nat → Nat → Hp → Prop, (∃ m, W 0 m (upd H1 D (.dK []))) ∧ ∀ i m H, W i m H →
      (J.stop i H ∧ Qd H) ∨ (J.go i H ∧ ∃ Nx : Hp → Prop, (∀ H', Nx H' → ∃ m', m' < m ∧ W (i + 1) m' H') ∧ ∀ x H', J.yld i H x H' → g x (wipe σ vs) H' fun σ2 H2 => wipe σ2 vs = wipe σ vs ∧ tt σ2 H2 fun b H3 =>
        if b = true then tk σ2 H3 fun y H4 => tv σ2 H4 fun z H5 => ∃ kvs k, y = kV k ∧ H5 D = some (.dK kvs) ∧ kvs.length < sizeLine ∧ Nx (upd H5 D (.dK (putK kvs k z))) else Nx H3) := by
  refine ⟨fun i m H => m = n - i ∧ i ≤ n ∧ Pv i H, ⟨n, by simp, Nat.zero_le _, h0⟩, ?_⟩
  rintro i m H ⟨rfl, hi, p⟩
  have q := hG i H hi p
  by_cases hlt : i < n
  · refine .inr ⟨w.goes i H hlt q, Pv (i + 1), fun H' p' => ⟨n - (i + 1), by omega, rfl, hlt, p'⟩, fun x H' y => hs i x H H' hlt p (w.yields i H x H' hlt q y)⟩
  · have e : i = n := by omega
    subst e
    exact .inl ⟨w.stops H q, hd H p⟩
end L2
namespace Z
open PySem PySem.Spec PyProof.Rows L2 LamX
def keyO : Key → D
  | .inl i => .int i
  | .inr x => .str x
section
variable {Y : Cy} {G H : Hp} {as : List Addr} {τ : Tau} {ω : List O} {tg iter kx vx : Expr} {ifs : List Expr} {pos : Pos} {vs : List Nat} {scope : Scope}
/-- a dict as data, key by key -/
theorem ItD_dict {R : (n : Nat) → (Nat → D) → (List O → Prop) → List O → Prop} (h : WE Y iter τ ω fun s ω1 => ∃ ks, s = .d (.dict ks) ∧ R ks.length (fun i => keyO (ks.getD i (.inl 0, .none)).1) (fun _ => True) ω1) : ItD Y tg iter τ ω R := by
  refine .mk fun G as H σ b o l => wI_of (pi_keys pe_w) ?_
  refine (h G as H σ b o l).mono fun x H1 ⟨G1, as1, ω1, g1, p1, o1, s, r, ks, e, q⟩ => ?_
  subst e
  cases r with
  | @dict a ob kvs _ h1 h2 =>
    have hl : kvs.length = ks.length := h2.length
    refine ⟨a, ob, rfl, .inl ⟨kvs, o1.sub _ _ h1, G1, as1, ω1, g1, p1, o1, ks.length, _, _, _, _, hl ▸ walk_keys, fun G' H' as' ω' g p o' k => o'.sub _ _ (g _ _ h1), fun i x G' H' H'' as' ω' hi g p o' k y => ?_, q⟩⟩
    obtain ⟨rfl, ky, v, hk, rfl⟩ := y
    refine ⟨G', Same.refl _, o', ?_⟩
    have key : ∀ {kvs : List (Key × V)} {ks : List (Key × D)} {i : Nat} {ky : Key} {v : V}, DatK Y.X.K G1 kvs ks → kvs[i]? = some (ky, v) → (ks.getD i (.inl 0, .none)).1 = ky := by
      intro kvs ks i ky v r
      induction i generalizing kvs ks with
      | zero =>
        intro e
        cases r with
        | nil => cases e
        | cons a b => cases e; rfl
      | succ i ih =>
        intro e
        cases r with
        | nil => cases e
        | cons a b => exact ih b e
    rw [key h2 hk]
    cases ky with
    | inl i => exact .int i
    | inr x => exact .str x
/-- what a dict comprehension asks -/
def DcD (Y : Cy) (tg : Expr) (ifs : List Expr) (kx vx : Expr) (scope : Scope) (vs : List Nat) (τ : Tau) (Q : QS) (n : Nat) (y : Nat → D) (keep : List O → Prop) (ω1 : List O) : Prop :=
  ∃ Pv : Nat → List (Key × D) → List O → Prop, Pv 0 [] ω1 ∧ (∀ i acc ω', i ≤ n → Pv i acc ω' → ω'.length = ω1.length ∧ Below ω'.length ω' ∧ keep (ω' ++ [.dct acc])) ∧
    (∀ i acc ω', i < n → Pv i acc ω' → ∀ s H C cl fp, WGv (blkY Y scope s H C cl fp) tg (.d (y i)) (wipeT τ vs) (ω' ++ [.dct acc]) vs fun τ2 ω2 =>
      ∀ s H C cl fp, WTs (blkY Y scope s H C cl fp) ifs τ2 ω2 fun b ω3 => if b = true then
        ∀ s H C cl fp, WE (blkY Y scope s H C cl fp) kx τ2 ω3 fun u ω4 => ∀ s H C cl fp, WE (blkY Y scope s H C cl fp) vx τ2 ω4 fun w ω5 => ∃ dk key d ω6, u = .d dk ∧ keyD dk = some key ∧ w = .d d ∧ ω5 = ω6 ++ [.dct acc] ∧ acc.length < sizeLine ∧ Pv (i + 1) (putD acc key d) ω6
      else ∃ ω5, ω3 = ω5 ++ [.dct acc] ∧ Pv (i + 1) acc ω5) ∧
    ∀ acc ω', Pv n acc ω' → Q (.d (.dict acc)) ω' ∨ Q (.o ω'.length) (ω' ++ [.dct acc])
theorem dc_ok {Q : QS} (h : ItD Y tg iter τ ω fun n y keep ω1 => DcD Y tg ifs kx vx scope vs τ Q n y keep ω1) {σ : L2.St} (b : Base Y G as) (o : Ok Y.X.K Y.T G H as ω) (l : SlR Y.X.K G as σ τ) :
    tDc (wI Y.X tg iter) (bG Y.X scope tg) (bT Y.X scope ifs) (bE Y.X scope kx) (bE Y.X scope vx) vs σ H fun v H' => Fin1 Y G as Q v H' ∨ ∃ d u, v = .ref d ∧ H' d = some u ∧ Mut (some u) ∧ ∀ od, Fin1 Y G as Q v (upd H' d (.frz od u)) := by
  unfold tDc
  refine (h G as H σ b o l).mono fun J H1 hh => ?_
  obtain ⟨G1, as1, ω1, g1, p1, o1, n, y, keep, Gd, Yv, W, k1, k2, Pv, h0, hk, hstep, hend⟩ := hh
  intro Dn hD
  let PH : Nat → Hp → Prop := fun i H' => ∃ G' ω' acc, Same G1 G' ∧ Ok Y.X.K Y.T G' H' (as1 ++ [Dn]) (ω' ++ [.dct acc]) ∧ Pv i acc ω'
  have l1 : ∀ {acc ω' G' H'}, Ok Y.X.K Y.T G' H' (as1 ++ [Dn]) (ω' ++ [O.dct acc]) → as1.length = ω'.length := fun o => by
    have := o.len
    simpa using this
  refine dc_it W (Qd := fun H' => Fin1 Y G as Q (.ref Dn) H' ∨ ∃ d u, V.ref Dn = .ref d ∧ H' d = some u ∧ Mut (some u) ∧ ∀ od, Fin1 Y G as Q (.ref Dn) (upd H' d (.frz od u))) PH ⟨G1, ω1, [], Same.refl _, o1.newO hD (o := .dct []) ⟨[], upd_same, .nil⟩, h0⟩ ?_ ?_ ?_
  · rintro i H' hi' ⟨G', ω', acc, g', o', q'⟩
    exact k1 G' H' _ _ g' pre_snoc o' (hk i acc ω' hi' q').2.2
  · rintro i x H' H'' hi' ⟨G', ω', acc, g', o', q'⟩ hy
    obtain ⟨G'', g'', o'', r''⟩ := k2 i x G' H' H'' _ _ hi' g' pre_snoc o' (hk i acc ω' (Nat.le_of_lt hi') q').2.2 hy
    have gg := g'.trans g''
    intro s0 H0 C cl fp
    have B : Base (blkY Y scope s0 H0 C cl fp) G'' (as1 ++ [Dn]) := b.go (g1.trans gg) (p1.trans pre_snoc)
    refine (hstep i acc ω' hi' q' s0 H0 C cl fp G'' (as1 ++ [Dn]) H'' (L2.wipe σ vs) x B o'' ((l.mono (g1.trans gg) (p1.trans pre_snoc)).wipe vs) r'').mono fun σ2 H2 ⟨ew, G2, as2, ω2, g2, p2, o2, τ2, l2, q2⟩ => ?_
    refine ⟨ew.trans (wipe_wipe σ vs), fun s0 H0 C cl fp => ?_⟩
    have B2 : Base Y G2 as2 := Base.go (Y := Y) B g2 p2
    refine (q2 s0 H0 C cl fp G2 as2 H2 σ2 B2 o2 l2).mono fun k H3 ⟨G3, as3, ω3, g3, p3, o3, q3⟩ => ?_
    have tail : ∀ {G5 : Hp} {H5 : Hp} {as5 : List Addr} {ω5 : List O}, as1 ++ [Dn] <+: as5 → Ok Y.X.K Y.T G5 H5 as5 (ω5 ++ [.dct acc]) → ω5.length = as1.length → as5 = as1 ++ [Dn] := fun {G5 H5 as5 ω5} p o hl => by
      refine (p.eq_of_length ?_).symm
      have := o.len
      simp only [List.length_append, List.length_singleton] at this ⊢
      omega
    cases k with
    | true =>
      rw [if_pos rfl] at q3 ⊢
      intro s0 H0 C cl fp
      have B3 : Base Y G3 as3 := Base.go (Y := Y) B2 g3 p3
      refine (q3 s0 H0 C cl fp G3 as3 H3 σ2 B3 o3 (l2.mono g3 p3)).mono fun u H4 ⟨G4, as4, ω4, g4, p4, o4, s4, r4, q4⟩ => ?_
      intro s0 H0 C cl fp
      have B4 : Base Y G4 as4 := Base.go (Y := Y) B3 g4 p4
      refine (q4 s0 H0 C cl fp G4 as4 H4 σ2 B4 o4 (l2.mono (g3.trans g4) (p3.trans p4))).mono fun w H5 ⟨G5, as5, ω5, g5, p5, o5, s5, r5, dk, key, d, ω6, e0, ek, e1, e2, hz, q5⟩ => ?_
      subst e0 e1 e2
      have hl5 := (hk (i + 1) _ ω6 hi' q5).1
      have e5 := tail (p2.trans (p3.trans (p4.trans p5))) o5 (by rw [hl5]; exact o1.len.symm)
      subst e5
      have hD4 : (as1 ++ [Dn])[as1.length]? = some Dn := by simp
      have hl1 : as1.length = ω6.length := l1 o5
      have hW : (ω6 ++ [O.dct acc])[as1.length]? = some (.dct acc) := by rw [hl1]; simp
      obtain ⟨vs4, h41, h42⟩ := o5.own _ _ _ hD4 hW
      have r4' : Dat Y.X.K G4 u dk := r4
      refine ⟨vs4, key, keyD_ok r4' ek, h41, by rw [h42.length]; exact hz, ?_⟩
      have o6 := o5.upd hD4 hW (by intro z; cases z) (o' := .dct (putD acc key d)) (u := .dK (putK vs4 key w)) ⟨_, upd_same, h42.put r5⟩
      have e6 : (ω6 ++ [O.dct acc]).set as1.length (.dct (putD acc key d)) = ω6 ++ [.dct (putD acc key d)] := by rw [hl1]; simp
      rw [e6] at o6
      exact ⟨G5, ω6, putD acc key d, gg.trans (g2.trans (g3.trans (g4.trans g5))), o6, q5⟩
    | false =>
      rw [if_neg Bool.false_ne_true] at q3 ⊢
      obtain ⟨ω5, e2, q4⟩ := q3
      subst e2
      have hl5 := (hk (i + 1) _ ω5 hi' q4).1
      have e5 := tail (p2.trans p3) o3 (by rw [hl5]; exact o1.len.symm)
      subst e5
      exact ⟨G3, ω5, acc, gg.trans (g2.trans g3), o3, q4⟩
  · rintro H' ⟨G', ω', acc, g', o', q'⟩
    obtain ⟨hl, hb, _⟩ := hk n acc ω' (Nat.le_refl _) q'
    have hl1 := l1 o'
    have hD4 : (as1 ++ [Dn])[as1.length]? = some Dn := by simp
    have hW : (ω' ++ [O.dct acc])[as1.length]? = some (.dct acc) := by rw [hl1]; simp
    rcases hend acc ω' q' with q | q
    · obtain ⟨vs4, h41, h42⟩ := o'.own _ _ _ hD4 hW
      refine .inr ⟨Dn, _, rfl, h41, True.intro, fun od => ?_⟩
      have o6 := o'.upd hD4 hW (by intro z; cases z) (o' := .lok acc) (u := .frz od (.dK vs4)) ⟨od, vs4, upd_same, h42⟩
      have hW6 : ((ω' ++ [O.dct acc]).set as1.length (.lok acc)) = ω' ++ [.lok acc] := by rw [hl1]; simp
      rw [hW6] at o6
      have hW7 : (ω' ++ [O.lok acc])[as1.length]? = some (.lok acc) := by rw [hl1]; simp
      have o2 := o6.cut (n := ω'.length) (by simp) (by rw [take_pre]; exact hb)
      rw [take_pre, ← hl1, take_pre] at o2
      have hG := o6.fre _ _ _ hD4 hW7 (by intro z; cases z)
      have o3 := o2.take hG upd_same (fun ps z => by cases z) fun k u e1 e2 => by
        cases u with
        | gone => rfl
        | _ =>
          exfalso
          have hk1 : k < as1.length := (List.getElem?_eq_some_iff.mp e1).1
          have := o6.inj k as1.length Dn _ _ (by rw [List.getElem?_append_left hk1]; exact e1) hD4 (by rw [List.getElem?_append_left (by omega)]; exact e2) hW7 (by intro z; cases z) (by intro z; cases z)
          omega
      exact ⟨_, as1, ω', (g1.trans g').trans (Evl.Ex.new hG), p1, o3, .d (.dict acc), .dict upd_same (h42.mono (Evl.Ex.new hG)), q⟩
    · exact .inl ⟨G', _, _, g1.trans g', p1.trans pre_snoc, o', .o ω'.length, ⟨Dn, by rw [← hl1]; exact hD4, rfl⟩, q⟩
/-- {kx: vx for tg in iter if ..} -/
theorem WE_dc (own : List (Str × Nat)) {Q : QS} (calm : Y.X.calm = true) (hN : Y.X.N.Nodup) (ok : BlkOk Y.X.N Y.X.env.scope scope own) (h : ItD Y tg iter τ ω fun n y keep ω1 => DcD Y tg ifs kx vx scope (own.map (·.2)) τ Q n y keep ω1)
    (hs : ∀ x, foldedSetIterable iter Y.X.env x = pure x := by intro _; rfl) : WE Y (.DictComp kx vx [⟨tg, iter, ifs, 0⟩] scope pos) τ ω Q := .mk fun G as H σ b o l =>
  wE_lock (wE_of (pe_dc calm hN pi_w ok (fun s H C cl fp => ⟨fun pins st σ H v u Q I r h => h s _ C cl fp pins st u I r⟩) (fun s H C cl fp => ⟨fun pins st σ H Q I h => h s _ C cl fp pins st I⟩) (fun s H C cl fp => ⟨fun pins st σ H Q I h => h s _ C cl fp pins st I⟩) (fun s H C cl fp => ⟨fun pins st σ H Q I h => h s _ C cl fp pins st I⟩) hs) (dc_ok h b o l))
end
end Z

set_option Elab.async false
set_option linter.all false
set_option maxRecDepth 100000
set_option maxHeartbeats 1000000
/-! # Y8: lots of words -/
namespace Z
open PySem PySem.Spec PyProof.Rows L2 LamX
section
variable {Y : Cy} {tg kx vx : Expr} {scope : Scope} {vs : List Nat} {τ : Tau} {Q : QS} {n : Nat} {y : Nat → D} {keep : List O → Prop} {ω : List O}
theorem putD_new {ks : List (Key × D)} {k : Key} {d : D} (h : ∀ p ∈ ks, p.1 ≠ k) : putD ks k d = ks ++ [(k, d)] := by
  unfold putD
  rw [if_neg]
  intro c
  obtain ⟨p, hp, e⟩ := List.any_eq_true.mp c
  exact h p hp (of_decide_eq_true e)
/-- {kx: vx for tg in iter}, all keys unlike -/
theorem dc_map (f : Nat → Key × D) (hd : ∀ i j, i < n → j < n → (f i).1 = (f j).1 → i = j) (hb : Below ω.length ω) (hk : ∀ acc, keep (ω ++ [.dct acc])) (hn : n ≤ sizeLine)
    (step : ∀ i acc, i < n → ∀ s H C cl fp, WGv (blkY Y scope s H C cl fp) tg (.d (y i)) (wipeT τ vs) (ω ++ [.dct acc]) vs fun τ2 ω2 => ∀ s H C cl fp, WE (blkY Y scope s H C cl fp) kx τ2 ω2 fun u ω4 => ∀ s H C cl fp, WE (blkY Y scope s H C cl fp) vx τ2 ω4 fun w ω5 => ∃ dk, u = .d dk ∧ keyD dk = some (f i).1 ∧ w = .d (f i).2 ∧ ω5 = ω ++ [.dct acc])
    (fin : Q (.d (.dict ((List.range n).map f))) ω) : DcD Y tg [] kx vx scope vs τ Q n y keep ω := by
  refine ⟨fun i acc ω' => acc = (List.range i).map f ∧ ω' = ω, ⟨rfl, rfl⟩, ?_, ?_, ?_⟩
  · rintro i acc ω' hi ⟨rfl, rfl⟩
    exact ⟨rfl, hb, hk _⟩
  · rintro i acc ω' hi ⟨rfl, rfl⟩ s H C cl fp
    refine .mk fun G as H' σ v b o l r => ?_
    refine (step i _ hi s H C cl fp G as H' σ v b o l r).mono fun σ' H2 ⟨e, g⟩ => ⟨e, g.mono fun _ _ ω2 _ _ _ ⟨τ2, l2, q⟩ => ⟨τ2, l2, fun s H C cl fp => WTs_nil (ite_t fun s H C cl fp => (q s H C cl fp).mono fun u ω4 q4 s H C cl fp => (q4 s H C cl fp).mono fun w ω5 ⟨dk, e1, e2, e3, e4⟩ => ⟨dk, _, _, ω', e1, e2, e3, e4, ?_, ?_, rfl⟩)⟩⟩
    · rw [List.length_map, List.length_range]; omega
    · rw [putD_new, List.range_succ, List.map_append]
      · rfl
      · intro p hp e
        obtain ⟨j, hj, rfl⟩ := List.mem_map.mp hp
        have := hd j i (by have := List.mem_range.mp hj; omega) hi e
        have := List.mem_range.mp hj
        omega
  · rintro acc ω' ⟨rfl, rfl⟩
    exact .inl fin
end
section
variable {ω : List O} {s t : S} {B : QB}
theorem c_inK {i : Int} {ks : List (Key × D)} (ht : vw ω t = some (.dict ks)) (q : B (dlook ks (.inl i)).isSome) : cmpS .In (.d (.int i)) t ω B := by
  refine ⟨?_⟩; unfold cmpS0; rw [ht]; exact q
theorem c_notInK {i : Int} {ks : List (Key × D)} (ht : vw ω t = some (.dict ks)) (q : B (!(dlook ks (.inl i)).isSome)) : cmpS .NotIn (.d (.int i)) t ω B := by
  refine ⟨?_⟩; unfold cmpS0; rw [ht]; exact q
end
/-- words and True -/
def kOf (m : List Nat) : List (Key × D) := m.map fun b : Nat => ((.inl (b : Int) : Key), D.bool true)
theorem kOf_len (m : List Nat) : (kOf m).length = m.length := by unfold kOf; rw [List.length_map]
theorem look_kOf (m : List Nat) (x : Nat) : (dlook (kOf m) (.inl (x : Int))).isSome = decide (x ∈ m) := by
  unfold dlook kOf
  induction m with
  | nil => rfl
  | cons a m ih =>
    rw [List.map_cons, List.find?_cons]
    by_cases e : a = x
    · subst e; simp
    · have h1 : decide (((.inl (a : Int) : Key)) = .inl (x : Int)) = false := by
        simp only [decide_eq_false_iff_not]
        intro z
        injection z with z
        omega
      simp only [h1]
      rw [ih]
      have : ¬ x = a := fun z => e z.symm
      simp [this]
theorem key_kOf {m : List Nat} {i : Nat} (h : i < m.length) : keyO ((kOf m).getD i (.inl 0, .none)).1 = natD (m.getD i 0) := by
  unfold kOf
  rw [List.getD_eq_getElem?_getD, List.getD_eq_getElem?_getD, List.getElem?_map, List.getElem?_eq_getElem h]
  rfl
theorem kOf_range (m : List Nat) : (List.range m.length).map (fun i => ((.inl ((m.getD i 0 : Nat) : Int) : Key), D.bool true)) = kOf m := by
  unfold kOf
  apply List.ext_getElem
  · simp
  · intro i h1 h2
    have h3 : i < m.length := by simpa using h1
    simp [List.getElem?_eq_getElem h3]
theorem getD_natD {m : List Nat} {i : Nat} (h : i < m.length) : (m.map natD).getD i .none = natD (m.getD i 0) := by
  rw [List.getD_eq_getElem?_getD, List.getD_eq_getElem?_getD, List.getElem?_map, List.getElem?_eq_getElem h]
  rfl
def inW (d : D) : Bool := isW d (some 0) none
def isWords (xs : List D) : Bool := xs.all inW && decide (xs.map intOf).Nodup
theorem inW_nat {d : D} (h : inW d = true) : ∃ b : Nat, d = natD b := by
  cases d with
  | int i =>
    have h : (decide (0 ≤ i) && true) = true := h
    rw [Bool.and_true] at h
    have h1 := of_decide_eq_true h
    exact ⟨i.toNat, by rw [natD, Int.toNat_of_nonneg h1]⟩
  | _ => cases h
theorem nat_inW (b : Nat) : inW (natD b) = true := by
  show (decide ((0 : Int) ≤ b) && true) = true
  simp
theorem all_natW : ∀ {xs : List D}, xs.all inW = true → ∃ L : List Nat, xs = L.map natD
  | [], _ => ⟨[], rfl⟩
  | x :: r, h => by
    rw [List.all_cons, Bool.and_eq_true] at h
    obtain ⟨b, rfl⟩ := inW_nat h.1
    obtain ⟨L, rfl⟩ := all_natW h.2
    exact ⟨b :: L, rfl⟩
theorem all_inW (L : List Nat) : (L.map natD).all inW = true := List.all_eq_true.mpr fun x hx => by
  obtain ⟨b, hb, rfl⟩ := List.mem_map.mp hx
  exact nat_inW b
theorem isWords_of {L : List Nat} : isWords (L.map natD) = decide L.Nodup := by
  unfold isWords
  rw [all_inW, Bool.true_and, ints_nat]
  exact decide_eq_decide.mpr nd_cast
/-- what refuses a value that is no list of unlike words, and what goes on with them -/
def wordsOr (W : Wd) (d : D) (ω : List O) (E : XD → List O → Prop) (ok : List Nat → Prop) : Prop :=
  (∃ a, tyD d = some a ∧ a ≠ "list" ∧ a ≠ "tuple" ∧ E ⟨He.ga W.K "BadWord", [("part", .str "words")]⟩ ω) ∨
  (∃ xs, (d = .list xs ∨ d = .tup xs) ∧ xs.length ≤ 4000 ∧ (∀ x ∈ xs, ∃ a, tyD x = some a) ∧ isWords xs = false ∧ E ⟨He.ga W.K "BadWord", [("part", .str "words")]⟩ ω) ∨
  (∃ L : List Nat, (d = .list (L.map natD) ∨ d = .tup (L.map natD)) ∧ L.length ≤ 4000 ∧ L.Nodup ∧ 1024 < L.length ∧ E ⟨He.ga W.K "TooMany", [("what", .str "words"), ("most", .int 1024)]⟩ ω) ∨
  ∃ L : List Nat, (d = .list (L.map natD) ∨ d = .tup (L.map natD)) ∧ L.length ≤ 1024 ∧ L.Nodup ∧ ok L
/-- need_words(value) -/
abbrev spNeedWords (W : Wd) : Spc := fun ss ω Q E => ∃ d, ss = [.d d] ∧ wordsOr W d ω E fun L => ∀ m : List Nat, m.Perm L → m.Pairwise (· < ·) → Q (.d (.dict (kOf m))) ω
theorem wordsOr.mono {W : Wd} {d : D} {ω : List O} {E : XD → List O → Prop} {ok ok' : List Nat → Prop} (h : wordsOr W d ω E ok) (k : ∀ L, L.length ≤ 1024 → L.Nodup → ok L → ok' L) : wordsOr W d ω E ok' := by
  rcases h with h | h | h | ⟨L, h1, h2, h3, h4⟩
  · exact .inl h
  · exact .inr (.inl h)
  · exact .inr (.inr (.inl h))
  · exact .inr (.inr (.inr ⟨L, h1, h2, h3, k L h2 h3 h4⟩))
end Z

set_option Elab.async false
set_option linter.all false
set_option maxRecDepth 100000
set_option maxHeartbeats 400000
namespace L05
open PySem PySem.Spec PyProof.Rows L2 LamX Z
abbrev prog : Program := PySem.Challenge.pw_oneflip_k05_whole_no_words_have_more_pai
def top (i : Nat) : Stmt := prog.main.body.getD i (.Pass ⟨0, 0, 0, 0⟩)
variable {W : Wd} {k : Nat} {cdv : Value}
local macro_rules
  | `(tactic| walk_at "B") => `(tactic| exact (‹Bs _ blts›).no _ (by decide))
theorem sc6 : FnScope ["value"] ["value"] (defScope (top 6)) := ⟨rfl, rfl, rfl, by decide +kernel, rfl, by decide +kernel, by decide +kernel⟩
theorem b6 (hB : Bs W blts) : Body W ["value"] ["value"] "is_integer" (defScope (top 6)) cdv (defBody (top 6)) k spIsI := by
  intro f A outer s H E G as rz ss ω Q0 E0 B hl h
  obtain ⟨d, a, rfl, hd, q⟩ := h
  have hu := B.cal.rm
  have hb := B.bel
  rw [isI_eq hd] at q
  refine WB_cons (WS_ret (WE_and (WE_isi (by walk_at "B") (WE_var 0 (ty_int (by walk_at "B") ?_)))))
  refine i_ty hd (t_bool ?_)
  refine ite_b (fun h1 => ?_) (fun h1 => ?_)
  · refine WE_one (WE_not (WE_isi (by walk_at "B") (WE_var 0 (ty_bool (by walk_at "B") ?_))))
    refine i_ty hd (t_bool ?_)
    rw [h1, Bool.true_and] at q
    exact rt_d hb q
  · rw [h1]
    rw [h1, Bool.false_and] at q
    exact rt_d hb q
theorem sc7 : FnScope ["value", "least", "most"] ["value", "least", "most"] (defScope (top 7)) := ⟨rfl, rfl, rfl, by decide +kernel, rfl, by decide +kernel, by decide +kernel⟩
theorem b7 {j : Nat} (hB : Bs W blts) (D1 : Def W "is_integer" 1 j ["value"] spIsI []) (hj : j ≤ k) : Body W ["value", "least", "most"] ["value", "least", "most"] "is_within" (defScope (top 7)) cdv (defBody (top 7)) k spIsW := by
  intro f A outer s H E G as rz ss ω Q0 E0 B hl h
  obtain ⟨d, a, l, m, rfl, hd, q⟩ := h
  have hu := B.cal.rm
  have hb := B.bel
  have cal := B.cal
  refine WB_cons (WS_if (WT_not (WT_truth (WE_call D1 cal hj (WA_cons (WE_var 0 (WA_nil ?_)))))))
  refine ⟨rfl, d, a, rfl, hd, t_bool ?_⟩
  cases d with
  | int i =>
    refine ite_f (WB_nil ?_)
    have q : Q0 (.d (.bool (lowB l i && topB m i))) ω := q
    refine WB_cons (WS_ret (WE_and (WE.mono (Q := fun s ω' => s = .d (.bool (lowB l i)) ∧ ω' = ω) ?_ ?_)))
    · refine WE_or (WE_cmp hu (WE_var 1 (WE_none ?_)))
      cases l with
      | none => exact c_isN rfl (t_bool (ite_t ⟨rfl, rfl⟩))
      | some l => exact c_isN rfl (t_bool (ite_f (WE_one (WE_cmp hu (WE_var 1 (WE_var 0 (c_le ⟨rfl, rfl⟩)))))))
    rintro _ _ ⟨rfl, rfl⟩
    refine t_bool (ite_b (fun h1 => ?_) (fun h1 => ?_))
    · rw [h1, Bool.true_and] at q
      refine WE_one (WE_or (WE_cmp hu (WE_var 2 (WE_none ?_))))
      cases m with
      | none => exact c_isN rfl (t_bool (ite_t (rt_d hb q)))
      | some m => exact c_isN rfl (t_bool (ite_f (WE_one (WE_cmp hu (WE_var 0 (WE_var 2 (c_le (rt_d hb q))))))))
    · rw [h1, Bool.false_and] at q
      rw [h1]
      exact rt_d hb q
  | _ => exact ite_t (WB_cons (WS_ret (WE_bool (rt_d hb q))))
abbrev spNeedN (W : Wd) : Spc := fun ss ω Q E => ∃ d a part l m, ss = [.d d, .d (.str part), .d (optD l), .d (optD m)] ∧ tyD d = some a ∧ (isW d l m = true → Q (.d .none) ω) ∧ (isW d l m = false → E ⟨He.ga W.K "BadNumber", [("part", .str part)]⟩ ω)
theorem sc8 : FnScope ["value", "part", "least", "most"] ["value", "part", "least", "most"] (defScope (top 8)) := ⟨rfl, rfl, rfl, by decide +kernel, rfl, by decide +kernel, by decide +kernel⟩
theorem b8 {j : Nat} (hB : Bs W blts) (D1 : Def W "is_within" 3 j ["value", "least", "most"] spIsW []) (T1 : Err W "BadNumber" (He.ga W.K "BadNumber") ["part"]) (hj : j ≤ k) (h3 : 3 ≤ k) : Body W ["value", "part", "least", "most"] ["value", "part", "least", "most"] "need_number" (defScope (top 8)) cdv (defBody (top 8)) k (spNeedN W) := by
  intro f A outer s H E G as rz ss ω Q0 E0 B hl h
  obtain ⟨d, a, part, l, m, rfl, hd, q1, q2⟩ := h
  have hu := B.cal.rm
  have hb := B.bel
  have cal := B.cal
  have calm := B.calm
  refine WB_cons (WS_if (WT_not (WT_truth (WE_call D1 cal hj (WA_cons (WE_var 0 (WA_cons (WE_var 2 (WA_cons (WE_var 3 (WA_nil ?_)))))))))))
  refine ⟨rfl, d, a, l, m, rfl, hd, t_bool (ite_b (fun h1 => ?_) (fun h1 => ?_))⟩
  · refine WB_cons (WS_raiseE T1 cal calm (WA_cons (WE_var 1 (WA_nil ⟨[.str part], rfl, rfl, ?_⟩))))
    rw [B.rzE]
    exact rz_of (List.prefix_refl _) (Nat.le_refl _) hb (q2 (by simpa using h1))
  · exact WB_nil (WB_nil (rt_d hb (q1 (by simpa using h1))))
theorem sc12 : FnScope ["word", "bit"] ["word", "bit"] (defScope (top 12)) := ⟨rfl, rfl, rfl, by decide +kernel, rfl, by decide +kernel, by decide +kernel⟩
theorem b12 (hB : Bs W blts) : Body W ["word", "bit"] ["word", "bit"] "is_one" (defScope (top 12)) cdv (defBody (top 12)) k spOneAt := by
  intro f A outer s H E G as rz ss ω Q0 E0 B hl h
  obtain ⟨w, b, rfl, q⟩ := h
  have hu := B.cal.rm
  have hb := B.bel
  refine WB_cons <| WS_ret <| WE_cmp hu <| WE_bin <| WE_bin <| WE_var 0 <| WE_var 1 ?_
  refine b_shr (by omega) <| WE_int <| b_and ?_
  rw [Int.toNat_natCast, divInt, andInt]
  refine WE_int <| c_eq ?_
  rw [bit_shift]
  exact rt_d hb q
theorem sc13 : FnScope ["word", "bit"] ["word"] (defScope (top 13)) := ⟨rfl, rfl, rfl, by decide +kernel, rfl, by decide +kernel, by decide +kernel⟩
theorem b13 {j : Nat} (hB : Bs W blts) (D1 : Def W "is_one" 2 j ["word", "bit"] spOneAt []) (hj : j ≤ k) : Body W ["word", "bit"] ["word"] "bits_in" (defScope (top 13)) cdv (defBody (top 13)) k spBits := by
  intro f A outer s H E G as rz ss ω Q0 E0 B hl h
  obtain ⟨w, rfl, hw, q⟩ := h
  have hb := B.bel
  have cal := B.cal
  have calm := B.calm
  have nd : (["word", "bit"] : List Str).Nodup := sc13.nd
  have hm : bl w ≤ 60000 := bits_le (k := wid) hw
  refine WB_cons <| WS_ret <| WE_tupOf (by walk_at "B") <| WE_lc [("bit", 1)] calm nd (blkOk_by (N := ["word", "bit"]) (sc := defScope (top 13)) (by decide +kernel)) <| ItD_range1 (by walk_at "B") <| WE_bits <| WE_var 0 ?_
  refine ⟨_, rfl, _, rfl, ?_, ?_, ?_⟩
  · show _ ≤ ((bl w : Nat) : Int); omega
  · show ((bl w : Nat) : Int) < _; omega
  rw [Int.toNat_natCast]
  refine lc_filter (fun i => .int (i : Int)) w.testBit hb (fun acc => trivial) (small_le (show bl w ≤ 1000000 by omega)) (fun i acc hi s H C cl fp => ?_) ?_
  · refine WGv_name 1 (hN := nd) fun s H C cl fp => ?_
    refine WT_truth <| WE_call D1 cal.blk hj <| WA_cons <| WE_var 0 <| WA_cons <| WE_var 1 <| WA_nil ⟨rfl, w, i, rfl, t_bool ⟨rfl, rfl, fun s H C cl fp => ?_⟩⟩
    exact WE_var 1 ⟨rfl, rfl⟩
  · refine newL.d (small_le ?_) (rt_d hb q)
    have := List.length_filter_le w.testBit (List.range (bl w))
    rw [List.length_map]
    rw [List.length_range] at this
    exact Nat.le_trans this (Nat.le_trans hm (by decide))
theorem sc17 : FnScope ["script", "cell"] ["script"] (defScope (top 17)) := ⟨rfl, rfl, rfl, by decide +kernel, rfl, by decide +kernel, by decide +kernel⟩
theorem b17 (hB : Bs W blts) : Body W ["script", "cell"] ["script"] "_law_hive" (defScope (top 17)) cdv (defBody (top 17)) k spQuay := by
  intro f A outer s H E G as rz ss ω Q0 E0 B hl h
  obtain ⟨ns, rfl, hn, q⟩ := h
  have hu := B.cal.rm
  have hb := B.bel
  have calm := B.calm
  have nd : (["script", "cell"] : List Str).Nodup := sc17.nd
  refine WB_cons <| WS_ret <| WE_list <| WA_cons <| WE_lc [("cell", 1)] calm nd (blkOk_by (N := ["script", "cell"]) (sc := defScope (top 17)) (by decide +kernel)) <| ItD_list <| WE_slice <| WE_var 0 <| wo_none <| wo_int <| WE_int ⟨60, rfl, ?_⟩
  refine sl_of rfl <| newL.d (small_le (by have := cutD_len (ns.map D.int) none (some 60); rw [List.length_map] at this; omega)) ⟨_, rfl, ?_⟩
  have e : cutD (ns.map D.int) none (some 60) = (ns.take 60).map D.int := by rw [show (60 : Int) = ((60 : Nat) : Int) from rfl, cut_take, List.map_take]
  rw [e]
  refine lc_map (fun i => .int ((ns.take 60).getD i 0)) hb (fun acc => rfl) (small_le (by simp; omega)) (fun i acc hi s H C cl fp => ?_) ?_
  · rw [map_getD D.int (a := 0) (by simpa using hi)]
    refine WGv_name 1 (hN := nd) fun s H C cl fp => ?_
    exact WE_intI (by walk_at "B") <| WE_var 1 ⟨_, rfl, rfl, rfl⟩
  · rw [List.length_map, range_ints]
    refine WA_cons <| WE_int <| WA_cons <| WE_int <| WA_nil <| datsS_mk (ds := [.list ((ns.take 60).map D.int), .int 0, .int 0]) <| newL.o (small_le (by simp)) <| rt_new hb q
theorem sc18 : FnScope ["hive", "many", "left", "turn", "cell", "mixed"] ["hive", "many"] (defScope (top 18)) := ⟨rfl, rfl, rfl, by decide +kernel, rfl, by decide +kernel, by decide +kernel⟩
theorem b18 (hB : Bs W blts) : Body W ["hive", "many", "left", "turn", "cell", "mixed"] ["hive", "many"] "_law_sting" (defScope (top 18)) cdv (defBody (top 18)) k spMoor := by
  intro f A outer s H E G as rz ss ω Q0 E0 B hl h
  obtain ⟨kq, ns, t, l, many, rfl, hq, hns, ht0, ht1, hm0, hm1, q⟩ := h
  have hu := B.cal.rm
  have hb := B.bel
  have calm := B.calm
  have nd : (["hive", "many", "left", "turn", "cell", "mixed"] : List Str).Nodup := sc18.nd
  have hv := vw_quay hq
  have hdiv : ∀ {x : Int}, CDivW x many := divS (by omega) hm1
  have hmod : (0 : Int) < many := by omega
  refine WB_cons <| WS_if <| WT_cmp hu <| WE_ix <| WE_var 0 <| WE_int <| x_list hv rfl <| WE_int <| c_gt <| ite_d (fun h1 => ?_) (fun h1 => ?_)
  · -- a digit of what is left
    refine WB_cons <| WS_set 2 (hN := nd) <| WE_intI (by walk_at "B") <| WE_ix <| WE_var 0 <| WE_int <| x_list hv rfl ⟨_, rfl, ?_⟩
    refine WB_cons <| WS_asg <| WE_bin <| WE_var 2 <| WE_var 1 <| b_div hdiv <| WG_sub hu <| WE_var 0 <| WE_int <| p_list (n := 2) hq rfl ?_
    refine WB_cons <| WS_ret <| WE_bin <| WE_intI (by walk_at "B") <| WE_var 2 ⟨_, rfl, WE_var 1 <| b_mod hmod ?_⟩
    exact rt_set hb (q _ t _ (Int.emod_nonneg _ (by omega)) (Int.emod_lt_of_pos _ hmod) (by omega) (by omega))
  · refine WB_nil ?_
    refine WB_cons <| WS_set 3 (hN := nd) <| WE_ix <| WE_var 0 <| WE_int <| x_list hv rfl ?_
    refine WB_cons <| WS_asg <| WE_bin <| WE_var 3 <| WE_int <| b_add <| WG_sub hu <| WE_var 0 <| WE_int <| p_list (n := 1) hq rfl ?_
    have hq2 := get_set (y := O.lst (([.list (ns.map D.int), .int t, .int l] : List D).set 1 (.int (t + 1)))) hq
    generalize hω : ω.set kq (O.lst (([.list (ns.map D.int), .int t, .int l] : List D).set 1 (.int (t + 1)))) = ω1 at hq2 ⊢
    have hv2 : vw ω1 (.o kq) = some (.list [.list (ns.map D.int), .int (t + 1), .int l]) := vwL hq2
    refine WB_cons <| WS_set 4 (hN := nd) <| WE_bin <| WE_bin <| WE_int <| WE_var 3 ?_
    refine b_mul (mulS (by decide) (by decide) (by omega) (by omega)) <| WE_int <| b_add ?_
    -- the cell
    refine WB_seq (R := fun τ' ω' => ω' = ω1 ∧ ∃ c : Int, Builtin.Int.intBits c ≤ 1048576 ∧ τ' = [some (.o kq), some (.d (.int many)), none, some (.d (.int t)), some (.d (.int c)), none]) ?_ ?_
    · refine WS_if <| WT_cmp hu <| WE_ix <| WE_var 0 <| WE_int <| x_list hv2 rfl <| WE_list <| WA_nil <| datsS_mk (ds := []) <| newL.d (small_le (by simp)) <| c_neD rfl rfl ok_ints.ok (ok_ints (ns := [])).ok ?_
      rw [eqD_nil]
      refine ite_b (fun h2 => ?_) (fun h2 => ?_)
      · have hne : ns ≠ [] := by intro z; subst z; cases h2
        have hlen : 0 < ns.length := List.length_pos_iff.mpr hne
        refine WB_one <| WS_set 4 (hN := nd) <| WE_ix <| WE_ix <| WE_var 0 <| WE_int <| x_list hv2 rfl <| WE_bin <| WE_intI (by walk_at "B") <| WE_var 3 ⟨_, rfl, ?_⟩
        refine WE_lenL (by walk_at "B") <| WE_ix <| WE_var 0 <| WE_int <| x_list hv2 rfl ⟨_, rfl, b_mod (by rw [List.length_map]; omega) ?_⟩
        obtain ⟨z, hz, hzm⟩ := at_mod (xs := ns) t hlen
        rw [List.length_map]
        exact x_list rfl hz ⟨rfl, z, hns z hzm, rfl⟩
      · exact WB_nil ⟨rfl, _, bits_int (by omega) (by omega), rfl⟩
    rintro _ ω2 ⟨eω, c, hc, rfl⟩
    subst ω2
    have hcn := bits_abs hc
    refine WB_cons <| WS_if <| WT.mono (Q := fun _ ω2 => ω2 = ω1) ?_ ?_
    · refine WT_bop <| WW_and <| WT_cmp hu <| WE_var 3 <| WE_lenL (by walk_at "B") <| WE_ix <| WE_var 0 <| WE_int <| x_list hv2 rfl ⟨_, rfl, c_lt <| ite_d (fun _ => ?_) (fun _ => rfl)⟩
      refine WW_and1 <| WT_cmp hu <| WE_abs (by walk_at "B") <| WE_var 4 ⟨_, rfl, WE_bin <| WE_int <| WE_int <| b_pow (powS (by decide) (by decide) (by decide) (by decide)) <| c_ge rfl⟩
    rintro bb _ rfl
    refine ite_b (fun _ => ?_) (fun _ => ?_)
    · refine WB_cons <| WS_set 2 (hN := nd) <| WE_bin <| WE_bin <| WE_int <| WE_bin <| WE_abs (by walk_at "B") <| WE_intI (by walk_at "B") <| WE_var 4 ⟨_, rfl, _, rfl, WE_bin <| WE_int <| WE_int <| b_pow (powS (by decide) (by decide) (by decide) (by decide)) <| b_sub ?_⟩
      refine b_mul (mulx_ok (a := 2) (b := 1048600) (by decide) ?_ (by decide)) <| WE_intB (by walk_at "B") <| WE_cmp hu <| WE_var 4 <| WE_int <| c_lt ⟨_, rfl, b_add ?_⟩
      · exact far_abs hcn (by decide) (by decide)
      refine WB_cons <| WS_asg <| WE_bin <| WE_var 2 <| WE_var 1 <| b_div hdiv <| WG_sub hu <| WE_var 0 <| WE_int <| p_list (n := 2) hq2 rfl ?_
      refine WB_cons <| WS_ret <| WE_bin <| WE_intI (by walk_at "B") <| WE_var 2 ⟨_, rfl, WE_var 1 <| b_mod hmod ?_⟩
      rw [← hω, List.set_set]
      exact rt_set hb (q _ (t + 1) _ (Int.emod_nonneg _ (by omega)) (Int.emod_lt_of_pos _ hmod) (by omega) (by omega))
    · refine WB_nil ?_
      refine WB_cons <| WS_set 5 (hN := nd) <| WE_bin <| WE_intI (by walk_at "B") <| WE_bin <| WE_bin <| WE_bin <| WE_bin <| WE_intI (by walk_at "B") <| WE_var 4 ⟨_, rfl, WE_int <| b_mod (by decide) <| WE_bin <| WE_int <| WE_var 3 ?_⟩
      have c1 := Int.emod_nonneg c (show (2147483563 : Int) ≠ 0 by decide)
      have c2 := Int.emod_lt_of_pos c (show (0 : Int) < 2147483563 by decide)
      generalize c % 2147483563 = c' at c1 c2 ⊢
      refine b_mul (mulS (by decide) (by decide) (by omega) (by omega)) <| b_add <| WE_int <| b_add <| WE_int <| b_pow (powS (by omega) (by omega) (by decide) (by decide)) ⟨_, rfl, WE_int <| b_mod (by decide) ?_⟩
      have m1 := Int.emod_nonneg ((c' + 56009 * t + 6073) ^ (5 : Int).toNat) (show (2147483587 : Int) ≠ 0 by decide)
      have m2 := Int.emod_lt_of_pos ((c' + 56009 * t + 6073) ^ (5 : Int).toNat) (show (0 : Int) < 2147483587 by decide)
      generalize (c' + 56009 * t + 6073) ^ (5 : Int).toNat % 2147483587 = m at m1 m2 ⊢
      have tt := prod_lt (a := 71023 * t) (b := t) (A := 71023000000) (B := 1000000) (by omega) (by omega) (by omega) (by omega)
      have mt := prod_lt (a := m) (b := 2 * t + 4729) (A := 2147483587) (B := 2004729) (by omega) (by omega) (by omega) (by omega)
      refine WB_cons <| WS_set 5 (hN := nd) <| WE_bin <| WE_intI (by walk_at "B") <| WE_bin <| WE_bin <| WE_bin <| WE_bin <| WE_var 5 <| WE_bin <| WE_bin <| WE_int <| WE_var 3 ?_
      refine b_mul (mulS (by decide) (by decide) (by omega) (by omega)) <| WE_int <| b_add <| b_mul (mulS (by omega) (by omega) (by omega) (by omega)) <| WE_bin <| WE_bin <| WE_int <| WE_var 3 ?_
      refine b_mul (mulS (by decide) (by decide) (by omega) (by omega)) <| WE_var 3 ?_
      refine b_mul (mulS (by omega) (by omega) (by omega) (by omega)) <| b_add <| WE_int <| b_add <| WE_int <| b_pow (powS (by omega) (by omega) (by decide) (by decide)) ⟨_, rfl, WE_int <| b_mod (by decide) ?_⟩
      refine WB_cons <| WS_ret <| WE_bin <| WE_intI (by walk_at "B") <| WE_bin <| WE_var 5 <| WE_int <| b_div (divS (by decide) (lots_small (n := 10) (by decide) (by decide))) ⟨_, rfl, WE_var 1 <| b_mod hmod ?_⟩
      rw [← hω]
      exact rt_set hb (q _ (t + 1) _ (Int.emod_nonneg _ (by omega)) (Int.emod_lt_of_pos _ hmod) (by omega) (by omega))
theorem sc19 : FnScope ["hive", "some"] ["hive", "some"] (defScope (top 19)) := ⟨rfl, rfl, rfl, by decide +kernel, rfl, by decide +kernel, by decide +kernel⟩
theorem b19 {j : Nat} (hB : Bs W blts) (D1 : Def W "_law_sting" 2 j ["hive", "many"] spMoor []) (hj : j ≤ k) : Body W ["hive", "some"] ["hive", "some"] "_law_one" (defScope (top 19)) cdv (defBody (top 19)) k spOne := by
  intro f A outer s H E G as rz ss ω Q0 E0 B hl h
  obtain ⟨kq, ns, t, l, xs, rfl, hq, hns, ht0, ht1, hx0, hx1, q⟩ := h
  have hu := B.cal.rm
  have hb := B.bel
  have cal := B.cal
  refine WB_cons <| WS_ret <| WE_ix <| WE_var 1 <| WE_call D1 cal hj <| WA_cons <| WE_var 0 <| WA_cons <| WE_lenL (by walk_at "B") <| WE_var 1 ⟨xs, rfl, WA_nil ⟨rfl, kq, ns, t, l, _, rfl, hq, hns, ht0, ht1, by omega, by have := million; omega, fun r t' l' h1 h2 h3 h4 => ?_⟩⟩
  obtain ⟨x, e1, e2⟩ := at_nat h1 h2
  exact x_list rfl e1 (rt_set hb (q x t' l' e2 h3 h4))
end L05

set_option Elab.async false
set_option linter.all false
namespace L05
open PySem
/-! ### ones in plain numbers -/
def bt (n i : Nat) : Nat := n / 2 ^ i % 2
def ones (n : Nat) : Nat → Nat
  | 0 => 0
  | i + 1 => ones n i + bt n i
theorem ones_succ (n : Nat) : ∀ k, ones n (k + 1) = n % 2 + ones (n / 2) k
  | 0 => by simp [ones, bt]
  | k + 1 => by
    rw [ones, ones_succ n k, ones]
    have : bt n (k + 1) = bt (n / 2) k := by unfold bt; rw [Nat.pow_succ, Nat.mul_comm, ← Nat.div_div_eq_div_mul]
    rw [this, Nat.add_assoc]
theorem ones_big {n k : Nat} (h : n < 2 ^ k) : ∀ j, ones n (k + j) = ones n k
  | 0 => rfl
  | j + 1 => by
    rw [← Nat.add_assoc, ones, ones_big h j]
    have : n < 2 ^ (k + j) := Nat.lt_of_lt_of_le h (Nat.pow_le_pow_right (by decide) (by omega))
    unfold bt
    rw [Nat.div_eq_of_lt this, Nat.zero_mod, Nat.add_zero]
def pop (n : Nat) : Nat := ones n n
theorem ones_pop {n k : Nat} (h : n < 2 ^ k) : ones n k = pop n := by
  unfold pop
  by_cases e : k ≤ n
  · obtain ⟨j, rfl⟩ := Nat.exists_eq_add_of_le e
    exact (ones_big h j).symm
  · obtain ⟨j, rfl⟩ := Nat.exists_eq_add_of_le (Nat.le_of_lt (Nat.lt_of_not_le e))
    exact ones_big Nat.lt_two_pow_self j
theorem pop_half (n : Nat) : pop n = n % 2 + pop (n / 2) := by
  have h : n < 2 ^ (n + 1) := Nat.lt_trans Nat.lt_two_pow_self (Nat.pow_lt_pow_right (by decide) (by omega))
  rw [← ones_pop h, ones_succ, ones_pop]
  exact Nat.lt_of_le_of_lt (Nat.div_le_self _ _) Nat.lt_two_pow_self
/-- all ones of the numbers below n -/
def sumP : Nat → Nat
  | 0 => 0
  | n + 1 => sumP n + pop n
/-- at one bit -/
def term (n b : Nat) : Nat := n / (2 * 2 ^ b) * 2 ^ b + (n % (2 * 2 ^ b) - 2 ^ b)
def terms (n : Nat) : Nat → Nat
  | 0 => 0
  | b + 1 => terms n b + term n b
theorem term_zero (b : Nat) : term 0 b = 0 := by simp [term]
theorem term_succ (n b : Nat) : term (n + 1) b = term n b + bt n b := by
  unfold term bt
  have hM : 0 < 2 ^ b := Nat.pow_pos (by decide)
  generalize 2 ^ b = M at *
  have e := Nat.div_add_mod n (2 * M)
  have l := Nat.mod_lt n (show 2 * M > 0 by omega)
  generalize n / (2 * M) = q at *
  generalize hr : n % (2 * M) = r at *
  subst e
  have eb : (2 * M * q + r) / M % 2 = if M ≤ r then 1 else 0 := by
    have : (2 * M * q + r) / M = 2 * q + r / M := by
      rw [show 2 * M * q + r = r + M * (2 * q) by rw [Nat.mul_comm 2 M, Nat.mul_assoc, Nat.add_comm], Nat.add_mul_div_left _ _ hM, Nat.add_comm]
    rw [this]
    split
    · have : r / M = 1 := by
        apply Nat.div_eq_of_lt_le <;> omega
      omega
    · have : r / M = 0 := Nat.div_eq_of_lt (by omega)
      omega
  rw [eb]
  by_cases h : r + 1 < 2 * M
  · have e1 : (2 * M * q + r + 1) / (2 * M) = q := by
      rw [Nat.add_assoc, Nat.mul_add_div (by omega), Nat.div_eq_of_lt h, Nat.add_zero]
    have e2 : (2 * M * q + r + 1) % (2 * M) = r + 1 := by
      rw [Nat.add_assoc, Nat.mul_add_mod, Nat.mod_eq_of_lt h]
    rw [e1, e2]
    split <;> omega
  · have e0 : r + 1 = 2 * M := by omega
    have e1 : (2 * M * q + r + 1) / (2 * M) = q + 1 := by
      rw [Nat.add_assoc, e0, Nat.mul_add_div (by omega), Nat.div_self (by omega)]
    have e2 : (2 * M * q + r + 1) % (2 * M) = 0 := by
      rw [Nat.add_assoc, e0, Nat.mul_add_mod, Nat.mod_self]
    rw [e1, e2, Nat.add_mul]
    split <;> omega
theorem terms_zero : ∀ L, terms 0 L = 0
  | 0 => rfl
  | L + 1 => by rw [terms, terms_zero L, term_zero]
theorem terms_succ (n : Nat) : ∀ L, terms (n + 1) L = terms n L + ones n L
  | 0 => rfl
  | L + 1 => by
    rw [terms, terms_succ n L, term_succ, terms, ones]; omega
theorem terms_sum {L : Nat} : ∀ n, n ≤ 2 ^ L → terms n L = sumP n
  | 0, _ => terms_zero L
  | n + 1, h => by rw [terms_succ, terms_sum n (by omega), ones_pop (by omega), sumP]
theorem sum_even : ∀ h, sumP (2 * h) = 2 * sumP h + h
  | 0 => rfl
  | h + 1 => by
    have e1 : pop (2 * h) = pop h := by rw [pop_half, show 2 * h / 2 = h by omega]; omega
    have e2 : pop (2 * h + 1) = 1 + pop h := by rw [pop_half, show (2 * h + 1) / 2 = h by omega]; omega
    show sumP (2 * h) + pop (2 * h) + pop (2 * h + 1) = 2 * (sumP h + pop h) + (h + 1)
    rw [sum_even h, e1, e2]; omega
theorem sum_odd (h : Nat) : sumP (2 * h + 1) = sumP h + sumP (h + 1) + h := by
  have e1 : pop (2 * h) = pop h := by rw [pop_half, show 2 * h / 2 = h by omega]; omega
  show sumP (2 * h) + pop (2 * h) = sumP h + (sumP h + pop h) + h
  rw [sum_even, e1]; omega
theorem sum_pow : ∀ p, sumP (2 ^ (p + 1)) = (p + 1) * 2 ^ p
  | 0 => by decide
  | p + 1 => by
    rw [show 2 ^ (p + 1 + 1) = 2 * 2 ^ (p + 1) by rw [Nat.pow_succ, Nat.mul_comm], sum_even, sum_pow p]
    rw [Nat.pow_succ, Nat.add_mul (p + 1) 1, Nat.one_mul]
    rw [show 2 * ((p + 1) * 2 ^ p) = (p + 1) * (2 ^ p * 2) by rw [Nat.mul_left_comm, Nat.mul_comm 2]]

/-! ### pairs of neighbours -/
def near (a b : Nat) : Prop := ∃ k, a ^^^ b = 2 ^ k
theorem near_comm {a b : Nat} : near a b ↔ near b a := by unfold near; rw [Nat.xor_comm]
theorem xor_eq {a b c : Nat} : a ^^^ b = c ↔ b = a ^^^ c := by
  constructor
  · rintro rfl; rw [← Nat.xor_assoc, Nat.xor_self, Nat.zero_xor]
  · rintro rfl; rw [← Nat.xor_assoc, Nat.xor_self, Nat.zero_xor]
theorem near_iff {a b : Nat} : near a b ↔ ∃ k, b = a ^^^ 2 ^ k := by
  unfold near
  exact ⟨fun ⟨k, h⟩ => ⟨k, xor_eq.mp h⟩, fun ⟨k, h⟩ => ⟨k, xor_eq.mpr h⟩⟩
theorem pow_inj2 {a b : Nat} (h : 2 ^ a = 2 ^ b) : a = b := (Nat.pow_right_inj (by decide)).mp h
theorem xor_inj {w a b : Nat} (h : w ^^^ a = w ^^^ b) : a = b := by
  have := congrArg (w ^^^ ·) h
  simp only [← Nat.xor_assoc, Nat.xor_self, Nat.zero_xor] at this
  exact this
theorem near_irr {a : Nat} : ¬ near a a := fun ⟨k, h⟩ => by
  rw [Nat.xor_self] at h
  have := Nat.two_pow_pos k
  omega
/-- the law's own test -/
theorem two_pow_iff {x : Nat} : (∃ k, x = 2 ^ k) ↔ x ≠ 0 ∧ x &&& (x - 1) = 0 := by
  constructor
  · rintro ⟨k, rfl⟩
    have := Nat.two_pow_pos k
    refine ⟨by omega, ?_⟩
    rw [Nat.and_comm]
    have e : (2 ^ k - 1) &&& 2 ^ k = 2 ^ k % 2 ^ k := by rw [Nat.and_comm, Nat.and_two_pow_sub_one_eq_mod]
    rw [e, Nat.mod_self]
  · rintro ⟨h0, h1⟩
    refine ⟨x.log2, ?_⟩
    have hl := Nat.log2_self_le h0
    have hu := Nat.lt_log2_self (n := x)
    by_cases e : x = 2 ^ x.log2
    · exact e
    · exfalso
      have b1 : x.testBit x.log2 = true := by rw [Nat.testBit_eq_decide_div_mod_eq]; simp; rw [Nat.div_eq_of_lt_le (k := 1) (by omega) (by rw [Nat.pow_succ] at hu; omega)]
      have b2 : (x - 1).testBit x.log2 = true := by rw [Nat.testBit_eq_decide_div_mod_eq]; simp; rw [Nat.div_eq_of_lt_le (k := 1) (by omega) (by rw [Nat.pow_succ] at hu; omega)]
      have := Nat.testBit_and x (x - 1) x.log2
      rw [h1, b1, b2] at this
      simp at this
/-- one flip by adding and taking away -/
def turn (w b : Nat) : Int := if w.testBit b = true then (w : Int) - ((2 ^ b : Nat) : Int) else (w : Int) + ((2 ^ b : Nat) : Int)
theorem turn_eq (w b : Nat) : turn w b = ((w ^^^ 2 ^ b : Nat) : Int) := by
  have hp : 0 < 2 ^ b := Nat.pow_pos (by decide)
  have e1 : (w ^^^ 2 ^ b) / 2 ^ b = (w / 2 ^ b) ^^^ 1 := by
    rw [Nat.xor_div_two_pow, Nat.div_self hp]
  have e2 : (w ^^^ 2 ^ b) % 2 ^ b = w % 2 ^ b := by
    rw [Nat.xor_mod_two_pow, Nat.mod_self, Nat.xor_zero]
  have e3 := Nat.div_add_mod (w ^^^ 2 ^ b) (2 ^ b)
  rw [e1, e2] at e3
  have e4 := Nat.div_add_mod w (2 ^ b)
  have t : w.testBit b = decide (w / 2 ^ b % 2 = 1) := Nat.testBit_eq_decide_div_mod_eq
  have q1 : ((w / 2 ^ b) ^^^ 1) / 2 = w / 2 ^ b / 2 := by
    have := Nat.xor_div_two_pow (a := w / 2 ^ b) (b := 1) (n := 1)
    simpa using this
  have q2 : ((w / 2 ^ b) ^^^ 1) % 2 = (w / 2 ^ b + 1) % 2 := by
    have h1 := Nat.xor_mod_two_pow (a := w / 2 ^ b) (b := 1) (n := 1)
    rw [Nat.pow_one] at h1
    rw [h1]
    have h2 := Nat.mod_lt (w / 2 ^ b) (show 2 > 0 by decide)
    rcases (by omega : w / 2 ^ b % 2 = 0 ∨ w / 2 ^ b % 2 = 1) with e | e
    · rw [e, show (0 ^^^ 1 % 2 : Nat) = 1 from rfl]; omega
    · rw [e, show (1 ^^^ 1 % 2 : Nat) = 0 from rfl]; omega
  unfold turn
  rw [t, ← e3]
  generalize (w / 2 ^ b) ^^^ 1 = x at *
  generalize hq : w / 2 ^ b = q at *
  generalize w % 2 ^ b = r at *
  generalize 2 ^ b = p at *
  subst e4
  by_cases h : q % 2 = 1
  · rw [if_pos (by simpa using h)]
    have : q = x + 1 := by omega
    subst this
    rw [Nat.mul_add]
    omega
  · rw [if_neg (by simpa using h)]
    have : x = q + 1 := by omega
    subst this
    rw [Nat.mul_add]
    omega
/-- the flip of a bit that is 1 goes down -/
theorem flip_lt {w k : Nat} : w ^^^ 2 ^ k < w ↔ w.testBit k = true := by
  have h := turn_eq w k
  have hp := Nat.two_pow_pos k
  unfold turn at h
  constructor
  · intro hl
    by_cases c : w.testBit k = true
    · exact c
    · rw [if_neg c] at h; omega
  · intro c
    rw [if_pos c] at h; omega
/-! ### counting pairs -/
def nr (a b : Nat) : Bool := decide (a ^^^ b ≠ 0) && decide ((a ^^^ b) &&& ((a ^^^ b) - 1) = 0)
theorem nr_iff {a b : Nat} : nr a b = true ↔ near a b := by
  unfold nr near
  rw [two_pow_iff, Bool.and_eq_true, decide_eq_true_eq, decide_eq_true_eq]
theorem nr_comm (a b : Nat) : nr a b = nr b a := by unfold nr; rw [Nat.xor_comm]
theorem nr_irr (a : Nat) : nr a a = false := by unfold nr; rw [Nat.xor_self]; rfl
def dn (w o : Nat) : Bool := nr w o && decide (o < w)
def prs (ws : List Nat) : Nat := (ws.map fun w => ws.countP (dn w)).sum
theorem sum_add (f g : Nat → Nat) : ∀ l : List Nat, (l.map fun x => f x + g x).sum = (l.map f).sum + (l.map g).sum
  | [] => rfl
  | a :: l => by simp only [List.map_cons, List.sum_cons, sum_add f g l]; omega
theorem sum_one (p : Nat → Bool) : ∀ l : List Nat, (l.map fun x => if p x = true then 1 else 0).sum = l.countP p
  | [] => rfl
  | a :: l => by
    rw [List.map_cons, List.sum_cons, sum_one p l, List.countP_cons]; omega
theorem dn_both (x : Nat) : ∀ l : List Nat, l.countP (fun w => dn w x) + l.countP (dn x) = l.countP (nr x)
  | [] => rfl
  | a :: l => by
    have ih := dn_both x l
    simp only [List.countP_cons]
    have : (if dn a x = true then 1 else 0) + (if dn x a = true then 1 else 0) = if nr x a = true then 1 else 0 := by
      unfold dn
      rw [nr_comm a x]
      cases h : nr x a with
      | false => simp
      | true =>
        have : x ≠ a := fun e => by subst e; rw [nr_irr] at h; cases h
        by_cases c : x < a
        · have : ¬ a < x := by omega
          simp [c, this]
        · have : a < x := by omega
          simp [c, this]
    omega
theorem prs_nil : prs [] = 0 := rfl
theorem prs_cons (x : Nat) (l : List Nat) : prs (x :: l) = prs l + l.countP (nr x) := by
  unfold prs
  simp only [List.map_cons, List.sum_cons, List.countP_cons]
  rw [sum_add (fun w => l.countP (dn w)) (fun w => if dn w x = true then 1 else 0), sum_one (fun w => dn w x)]
  have : dn x x = false := by unfold dn; rw [nr_irr]; rfl
  rw [this, ← dn_both x l]
  simp; omega
theorem prs_perm {l m : List Nat} (h : l.Perm m) : prs l = prs m := by
  have e : (fun w => l.countP (dn w)) = fun w => m.countP (dn w) := funext fun w => h.countP_eq _
  unfold prs
  rw [e]
  exact (h.map _).sum_nat
theorem prs_snoc (x : Nat) (l : List Nat) : prs (l ++ [x]) = prs l + l.countP (nr x) := by
  rw [← prs_cons]
  exact prs_perm (List.perm_append_singleton x l)
def cross (A B : List Nat) : Nat := (A.map fun a => B.countP (nr a)).sum
theorem prs_append (A B : List Nat) : prs (A ++ B) = prs A + prs B + cross A B := by
  induction A with
  | nil => show prs B = prs [] + prs B + cross [] B; rw [prs_nil]; show _ = _ + 0; omega
  | cons a A ih =>
    rw [List.cons_append, prs_cons, prs_cons, ih, List.countP_append]
    show _ = _ + (B.countP (nr a) + cross A B)
    omega
theorem cross_comm (A B : List Nat) : cross A B = cross B A := by
  have h := prs_perm (List.perm_append_comm (l₁ := A) (l₂ := B))
  rw [prs_append, prs_append] at h
  omega
theorem sum_le_len (f : Nat → Nat) : ∀ l : List Nat, (∀ x ∈ l, f x ≤ 1) → (l.map f).sum ≤ l.length
  | [], _ => Nat.le_refl _
  | a :: l, h => by
    have := sum_le_len f l fun x hx => h x (List.mem_cons_of_mem _ hx)
    have := h a List.mem_cons_self
    simp only [List.map_cons, List.sum_cons, List.length_cons]; omega
theorem prs_map (f : Nat → Nat) : ∀ {l : List Nat}, (∀ a ∈ l, ∀ b ∈ l, nr (f a) (f b) = nr a b) → prs (l.map f) = prs l
  | [], _ => rfl
  | a :: l, h => by
    rw [List.map_cons, prs_cons, prs_cons, prs_map f fun x hx y hy => h x (List.mem_cons_of_mem _ hx) y (List.mem_cons_of_mem _ hy), List.countP_map]
    congr 1
    exact List.countP_congr fun b hb => by
      show nr (f a) (f b) = true ↔ _
      rw [h a List.mem_cons_self b (List.mem_cons_of_mem _ hb)]
theorem nr_xor (c a b : Nat) : nr (a ^^^ c) (b ^^^ c) = nr a b := by
  have : (a ^^^ c) ^^^ (b ^^^ c) = a ^^^ b := by
    rw [Nat.xor_comm b c, Nat.xor_assoc, ← Nat.xor_assoc c c b, Nat.xor_self, Nat.zero_xor]
  unfold nr
  rw [this]
theorem cnt_nd {l : List Nat} (h : l.Nodup) (c : Nat) : l.countP (fun o => decide (o = c)) ≤ 1 := by
  induction l with
  | nil => exact Nat.zero_le _
  | cons a l ih =>
    have hd := List.nodup_cons.mp h
    rw [List.countP_cons]
    by_cases e : a = c
    · have : l.countP (fun o => decide (o = c)) = 0 := List.countP_eq_zero.mpr fun b hb eb => hd.1 (by rw [e, ← of_decide_eq_true eb]; exact hb)
      rw [this]; split <;> omega
    · have := ih hd.2
      simp [e, this]
theorem cross_le {A B : List Nat} {k : Nat} (hB : B.Nodup) (ha : ∀ a ∈ A, a.testBit k = false) (hb : ∀ b ∈ B, b.testBit k = true) : cross A B ≤ A.length := by
  refine sum_le_len _ A fun a hA => ?_
  refine Nat.le_trans (List.countP_mono_left fun b hb2 e => ?_) (cnt_nd hB (a ^^^ 2 ^ k))
  obtain ⟨j, rfl⟩ := near_iff.mp (nr_iff.mp e)
  have := hb _ hb2
  rw [Nat.testBit_xor, ha a hA, Nat.testBit_two_pow] at this
  simp at this
  subst this
  simp
theorem cross_le2 {A B : List Nat} {k : Nat} (hA : A.Nodup) (ha : ∀ a ∈ A, a.testBit k = false) (hb : ∀ b ∈ B, b.testBit k = true) : cross A B ≤ B.length := by
  rw [cross_comm]
  refine sum_le_len _ B fun b hB => ?_
  refine Nat.le_trans (List.countP_mono_left fun a ha2 e => ?_) (cnt_nd hA (b ^^^ 2 ^ k))
  obtain ⟨j, rfl⟩ := near_iff.mp (nr_iff.mp e)
  have := ha _ ha2
  rw [Nat.testBit_xor, hb b hB, Nat.testBit_two_pow] at this
  simp at this
  subst this
  simp
/-! ### no more than the words below a number have -/
theorem sumP_super : ∀ (n a b : Nat), a + b = n → a ≤ b → sumP a + sumP b + a ≤ sumP n := by
  intro n
  induction n using Nat.strongRecOn with
  | ind n ih =>
    intro a b hn hab
    have key : ∀ c d, c + d < n → c ≤ d → sumP c + sumP d + c ≤ sumP (c + d) := fun c d h1 h2 => ih _ h1 c d rfl h2
    subst hn
    rcases Nat.eq_zero_or_pos a with rfl | h0
    · rw [Nat.zero_add, show sumP 0 = 0 from rfl]; omega
    have s1 : sumP 1 = 0 := by decide
    have s2 : sumP 2 = 1 := by decide
    rcases Nat.mod_two_eq_zero_or_one a with ea | ea <;> rcases Nat.mod_two_eq_zero_or_one b with eb | eb
    · obtain ⟨x, rfl⟩ : ∃ x, a = 2 * x := ⟨a / 2, by omega⟩
      obtain ⟨y, rfl⟩ : ∃ y, b = 2 * y := ⟨b / 2, by omega⟩
      have h := key x y (by omega) (by omega)
      rw [← Nat.mul_add, sum_even, sum_even, sum_even]; omega
    · obtain ⟨x, rfl⟩ : ∃ x, a = 2 * x := ⟨a / 2, by omega⟩
      obtain ⟨y, rfl⟩ : ∃ y, b = 2 * y + 1 := ⟨b / 2, by omega⟩
      have h1 := key x y (by omega) (by omega)
      have h2 := key x (y + 1) (by omega) (by omega)
      rw [show 2 * x + (2 * y + 1) = 2 * (x + y) + 1 by omega, sum_even, sum_odd, sum_odd, show x + y + 1 = x + (y + 1) by omega]; omega
    · obtain ⟨x, rfl⟩ : ∃ x, a = 2 * x + 1 := ⟨a / 2, by omega⟩
      obtain ⟨y, rfl⟩ : ∃ y, b = 2 * y := ⟨b / 2, by omega⟩
      have h1 := key x y (by omega) (by omega)
      have h2 := key (x + 1) y (by omega) (by omega)
      rw [show 2 * x + 1 + 2 * y = 2 * (x + y) + 1 by omega, sum_even, sum_odd, sum_odd, show x + y + 1 = x + 1 + y by omega]; omega
    · obtain ⟨x, rfl⟩ : ∃ x, a = 2 * x + 1 := ⟨a / 2, by omega⟩
      obtain ⟨y, rfl⟩ : ∃ y, b = 2 * y + 1 := ⟨b / 2, by omega⟩
      by_cases c : x = y
      · subst c
        by_cases hx : x = 0
        · subst hx; show sumP 1 + sumP 1 + 1 ≤ sumP 2; rw [s1, s2]; decide
        have h1 := key x (x + 1) (by omega) (by omega)
        rw [show 2 * x + 1 + (2 * x + 1) = 2 * (x + (x + 1)) by omega, sum_odd, sum_even]; omega
      · have h1 := key x (y + 1) (by omega) (by omega)
        have h2 := key (x + 1) y (by omega) (by omega)
        rw [show 2 * x + 1 + (2 * y + 1) = 2 * (x + (y + 1)) by omega, sum_odd, sum_odd, sum_even]
        rw [show x + 1 + y = x + (y + 1) by omega] at h2
        omega
theorem iso : ∀ (k : Nat) (ws : List Nat), ws.Nodup → (∀ w ∈ ws, w < 2 ^ k) → prs ws ≤ sumP ws.length
  | 0, ws, hn, h => by
    match ws, hn, h with
    | [], _, _ => exact Nat.le_refl _
    | [a], _, _ => rw [prs_cons]; exact Nat.zero_le _
    | a :: b :: r, hn, h =>
      exfalso
      have h1 := h a List.mem_cons_self
      have h2 := h b (List.mem_cons_of_mem _ List.mem_cons_self)
      have e : a = b := by rw [Nat.pow_zero] at h1 h2; omega
      exact (List.nodup_cons.mp hn).1 (e ▸ List.mem_cons_self)
  | k + 1, ws, hn, h => by
    have p := List.filter_append_perm (fun w => !w.testBit k) ws
    generalize hA : ws.filter (fun w => !w.testBit k) = A at p
    generalize hB : ws.filter (fun x => !(!x.testBit k)) = B at p
    have nA : A.Nodup := hA ▸ hn.filter _
    have nB : B.Nodup := hB ▸ hn.filter _
    have lA : ∀ a ∈ A, a.testBit k = false ∧ a < 2 ^ (k + 1) := fun a ha => by
      rw [← hA] at ha
      obtain ⟨h1, h2⟩ := List.mem_filter.mp ha
      exact ⟨by simpa using h2, h a h1⟩
    have lB : ∀ a ∈ B, a.testBit k = true ∧ a < 2 ^ (k + 1) := fun a ha => by
      rw [← hB] at ha
      obtain ⟨h1, h2⟩ := List.mem_filter.mp ha
      exact ⟨by simpa using h2, h a h1⟩
    have low : ∀ {a : Nat}, a < 2 ^ (k + 1) → a.testBit k = false → a < 2 ^ k := fun {a} h1 h2 => by
      refine Nat.lt_pow_two_of_testBit a fun i hi => ?_
      by_cases e : i = k
      · rw [e]; exact h2
      · exact Nat.testBit_lt_two_pow (Nat.lt_of_lt_of_le h1 (Nat.pow_le_pow_right (by decide) (by omega)))
    have iA := iso k A nA fun a ha => low (lA a ha).2 (lA a ha).1
    have iB := iso k (B.map (· ^^^ 2 ^ k)) (by
      unfold List.Nodup
      rw [List.pairwise_map]
      exact nB.imp fun hne e => hne (by
        have e : _ ^^^ 2 ^ k = _ ^^^ 2 ^ k := e
        rw [Nat.xor_comm, Nat.xor_comm _ (2 ^ k)] at e
        exact xor_inj e)) fun a ha => by
      obtain ⟨b, hb, rfl⟩ := List.mem_map.mp ha
      refine low (Nat.xor_lt_two_pow (lB b hb).2 (Nat.pow_lt_pow_right (by decide) (by omega))) ?_
      show (b ^^^ 2 ^ k).testBit k = false
      rw [Nat.testBit_xor, (lB b hb).1, Nat.testBit_two_pow]; simp
    rw [prs_map _ fun a _ b _ => nr_xor _ a b, List.length_map] at iB
    rw [← prs_perm p, ← p.length_eq, prs_append, List.length_append]
    have c1 := cross_le nB (fun a ha => (lA a ha).1) fun b hb => (lB b hb).1
    have c2 := cross_le2 nA (fun a ha => (lA a ha).1) fun b hb => (lB b hb).1
    rcases Nat.le_total A.length B.length with hl | hl
    · have := sumP_super _ A.length B.length rfl hl
      omega
    · have := sumP_super _ B.length A.length rfl hl
      rw [Nat.add_comm A.length]
      omega
theorem iso_all {ws : List Nat} (hn : ws.Nodup) : prs ws ≤ sumP ws.length := by
  have : ∀ l : List Nat, ∃ k, ∀ w ∈ l, w < 2 ^ k := by
    intro l
    induction l with
    | nil => exact ⟨0, by simp⟩
    | cons a l ih =>
      obtain ⟨k, hk⟩ := ih
      refine ⟨a + k, fun w hw => ?_⟩
      rcases List.mem_cons.mp hw with rfl | hw
      · exact Nat.lt_of_lt_of_le Nat.lt_two_pow_self (Nat.pow_le_pow_right (by decide) (by omega))
      · exact Nat.lt_of_lt_of_le (hk w hw) (Nat.pow_le_pow_right (by decide) (by omega))
  obtain ⟨k, hk⟩ := this ws
  exact iso k ws hn hk
/-! ### by the bits of each word -/
theorem bits_one {L : List Nat} (hL : L.Nodup) {w x : Nat} (h : ∀ b, b ∈ L ↔ w.testBit b = true) : L.countP (fun b => decide (w ^^^ 2 ^ b = x)) = if dn w x = true then 1 else 0 := by
  by_cases c : dn w x = true
  · rw [if_pos c]
    unfold dn at c
    rw [Bool.and_eq_true, decide_eq_true_eq] at c
    obtain ⟨j, rfl⟩ := near_iff.mp (nr_iff.mp c.1)
    have hj := (h j).mpr (flip_lt.mp c.2)
    have h1 := cnt_nd hL j
    have h2 : 0 < L.countP (fun b => decide (b = j)) := List.countP_pos_iff.mpr ⟨j, hj, by simp⟩
    have h3 : L.countP (fun b => decide (w ^^^ 2 ^ b = w ^^^ 2 ^ j)) = L.countP (fun b => decide (b = j)) := List.countP_congr fun b _ => by
      rw [decide_eq_true_eq, decide_eq_true_eq]
      exact ⟨fun e => pow_inj2 (xor_inj e), fun e => by rw [e]⟩
    omega
  · rw [if_neg c]
    refine List.countP_eq_zero.mpr fun b hb e => c ?_
    have e := of_decide_eq_true e
    subst e
    unfold dn
    rw [Bool.and_eq_true, decide_eq_true_eq]
    exact ⟨nr_iff.mpr (near_iff.mpr ⟨b, rfl⟩), flip_lt.mpr ((h b).mp hb)⟩
theorem bits_all {L : List Nat} (hL : L.Nodup) {w : Nat} (h : ∀ b, b ∈ L ↔ w.testBit b = true) : ∀ {ws : List Nat}, ws.Nodup → L.countP (fun b => decide (w ^^^ 2 ^ b ∈ ws)) = ws.countP (dn w)
  | [], _ => by simp
  | x :: ws, hn => by
    have hd := List.nodup_cons.mp hn
    rw [List.countP_cons, ← bits_all hL h hd.2, ← bits_one hL h]
    have : ∀ l : List Nat, l.countP (fun b => decide (w ^^^ 2 ^ b ∈ x :: ws)) = l.countP (fun b => decide (w ^^^ 2 ^ b ∈ ws)) + l.countP (fun b => decide (w ^^^ 2 ^ b = x)) := by
      intro l
      induction l with
      | nil => rfl
      | cons b l ih =>
        rw [List.countP_cons, List.countP_cons, List.countP_cons, ih]
        by_cases e1 : w ^^^ 2 ^ b = x
        · have : ¬ w ^^^ 2 ^ b ∈ ws := fun z => hd.1 (e1 ▸ z)
          simp [e1, this]
          rw [e1] at this
          simp [this]; omega
        · by_cases e2 : w ^^^ 2 ^ b ∈ ws <;> simp [e1, e2] <;> omega
    exact this L
theorem filt_ones (n : Nat) : ∀ k, ((List.range k).filter n.testBit).length = ones n k
  | 0 => rfl
  | k + 1 => by
    rw [List.range_succ, List.filter_append, List.length_append, filt_ones n k, ones]
    congr 1
    have e : n.testBit k = decide (bt n k = 1) := Nat.testBit_eq_decide_div_mod_eq
    have := Nat.mod_lt (n / 2 ^ k) (show 2 > 0 by decide)
    by_cases c : bt n k = 1
    · simp [List.filter, e, c]
    · have : bt n k = 0 := by unfold bt at *; omega
      simp [List.filter, e, this]
theorem prs_range : ∀ n, prs (List.range n) = sumP n
  | 0 => rfl
  | n + 1 => by
    rw [List.range_succ, prs_snoc, prs_range n, sumP]
    congr 1
    have hL : ∀ b, b ∈ (List.range n).filter n.testBit ↔ n.testBit b = true := fun b => by
      rw [List.mem_filter, List.mem_range]
      exact ⟨And.right, fun h => ⟨Nat.lt_of_lt_of_le (Nat.lt_two_pow_self (n := b)) (Nat.ge_two_pow_of_testBit h), h⟩⟩
    have h1 := bits_all ((List.nodup_range (n := n)).filter _) hL (List.nodup_range (n := n))
    have h2 : (List.range n).countP (nr n) = (List.range n).countP (dn n) := List.countP_congr fun b hb => by
      have := List.mem_range.mp hb
      unfold dn
      simp [this]
    rw [h2, ← h1, List.countP_eq_length.mpr fun b hb => ?_]
    · rw [filt_ones]; rfl
    · rw [decide_eq_true_eq, List.mem_range]
      exact flip_lt.mpr ((hL b).mp hb)
/-! ### bits in other places -/
def pw (L : Nat → Nat) (x w : Nat) : Nat → Nat
  | 0 => w
  | i + 1 => if x / 2 ^ i % 2 = 1 then pw L x w i ^^^ 2 ^ L i else pw L x w i
theorem pw_bit (L : Nat → Nat) (x w s : Nat) : ∀ n, (∀ i j, i < n → j < n → L i = L j → i = j) → (∀ j, j < n → s = L j → (pw L x w n).testBit s = (w.testBit s ^^ x.testBit j)) ∧ ((∀ j, j < n → s ≠ L j) → (pw L x w n).testBit s = w.testBit s)
  | 0, _ => ⟨fun j h => absurd h (Nat.not_lt_zero _), fun _ => rfl⟩
  | n + 1, hi => by
    obtain ⟨h1, h2⟩ := pw_bit L x w s n fun i j a b => hi i j (by omega) (by omega)
    have hb : x.testBit n = decide (x / 2 ^ n % 2 = 1) := Nat.testBit_eq_decide_div_mod_eq
    have step : (pw L x w (n + 1)).testBit s = ((pw L x w n).testBit s ^^ (x.testBit n && decide (L n = s))) := by
      rw [pw, hb]
      by_cases c : x / 2 ^ n % 2 = 1
      · rw [if_pos c, Nat.testBit_xor, Nat.testBit_two_pow]; simp [c]
      · rw [if_neg c]; simp [c]
    rw [step]
    refine ⟨fun j hj e => ?_, fun hno => ?_⟩
    · by_cases c : j = n
      · subst c
        rw [h2 fun i hlt ei => by
          have := hi i j (by omega) (by omega) (ei.symm.trans e)
          omega]
        simp [e]
      · rw [h1 j (by omega) e]
        have : ¬ L n = s := fun z => c (hi j n hj (by omega) (e.symm.trans z.symm))
        simp [this]
    · rw [h2 fun j hj => hno j (by omega)]
      have : ¬ L n = s := fun z => hno n (by omega) z.symm
      simp [this]
section
variable {L : Nat → Nat} {m n : Nat} (hi : ∀ i j, i < n → j < n → L i = L j → i = j)
include hi
theorem pw_gap (x y s : Nat) : (∀ j, j < n → s = L j → (pw L x m n ^^^ pw L y m n).testBit s = (x ^^^ y).testBit j) ∧ ((∀ j, j < n → s ≠ L j) → (pw L x m n ^^^ pw L y m n).testBit s = false) := by
  refine ⟨fun j hj e => ?_, fun hno => ?_⟩
  · rw [Nat.testBit_xor, (pw_bit L x m s n hi).1 j hj e, (pw_bit L y m s n hi).1 j hj e, Nat.testBit_xor]
    cases m.testBit s <;> cases x.testBit j <;> cases y.testBit j <;> rfl
  · rw [Nat.testBit_xor, (pw_bit L x m s n hi).2 hno, (pw_bit L y m s n hi).2 hno]
    cases m.testBit s <;> rfl
theorem pw_near {x y : Nat} (hx : x < 2 ^ n) (hy : y < 2 ^ n) : nr (pw L x m n) (pw L y m n) = nr x y := by
  rw [Bool.eq_iff_iff, nr_iff, nr_iff]
  have hxy : x ^^^ y < 2 ^ n := Nat.xor_lt_two_pow hx hy
  constructor
  · rintro ⟨s, h⟩
    by_cases c : ∃ j, j < n ∧ s = L j
    · obtain ⟨j, hj, rfl⟩ := c
      refine ⟨j, Nat.eq_of_testBit_eq fun i => ?_⟩
      by_cases hin : i < n
      · rw [← (pw_gap hi (m := m) x y (L i)).1 i hin rfl, h, Nat.testBit_two_pow, Nat.testBit_two_pow]
        by_cases e : j = i
        · simp [e]
        · have : ¬ L j = L i := fun z => e (hi j i hj hin z)
          simp [e, this]
      · rw [Nat.testBit_lt_two_pow (Nat.lt_of_lt_of_le hxy (Nat.pow_le_pow_right (by decide) (by omega))), Nat.testBit_two_pow]
        have : ¬ j = i := by omega
        simp [this]
    · have := (pw_gap hi (m := m) x y s).2 fun j hj e => c ⟨j, hj, e⟩
      rw [h, Nat.testBit_two_pow] at this
      simp at this
  · rintro ⟨k, h⟩
    have hk : k < n := by
      rw [h] at hxy
      exact (Nat.pow_lt_pow_iff_right (by decide)).mp hxy
    refine ⟨L k, Nat.eq_of_testBit_eq fun s => ?_⟩
    by_cases c : ∃ j, j < n ∧ s = L j
    · obtain ⟨j, hj, rfl⟩ := c
      rw [(pw_gap hi x y (L j)).1 j hj rfl, h, Nat.testBit_two_pow, Nat.testBit_two_pow]
      by_cases e : k = j
      · simp [e]
      · have : ¬ L k = L j := fun z => e (hi k j hk hj z)
        simp [e, this]
    · rw [(pw_gap hi x y s).2 fun j hj e => c ⟨j, hj, e⟩, Nat.testBit_two_pow]
      have : ¬ L k = s := fun z => c ⟨k, hk, z.symm⟩
      simp [this]
theorem pw_inj {x y : Nat} (hx : x < 2 ^ n) (hy : y < 2 ^ n) (h : pw L x m n = pw L y m n) : x = y := by
  have hxy : x ^^^ y < 2 ^ n := Nat.xor_lt_two_pow hx hy
  have : x ^^^ y = 0 := Nat.eq_of_testBit_eq fun i => by
    rw [Nat.zero_testBit]
    by_cases hin : i < n
    · rw [← (pw_gap hi (m := m) x y (L i)).1 i hin rfl, h, Nat.xor_self, Nat.zero_testBit]
    · exact Nat.testBit_lt_two_pow (Nat.lt_of_lt_of_le hxy (Nat.pow_le_pow_right (by decide) (by omega)))
  have := congrArg (· ^^^ y) this
  simpa [Nat.xor_assoc] using this
theorem pw_words {many : Nat} (hm : many ≤ 2 ^ n) : ((List.range many).map fun x => pw L x m n).Nodup ∧ prs ((List.range many).map fun x => pw L x m n) = sumP many := by
  constructor
  · unfold List.Nodup
    rw [List.pairwise_map]
    exact (List.pairwise_lt_range (n := many)).imp_of_mem fun ha hb hlt e => by
      have := pw_inj hi (Nat.lt_of_lt_of_le (List.mem_range.mp ha) hm) (Nat.lt_of_lt_of_le (List.mem_range.mp hb) hm) e
      omega
  · rw [prs_map _ fun a ha b hb => pw_near hi (Nat.lt_of_lt_of_le (List.mem_range.mp ha) hm) (Nat.lt_of_lt_of_le (List.mem_range.mp hb) hm), prs_range]
end
end L05

set_option Elab.async false
set_option linter.all false
set_option maxRecDepth 100000
set_option maxHeartbeats 1000000
namespace L05
open PySem PySem.Spec PyProof.Rows L2 LamX Z
variable {W : Wd} {k : Nat} {cdv : Value}
local macro_rules
  | `(tactic| walk_at "B") => `(tactic| exact (‹Bs _ blts›).no _ (by decide))
theorem sc11 : FnScope ["value", "each", "word"] ["value"] (defScope (top 11)) := ⟨rfl, rfl, rfl, by decide +kernel, rfl, by decide +kernel, by decide +kernel⟩
theorem b11 {j : Nat} (hB : Bs W blts) (hM : ∃ t, W.mg "MOST_WORDS" = some (.int 1024 t)) (D1 : Def W "is_within" 3 j ["value", "least", "most"] spIsW []) (T1 : Err W "BadWord" (He.ga W.K "BadWord") ["part"]) (T2 : Err W "TooMany" (He.ga W.K "TooMany") ["what", "most"]) (hj : j ≤ k) (h3 : 3 ≤ k) : Body W ["value", "each", "word"] ["value"] "need_words" (defScope (top 11)) cdv (defBody (top 11)) k (spNeedWords W) := by
  intro f A outer st H E G as rz ss ω Q0 E0 B hl h
  obtain ⟨d, rfl, h⟩ := h
  obtain ⟨tM, hM⟩ := hM
  have hu := B.cal.rm
  have hb := B.bel
  have cal := B.cal
  have calm := B.calm
  have nd : (["value", "each", "word"] : List Str).Nodup := sc11.nd
  refine WB_cons <| WS_if <| WT_bop <| WW_or <| WT_not <| WT_truth <| WE_isi (by walk_at "B") <| WE_var 0 <| WE_tup <| WA_cons <| ty_list (by walk_at "B") <| WA_cons <| ty_tuple (by walk_at "B") <| WA_nil <| datsS_mk (ds := ["list", "tuple"].map D.ty) ⟨small_le (by simp), ?_⟩
  have h : (∃ a, tyD d = some a ∧ a ≠ "list" ∧ a ≠ "tuple" ∧ E0 ⟨He.ga W.K "BadWord", [("part", .str "words")]⟩ ω) ∨
      ∃ xs, (d = .list xs ∨ d = .tup xs) ∧ xs.length ≤ 4000 ∧ (∀ x ∈ xs, ∃ a, tyD x = some a) ∧ (isWords xs = false → E0 ⟨He.ga W.K "BadWord", [("part", .str "words")]⟩ ω) ∧
        (∀ L : List Nat, L.Nodup → xs = L.map natD → 1024 < L.length → E0 ⟨He.ga W.K "TooMany", [("what", .str "words"), ("most", .int 1024)]⟩ ω) ∧
        ∀ L : List Nat, L.Nodup → xs = L.map natD → L.length ≤ 1024 → ∀ m : List Nat, m.Perm L → m.Pairwise (· < ·) → Q0 (.d (.dict (kOf m))) ω := by
    have inj : ∀ {L M : List Nat}, L.map natD = M.map natD → L = M := fun {L M} e => by
      have := congrArg (List.map intOf) e
      rw [ints_nat, ints_nat] at this
      exact (List.map_inj_right (fun x y h => by omega)).mp this
    have tys : ∀ L : List Nat, ∀ x ∈ L.map natD, ∃ a, tyD x = some a := fun L x hx => by
      obtain ⟨b, _, rfl⟩ := List.mem_map.mp hx
      exact ⟨_, rfl⟩
    rcases h with h | ⟨xs, hd, hz, hty, hno, q⟩ | ⟨L, hd, hz, hn, hm, q⟩ | ⟨L, hd, hz, hn, q⟩
    · exact .inl h
    · exact .inr ⟨xs, hd, hz, hty, fun _ => q, fun L hn e _ => absurd hno (by rw [e, isWords_of, decide_eq_true hn]; decide), fun L hn e _ => absurd hno (by rw [e, isWords_of, decide_eq_true hn]; decide)⟩
    · exact .inr ⟨L.map natD, hd, by rw [List.length_map]; exact hz, tys L, fun e => absurd e (by rw [isWords_of, decide_eq_true hn]; decide), fun _ _ _ _ => q, fun M _ e hl => absurd hl (by rw [← inj e]; omega)⟩
    · exact .inr ⟨L.map natD, hd, by rw [List.length_map]; omega, tys L, fun e => absurd e (by rw [isWords_of, decide_eq_true hn]; decide), fun M _ e hl => absurd hl (by rw [← inj e]; omega), fun M _ e _ => by rw [← inj e]; exact q⟩
  rcases h with ⟨a, h1, h2, h3, q⟩ | ⟨xs, rfl | rfl, hz, hty, bad, many, good⟩
  · refine i_tup h1 ?_
    rw [no_isi h2 h3]
    refine t_bool <| ite_t <| WB_cons (WS_raiseE T1 cal calm (WA_cons (WE_str (WA_nil ⟨[.str "words"], rfl, rfl, ?_⟩))))
    rw [B.rzE]
    exact rz_of (List.prefix_refl _) (Nat.le_refl _) hb q
  · refine i_tup (a := "list") rfl ?_
    refine t_bool <| ite_f <| WW_or1 <| WT_not <| WT_truth <| WE_allB (by walk_at "B") calm <| WE_lc [("each", 1)] calm nd (blkOk_by (N := ["value", "each", "word"]) (sc := defScope (top 11)) (by decide +kernel)) <| ItD_list <| WE_var 0 ⟨xs, rfl, ?_⟩
    refine lc_map (fun i => .bool (inW (xs.getD i .none))) hb (fun acc => rfl) (small_le (by omega)) (fun i acc hi s H C cl fp => ?_) ?_
    · refine WGv_name 1 (hN := nd) fun s H C cl fp => ?_
      obtain ⟨ty, hi2⟩ := hty (xs.getD i .none) (by
        rw [List.getD_eq_getElem?_getD, List.getElem?_eq_getElem hi]
        exact List.getElem_mem hi)
      exact WE_call D1 cal.blk hj <| WA_cons <| WE_var 1 <| WA_cons <| WE_int <| WA_cons <| WE_none <| WA_nil ⟨rfl, _, ty, some 0, none, rfl, hi2, rfl, rfl⟩
    rw [show (List.range xs.length).map (fun i => D.bool (inW (xs.getD i .none))) = (xs.map inW).map D.bool from by
      rw [List.map_map]
      apply List.ext_getElem
      · simp
      · intro i h1 h2
        have h3 : i < xs.length := by simpa using h1
        simp [List.getElem?_eq_getElem h3]]
    refine ⟨xs.map inW, rfl, t_bool ?_⟩
    rw [show ((xs.map inW).all id) = xs.all inW by rw [List.all_map]; rfl]
    by_cases hin : xs.all inW = true
    · rw [hin]
      refine ite_f <| WB_nil ?_
      obtain ⟨L, rfl⟩ := all_natW hin
      rw [List.length_map] at hz
      refine WB_cons <| WS_if <| WT_cmp hu <| WE_lenS (by walk_at "B") (by walk_at "B") calm <| WE_var 0 ⟨L.map (fun b : Nat => (b : Int)), ?_, ?_, fun c hc1 hc2 => ?_⟩
      · rw [map_natD]; exact .inl rfl
      · rw [List.length_map]; exact hz
      refine WE_len (by walk_at "B") <| WE_var 0 ?_
      refine ⟨fun ks z => (by cases z), ?_⟩
      show cmpS .NotEq _ (.d (.int ((L.map natD).length : Nat))) ω _
      refine c_ne ?_
      rw [List.length_map] at hc2
      rw [show decide ((c : Int) = ((L.map natD).length : Nat)) = decide L.Nodup by
        rw [List.length_map]
        exact decide_eq_decide.mpr ⟨fun h => nd_cast.mp (hc2.mp (by omega)), fun h => by rw [hc2.mpr (nd_cast.mpr h)]⟩]
      by_cases hnd : L.Nodup
      · rw [decide_eq_true hnd]
        refine ite_f <| WB_nil <| WB_cons <| WS_if <| WT_cmp hu <| WE_len (by walk_at "B") <| WE_var 0 ?_
        refine ⟨fun ks z => (by cases z), ?_⟩
        refine WE_globI hM ?_
        show cmpS .Gt (.d (.int ((L.map natD).length : Nat))) _ ω _
        rw [List.length_map]
        refine c_gt <| ite_d (fun hg => ?_) (fun hg => ?_)
        · refine WB_cons (WS_raiseE T2 cal calm (WA_cons <| WE_str <| WA_cons <| WE_globI hM <| WA_nil ⟨[.str "words", .int 1024], rfl, rfl, ?_⟩))
          rw [B.rzE]
          exact rz_of (List.prefix_refl _) (Nat.le_refl _) hb (many L hnd rfl (by omega))
        · refine WB_nil <| WB_cons <| WS_ret <| WE_dc [("word", 2)] calm nd (blkOk_by (N := ["value", "each", "word"]) (sc := defScope (top 11)) (by decide +kernel)) <| ItD_list <| WE_sortedI (by walk_at "B") <| WE_var 0 ⟨L.map (fun b : Nat => (b : Int)), ?_, fun ns' p1 p2 => ?_⟩
          · rw [map_natD]; rfl
          obtain ⟨m, rfl, pm, pw⟩ := asc_of hnd p1 p2
          rw [map_natD]
          have hm := pm.length_eq
          refine newL.d (small_le (by rw [List.length_map]; omega)) ⟨m.map natD, rfl, ?_⟩
          rw [List.length_map]
          refine dc_map (fun i => ((.inl ((m.getD i 0 : Nat) : Int) : Key), D.bool true)) (fun a b ha hb e => ?_) hb (fun acc => rfl) (small_le (by omega)) (fun i acc hi s H C cl fp => ?_) ?_
          · injection e with e
            have e : m.getD a 0 = m.getD b 0 := by omega
            rw [List.getD_eq_getElem?_getD, List.getD_eq_getElem?_getD, List.getElem?_eq_getElem ha, List.getElem?_eq_getElem hb] at e
            exact (List.getElem_inj (pm.nodup_iff.mpr hnd)).mp e
          · rw [getD_natD hi]
            exact WGv_name 2 (hN := nd) fun s H C cl fp => WE_var 2 fun s H C cl fp => WE_bool ⟨_, rfl, rfl, rfl, rfl⟩
          · rw [kOf_range]
            exact rt_d hb (good L hnd rfl (by omega) m pm pw)
      · rw [decide_eq_false hnd]
        refine ite_t <| WB_cons (WS_raiseE T1 cal calm (WA_cons (WE_str (WA_nil ⟨[.str "words"], rfl, rfl, ?_⟩))))
        rw [B.rzE]
        exact rz_of (List.prefix_refl _) (Nat.le_refl _) hb (bad (by rw [isWords_of]; exact decide_eq_false hnd))
    · have hf : xs.all inW = false := by simpa using hin
      rw [hf]
      refine ite_t <| WB_cons (WS_raiseE T1 cal calm (WA_cons (WE_str (WA_nil ⟨[.str "words"], rfl, rfl, ?_⟩))))
      rw [B.rzE]
      exact rz_of (List.prefix_refl _) (Nat.le_refl _) hb (bad (by unfold isWords; rw [hf, Bool.false_and]))
  · refine i_tup (a := "tuple") rfl ?_
    refine t_bool <| ite_f <| WW_or1 <| WT_not <| WT_truth <| WE_allB (by walk_at "B") calm <| WE_lc [("each", 1)] calm nd (blkOk_by (N := ["value", "each", "word"]) (sc := defScope (top 11)) (by decide +kernel)) <| ItD_tup <| WE_var 0 ⟨xs, rfl, ?_⟩
    refine lc_map (fun i => .bool (inW (xs.getD i .none))) hb (fun acc => trivial) (small_le (by omega)) (fun i acc hi s H C cl fp => ?_) ?_
    · refine WGv_name 1 (hN := nd) fun s H C cl fp => ?_
      obtain ⟨ty, hi2⟩ := hty (xs.getD i .none) (by
        rw [List.getD_eq_getElem?_getD, List.getElem?_eq_getElem hi]
        exact List.getElem_mem hi)
      exact WE_call D1 cal.blk hj <| WA_cons <| WE_var 1 <| WA_cons <| WE_int <| WA_cons <| WE_none <| WA_nil ⟨rfl, _, ty, some 0, none, rfl, hi2, rfl, rfl⟩
    rw [show (List.range xs.length).map (fun i => D.bool (inW (xs.getD i .none))) = (xs.map inW).map D.bool from by
      rw [List.map_map]
      apply List.ext_getElem
      · simp
      · intro i h1 h2
        have h3 : i < xs.length := by simpa using h1
        simp [List.getElem?_eq_getElem h3]]
    refine ⟨xs.map inW, rfl, t_bool ?_⟩
    rw [show ((xs.map inW).all id) = xs.all inW by rw [List.all_map]; rfl]
    by_cases hin : xs.all inW = true
    · rw [hin]
      refine ite_f <| WB_nil ?_
      obtain ⟨L, rfl⟩ := all_natW hin
      rw [List.length_map] at hz
      refine WB_cons <| WS_if <| WT_cmp hu <| WE_lenS (by walk_at "B") (by walk_at "B") calm <| WE_var 0 ⟨L.map (fun b : Nat => (b : Int)), ?_, ?_, fun c hc1 hc2 => ?_⟩
      · rw [map_natD]; exact .inr rfl
      · rw [List.length_map]; exact hz
      refine WE_len (by walk_at "B") <| WE_var 0 ?_
      refine ⟨fun ks z => (by cases z), ?_⟩
      show cmpS .NotEq _ (.d (.int ((L.map natD).length : Nat))) ω _
      refine c_ne ?_
      rw [List.length_map] at hc2
      rw [show decide ((c : Int) = ((L.map natD).length : Nat)) = decide L.Nodup by
        rw [List.length_map]
        exact decide_eq_decide.mpr ⟨fun h => nd_cast.mp (hc2.mp (by omega)), fun h => by rw [hc2.mpr (nd_cast.mpr h)]⟩]
      by_cases hnd : L.Nodup
      · rw [decide_eq_true hnd]
        refine ite_f <| WB_nil <| WB_cons <| WS_if <| WT_cmp hu <| WE_len (by walk_at "B") <| WE_var 0 ?_
        refine ⟨fun ks z => (by cases z), ?_⟩
        refine WE_globI hM ?_
        show cmpS .Gt (.d (.int ((L.map natD).length : Nat))) _ ω _
        rw [List.length_map]
        refine c_gt <| ite_d (fun hg => ?_) (fun hg => ?_)
        · refine WB_cons (WS_raiseE T2 cal calm (WA_cons <| WE_str <| WA_cons <| WE_globI hM <| WA_nil ⟨[.str "words", .int 1024], rfl, rfl, ?_⟩))
          rw [B.rzE]
          exact rz_of (List.prefix_refl _) (Nat.le_refl _) hb (many L hnd rfl (by omega))
        · refine WB_nil <| WB_cons <| WS_ret <| WE_dc [("word", 2)] calm nd (blkOk_by (N := ["value", "each", "word"]) (sc := defScope (top 11)) (by decide +kernel)) <| ItD_list <| WE_sortedT (by walk_at "B") <| WE_var 0 ⟨L.map (fun b : Nat => (b : Int)), ?_, fun ns' p1 p2 => ?_⟩
          · rw [map_natD]; rfl
          obtain ⟨m, rfl, pm, pw⟩ := asc_of hnd p1 p2
          rw [map_natD]
          have hm := pm.length_eq
          refine newL.d (small_le (by rw [List.length_map]; omega)) ⟨m.map natD, rfl, ?_⟩
          rw [List.length_map]
          refine dc_map (fun i => ((.inl ((m.getD i 0 : Nat) : Int) : Key), D.bool true)) (fun a b ha hb e => ?_) hb (fun acc => rfl) (small_le (by omega)) (fun i acc hi s H C cl fp => ?_) ?_
          · injection e with e
            have e : m.getD a 0 = m.getD b 0 := by omega
            rw [List.getD_eq_getElem?_getD, List.getD_eq_getElem?_getD, List.getElem?_eq_getElem ha, List.getElem?_eq_getElem hb] at e
            exact (List.getElem_inj (pm.nodup_iff.mpr hnd)).mp e
          · rw [getD_natD hi]
            exact WGv_name 2 (hN := nd) fun s H C cl fp => WE_var 2 fun s H C cl fp => WE_bool ⟨_, rfl, rfl, rfl, rfl⟩
          · rw [kOf_range]
            exact rt_d hb (good L hnd rfl (by omega) m pm pw)
      · rw [decide_eq_false hnd]
        refine ite_t <| WB_cons (WS_raiseE T1 cal calm (WA_cons (WE_str (WA_nil ⟨[.str "words"], rfl, rfl, ?_⟩))))
        rw [B.rzE]
        exact rz_of (List.prefix_refl _) (Nat.le_refl _) hb (bad (by rw [isWords_of]; exact decide_eq_false hnd))
    · have hf : xs.all inW = false := by simpa using hin
      rw [hf]
      refine ite_t <| WB_cons (WS_raiseE T1 cal calm (WA_cons (WE_str (WA_nil ⟨[.str "words"], rfl, rfl, ?_⟩))))
      rw [B.rzE]
      exact rz_of (List.prefix_refl _) (Nat.le_refl _) hb (bad (by unfold isWords; rw [hf, Bool.false_and]))

end L05

set_option Elab.async false
set_option linter.all false
set_option maxRecDepth 100000
set_option maxHeartbeats 1000000
namespace L05
open PySem PySem.Spec PyProof.Rows L2 LamX Z
variable {W : Wd} {k : Nat} {cdv : Value}
local macro_rules
  | `(tactic| walk_at "B") => `(tactic| exact (‹Bs _ blts›).no _ (by decide))
theorem erase_map {α β : Type} (f : α → β) : ∀ (l : List α) (i : Nat), (l.map f).eraseIdx i = (l.eraseIdx i).map f
  | [], _ => rfl
  | _ :: _, 0 => rfl
  | a :: l, i + 1 => by
    show f a :: (l.map f).eraseIdx i = f a :: (l.eraseIdx i).map f
    rw [erase_map f l i]
theorem erase_perm : ∀ (l : List Nat) (i : Nat) (h : i < l.length), (l[i] :: l.eraseIdx i).Perm l
  | a :: l, 0, _ => List.Perm.refl _
  | a :: l, i + 1, h => (List.Perm.swap a (l[i]'(by simpa using h)) (l.eraseIdx i)).trans ((erase_perm l i (by simpa using h)).cons a)
theorem ok_nats (L : List Nat) : okD (.list (L.map natD)) := (ok_list (n := 0) fun x hx => by
  obtain ⟨b, _, rfl⟩ := List.mem_map.mp hx
  exact ok_int).ok
theorem eq_nats (L : List Nat) : eqD (.list (L.map natD)) (.list (L.map natD)) = true := by
  rw [← map_natD, eqD_ints]
  exact decide_eq_true rfl
/-- _law_stirred(tub, some) -/
abbrev spStir : Spc := fun ss ω Q E => ∃ k ns t l, ∃ L : List Nat, ss = [.o k, .d (.list (L.map natD))] ∧ ω[k]? = some (quay ns t l) ∧ (∀ z ∈ ns, Builtin.Int.intBits z ≤ 1048576) ∧ 0 ≤ t ∧ t < 800000 ∧ L.length ≤ 1000 ∧
  ∀ (M : List Nat) t' l', M.Perm L → t ≤ t' → t' ≤ t + L.length → Q (.d (.list (M.map natD))) (ω.set k (quay ns t' l'))
theorem sc20 : FnScope ["hive", "some", "left", "found"] ["hive", "some"] (defScope (top 20)) := ⟨rfl, rfl, rfl, by decide +kernel, rfl, by decide +kernel, by decide +kernel⟩
theorem b20 {j : Nat} (hB : Bs W blts) (D1 : Def W "_law_sting" 2 j ["hive", "many"] spMoor []) (hj : j ≤ k) : Body W ["hive", "some", "left", "found"] ["hive", "some"] "_law_mixed" (defScope (top 20)) cdv (defBody (top 20)) k spStir := by
  intro f A outer st H E G as rz ss ω Q0 E0 B hl h
  obtain ⟨kq, ns, t, l, L, rfl, hq, hns, ht0, ht1, hL, q⟩ := h
  have hu := B.cal.rm
  have hb := B.bel
  have cal := B.cal
  have calm := B.calm
  have own := B.own
  have nd : (["hive", "some", "left", "found"] : List Str).Nodup := sc20.nd
  have hk : kq < ω.length := (List.getElem?_eq_some_iff.mp hq).1
  -- how the three stand
  let A3 : Int → Int → List Nat → List Nat → List O := fun t l a b => ω.set kq (quay ns t l) ++ [.lst (a.map natD), .lst (b.map natD)]
  have hlen : ∀ t l, (ω.set kq (quay ns t l)).length = ω.length := fun t l => by simp
  have g0 : ∀ t l a b, (A3 t l a b)[kq]? = some (quay ns t l) := fun t l a b => by
    show (ω.set kq (quay ns t l) ++ _)[kq]? = _
    rw [List.getElem?_append_left (by simpa using hk)]
    exact get_set hq
  have g1 : ∀ t l a b, (A3 t l a b)[ω.length]? = some (.lst (a.map natD)) := fun t l a b => by
    show (ω.set kq (quay ns t l) ++ _)[ω.length]? = _
    rw [List.getElem?_append_right (by simp)]; simp
  have g2 : ∀ t l a b, (A3 t l a b)[ω.length + 1]? = some (.lst (b.map natD)) := fun t l a b => by
    show (ω.set kq (quay ns t l) ++ _)[ω.length + 1]? = _
    rw [List.getElem?_append_right (by simp)]; simp
  have s0 : ∀ t l a b t2 l2, (A3 t l a b).set kq (quay ns t2 l2) = A3 t2 l2 a b := fun t l a b t2 l2 => by
    show (ω.set kq (quay ns t l) ++ _).set kq _ = ω.set kq (quay ns t2 l2) ++ _
    rw [List.set_append_left _ _ (by simpa using hk), List.set_set]
  have s1 : ∀ t l a b (c : List Nat), (A3 t l a b).set ω.length (.lst (c.map natD)) = A3 t l c b := fun t l a b c => by
    show (ω.set kq (quay ns t l) ++ _).set ω.length _ = ω.set kq (quay ns t l) ++ _
    rw [List.set_append_right _ _ (by simp)]; simp
  have s2 : ∀ t l a b (c : List Nat), (A3 t l a b).set (ω.length + 1) (.lst (c.map natD)) = A3 t l a c := fun t l a b c => by
    show (ω.set kq (quay ns t l) ++ _).set (ω.length + 1) _ = ω.set kq (quay ns t l) ++ _
    rw [List.set_append_right _ _ (by simp)]; simp
  have s3 : ∀ t l a b, (A3 t l a b).set (ω.length + 1) .gone = ω.set kq (quay ns t l) ++ [.lst (a.map natD), .gone] := fun t l a b => by
    show (ω.set kq (quay ns t l) ++ _).set (ω.length + 1) _ = _
    rw [List.set_append_right _ _ (by simp)]; simp
  have start : ω ++ [O.lst (L.map natD)] ++ [O.lst []] = A3 t l L [] := by
    show _ = ω.set kq (quay ns t l) ++ _
    rw [set_same hq, List.append_assoc]; rfl
  have hlen1 : (ω ++ [O.lst (L.map natD)]).length = ω.length + 1 := by simp
  refine WB_cons <| WS_par 2 3 (calm := calm) (hN := nd) <| WE_listOf (by walk_at "B") <| WE_var 1 ?_
  show newL (L.map natD) ω _
  refine newL.o (small_le (by rw [List.length_map]; omega)) <| WE_list <| WA_nil <| datsS_mk (ds := []) <| newL.o (small_le (by simp)) ?_
  rw [hlen1, start]
  refine WB_seq (R := fun τ' ω' => ∃ (M : List Nat) (t2 l2 : Int), M.Perm L ∧ t ≤ t2 ∧ t2 ≤ t + L.length ∧ ω' = A3 t2 l2 [] M ∧ τ' = [some (.o kq), some (.d (.list (L.map natD))), some (.o ω.length), some (.o (ω.length + 1))]) ?_ ?_
  · refine WS_while own (fun τ' ω' => ∃ (a b : List Nat) (t2 l2 : Int), (a ++ b).Perm L ∧ t ≤ t2 ∧ t2 ≤ t + b.length ∧ ω' = A3 t2 l2 a b ∧ τ' = [some (.o kq), some (.d (.list (L.map natD))), some (.o ω.length), some (.o (ω.length + 1))])
      (fun _ ω' => match ω'[ω.length]? with | some (.lst xs) => xs.length | _ => 0) ⟨L, [], t, l, by simp, by omega, by simp, rfl, rfl⟩ ?_
    rintro _ _ ⟨a, b, t2, l2, p, h1, h2, rfl, rfl⟩
    have hpl := p.length_eq
    rw [List.length_append] at hpl
    refine WT_cmp hu <| WE_var 2 <| WE_list <| WA_nil <| datsS_mk (ds := []) <| newL.d (small_le (by simp)) <| c_neD (vwL (g1 _ _ _ _)) rfl (ok_nats a) (ok_nats []) ?_
    have e0 : eqD (.list (a.map natD)) (.list []) = a.isEmpty := (eqD_nil (xs := a.map natD)).trans (by cases a <;> rfl)
    rw [e0]
    cases a with
    | nil => exact ite_f ⟨b, t2, l2, by simpa using p, h1, by omega, rfl, rfl⟩
    | cons x a =>
      refine ite_t ?_
      refine WB_one <| WS_expr <| WE_append <| WE_var 3 ⟨ω.length + 1, rfl, ⟨_, g2 _ _ _ _⟩, WE_popAt <| WE_var 2 ⟨ω.length, rfl, ⟨_, g1 _ _ _ _⟩, WE_call D1 cal hj <| WA_cons <| WE_var 0 <| WA_cons <| WE_lenL (by walk_at "B") <| WE_var 2 ⟨_, vwL (g1 _ _ _ _), ?_⟩⟩⟩
      rw [List.length_map]
      refine WA_nil ⟨rfl, kq, ns, t2, l2, _, rfl, g0 _ _ _ _, hns, by omega, by rw [List.length_cons] at hpl; omega, by rw [List.length_cons]; omega, by have := million; rw [List.length_cons] at hpl ⊢; omega, fun r t3 l3 a1 a2 a3 a4 => ?_⟩
      obtain ⟨r, rfl⟩ := Int.eq_ofNat_of_zero_le a1
      have hr : r < (x :: a).length := by omega
      rw [s0]
      refine ⟨_, natD (x :: a)[r], r, g1 _ _ _ _, rfl, ?_, by rw [List.length_cons] at hr hpl; omega, ?_⟩
      · rw [List.getElem?_map, List.getElem?_eq_getElem hr]; rfl
      rw [erase_map, s1]
      refine ⟨_, _, g2 _ _ _ _, rfl, small_lt (by rw [List.length_map]; omega), ?_⟩
      rw [show b.map natD ++ [natD (x :: a)[r]] = (b ++ [(x :: a)[r]]).map natD by rw [List.map_append]; rfl, s2]
      have pe : ((x :: a)[r] :: (x :: a).eraseIdx r).Perm (x :: a) := erase_perm _ _ hr
      have ple := pe.length_eq
      rw [List.length_cons] at ple
      refine ⟨⟨(x :: a).eraseIdx r, b ++ [(x :: a)[r]], t3, l3, ?_, by omega, by rw [List.length_append, List.length_singleton]; omega, rfl, rfl⟩, ?_⟩
      · refine List.Perm.trans ?_ p
        have p1 : ((x :: a).eraseIdx r ++ (b ++ [(x :: a)[r]])).Perm ((x :: a)[r] :: ((x :: a).eraseIdx r ++ b)) := by
          rw [← List.append_assoc]
          exact List.perm_append_comm.trans (List.Perm.refl _)
        refine p1.trans ?_
        rw [← List.cons_append]
        exact pe.append_right b
      · show (match (A3 t3 l3 ((x :: a).eraseIdx r) (b ++ [(x :: a)[r]]))[ω.length]? with | some (.lst xs) => xs.length | _ => 0) < (match (A3 t2 l2 (x :: a) b)[ω.length]? with | some (.lst xs) => xs.length | _ => 0)
        rw [g1, g1]
        show ((List.eraseIdx (x :: a) r).map natD).length < ((x :: a).map natD).length
        rw [List.length_map, List.length_map]
        omega
  rintro _ _ ⟨M, t2, l2, p, h1, h2, rfl, rfl⟩
  refine WB_cons <| WS_ret <| WE_frz <| WE_var 3 ⟨ω.length + 1, _, rfl, g2 _ _ _ _, ?_⟩
  rw [s3]
  exact rt_g (List.prefix_append _ _) (by simp) trivial (below_lst hb) (q M t2 l2 p h1 h2)
def lots : Nat := 8000
abbrev spMP (W : Wd) : Spc := fun ss ω Q E => (∃ p : Nat, ss = [.d (.int p)] ∧ p < 2 ^ lots ∧ Q (.d (.int (sumP p))) ω) ∨ ∃ d a, ss = [.d d] ∧ tyD d = some a ∧ isW d (some 0) none = false ∧ E ⟨He.ga W.K "BadNumber", [("part", .str "many")]⟩ ω
theorem twice_pow (i : Nat) : (2 : Int) * ((2 ^ i : Nat) : Int) = ((2 ^ (i + 1) : Nat) : Int) := by rw [Nat.pow_succ]; omega
theorem sc14 : FnScope ["many", "total", "bit", "half"] ["many"] (defScope (top 14)) := ⟨rfl, rfl, rfl, by decide +kernel, rfl, by decide +kernel, by decide +kernel⟩
theorem b14 {j : Nat} (hB : Bs W blts) (D1 : Def W "need_number" 4 j ["value", "part", "least", "most"] (spNeedN W) []) (hj : j ≤ k) : Body W ["many", "total", "bit", "half"] ["many"] "most_pairs" (defScope (top 14)) cdv (defBody (top 14)) k (spMP W) := by
  intro f A outer s H E G as rz ss ω Q0 E0 B hl h
  have hb := B.bel
  have cal := B.cal
  have calm := B.calm
  have own := B.own
  have nd : (["many", "total", "bit", "half"] : List Str).Nodup := sc14.nd
  rcases h with ⟨p, rfl, hp, q⟩ | ⟨d, a, rfl, hd, hw, q⟩
  · refine WB_cons <| WS_expr <| WE_call D1 cal hj <| WA_cons <| WE_var 0 <| WA_cons <| WE_str <| WA_cons <| WE_int <| WA_cons <| WE_none <| WA_nil ⟨rfl, _, _, _, some 0, none, rfl, rfl, fun h1 => ?_, fun h1 => ?_⟩
    rotate_left
    · rw [isW_of] at h1; cases h1
    have hm : bl p ≤ 8000 := bits_le (k := lots) hp
    refine WB_cons <| WS_set 1 (hN := nd) <| WE_int ?_
    refine WB_seq (R := fun τ' ω' => ω' = ω ∧ ∃ b c, τ' = [some (.d (.int p)), some (.d (.int (sumP p))), b, c]) ?_ ?_
    · refine WS_for own calm <| ItD_range1 (by walk_at "B") <| WE_bits <| WE_var 0 ?_
      refine ⟨_, rfl, _, rfl, ?_, ?_, ?_⟩
      · show _ ≤ ((bl p : Nat) : Int); omega
      · show ((bl p : Nat) : Int) < _; omega
      rw [Int.toNat_natCast]
      refine ⟨fun i τ' ω' => ω' = ω ∧ ∃ b c, τ' = [some (.d (.int p)), some (.d (.int (terms p i))), b, c], ⟨rfl, none, none, rfl⟩, fun _ _ _ _ _ => trivial, ?_, ?_⟩
      · rintro i _ _ hi ⟨rfl, b, c, rfl⟩
        have hi : i < bl p := hi
        refine WG_name 2 (hN := nd) ?_
        refine WB_cons <| WS_set 3 (hN := nd) <| WE_bin <| WE_int <| WE_var 2 ?_
        refine b_shl (shl1 (by omega)) ?_
        rw [one_shl]
        have h2 : 2 ^ i < 2 ^ 8001 := Nat.pow_lt_pow_right (by decide) (by omega)
        refine WB_one <| WS_aug 1 (n := (terms p i : Nat)) ip_add (hN := nd) <| WE_bin <| WE_bin <| WE_bin <| WE_var 0 <| WE_bin <| WE_int <| WE_var 3 ?_
        have hmul : CMulX 2 ((2 ^ i : Nat) : Int) := mulx_ok (a := 2) (b := 8001) (by decide) (by rw [Int.natAbs_natCast]; exact h2) (by decide)
        refine b_mul hmul ?_
        rw [twice_pow]
        refine b_div (wide_div (b := 8003) (by have : 0 < 2 ^ (i + 1) := Nat.pow_pos (by decide); omega) (by rw [Int.natAbs_natCast]; exact Nat.pow_lt_pow_right (by decide) (by omega)) (by decide) (by decide)) <| WE_var 3 ?_
        rw [← Int.natCast_ediv]
        have h3 : p / 2 ^ (i + 1) < 2 ^ 8001 := Nat.lt_of_le_of_lt (Nat.div_le_self _ _) (Nat.lt_trans hp (Nat.pow_lt_pow_right (by decide) (by decide)))
        refine b_mul (mulx_ok (a := 8001) (b := 8001) (by rw [Int.natAbs_natCast]; exact h3) (by rw [Int.natAbs_natCast]; exact h2) (by decide)) ?_
        refine WE_max2 (by walk_at "B") calm <| WE_int <| WE_bin <| WE_bin <| WE_var 0 <| WE_bin <| WE_int <| WE_var 3 ?_
        refine b_mul hmul ?_
        rw [twice_pow]
        refine b_mod (by have : 0 < 2 ^ (i + 1) := Nat.pow_pos (by decide); omega) <| WE_var 3 <| b_sub ⟨_, _, rfl, rfl, b_add ⟨_, rfl, ?_⟩⟩
        refine ⟨rfl, some (.d (.int i)), some (.d (.int ((2 ^ i : Nat) : Int))), ?_⟩
        have e : ((terms p i : Nat) : Int) + (((p / 2 ^ (i + 1) : Nat) : Int) * ((2 ^ i : Nat) : Int) + (if (p : Int) % ((2 ^ (i + 1) : Nat) : Int) - ((2 ^ i : Nat) : Int) > 0 then (p : Int) % ((2 ^ (i + 1) : Nat) : Int) - ((2 ^ i : Nat) : Int) else 0)) = ((terms p (i + 1) : Nat) : Int) := by
          rw [← Int.natCast_emod, terms, term, show 2 ^ (i + 1) = 2 * 2 ^ i by rw [Nat.pow_succ, Nat.mul_comm]]
          rw [Int.natCast_add, Int.natCast_add, Int.natCast_mul]
          generalize p % (2 * 2 ^ i) = r
          generalize ((p / (2 * 2 ^ i) : Nat) : Int) * ((2 ^ i : Nat) : Int) = u
          generalize 2 ^ i = M
          split <;> omega
        rw [← e]
        rfl
      · rintro _ _ ⟨rfl, b, c, rfl⟩
        refine ⟨rfl, b, c, ?_⟩
        rw [show terms p (bl p) = sumP p from terms_sum p (Nat.le_of_lt (lt_bl p))]
    rintro _ ω2 ⟨eω, b, c, rfl⟩
    subst ω2
    exact WB_cons <| WS_ret <| WE_var 1 <| rt_d hb q
  · refine WB_cons <| WS_expr <| WE_call D1 cal hj <| WA_cons <| WE_var 0 <| WA_cons <| WE_str <| WA_cons <| WE_int <| WA_cons <| WE_none <| WA_nil ⟨rfl, _, _, _, some 0, none, rfl, hd, fun h1 => ?_, fun h1 => ?_⟩
    · rw [hw] at h1; cases h1
    · rw [B.rzE]
      exact rz_of (List.prefix_refl _) (Nat.le_refl _) hb q
theorem filt_get (P : Nat → Bool) (L : List Nat) : ((List.range L.length).filter fun i => P (L.getD i 0)).length = L.countP P := by
  rw [List.countP_eq_length_filter]
  have e : L = (List.range L.length).map fun i => L.getD i 0 := by
    apply List.ext_getElem
    · simp
    · intro i h1 h2; simp [List.getElem?_eq_getElem h1]
  conv => rhs; rw [e, List.filter_map, List.length_map]
  rfl
/-- _law_is_near(one, other) -/
abbrev spNear : Spc := fun ss ω Q E => ∃ a b : Nat, ss = [.d (natD a), .d (natD b)] ∧ Q (.d (.bool (nr a b))) ω
theorem sc22 : FnScope ["one", "other", "apart"] ["one", "other"] (defScope (top 22)) := ⟨rfl, rfl, rfl, by decide +kernel, rfl, by decide +kernel, by decide +kernel⟩
theorem b22 (hB : Bs W blts) : Body W ["one", "other", "apart"] ["one", "other"] "_law_is_near" (defScope (top 22)) cdv (defBody (top 22)) k spNear := by
  intro f A outer st H E G as rz ss ω Q0 E0 B hl h
  obtain ⟨a, b, rfl, q⟩ := h
  have hu := B.cal.rm
  have hb := B.bel
  have nd : (["one", "other", "apart"] : List Str).Nodup := sc22.nd
  refine WB_cons <| WS_set 2 (hN := nd) <| WE_bin <| WE_var 0 <| WE_var 1 <| b_xor ?_
  rw [xorInt]
  unfold nr at q
  refine WB_cons <| WS_ret <| WE_and <| WE_cmp hu <| WE_var 2 <| WE_int <| c_ne <| t_bool ?_
  generalize a ^^^ b = x at q ⊢
  have e1 : (!decide ((x : Int) = 0)) = decide (x ≠ 0) := by
    rw [decide_not]
    exact congrArg _ (decide_eq_decide.mpr (by omega))
  rw [e1]
  by_cases h0 : x = 0
  · subst h0
    exact ite_f (rt_d hb q)
  · rw [decide_eq_true h0] at q ⊢
    rw [Bool.true_and] at q
    refine ite_t <| WE_one <| WE_cmp hu <| WE_bin <| WE_var 2 <| WE_bin <| WE_var 2 <| WE_int <| b_sub ?_
    rw [show (x : Int) - 1 = ((x - 1 : Nat) : Int) by omega]
    refine b_and <| WE_int <| c_eq ?_
    rw [andInt2, show decide (((x &&& (x - 1) : Nat) : Int) = 0) = decide (x &&& (x - 1) = 0) from decide_eq_decide.mpr (by omega)]
    exact rt_d hb q
/-- _law_pairs(words) -/
abbrev spLawPairs : Spc := fun ss ω Q E => ∃ L : List Nat, ss = [.d (.list (L.map natD))] ∧ L.length ≤ 4000 ∧ Q (.d (natD (prs L))) ω
theorem sc23 : FnScope ["words", "total", "at", "one", "other"] ["words"] (defScope (top 23)) := ⟨rfl, rfl, rfl, by decide +kernel, rfl, by decide +kernel, by decide +kernel⟩
theorem b23 {j : Nat} (hB : Bs W blts) (DN : Def W "_law_is_near" 2 j ["one", "other"] spNear []) (hj : j ≤ k) : Body W ["words", "total", "at", "one", "other"] ["words"] "_law_pairs" (defScope (top 23)) cdv (defBody (top 23)) k spLawPairs := by
  intro f A outer st H E G as rz ss ω Q0 E0 B hl h
  obtain ⟨L, rfl, hL, q⟩ := h
  have hu := B.cal.rm
  have hb := B.bel
  have cal := B.cal
  have calm := B.calm
  have own := B.own
  have nd : (["words", "total", "at", "one", "other"] : List Str).Nodup := sc23.nd
  refine WB_cons <| WS_set 1 (hN := nd) <| WE_int ?_
  refine WB_seq (R := fun τ' ω' => ω' = ω ∧ ∃ b c, τ' = [some (.d (.list (L.map natD))), some (.d (natD (prs L))), b, c, none]) ?_ ?_
  · refine WS_for own calm <| ItD_enum (by walk_at "B") <| WE_var 0 ⟨L.map natD, rfl, ?_⟩
    refine ⟨fun i τ' ω' => ω' = ω ∧ ∃ b c, τ' = [some (.d (.list (L.map natD))), some (.d (natD (prs (L.take i)))), b, c, none], ⟨rfl, none, none, rfl⟩, fun i _ ω' _ ⟨e, _⟩ => by subst e; rfl, ?_, ?_⟩
    · rintro i _ ω2 hi ⟨eω, b, c, rfl⟩
      subst ω2
      have hi : i < L.length := by simpa using hi
      show WG _ _ (.d (.tup [.int (i : Nat), (L.map natD).getD i .none])) _ _ _
      rw [getD_natD hi]
      refine WG_tup calm ⟨rfl, WGs_cons <| WG_name 2 (hN := nd) <| WGs_cons <| WG_name 3 (hN := nd) <| WGs_nil ?_⟩
      refine WB_one <| WS_set 1 (hN := nd) <| WE_bin <| WE_var 1 <| WE_lenL (by walk_at "B") <| WE_lc [("other", 4)] calm nd (blkOk_by (N := ["words", "total", "at", "one", "other"]) (sc := defScope (top 23)) (by decide +kernel)) <| ItD_list <| WE_slice <| WE_var 0 <| wo_none <| wo_int <| WE_var 2 ⟨(i : Int), rfl, ?_⟩
      refine sl_of rfl <| newL.d (small_le (by have := cutD_len (L.map natD) none (some (i : Int)); rw [List.length_map] at this; omega)) ⟨(L.take i).map natD, by rw [cut_take, List.map_take]; rfl, ?_⟩
      have hti : (L.take i).length = i := by rw [List.length_take]; omega
      rw [List.length_map]
      refine lc_filter (fun m => natD ((L.take i).getD m 0)) (fun m => nr (L.getD i 0) ((L.take i).getD m 0)) hb (fun acc => by rw [cut_take, List.map_take]; rfl) (small_le (by omega)) (fun m acc hm s H C cl fp => ?_) ?_
      · rw [getD_natD hm]
        refine WGv_name 4 (hN := nd) fun s H C cl fp => ?_
        refine WT_truth <| WE_call DN cal.blk hj <| WA_cons <| WE_var 3 <| WA_cons <| WE_var 4 <| WA_nil ⟨rfl, _, _, rfl, t_bool ⟨rfl, rfl, fun s H C cl fp => WE_var 4 ⟨rfl, rfl⟩⟩⟩
      have hfl := filt_get (nr (L.getD i 0)) (L.take i)
      have hle := List.countP_le_length (p := nr (L.getD i 0)) (l := L.take i)
      refine newL.d (small_le (by rw [List.length_map, hfl]; omega)) ⟨_, rfl, b_add ?_⟩
      rw [List.length_map, hfl]
      refine ⟨rfl, some (.d (.int (i : Int))), some (.d (natD (L.getD i 0))), ?_⟩
      have e : L.take (i + 1) = L.take i ++ [L.getD i 0] := by
        rw [List.take_succ, List.getD_eq_getElem?_getD, List.getElem?_eq_getElem hi]; rfl
      rw [e, prs_snoc]
      have e2 : natD (prs (L.take i) + (L.take i).countP (nr (L.getD i 0))) = .int (((prs (L.take i) : Nat) : Int) + (((L.take i).countP (nr (L.getD i 0)) : Nat) : Int)) := by rw [natD, Int.natCast_add]
      rw [e2]
      rfl
    · rintro _ ω2 ⟨eω, b, c, rfl⟩
      refine ⟨eω, b, c, ?_⟩
      rw [List.length_map, List.take_length]
  rintro _ ω2 ⟨eω, b, c, rfl⟩
  subst ω2
  exact WB_cons <| WS_ret <| WE_var 1 <| rt_d hb q
/-- _law_below(many) -/
abbrev spBelow : Spc := fun ss ω Q E => ∃ n : Nat, ss = [.d (natD n)] ∧ n ≤ 4000 ∧ Q (.d (natD (sumP n))) ω
def pops (n : Nat) : List D := (List.range n).map fun k => natD (pop k)
theorem sc24 : FnScope ["many", "ones", "total", "number"] ["many"] (defScope (top 24)) := ⟨rfl, rfl, rfl, by decide +kernel, rfl, by decide +kernel, by decide +kernel⟩
theorem b24 (hB : Bs W blts) : Body W ["many", "ones", "total", "number"] ["many"] "_law_below" (defScope (top 24)) cdv (defBody (top 24)) k spBelow := by
  intro f A outer st H E G as rz ss ω Q0 E0 B hl h
  obtain ⟨n, rfl, hn, q⟩ := h
  have hu := B.cal.rm
  have hb := B.bel
  have cal := B.cal
  have calm := B.calm
  have own := B.own
  have nd : (["many", "ones", "total", "number"] : List Str).Nodup := sc24.nd
  refine WB_cons <| WS_par 1 2 (calm := calm) (hN := nd) <| WE_list <| WA_cons <| WE_int <| WA_nil <| datsS_mk (ds := [.int 0]) <| newL.o (small_le (by simp)) <| WE_int ?_
  refine WB_seq (R := fun τ' ω' => ∃ o b, ω' = ω ++ [o] ∧ τ' = [some (.d (natD n)), some (.o ω.length), some (.d (natD (sumP n))), b]) ?_ ?_
  · refine WS_for own calm <| ItD_range2 (by walk_at "B") <| WE_int <| WE_var 0 ⟨1, (n : Int), rfl, rfl, ⟨by decide, by decide, by omega, by omega⟩, ?_⟩
    rw [show ((n : Int) - 1).toNat = n - 1 by omega]
    refine ⟨fun i τ' ω' => ω' = ω ++ [.lst (pops (1 + i))] ∧ ∃ b, τ' = [some (.d (natD n)), some (.o ω.length), some (.d (natD (sumP (1 + i)))), b], ⟨rfl, none, rfl⟩, fun _ _ _ _ _ => trivial, ?_, ?_⟩
    · rintro i _ _ hi ⟨rfl, b, rfl⟩
      have hi : i < n - 1 := hi
      have g0 : (ω ++ [O.lst (pops (1 + i))])[ω.length]? = some (.lst (pops (1 + i))) := get_last
      show WG _ _ (.d (.int (1 + (i : Int)))) _ _ _
      rw [show (1 : Int) + (i : Int) = ((1 + i : Nat) : Int) by omega]
      refine WG_name 3 (hN := nd) ?_
      refine WB_cons <| WS_expr <| WE_append <| WE_var 1 ⟨ω.length, rfl, ⟨_, g0⟩, WE_bin <| WE_ix <| WE_var 1 <| WE_bin <| WE_var 3 <| WE_int <| b_div (wide_div (b := 2) (by decide) (by decide) (by decide) (by decide)) ?_⟩
      rw [show ((1 + i : Nat) : Int) / 2 = (((1 + i) / 2 : Nat) : Int) by omega]
      refine x_list (vwL g0) (at_fun pop (show (1 + i) / 2 < 1 + i by omega)) <| WE_bin <| WE_intI (by walk_at "B") <| WE_var 3 ⟨_, rfl, WE_int <| b_mod (by decide) <| b_add ⟨pops (1 + i), natD (pop (1 + i)), g0, ?_, small_lt (by show ((List.range (1 + i)).map _).length < _; rw [List.length_map, List.length_range]; omega), ?_⟩⟩
      · have := pop_half (1 + i)
        show S.d (.int _) = S.d (.int _)
        congr 2
        omega
      rw [set_last]
      have ep : pops (1 + i) ++ [natD (pop (1 + i))] = pops (1 + (i + 1)) := by
        unfold pops
        rw [show 1 + (i + 1) = 1 + i + 1 by omega, List.range_succ, List.map_append]; rfl
      rw [ep]
      have g1 : (ω ++ [O.lst (pops (1 + (i + 1)))])[ω.length]? = some (.lst (pops (1 + (i + 1)))) := get_last
      refine WB_one <| WS_set 2 (hN := nd) <| WE_bin <| WE_var 2 <| WE_ix <| WE_var 1 <| WE_var 3 <| x_list (vwL g1) (at_fun pop (show 1 + i < 1 + (i + 1) by omega)) <| b_add ⟨rfl, some (.d (natD (1 + i))), ?_⟩
      have e2 : natD (sumP (1 + (i + 1))) = .int (((sumP (1 + i) : Nat) : Int) + ((pop (1 + i) : Nat) : Int)) := by
        rw [natD, show 1 + (i + 1) = 1 + i + 1 by omega, sumP, Int.natCast_add]
      rw [e2]
      rfl
    · rintro _ _ ⟨rfl, b, rfl⟩
      refine ⟨_, b, rfl, ?_⟩
      rcases Nat.eq_zero_or_pos n with rfl | hp
      · rfl
      · rw [show 1 + (n - 1) = n by omega]
  rintro _ _ ⟨o, b, rfl, rfl⟩
  exact WB_cons <| WS_ret <| WE_var 2 <| rt_g (s := .d (natD (sumP n))) (List.prefix_append _ _) (Nat.le_refl _) trivial hb q
end L05

set_option Elab.async false
set_option linter.all false
set_option maxRecDepth 100000
set_option maxHeartbeats 1000000
namespace L05
open PySem PySem.Spec PyProof.Rows L2 LamX Z
variable {W : Wd} {k : Nat} {cdv : Value}
local macro_rules
  | `(tactic| walk_at "B") => `(tactic| exact (‹Bs _ blts›).no _ (by decide))
theorem mem_bitsL (w b : Nat) : b ∈ (List.range (bl w)).filter w.testBit ↔ w.testBit b = true := by
  rw [List.mem_filter, List.mem_range]
  refine ⟨And.right, fun h => ⟨?_, h⟩⟩
  have h1 := Nat.ge_two_pow_of_testBit h
  have h2 := lt_bl w
  exact (Nat.pow_lt_pow_iff_right (by decide)).mp (Nat.lt_of_le_of_lt h1 h2)
/-- pairs_among(words) -/
abbrev spPairs (W : Wd) : Spc := fun ss ω Q E => ∃ d, ss = [.d d] ∧ wordsOr W d ω E fun L => (∀ w ∈ L, w < 2 ^ wid) ∧ Q (.d (natD (prs L))) ω
def inSc : Stmt → Scope
  | .Return (some (.Call _ [.ListComp _ _ s _] _ _)) _ => s
  | _ => defScope (top 15)
theorem sc15 : FnScope ["words", "known", "bit", "word"] ["words"] (defScope (top 15)) := ⟨rfl, rfl, rfl, by decide +kernel, rfl, by decide +kernel, by decide +kernel⟩
theorem b15 {j : Nat} (hB : Bs W blts) (D1 : Def W "need_words" 1 j ["value"] (spNeedWords W) []) (D2 : Def W "bits_in" 1 j ["word"] spBits []) (hj : j ≤ k) : Body W ["words", "known", "bit", "word"] ["words"] "pairs_among" (defScope (top 15)) cdv (defBody (top 15)) k (spPairs W) := by
  intro f A outer st H E G as rz ss ω Q0 E0 B hl h
  obtain ⟨d, rfl, h⟩ := h
  have hu := B.cal.rm
  have hb := B.bel
  have cal := B.cal
  have calm := B.calm
  have nd : (["words", "known", "bit", "word"] : List Str).Nodup := sc15.nd
  have hE : ∀ (x : XD) (τ : Tau), E0 x ω → (bdY W ["words", "known", "bit", "word"] "pairs_among" (defScope (top 15)) f cdv A outer st H E G as rz).rz x τ ω := fun x τ q => by
    rw [B.rzE]
    exact rz_of (List.prefix_refl _) (Nat.le_refl _) hb q
  refine WB_cons <| WS_set 1 (hN := nd) <| WE_call D1 cal hj <| WA_cons <| WE_var 0 <| WA_nil ⟨rfl, d, rfl, ?_⟩
  rcases h with ⟨a, h1, h2, h3, q⟩ | ⟨xs, hd, hz, hty, hno, q⟩ | ⟨L, hd, hz, hn, hm, q⟩ | ⟨L, hd, hz, hn, hw, q⟩
  · exact .inl ⟨a, h1, h2, h3, hE _ _ q⟩
  · exact .inr (.inl ⟨xs, hd, hz, hty, hno, hE _ _ q⟩)
  · exact .inr (.inr (.inl ⟨L, hd, hz, hn, hm, hE _ _ q⟩))
  refine .inr (.inr (.inr ⟨L, hd, hz, hn, fun m pm pw => ?_⟩))
  have hml := pm.length_eq
  have hnd := pm.nodup_iff.mpr hn
  refine WB_cons <| WS_ret <| WE_sumI (by walk_at "B") calm <| WE_lc [("word", 3)] calm nd (blkOk_by (N := ["words", "known", "bit", "word"]) (sc := defScope (top 15)) (by decide +kernel)) <| ItD_dict <| WE_var 1 ⟨kOf m, rfl, ?_⟩
  rw [kOf_len]
  refine lc_map (fun i => natD (m.countP (dn (m.getD i 0)))) hb (fun acc => trivial) (small_le (by omega)) (fun i acc hi s H C cl fp => ?_) ?_
  · rw [key_kOf hi]
    have hmem : m.getD i 0 ∈ m := by
      rw [List.getD_eq_getElem?_getD, List.getElem?_eq_getElem hi]
      exact List.getElem_mem hi
    have hwid := hw _ (pm.mem_iff.mp hmem)
    generalize m.getD i 0 = w at hmem hwid ⊢
    have hbl : bl w ≤ 60000 := bits_le (k := wid) hwid
    have hbs : ((List.range (bl w)).filter w.testBit).Nodup := List.nodup_range.filter _
    have hall := bits_all hbs (mem_bitsL w) hnd
    have hfl : ((List.range (bl w)).filter w.testBit).length ≤ 60000 := by
      have := List.length_filter_le w.testBit (List.range (bl w))
      rw [List.length_range] at this
      omega
    have hbm : ∀ b ∈ (List.range (bl w)).filter w.testBit, b < 60000 := fun b hb => by
      have := (List.mem_filter.mp hb).1
      rw [List.mem_range] at this
      omega
    obtain ⟨F, hF⟩ : ∃ F, F = (List.range (bl w)).filter w.testBit := ⟨_, rfl⟩
    rw [← hF] at hall hfl hbm
    refine WGv_name 3 (hN := nd) fun s H C cl fp => ?_
    refine WE_lenL (by walk_at "B") <| WE_lc [("bit", 2)] calm nd (blkOk_by (N := ["words", "known", "bit", "word"]) (sc := { (inSc ((defBody (top 15)).getD 1 (.Pass ⟨0,0,0,0⟩))) with names := (inSc ((defBody (top 15)).getD 1 (.Pass ⟨0,0,0,0⟩))).names.map fun p => (p.1, if p.2 = .free then .cell else p.2) }) (by decide +kernel)) <| ItD_tup <| WE_call D2 cal.blk hj <| WA_cons <| WE_var 3 <| WA_nil ⟨rfl, w, rfl, hwid, F.map natD, by rw [hF], ?_⟩
    rw [List.length_map]
    refine lc_filter (fun i => natD (F.getD i 0)) (fun i => decide (w ^^^ 2 ^ F.getD i 0 ∈ m)) (push_lst hb) (fun acc => trivial) (small_le (by omega)) (fun i acc2 hi s H C cl fp => ?_) ?_
    · rw [getD_natD hi]
      have hb6 := hbm (F.getD i 0) (by
        rw [List.getD_eq_getElem?_getD, List.getElem?_eq_getElem hi]
        exact List.getElem_mem hi)
      generalize F.getD i 0 = b at hb6 ⊢
      refine WGv_name 2 (hN := nd) fun s H C cl fp => ?_
      refine WT_cmp cal.blk.blk.rm <| WE_bin <| WE_var 3 <| WE_bin <| WE_int <| WE_var 2 <| b_shl (shl1 (b := b) (by omega)) ?_
      rw [one_shl]
      refine b_xor ?_
      rw [xorInt]
      refine WE_var 1 <| c_inK (ks := kOf m) rfl ⟨?_, rfl, fun s H C cl fp => WE_var 2 ⟨rfl, rfl⟩⟩
      rw [look_kOf]
    have hfg := filt_get (fun b => decide (w ^^^ 2 ^ b ∈ m)) F
    refine newL.d (small_le (by rw [List.length_map, hfg]; exact Nat.le_trans List.countP_le_length (by omega))) ⟨_, rfl, ?_, rfl⟩
    rw [List.length_map, hfg, hall]
  · refine ⟨(List.range m.length).map fun i => ((m.countP (dn (m.getD i 0)) : Nat) : Int), by rw [List.map_map]; rfl, ?_⟩
    have e : ((List.range m.length).map fun i => ((m.countP (dn (m.getD i 0)) : Nat) : Int)).sum = ((prs L : Nat) : Int) := by
      rw [← prs_perm pm]
      unfold prs
      have : ∀ l : List Nat, (l.map fun n : Nat => (n : Int)).sum = ((l.sum : Nat) : Int) := by
        intro l
        induction l with
        | nil => rfl
        | cons a l ih => rw [List.map_cons, List.sum_cons, List.sum_cons, ih, Int.natCast_add]
      rw [← this, List.map_map]
      congr 1
      apply List.ext_getElem
      · simp
      · intro i h1 h2
        have h3 : i < m.length := by simpa using h1
        simp [List.getElem?_eq_getElem h3]
    rw [e]
    exact rt_d hb q
end L05

set_option Elab.async false
set_option linter.all false
set_option maxRecDepth 100000
set_option maxHeartbeats 1000000
namespace L05
open PySem PySem.Spec PyProof.Rows L2 LamX Z
variable {W : Wd} {k : Nat} {cdv : Value}
local macro_rules
  | `(tactic| walk_at "B") => `(tactic| exact (‹Bs _ blts›).no _ (by decide))
theorem any_nat (L : List Nat) (b : Nat) : ((L.map natD).any fun z => eqD z (natD b)) = decide (b ∈ L) := by
  rw [Bool.eq_iff_iff, List.any_eq_true, decide_eq_true_eq]
  constructor
  · rintro ⟨x, hx, e⟩
    obtain ⟨c, hc, rfl⟩ := List.mem_map.mp hx
    have e : decide ((c : Int) = (b : Int)) = true := e
    have : c = b := by have := of_decide_eq_true e; omega
    exact this ▸ hc
  · intro h
    exact ⟨natD b, List.mem_map.mpr ⟨b, h, rfl⟩, decide_eq_true rfl⟩

theorem xor400 {w b : Nat} (hw : w < 2 ^ 400) (hb : b < 400) : w ^^^ 2 ^ b < 2 ^ 400 := Nat.xor_lt_two_pow hw (Nat.pow_lt_pow_right (by decide) hb)
/-- _law_some(hive) -/
abbrev spSome : Spc := fun ss ω Q E => ∃ k ns t l, ss = [.o k] ∧ ω[k]? = some (quay ns t l) ∧ (∀ z ∈ ns, Builtin.Int.intBits z ≤ 1048576) ∧ 0 ≤ t ∧ t < 900000 ∧
  ∀ (L : List Nat) t' l', L.Nodup → (∀ b ∈ L, b < 2 ^ 400) → L.length ≤ 24 → t ≤ t' → t' ≤ t + 300 → Q (.d (.list (L.map natD))) (ω.set k (quay ns t' l'))
abbrev N21 : List Str := ["hive", "few", "found", "base", "spots", "turn", "word", "spot"]
theorem sc21 : FnScope ["hive", "few", "found", "base", "spots", "turn", "word", "spot"] ["hive"] (defScope (top 21)) := ⟨rfl, rfl, rfl, by decide +kernel, rfl, by decide +kernel, by decide +kernel⟩
theorem b21 {j : Nat} (hB : Bs W blts) (D1 : Def W "_law_sting" 2 j ["hive", "many"] spMoor []) (D2 : Def W "_law_one" 2 j ["hive", "some"] spOne []) (hj : j ≤ k) : Body W ["hive", "few", "found", "base", "spots", "turn", "word", "spot"] ["hive"] "_law_some" (defScope (top 21)) cdv (defBody (top 21)) k spSome := by
  intro f A outer st H E G as rz ss ω Q0 E0 B hl h
  obtain ⟨kq, ns, t, l, rfl, hq, hns, ht0, ht1, q⟩ := h
  have hu := B.cal.rm
  have hb := B.bel
  have cal := B.cal
  have calm := B.calm
  have own := B.own
  have nd : (N21 : List Str).Nodup := sc21.nd
  have hk : kq < ω.length := (List.getElem?_eq_some_iff.mp hq).1
  have hqa : ∀ t l x, (ω.set kq (quay ns t l) ++ x)[kq]? = some (quay ns t l) := fun t l x => by
    rw [List.getElem?_append_left (by simpa using hk)]
    exact get_set hq
  have hsa : ∀ t l x t2 l2, (ω.set kq (quay ns t l) ++ x).set kq (quay ns t2 l2) = ω.set kq (quay ns t2 l2) ++ x := fun t l x t2 l2 => by
    rw [List.set_append_left _ _ (by simpa using hk), List.set_set]
  have hlen : ∀ t l, (ω.set kq (quay ns t l)).length = ω.length := fun t l => by simp
  have hga : ∀ t l x, (ω.set kq (quay ns t l) ++ [x])[ω.length]? = some x := fun t l x => by rw [← hlen t l]; exact get_last
  have hla : ∀ t l x y, (ω.set kq (quay ns t l) ++ [x]).set ω.length y = ω.set kq (quay ns t l) ++ [y] := fun t l x y => by rw [← hlen t l]; exact set_last
  have hbl : ∀ t l (M : List D), Below (ω.set kq (quay ns t l) ++ [O.lst M]).length (ω.set kq (quay ns t l) ++ [O.lst M]) := fun t l M => push_lst (below_lst hb)
  have e400 : (1 : Int) * 2 ^ Int.toNat 400 = ((2 ^ 400 : Nat) : Int) := one_shl 400
  have l400 : ((2 ^ 400 : Nat) : Int) < 2 ^ Z.lots := by rw [Int.natCast_pow]; exact lots_small (n := 401) (by decide) (by decide)
  have xl := @xor400
  have p400 : 1 ≤ 2 ^ 400 := Nat.one_le_two_pow
  have b64 : 64 ≤ 2 ^ 400 := Nat.pow_le_pow_right (n := 2) (by decide) (show 6 ≤ 400 by decide)
  -- few, found
  refine WB_cons <| WS_par 1 2 (calm := calm) (hN := nd) <| WE_bin <| WE_int <| WE_call D1 cal hj <| WA_cons <| WE_var 0 <| WA_cons <| WE_int <| WA_nil ⟨rfl, kq, ns, t, l, _, rfl, hq, hns, by omega, by omega, by decide, by have := million; omega, fun r0 t0 l0 a1 a2 a3 a4 => ?_⟩
  obtain ⟨r0, rfl⟩ := Int.eq_ofNat_of_zero_le a1
  refine b_add ?_
  rw [show (1 : Int) + (r0 : Int) = ((1 + r0 : Nat) : Int) by omega]
  obtain ⟨few, hfew, hfew6⟩ : ∃ n, n = 1 + r0 ∧ n ≤ 6 := ⟨_, rfl, by omega⟩
  rw [← hfew]
  clear hfew
  refine WE_list <| WA_nil <| datsS_mk (ds := []) <| newL.o (small_le (by simp)) ?_
  rw [hlen]
  -- base
  refine WB_cons <| WS_set 3 (hN := nd) <| WE_call D2 cal hj <| WA_cons <| WE_var 0 <| WA_cons <| WE_list <| WA_cons <| WE_int <| WA_cons <| WE_int <| WA_cons <| WE_call D1 cal hj <| WA_cons <| WE_var 0 <| WA_cons <| WE_bin <| WE_int <| WE_int <| b_shl (shl1 (b := 400) (by decide)) ?_
  rw [e400]
  refine WA_nil ⟨rfl, kq, ns, t0, l0, ((2 ^ 400 : Nat) : Int), rfl, hqa _ _ _, hns, by omega, by omega, by omega, l400, fun r1 t1 l1 b1 b2 b3 b4 => ?_⟩
  obtain ⟨r1, rfl⟩ := Int.eq_ofNat_of_zero_le b1
  rw [hsa]
  have hr1 : r1 < 2 ^ 400 := by omega
  refine WA_nil <| datsS_mk (ds := [.int 0, .int 0, .int r1]) <| newL.d (small_le (by simp)) <| WA_nil ⟨rfl, kq, ns, t1, l1, _, rfl, hqa _ _ _, hns, by omega, by omega, by simp, by simp, fun x t2 l2 hx c3 c4 => ?_⟩
  rw [hsa]
  obtain ⟨base, rfl, hbase⟩ : ∃ n : Nat, x = natD n ∧ n < 2 ^ 400 := by
    simp only [List.mem_cons, List.not_mem_nil, or_false] at hx
    rcases hx with rfl | rfl | rfl
    · exact ⟨0, rfl, p400⟩
    · exact ⟨0, rfl, p400⟩
    · exact ⟨r1, rfl, hr1⟩
  clear hx
  -- spots
  refine WB_cons <| WS_setLc 4 [("turn", 5)] calm nd (blkOk_by (N := N21) (sc := defScope (top 21)) (by decide +kernel)) (ItD_range1 (by walk_at "B") <| WE_int ⟨5, rfl, by decide, by decide, ?_⟩) rfl
  refine lc_run (fun i acc ω' => ∃ (P : List Nat) (t3 l3 : Int), acc = P.map natD ∧ (∀ b ∈ P, b < 400) ∧ P.length = i ∧ t2 ≤ t3 ∧ t3 ≤ t2 + 2 * i ∧ ω' = ω.set kq (quay ns t3 l3) ++ [.lst []]) ⟨[], t2, l2, rfl, by simp, rfl, by omega, by omega, rfl⟩ ?_ ?_ ?_
  · rintro i acc _ hi ⟨P, t3, l3, rfl, h1, h2, h3, h4, rfl⟩
    exact ⟨by simp, hbl _ _ _, trivial⟩
  · rintro i acc _ hi ⟨P, t3, l3, rfl, h1, h2, h3, h4, rfl⟩ s H C cl fp
    have hi : i < 5 := hi
    refine WGv_name 5 (hN := nd) fun s H C cl fp => ?_
    have hqb : ∀ t l x y, (ω.set kq (quay ns t l) ++ [x] ++ [y])[kq]? = some (quay ns t l) := fun t l x y => by rw [List.append_assoc]; exact hqa _ _ _
    have hsb : ∀ t l x y t2 l2, (ω.set kq (quay ns t l) ++ [x] ++ [y]).set kq (quay ns t2 l2) = ω.set kq (quay ns t2 l2) ++ [x] ++ [y] := fun t l x y t2 l2 => by rw [List.append_assoc, hsa, List.append_assoc]
    refine WE_call D1 cal.blk hj <| WA_cons <| WE_var 0 <| WA_cons <| WE_call D2 cal.blk hj <| WA_cons <| WE_var 0 <| WA_cons <| WE_list <| WA_cons <| WE_int <| WA_cons <| WE_int <| WA_nil <| datsS_mk (ds := [.int 6, .int 400]) <| newL.d (small_le (by simp)) <| WA_nil ⟨rfl, kq, ns, t3, l3, _, rfl, hqb _ _ _ _, hns, by omega, by omega, by simp, by simp, fun x t4 l4 hx d3 d4 => ?_⟩
    rw [hsb]
    obtain ⟨m, rfl, hm1, hm2⟩ : ∃ m : Nat, x = .int m ∧ 1 ≤ m ∧ m ≤ 400 := by
      simp only [List.mem_cons, List.not_mem_nil, or_false] at hx
      rcases hx with rfl | rfl
      · exact ⟨6, rfl, by decide, by decide⟩
      · exact ⟨400, rfl, by decide, by decide⟩
    clear hx
    refine WA_nil ⟨rfl, kq, ns, t4, l4, (m : Int), rfl, hqb _ _ _ _, hns, by omega, by omega, by omega, by have := million; omega, fun r t5 l5 e1 e2 e3 e4 => ?_⟩
    obtain ⟨r, rfl⟩ := Int.eq_ofNat_of_zero_le e1
    rw [hsb]
    refine ⟨natD r, _, rfl, rfl, small_lt (by rw [List.length_map]; omega), P ++ [r], t5, l5, by rw [List.map_append]; rfl, fun y hy => ?_, by rw [List.length_append, h2]; rfl, by omega, by omega, rfl⟩
    rcases List.mem_append.mp hy with h | h
    · exact h1 y h
    · rw [List.mem_singleton.mp h]; omega
  rintro acc _ ⟨P, t3, l3, rfl, hP, hP5, h3, h4, rfl⟩
  have hP5 : P.length = 5 := hP5
  refine WB_seq (R := fun τ' ω' => ∃ (L : List Nat) (t2 l2 : Int) (a b c : Option S), L.Nodup ∧ (∀ b ∈ L, b < 2 ^ 400) ∧ L.length ≤ 24 ∧ t ≤ t2 ∧ t2 ≤ t + 300 ∧ ω' = ω.set kq (quay ns t2 l2) ++ [.lst (L.map natD)] ∧ τ' = [some (.o kq), some (.d (natD few)), some (.o ω.length), some (.d (natD base)), some (.d (.list (P.map natD))), a, b, c]) ?_ ?_
  · refine WS_for own calm <| ItD_range1 (by walk_at "B") <| WE_call D2 cal hj <| WA_cons <| WE_var 0 <| WA_cons <| WE_list <| WA_cons <| WE_int <| WA_cons <| WE_int <| WA_cons <| WE_int <| WA_cons <| WE_int <| WA_cons <| WE_int <| WA_cons <| WE_int <| WA_nil <| datsS_mk (ds := [.int 0, .int 1, .int 2, .int 8, .int 16, .int 24]) <| newL.d (small_le (by simp)) <| WA_nil ⟨rfl, kq, ns, t3, l3, _, rfl, hqa _ _ _, hns, by omega, by omega, by simp, by simp, fun x t4 l4 hx g3 g4 => ?_⟩
    rw [hsa]
    obtain ⟨n, rfl, hn⟩ : ∃ n : Nat, x = .int n ∧ n ≤ 24 := by
      simp only [List.mem_cons, List.not_mem_nil, or_false] at hx
      rcases hx with rfl | rfl | rfl | rfl | rfl | rfl
      · exact ⟨0, rfl, by decide⟩
      · exact ⟨1, rfl, by decide⟩
      · exact ⟨2, rfl, by decide⟩
      · exact ⟨8, rfl, by decide⟩
      · exact ⟨16, rfl, by decide⟩
      · exact ⟨24, rfl, by decide⟩
    clear hx
    refine ⟨(n : Int), rfl, by omega, by omega, ?_⟩
    rw [Int.toNat_natCast]
    refine ⟨fun i τ' ω' => ∃ (L : List Nat) (t2 l2 : Int) (a b c : Option S), L.Nodup ∧ (∀ b ∈ L, b < 2 ^ 400) ∧ L.length ≤ i ∧ t ≤ t2 ∧ t2 ≤ t + 14 + 6 * i ∧ ω' = ω.set kq (quay ns t2 l2) ++ [.lst (L.map natD)] ∧ τ' = [some (.o kq), some (.d (natD few)), some (.o ω.length), some (.d (natD base)), some (.d (.list (P.map natD))), a, b, c],
      ⟨[], t4, l4, none, none, none, List.nodup_nil, by simp, Nat.le_refl _, by omega, by omega, rfl, rfl⟩, fun _ _ _ _ _ => trivial, ?_, ?_⟩
    · rintro i _ _ hi ⟨L, t5, l5, a, b, c, hL1, hL2, hL3, h5, h6, rfl, rfl⟩
      refine WG_name 5 (hN := nd) ?_
      refine WB_cons <| WS_set 6 (hN := nd) <| WE_call D1 cal hj <| WA_cons <| WE_var 0 <| WA_cons <| WE_bin <| WE_int <| WE_var 1 <| b_shl (shl1 (b := few) (by omega)) ?_
      rw [one_shl]
      have pf : 1 ≤ 2 ^ few := Nat.one_le_two_pow
      have pf2 : 2 ^ few ≤ 64 := Nat.pow_le_pow_right (n := 2) (by decide) hfew6
      refine WA_nil ⟨rfl, kq, ns, t5, l5, ((2 ^ few : Nat) : Int), rfl, hqa _ _ _, hns, by omega, by omega, by omega, by have := million; omega, fun r t6 l6 k1 k2 k3 k4 => ?_⟩
      obtain ⟨r, rfl⟩ := Int.eq_ofNat_of_zero_le k1
      rw [hsa]
      have hr : r < 2 ^ 400 := by omega
      -- the word
      refine WB_seq (R := fun τ' ω' => ∃ (w : Nat) (t2 l2 : Int) (b : Option S), w < 2 ^ 400 ∧ t6 ≤ t2 ∧ t2 ≤ t6 + 5 ∧ ω' = ω.set kq (quay ns t2 l2) ++ [.lst (L.map natD)] ∧ τ' = [some (.o kq), some (.d (natD few)), some (.o ω.length), some (.d (natD base)), some (.d (.list (P.map natD))), some (.d (.int (i : Nat))), some (.d (natD w)), b]) ?_ ?_
      · refine WS_if <| WT_cmp hu <| WE_var 3 <| WE_int <| c_gt <| ite_d (fun hg => ?_) (fun hg => ?_)
        · refine WB_cons <| WS_set 6 (hN := nd) <| WE_var 3 ?_
          refine WB_one <| WS_for own calm <| ItD_list <| WE_var 4 ⟨P.map natD, rfl, ?_⟩
          rw [List.length_map, hP5]
          refine ⟨fun m τ' ω' => ∃ (w : Nat) (t2 l2 : Int) (b : Option S), w < 2 ^ 400 ∧ t6 ≤ t2 ∧ t2 ≤ t6 + m ∧ ω' = ω.set kq (quay ns t2 l2) ++ [.lst (L.map natD)] ∧ τ' = [some (.o kq), some (.d (natD few)), some (.o ω.length), some (.d (natD base)), some (.d (.list (P.map natD))), some (.d (.int (i : Nat))), some (.d (natD w)), b],
            ⟨base, t6, l6, c, hbase, by omega, by omega, rfl, rfl⟩, fun _ _ _ _ _ => rfl, ?_, ?_⟩
          · rintro m _ _ hm ⟨w, t7, l7, b2, hw, m1, m2, rfl, rfl⟩
            have hmP : m < P.length := by omega
            show WG _ _ (.d ((P.map natD).getD m .none)) _ _ _
            rw [getD_natD hmP]
            have hsp : P.getD m 0 < 400 := hP _ (by rw [List.getD_eq_getElem?_getD, List.getElem?_eq_getElem hmP]; exact List.getElem_mem hmP)
            generalize P.getD m 0 = sp at hsp ⊢
            refine WG_name 7 (hN := nd) ?_
            refine WB_one <| WS_if <| WT_cmp hu <| WE_call D1 cal hj <| WA_cons <| WE_var 0 <| WA_cons <| WE_int <| WA_nil ⟨rfl, kq, ns, t7, l7, _, rfl, hqa _ _ _, hns, by omega, by omega, by decide, by have := million; omega, fun r9 t8 l8 n1 n2 n3 n4 => ?_⟩
            rw [hsa]
            refine WE_int <| c_eq <| ite_d (fun h0 => ?_) (fun h0 => ?_)
            · refine WB_one <| WS_set 6 (hN := nd) <| WE_bin <| WE_var 6 <| WE_bin <| WE_int <| WE_var 7 <| b_shl (shl1 (b := sp) (by omega)) ?_
              rw [one_shl]
              refine b_xor ?_
              rw [xorInt]
              exact ⟨w ^^^ 2 ^ sp, t8, l8, _, xl hw hsp, by omega, by omega, rfl, rfl⟩
            · exact WB_nil ⟨w, t8, l8, _, hw, by omega, by omega, rfl, rfl⟩
          · rintro _ _ ⟨w, t7, l7, b2, hw, m1, m2, rfl, rfl⟩
            exact ⟨w, t7, l7, b2, hw, by omega, by omega, rfl, rfl⟩
        · exact WB_nil ⟨r, t6, l6, c, hr, by omega, by omega, rfl, rfl⟩
      rintro _ _ ⟨w, t7, l7, b2, hw, m1, m2, rfl, rfl⟩
      refine WB_one <| WS_if <| WT_cmp hu <| WE_var 6 <| WE_var 2 <| c_notIn (d := natD w) (xs := L.map natD) rfl (vwL (hga _ _ _)) (ok_int (n := 0)).ok (ok_nats L) ?_
      rw [any_nat]
      refine ite_nd (fun h5 => ?_) (fun h5 => ?_)
      · refine WB_one <| WS_expr <| WE_append <| WE_var 2 ⟨ω.length, rfl, ⟨_, hga _ _ _⟩, WE_var 6 ⟨_, _, hga _ _ _, rfl, small_lt (by rw [List.length_map]; omega), ?_⟩⟩
        rw [hla]
        refine ⟨L ++ [w], t7, l7, _, _, _, ?_, ?_, by simp; omega, by omega, by omega, ?_, rfl⟩
        · rw [List.nodup_append]
          exact ⟨hL1, by simp, fun a ha b hb e => h5 (by rw [List.mem_singleton.mp hb] at e; exact e ▸ ha)⟩
        · intro b hb
          rcases List.mem_append.mp hb with h | h
          · exact hL2 b h
          · rw [List.mem_singleton.mp h]; exact hw
        · rw [List.map_append]; rfl
      · exact WB_nil ⟨L, t7, l7, _, _, _, hL1, hL2, by omega, by omega, by omega, rfl, rfl⟩
    · rintro _ _ ⟨L, t2, l2, a, b, c, hL1, hL2, hL3, h1, h2, rfl, rfl⟩
      exact ⟨L, t2, l2, a, b, c, hL1, hL2, by omega, h1, by omega, rfl, rfl⟩
  rintro _ _ ⟨L, t2, l2, a, b, c, hL1, hL2, hL3, h1, h2, rfl, rfl⟩
  refine WB_cons <| WS_ret <| WE_frz <| WE_var 2 ⟨ω.length, _, rfl, hga _ _ _, ?_⟩
  rw [hla]
  exact rt_g (List.prefix_append _ _) (by rw [hlen]; exact Nat.le_refl _) trivial (below_lst hb) (q L t2 l2 hL1 hL2 hL3 h1 h2)
end L05

set_option Elab.async false
set_option linter.all false
set_option maxRecDepth 100000
set_option maxHeartbeats 1000000
namespace L05
open PySem PySem.Spec PyProof.Rows L2 LamX Z
variable {W : Wd} {k : Nat} {cdv : Value}
local macro_rules
  | `(tactic| walk_at "B") => `(tactic| exact (‹Bs _ blts›).no _ (by decide))
theorem pop_le (n : Nat) : pop n ≤ n := by
  induction n using Nat.strongRecOn with
  | _ n ih =>
    by_cases h : n = 0
    · subst h; decide
    · rw [pop_half]
      have := ih (n / 2) (by omega)
      omega
theorem sum_le : ∀ n, sumP n ≤ n * n
  | 0 => Nat.le_refl _
  | n + 1 => by
    have h1 := sum_le n
    have h2 := pop_le n
    show sumP n + pop n ≤ (n + 1) * (n + 1)
    rw [Nat.add_mul, Nat.mul_add, Nat.one_mul, Nat.mul_one]
    omega

theorem sum_sm {n : Nat} (h : n ≤ 4000) : ((sumP n : Nat) : Int).natAbs.log2 < 1920 := log_lt (k := 30) (Nat.lt_of_le_of_lt (Nat.le_trans (sum_le n) (Nat.mul_le_mul h h)) (by decide)) (by decide) (by decide)
theorem prs_sm {L : List Nat} (hn : L.Nodup) (h : L.length ≤ 4000) : ((prs L : Nat) : Int).natAbs.log2 < 1920 := log_lt (k := 30) (Nat.lt_of_le_of_lt (Nat.le_trans (iso_all hn) (Nat.le_trans (sum_le _) (Nat.mul_le_mul h h))) (by decide)) (by decide) (by decide)
theorem sho_natsT {L : List Nat} (h : ∀ b ∈ L, b < 2 ^ 400) (hl : L.length ≤ 1000) : shoD (.tup (L.map natD)) := by
  have := sho_tupI (ns := L.map fun b : Nat => (b : Int)) (fun i hi => by
    obtain ⟨b, hb, rfl⟩ := List.mem_map.mp hi
    exact log_lt (k := 400) (h b hb) (by decide) (by decide)) (by rw [List.length_map]; omega)
  rw [map_natD] at this
  exact this
theorem sho_natsL {L : List Nat} (h : ∀ b ∈ L, b < 2 ^ 400) (hl : L.length ≤ 1000) : shoD (.list (L.map natD)) := by
  have := sho_listI (ns := L.map fun b : Nat => (b : Int)) (fun i hi => by
    obtain ⟨b, hb, rfl⟩ := List.mem_map.mp hi
    exact log_lt (k := 400) (h b hb) (by decide) (by decide)) (by rw [List.length_map]; omega)
  rw [map_natD] at this
  exact this
theorem wd400 {n : Nat} (h : n < 2 ^ 400) : n < 2 ^ wid := Nat.lt_trans h (Nat.pow_lt_pow_right (by decide) (by decide))
/-- pairs_among of good words -/
theorem pairs_good {W : Wd} {L : List Nat} {d : D} {ω : List O} {Q : QS} {E : XD → List O → Prop} (hd : d = .list (L.map natD) ∨ d = .tup (L.map natD)) (hl : L.length ≤ 1024) (hn : L.Nodup) (hw : ∀ w ∈ L, w < 2 ^ 400) (q : Q (.d (natD (prs L))) ω) : spPairs W [.d d] ω Q E :=
  ⟨d, rfl, .inr (.inr (.inr ⟨L, hd, hl, hn, fun w h => wd400 (hw w h), q⟩))⟩
abbrev spRight : Spc := fun ss ω Q E => ∃ k ns t l, ss = [.o k] ∧ ω[k]? = some (quay ns t l) ∧ (∀ z ∈ ns, Builtin.Int.intBits z ≤ 1048576) ∧ 0 ≤ t ∧ t < 700000 ∧
  ∀ t' l', t ≤ t' → t' ≤ t + 400 → Q (.d (.bool true)) (ω.set k (quay ns t' l'))
theorem len_eq (L : List Nat) : [S.d (D.int (((L.map natD).length : Nat) : Int))] = [S.d (D.int ((L.length : Nat) : Int))] := by rw [List.length_map]
theorem small_lots {n : Nat} (h : n ≤ 4000) : n < 2 ^ lots := Nat.lt_of_le_of_lt h (Nat.lt_of_lt_of_le (show 4000 < 2 ^ 12 by decide) (Nat.pow_le_pow_right (by decide) (by decide)))
theorem sc25 : FnScope ["hive", "words", "passed", "due", "kept", "told", "most"] ["hive"] (defScope (top 25)) := ⟨rfl, rfl, rfl, by decide +kernel, rfl, by decide +kernel, by decide +kernel⟩
theorem b25 {j : Nat} (hB : Bs W blts) (DS : Def W "_law_some" 1 j ["hive"] spSome []) (D2 : Def W "_law_one" 2 j ["hive", "some"] spOne []) (DL : Def W "_law_pairs" 1 j ["words"] spLawPairs []) (DP : Def W "pairs_among" 1 j ["words"] (spPairs W) []) (KP : DefK W "pairs_among" j ["words"] (spPairs W) 0 ["words"] [0]) (DM : Def W "most_pairs" 1 j ["many"] (spMP W) []) (DB : Def W "_law_below" 1 j ["many"] spBelow []) (hj : j ≤ k) :
    Body W ["hive", "words", "passed", "due", "kept", "told", "most"] ["hive"] "_law_counted_right" (defScope (top 25)) cdv (defBody (top 25)) k spRight := by
  intro f A outer st H E G as rz ss ω Q0 E0 B hl h
  obtain ⟨kq, ns, t, l, rfl, hq, hns, ht0, ht1, q⟩ := h
  have hu := B.cal.rm
  have hb := B.bel
  have cal := B.cal
  have calm := B.calm
  have nd : (["hive", "words", "passed", "due", "kept", "told", "most"] : List Str).Nodup := sc25.nd
  have hk : kq < ω.length := (List.getElem?_eq_some_iff.mp hq).1
  refine WB_cons <| WS_set 1 (hN := nd) <| WE_call DS cal hj <| WA_cons <| WE_var 0 <| WA_nil ⟨rfl, kq, ns, t, l, rfl, hq, hns, by omega, by omega, fun L t1 l1 hL1 hL2 hL3 a1 a2 => ?_⟩
  have hq1 := get_set (y := quay ns t1 l1) hq
  have h24 : (L.map natD).length ≤ 24 := by rw [List.length_map]; exact hL3
  refine WB_cons <| WS_par 2 3 (calm := calm) (hN := nd) <| WE_call D2 cal hj <| WA_cons <| WE_var 0 <| WA_cons <| WE_list <| WA_cons <| WE_var 1 <| WA_cons <| WE_tupOf (by walk_at "B") <| WE_var 1 ?_
  refine WA_nil <| datsS_mk (ds := [.list (L.map natD), .tup (L.map natD)]) <| newL.d (small_le (by simp)) <| WA_nil ⟨rfl, kq, ns, t1, l1, _, rfl, hq1, hns, by omega, by omega, by simp, by simp, fun x t2 l2 hx b1 b2 => ?_⟩
  rw [List.set_set]
  have hx2 : (x = .list (L.map natD) ∨ x = .tup (L.map natD)) ∧ shoD x := by
    simp only [List.mem_cons, List.not_mem_nil, or_false] at hx
    rcases hx with rfl | rfl
    · exact ⟨.inl rfl, sho_natsL hL2 (by omega)⟩
    · exact ⟨.inr rfl, sho_natsT hL2 (by omega)⟩
  clear hx
  obtain ⟨hx2, shx⟩ := hx2
  have q := q t2 l2 (by omega) (by omega)
  have hbω : Below (ω.set kq (quay ns t2 l2)).length (ω.set kq (quay ns t2 l2)) := below_lst hb
  have hlen : (ω.set kq (quay ns t2 l2)).length = ω.length := by simp
  have fin : Rt ω.length Q0 (.d (.bool true)) (ω.set kq (quay ns t2 l2)) := rt_g (List.prefix_refl _) (by rw [hlen]; exact Nat.le_refl _) trivial hbω q
  generalize ω.set kq (quay ns t2 l2) = ω3 at q hbω hlen fin ⊢
  have lp := prs_sm hL1 (by omega)
  have ls := sum_sm (n := L.length) (by omega)
  refine WE_call DL cal hj <| WA_cons <| WE_var 1 <| WA_nil ⟨rfl, L, rfl, by omega, ?_⟩
  refine WB_cons <| WS_set 4 (hN := nd) <| WE_reprD (by walk_at "B") cal <| WE_var 2 ⟨x, rfl, shx, ?_⟩
  refine WB_cons <| WS_par 5 6 (calm := calm) (hN := nd) <| WE_call DP cal hj <| WA_cons <| WE_var 2 <| WA_nil ⟨rfl, pairs_good hx2 (by omega) hL1 hL2 ?_⟩
  refine WE_call DM cal hj <| WA_cons <| WE_lenL (by walk_at "B") <| WE_var 1 ⟨L.map natD, rfl, WA_nil ⟨rfl, .inl ⟨L.length, len_eq L, small_lots (by omega), ?_⟩⟩⟩
  refine WB_cons <| WS_if <| WT_bop <| WW_or <| WT_cmp hu <| WE_reprI (by walk_at "B") <| WE_var 5 ⟨_, rfl, lp, WE_reprI (by walk_at "B") <| WE_var 3 ⟨_, rfl, lp, c_neS1 <| ite_f ?_⟩⟩
  refine WW_or <| WT_cmp hu <| WE_reprI (by walk_at "B") <| WE_callK0 KP cal hj <| WK_cons <| WE_rev <| WE_var 1 ⟨L.map natD, rfl, newL.d (small_le (by rw [List.length_reverse]; omega)) <| WK_nil ⟨rfl, rfl, ?_⟩⟩
  rw [← List.map_reverse]
  refine pairs_good (L := L.reverse) (.inl rfl) (by rw [List.length_reverse]; omega) ((List.reverse_perm L).nodup_iff.mpr hL1) (fun b hb => hL2 b (by simpa using hb)) ?_
  rw [prs_perm (List.reverse_perm L)]
  refine ⟨_, rfl, lp, WE_reprI (by walk_at "B") <| WE_var 3 ⟨_, rfl, lp, c_neS1 <| ite_f ?_⟩⟩
  refine WW_or1 <| WT_cmp hu <| WE_reprD (by walk_at "B") cal <| WE_var 2 ⟨x, rfl, shx, WE_var 4 <| c_neS1 <| ite_f <| WB_nil ?_⟩
  refine WB_cons <| WS_ret <| WE_and <| WE_cmp hu <| WE_reprI (by walk_at "B") <| WE_var 6 ⟨_, rfl, ls, WE_reprI (by walk_at "B") <| WE_call DB cal hj <| WA_cons <| WE_lenL (by walk_at "B") <| WE_var 1 ⟨L.map natD, rfl, WA_nil ⟨rfl, L.length, len_eq L, by omega, _, rfl, ls, c_eqS1 <| t_bool <| ite_t <| WE_one <| WE_cmp hu <| WE_var 5 <| WE_var 6 <| c_le ?_⟩⟩⟩
  have := iso_all hL1
  rw [decide_eq_true (by omega)]
  exact fin
abbrev N26 : List Str := ["hive", "many", "spots", "mask", "words", "number", "word", "left", "spot", "due"]
theorem sc26 : FnScope ["hive", "many", "spots", "mask", "words", "number", "word", "left", "spot", "due"] ["hive"] (defScope (top 26)) := ⟨rfl, rfl, rfl, by decide +kernel, rfl, by decide +kernel, by decide +kernel⟩
theorem pw_lt {L : Nat → Nat} {m n : Nat} (hL : ∀ j, j < n → L j < 12) (hm : m < 2 ^ 12) (x : Nat) : ∀ i, i ≤ n → pw L x m i < 2 ^ 12
  | 0, _ => hm
  | i + 1, h => by
    have := pw_lt hL hm x i (by omega)
    unfold pw
    split
    · exact Nat.xor_lt_two_pow this (Nat.pow_lt_pow_right (by decide) (hL i (by omega)))
    · exact this
theorem b26 {j : Nat} (hB : Bs W blts) (D1 : Def W "_law_sting" 2 j ["hive", "many"] spMoor []) (D2 : Def W "_law_one" 2 j ["hive", "some"] spOne []) (DX : Def W "_law_mixed" 2 j ["hive", "some"] spStir []) (DP : Def W "pairs_among" 1 j ["words"] (spPairs W) []) (DM : Def W "most_pairs" 1 j ["many"] (spMP W) []) (DB : Def W "_law_below" 1 j ["many"] spBelow []) (hj : j ≤ k) :
    Body W ["hive", "many", "spots", "mask", "words", "number", "word", "left", "spot", "due"] ["hive"] "_law_full_right" (defScope (top 26)) cdv (defBody (top 26)) k spRight := by
  intro f A outer st H E G as rz ss ω Q0 E0 B hl h
  obtain ⟨kq, ns, t, l, rfl, hq, hns, ht0, ht1, q⟩ := h
  have hu := B.cal.rm
  have hb := B.bel
  have cal := B.cal
  have calm := B.calm
  have own := B.own
  have nd : (N26 : List Str).Nodup := sc26.nd
  have hk : kq < ω.length := (List.getElem?_eq_some_iff.mp hq).1
  have gs : ∀ t l, (ω.set kq (quay ns t l))[kq]? = some (quay ns t l) := fun t l => get_set hq
  refine WB_cons <| WS_set 1 (hN := nd) <| WE_call D2 cal hj <| WA_cons <| WE_var 0 <| WA_cons <| WE_list <| WA_cons <| WE_bin <| WE_int <| WE_call D1 cal hj <| WA_cons <| WE_var 0 <| WA_cons <| WE_int <| WA_nil ⟨rfl, kq, ns, t, l, _, rfl, hq, hns, by omega, by omega, by decide, by have := million; omega, fun r1 t1 l1 a1 a2 a3 a4 => ?_⟩
  obtain ⟨r1, rfl⟩ := Int.eq_ofNat_of_zero_le a1
  refine b_add <| WA_cons <| WE_bin <| WE_int <| WE_call D1 cal hj <| WA_cons <| WE_var 0 <| WA_cons <| WE_int <| WA_nil ⟨rfl, kq, ns, t1, l1, _, rfl, gs _ _, hns, by omega, by omega, by decide, by have := million; omega, fun r2 t2 l2 b1 b2 b3 b4 => ?_⟩
  obtain ⟨r2, rfl⟩ := Int.eq_ofNat_of_zero_le b1
  rw [List.set_set]
  refine b_add <| WA_cons <| WE_bin <| WE_int <| WE_call D1 cal hj <| WA_cons <| WE_var 0 <| WA_cons <| WE_int <| WA_nil ⟨rfl, kq, ns, t2, l2, _, rfl, gs _ _, hns, by omega, by omega, by decide, by have := million; omega, fun r3 t3 l3 c1 c2 c3 c4 => ?_⟩
  obtain ⟨r3, rfl⟩ := Int.eq_ofNat_of_zero_le c1
  rw [List.set_set]
  refine b_shl (shl1 (b := r3) (by omega)) ?_
  rw [one_shl]
  have p3 : 1 ≤ 2 ^ r3 := Nat.one_le_two_pow
  have p3b : 2 ^ r3 ≤ 64 := Nat.pow_le_pow_right (n := 2) (by decide) (show r3 ≤ 6 by omega)
  refine WA_nil <| datsS_mk (ds := [.int (1 + (r1 : Int)), .int (1 + (r2 : Int)), natD (2 ^ r3)]) <| newL.d (small_le (by simp)) <| WA_nil ⟨rfl, kq, ns, t3, l3, _, rfl, gs _ _, hns, by omega, by omega, by simp, by simp, fun x t4 l4 hx d1 d2 => ?_⟩
  rw [List.set_set]
  obtain ⟨many, rfl, hm1, hm2⟩ : ∃ n : Nat, x = natD n ∧ 1 ≤ n ∧ n ≤ 300 := by
    simp only [List.mem_cons, List.not_mem_nil, or_false] at hx
    rcases hx with rfl | rfl | rfl
    · exact ⟨1 + r1, by rw [natD, Int.natCast_add]; rfl, by omega, by omega⟩
    · exact ⟨1 + r2, by rw [natD, Int.natCast_add]; rfl, by omega, by omega⟩
    · exact ⟨2 ^ r3, rfl, by omega, by omega⟩
  clear hx
  -- spots, mask
  refine WB_cons <| WS_par3 2 3 4 (calm := calm) (hN := nd) <| WE_slice <| WE_call DX cal hj <| WA_cons <| WE_var 0 <| WA_cons <| WE_listRg (by walk_at "B") (by walk_at "B") calm <| WE_int ⟨12, rfl, by decide, ?_⟩
  rw [map_natD]
  refine newL.d (small_le (by simp)) <| WA_nil ⟨rfl, kq, ns, t4, l4, List.range 12, rfl, gs _ _, hns, by omega, by omega, by decide, fun M t5 l5 pm e1 e2 => ?_⟩
  rw [List.set_set]
  have e2 : t5 ≤ t4 + 12 := e2
  have hM12 : M.length = 12 := by have := pm.length_eq; simpa using this
  have hMlt : ∀ b ∈ M, b < 12 := fun b hb => by have := pm.mem_iff.mp hb; simpa using this
  have hMnd : M.Nodup := pm.nodup_iff.mpr List.nodup_range
  refine wo_none <| wo_int <| WE_int ⟨9, rfl, ?_⟩
  refine sl_of rfl <| newL.d (small_le (by have := cutD_len (M.map natD) none (some 9); rw [List.length_map] at this; omega)) ?_
  rw [show (9 : Int) = ((9 : Nat) : Int) from rfl, cut_take, ← List.map_take]
  have hP9 : (M.take 9).length = 9 := by rw [List.length_take, hM12]; rfl
  have hPlt : ∀ b ∈ M.take 9, b < 12 := fun b hb => hMlt b (List.mem_of_mem_take hb)
  have hPnd : (M.take 9).Nodup := hMnd.sublist (List.take_sublist 9 M)
  generalize M.take 9 = P at hP9 hPlt hPnd ⊢
  have hPget : ∀ j, j < 9 → P.getD j 0 < 12 := fun j hj => hPlt _ (by rw [List.getD_eq_getElem?_getD, List.getElem?_eq_getElem (by omega)]; exact List.getElem_mem _)
  have hPinj : ∀ i j, i < 9 → j < 9 → P.getD i 0 = P.getD j 0 → i = j := fun i j h1 h2 e => by
    rw [List.getD_eq_getElem?_getD, List.getD_eq_getElem?_getD, List.getElem?_eq_getElem (by omega), List.getElem?_eq_getElem (by omega)] at e
    exact (List.getElem_inj hPnd).mp e
  refine WE_call D1 cal hj <| WA_cons <| WE_var 0 <| WA_cons <| WE_bin <| WE_int <| WE_int <| b_shl (shl1 (b := 12) (by decide)) ?_
  rw [show (1 : Int) * 2 ^ Int.toNat 12 = 4096 by decide]
  refine WA_nil ⟨rfl, kq, ns, t5, l5, 4096, rfl, gs _ _, hns, by omega, by omega, by decide, by have := million; omega, fun mk t6 l6 g1 g2 g3 g4 => ?_⟩
  obtain ⟨mk, rfl⟩ := Int.eq_ofNat_of_zero_le g1
  rw [List.set_set]
  have hmk : mk < 2 ^ 12 := by show mk < 4096; omega
  have q := q t6 l6 (by omega) (by omega)
  have hbω : Below (ω.set kq (quay ns t6 l6)).length (ω.set kq (quay ns t6 l6)) := below_lst hb
  have hlen : (ω.set kq (quay ns t6 l6)).length = ω.length := by simp
  generalize ω.set kq (quay ns t6 l6) = ω3 at q hbω hlen ⊢
  refine WE_list <| WA_nil <| datsS_mk (ds := []) <| newL.o (small_le (by simp)) ?_
  obtain ⟨wrd, hwrd⟩ : ∃ wrd : Nat → Nat, wrd = fun x => pw (fun j => P.getD j 0) x mk 9 := ⟨_, rfl⟩
  refine WB_seq (R := fun τ' ω' => ∃ a b c d, ω' = ω3 ++ [.lst (((List.range many).map wrd).map natD)] ∧ τ' = [some (.o kq), some (.d (natD many)), some (.d (.list (P.map natD))), some (.d (natD mk)), some (.o ω3.length), a, b, c, d, none]) ?_ ?_
  · refine WS_for own calm <| ItD_range1 (by walk_at "B") <| WE_var 1 ⟨(many : Int), rfl, by omega, by omega, ?_⟩
    rw [Int.toNat_natCast]
    refine ⟨fun i τ' ω' => ∃ a b c d, ω' = ω3 ++ [.lst (((List.range i).map wrd).map natD)] ∧ τ' = [some (.o kq), some (.d (natD many)), some (.d (.list (P.map natD))), some (.d (natD mk)), some (.o ω3.length), a, b, c, d, none],
      ⟨none, none, none, none, rfl, rfl⟩, fun _ _ _ _ _ => trivial, ?_, ?_⟩
    · rintro i _ _ hi ⟨a, b, c, d, rfl, rfl⟩
      refine WG_name 5 (hN := nd) ?_
      refine WB_cons <| WS_par 6 7 (calm := calm) (hN := nd) <| WE_var 3 <| WE_var 5 ?_
      refine WB_seq (R := fun τ' ω' => ∃ c d, ω' = ω3 ++ [.lst (((List.range i).map wrd).map natD)] ∧ τ' = [some (.o kq), some (.d (natD many)), some (.d (.list (P.map natD))), some (.d (natD mk)), some (.o ω3.length), some (.d (natD i)), some (.d (natD (wrd i))), c, d, none]) ?_ ?_
      · refine WS_for own calm <| ItD_list <| WE_var 2 ⟨P.map natD, rfl, ?_⟩
        rw [List.length_map, hP9]
        refine ⟨fun m τ' ω' => ∃ d, ω' = ω3 ++ [.lst (((List.range i).map wrd).map natD)] ∧ τ' = [some (.o kq), some (.d (natD many)), some (.d (.list (P.map natD))), some (.d (natD mk)), some (.o ω3.length), some (.d (natD i)), some (.d (natD (pw (fun j => P.getD j 0) i mk m))), some (.d (natD (i / 2 ^ m))), d, none],
          ⟨d, rfl, by rw [Nat.pow_zero, Nat.div_one]; rfl⟩, fun _ _ _ _ _ => rfl, ?_, ?_⟩
        · rintro m _ _ hm ⟨d, rfl, rfl⟩
          have hmP : m < P.length := by omega
          show WG _ _ (.d ((P.map natD).getD m .none)) _ _ _
          rw [getD_natD hmP]
          have hsp := hPget m hm
          refine WG_name 8 (hN := nd) ?_
          have hdv : i / 2 ^ (m + 1) = i / 2 ^ m / 2 := by rw [Nat.pow_succ, Nat.div_div_eq_div_mul]
          refine WB_seq (R := fun τ' ω' => ω' = ω3 ++ [.lst (((List.range i).map wrd).map natD)] ∧ τ' = [some (.o kq), some (.d (natD many)), some (.d (.list (P.map natD))), some (.d (natD mk)), some (.o ω3.length), some (.d (natD i)), some (.d (natD (pw (fun j => P.getD j 0) i mk (m + 1)))), some (.d (natD (i / 2 ^ m))), some (.d (natD (P.getD m 0))), none]) ?_ ?_
          · refine WS_if <| WT_cmp hu <| WE_bin <| WE_intI (by walk_at "B") <| WE_var 7 ⟨_, rfl, WE_int <| b_mod (by decide) <| WE_int <| c_eq <| ite_d (fun h0 => ?_) (fun h0 => ?_)⟩
            · refine WB_one <| WS_set 6 (hN := nd) <| WE_bin <| WE_var 6 <| WE_bin <| WE_int <| WE_var 8 <| b_shl (shl1 (b := P.getD m 0) (by omega)) ?_
              rw [one_shl]
              refine b_xor ?_
              rw [xorInt]
              refine ⟨rfl, ?_⟩
              rw [pw, if_pos (by omega)]
              rfl
            · refine WB_nil ⟨rfl, ?_⟩
              rw [pw, if_neg (by omega)]
              rfl
          rintro _ _ ⟨rfl, rfl⟩
          refine WB_one <| WS_set 7 (hN := nd) <| WE_bin <| WE_var 7 <| WE_int <| b_div (wide_div (b := 2) (by decide) (by decide) (by decide) (by decide)) ?_
          rw [show ((i / 2 ^ m : Nat) : Int) / 2 = ((i / 2 ^ m / 2 : Nat) : Int) by omega, ← hdv]
          exact ⟨_, rfl, rfl⟩
        · rintro _ _ ⟨d, rfl, rfl⟩
          exact ⟨_, d, rfl, by rw [hwrd]⟩
      rintro _ _ ⟨c, d, rfl, rfl⟩
      refine WB_one <| WS_expr <| WE_append <| WE_var 4 ⟨ω3.length, rfl, ⟨_, get_last⟩, WE_var 6 ⟨_, _, get_last, rfl, small_lt (by rw [List.length_map, List.length_map, List.length_range]; omega), ?_⟩⟩
      rw [set_last]
      refine ⟨_, _, _, _, ?_, rfl⟩
      rw [List.range_succ, List.map_append, List.map_append]; rfl
    · rintro _ _ ⟨a, b, c, d, rfl, rfl⟩
      exact ⟨a, b, c, d, rfl, rfl⟩
  rintro _ _ ⟨a, b, c, d, rfl, rfl⟩
  have hw := pw_words (L := fun j => P.getD j 0) (m := mk) (n := 9) hPinj (many := many) (Nat.le_trans hm2 (by decide))
  have hwl : ∀ w ∈ (List.range many).map wrd, w < 2 ^ 400 := fun w h => by
    obtain ⟨x, _, rfl⟩ := List.mem_map.mp h
    rw [hwrd]
    exact Nat.lt_trans (pw_lt hPget hmk x 9 (Nat.le_refl _)) (Nat.pow_lt_pow_right (by decide) (by decide))
  rw [← hwrd] at hw
  have ls := sum_sm (n := many) (by omega)
  refine WB_cons <| WS_set 9 (hN := nd) <| WE_call DB cal hj <| WA_cons <| WE_var 1 <| WA_nil ⟨rfl, many, rfl, by omega, ?_⟩
  refine WB_cons <| WS_ret <| WE_and <| WE_cmp hu <| WE_reprI (by walk_at "B") <| WE_call DP cal hj <| WA_cons <| WE_frz <| WE_var 4 ⟨ω3.length, _, rfl, get_last, ?_⟩
  rw [set_last]
  refine WA_nil ⟨rfl, pairs_good (L := (List.range many).map wrd) (.inl rfl) (by rw [List.length_map, List.length_range]; omega) hw.1 hwl ?_⟩
  rw [hw.2]
  refine ⟨_, rfl, ls, WE_reprI (by walk_at "B") <| WE_var 9 ⟨_, rfl, ls, c_eqS1 <| t_bool <| ite_t <| WE_one <| WE_cmp hu <| WE_reprI (by walk_at "B") <| WE_call DM cal hj <| WA_cons <| WE_var 1 <| WA_nil ⟨rfl, .inl ⟨many, rfl, small_lots (by omega), _, rfl, ls, WE_reprI (by walk_at "B") <| WE_var 9 ⟨_, rfl, ls, c_eqS1 ?_⟩⟩⟩⟩⟩
  exact rt_g (s := .d (.bool true)) (List.prefix_append _ _) (by rw [hlen]; exact Nat.le_refl _) trivial hbω q
end L05

set_option Elab.async false
set_option linter.all false
set_option maxRecDepth 100000
set_option maxHeartbeats 1000000
namespace L05
open PySem PySem.Spec PyProof.Rows L2 LamX Z
variable {W : Wd} {k : Nat} {cdv : Value}
local macro_rules
  | `(tactic| walk_at "B") => `(tactic| exact (‹Bs _ blts›).no _ (by decide))
structure Ht (W : Wd) : Prop where
  mF : W.mg "FlipError" = some (.ref (He.ga W.K "FlipError"))
  mW : W.mg "BadWord" = some (.ref (He.ga W.K "BadWord"))
  mT : W.mg "TooMany" = some (.ref (He.ga W.K "TooMany"))
  xW : ExF W.K (He.ga W.K "BadWord") "part"
  xT : ExF W.K (He.ga W.K "TooMany") "what"
  xT2 : ExF W.K (He.ga W.K "TooMany") "most"
  iW : ExI W.K (He.ga W.K "BadWord")
  iT : ExI W.K (He.ga W.K "TooMany")
  eW : PySem.W.exmOne W.K (.ref (He.ga W.K "BadWord")) (.ref (He.ga W.K "FlipError")) = some true
  eT : PySem.W.exmOne W.K (.ref (He.ga W.K "TooMany")) (.ref (He.ga W.K "FlipError")) = some true
  kW : PySem.W.kitOne W.K (.ref (He.ga W.K "BadWord")) (.ref (He.ga W.K "BadWord")) = some true
  kT : PySem.W.kitOne W.K (.ref (He.ga W.K "TooMany")) (.ref (He.ga W.K "TooMany")) = some true
def isBad (d : D) : Prop := (∃ a, tyD d = some a ∧ a ≠ "list" ∧ a ≠ "tuple") ∨ ∃ xs, (d = .list xs ∨ d = .tup xs) ∧ xs.length ≤ 4000 ∧ (∀ x ∈ xs, ∃ a, tyD x = some a) ∧ isWords xs = false
/-- _law_is_refused(words, kind) -/
abbrev spRefused : Spc := fun ss ω Q E => ∃ d, (ss = [.d d, .d (.str "none")] ∧ isBad d ∧ Q (.d (.bool true)) ω) ∨ (ss = [.d d, .d (.str "many")] ∧ (∃ L : List Nat, (d = .list (L.map natD) ∨ d = .tup (L.map natD)) ∧ L.length ≤ 4000 ∧ L.Nodup ∧ 1024 < L.length) ∧ Q (.d (.bool true)) ω)
theorem sc27 : FnScope ["words", "kind", "caught", "error"] ["words", "kind"] (defScope (top 27)) := ⟨rfl, rfl, rfl, by decide +kernel, rfl, by decide +kernel, by decide +kernel⟩
theorem b27 {j : Nat} (hB : Bs W blts) (T : Ht W) (DP : Def W "pairs_among" 1 j ["words"] (spPairs W) []) (hj : j ≤ k) : Body W ["words", "kind", "caught", "error"] ["words", "kind"] "_law_is_refused" (defScope (top 27)) cdv (defBody (top 27)) k spRefused := by
  intro f A outer s H E G as rz ss ω Q0 E0 B hl h
  obtain ⟨d, h⟩ := h
  have hu := B.cal.rm
  have hb := B.bel
  have cal := B.cal
  have nd : (["words", "kind", "caught", "error"] : List Str).Nodup := sc27.nd
  have go : Q0 (.d (.bool true)) ω → Rt ω.length Q0 (.d (.bool true)) ω := fun q => rt_d hb q
  rcases h with ⟨rfl, h, q⟩ | ⟨rfl, ⟨L, h1, h2, h3, h4⟩, q⟩
  · refine WB_cons <| WS_set 2 (hN := nd) <| WE_none ?_
    refine WB_cons <| WS_try 3 2 (c := .ref (He.ga W.K "FlipError")) B.stk B.fr B.ex nd ⟨rfl, by decide, .inl T.mF⟩ fun pn xe G2 as2 bs own rzz => ?_
    refine WB_cons <| WS_expr <| WE_call DP (cal.tr rzz) hj <| WA_cons <| WE_var 0 <| WA_nil ⟨rfl, d, rfl, ?_⟩
    rcases h with ⟨a, h1, h2, h3⟩ | ⟨xs, h1, h2, h3, h4⟩
    · refine .inl ⟨a, h1, h2, h3, T.eW, ?_⟩
      refine WB_cons <| WS_if <| WT_cmp hu <| WE_var 1 <| WE_str <| c_eqS (a := "none") (b := "many") <| ite_d (fun e => absurd e (by decide)) (fun _ => WB_nil ?_)
      exact WB_cons <| WS_ret <| WE_and <| WE_isi (by walk_at "B") <| WE_var 2 <| WE_globC T.mW <| i_exc T.iW T.kW <| t_bool <| ite_t <| WE_one <| WE_cmp hu <| WE_exf <| WE_var 2 ⟨_, _, _, rfl, T.xW, rfl, WE_str <| c_eqS1 (go q)⟩
    · refine .inr (.inl ⟨xs, h1, h2, h3, h4, T.eW, ?_⟩)
      refine WB_cons <| WS_if <| WT_cmp hu <| WE_var 1 <| WE_str <| c_eqS (a := "none") (b := "many") <| ite_d (fun e => absurd e (by decide)) (fun _ => WB_nil ?_)
      exact WB_cons <| WS_ret <| WE_and <| WE_isi (by walk_at "B") <| WE_var 2 <| WE_globC T.mW <| i_exc T.iW T.kW <| t_bool <| ite_t <| WE_one <| WE_cmp hu <| WE_exf <| WE_var 2 ⟨_, _, _, rfl, T.xW, rfl, WE_str <| c_eqS1 (go q)⟩
  · refine WB_cons <| WS_set 2 (hN := nd) <| WE_none ?_
    refine WB_cons <| WS_try 3 2 (c := .ref (He.ga W.K "FlipError")) B.stk B.fr B.ex nd ⟨rfl, by decide, .inl T.mF⟩ fun pn xe G2 as2 bs own rzz => ?_
    refine WB_cons <| WS_expr <| WE_call DP (cal.tr rzz) hj <| WA_cons <| WE_var 0 <| WA_nil ⟨rfl, d, rfl, .inr (.inr (.inl ⟨L, h1, h2, h3, h4, T.eT, ?_⟩))⟩
    have tk : okD (.tup [.str "words", .int 1024]) := (ok_tup (n := 0) fun x hx => by
      simp only [List.mem_cons, List.not_mem_nil, or_false] at hx
      rcases hx with rfl | rfl
      · exact ok_str (by decide +kernel)
      · exact ok_int).ok
    refine WB_cons <| WS_if <| WT_cmp hu <| WE_var 1 <| WE_str <| c_eqS <| ite_d (fun _ => ?_) (fun e => absurd rfl e)
    exact WB_cons <| WS_ret <| WE_and <| WE_isi (by walk_at "B") <| WE_var 2 <| WE_globC T.mT <| i_exc T.iT T.kT <| t_bool <| ite_t <| WE_one <| WE_cmp hu <| WE_tup <| WA_cons <| WE_exf <| WE_var 2 ⟨_, _, _, rfl, T.xT, rfl, WA_cons <| WE_exf <| WE_var 2 ⟨_, _, _, rfl, T.xT2, rfl, WA_nil <| datsS_mk (ds := [.str "words", .int 1024]) ⟨small_le (by simp), WE_tup <| WA_cons <| WE_str <| WA_cons <| WE_int <| WA_nil <| datsS_mk (ds := [.str "words", .int 1024]) ⟨small_le (by simp), c_eqD rfl rfl tk tk (go q)⟩⟩⟩⟩
theorem perm_mid (a b : List D) (x : D) : (a ++ [x] ++ b).Perm (x :: (a ++ b)) := by
  rw [List.append_assoc]
  exact List.perm_middle
theorem bent_bad {ws : List D} {at_ : Nat} {x : D} (hx : inW x = false ∨ x ∈ ws) : isWords (ws.take at_ ++ [x] ++ ws.drop at_) = false := by
  have p := perm_mid (ws.take at_) (ws.drop at_) x
  rw [List.take_append_drop] at p
  unfold isWords
  rw [Bool.and_eq_false_iff]
  rcases hx with hx | hx
  · left
    rw [← Bool.not_eq_true, List.all_eq_true]
    intro h
    rw [h x (p.mem_iff.mpr List.mem_cons_self)] at hx
    cases hx
  · right
    refine decide_eq_false fun hn => ?_
    have := (p.map intOf).nodup_iff.mp hn
    rw [List.map_cons, List.nodup_cons] at this
    exact this.1 (List.mem_map.mpr ⟨x, hx, rfl⟩)
theorem sc28 : FnScope ["hive", "words", "at", "odd", "bent", "more"] ["hive"] (defScope (top 28)) := ⟨rfl, rfl, rfl, by decide +kernel, rfl, by decide +kernel, by decide +kernel⟩
theorem b28 {j : Nat} (hB : Bs W blts) (D1 : Def W "_law_sting" 2 j ["hive", "many"] spMoor []) (D2 : Def W "_law_one" 2 j ["hive", "some"] spOne []) (DR : Def W "_law_is_refused" 2 j ["words", "kind"] spRefused []) (DP : Def W "pairs_among" 1 j ["words"] (spPairs W) []) (hj : j ≤ k) :
    Body W ["hive", "words", "at", "odd", "bent", "more"] ["hive"] "_law_refused_right" (defScope (top 28)) cdv (defBody (top 28)) k spRight := by
  intro f A outer st H E G as rz ss ω Q0 E0 B hl h
  obtain ⟨kq, ns, t, l, rfl, hq, hns, ht0, ht1, q⟩ := h
  have hu := B.cal.rm
  have hb := B.bel
  have cal := B.cal
  have calm := B.calm
  have nd : (["hive", "words", "at", "odd", "bent", "more"] : List Str).Nodup := sc28.nd
  have gs : ∀ t l, (ω.set kq (quay ns t l))[kq]? = some (quay ns t l) := fun t l => get_set hq
  refine WB_cons <| WS_set 1 (hN := nd) <| WE_bin <| WE_list <| WA_cons <| WE_int <| WA_cons <| WE_int <| WA_cons <| WE_int <| WA_nil <| datsS_mk (ds := [.int 3, .int 1, .int 8]) <| newL.d (small_le (by simp)) <| WE_list <| WA_cons <| WE_bin <| WE_int <| WE_call D1 cal hj <| WA_cons <| WE_var 0 <| WA_cons <| WE_int <| WA_nil ⟨rfl, kq, ns, t, l, _, rfl, hq, hns, by omega, by omega, by decide, by have := million; omega, fun r t1 l1 a1 a2 a3 a4 => ?_⟩
  obtain ⟨r, rfl⟩ := Int.eq_ofNat_of_zero_le a1
  refine b_add <| WA_nil <| datsS_mk (ds := [.int (16 + (r : Int))]) <| newL.d (small_le (by simp)) <| b_cat rfl rfl <| newL.d (small_le (by simp)) ?_
  show WB _ _ [_, some (.d (.list [.int 3, .int 1, .int 8, .int (16 + (r : Int))])), _, _, _, _] _ _
  refine WB_cons <| WS_par 2 3 (calm := calm) (hN := nd) <| WE_call D1 cal hj <| WA_cons <| WE_var 0 <| WA_cons <| WE_int <| WA_nil ⟨rfl, kq, ns, t1, l1, _, rfl, gs _ _, hns, by omega, by omega, by decide, by have := million; omega, fun at_ t2 l2 b1 b2 b3 b4 => ?_⟩
  obtain ⟨at_, rfl⟩ := Int.eq_ofNat_of_zero_le b1
  rw [List.set_set]
  refine WE_call D2 cal hj <| WA_cons <| WE_var 0 <| WA_cons <| WE_list <| WA_cons <| WE_none <| WA_cons <| WE_un <| WE_int <| u_neg <| WA_cons <| WE_bool <| WA_cons <| WE_str <| WA_cons <| WE_list <| WA_cons <| WE_int <| WA_nil <| datsS_mk (ds := [.int 1]) <| newL.d (small_le (by simp)) <| WA_cons <| WE_tup <| WA_nil <| datsS_mk (ds := []) ⟨small_le (by simp), WA_cons <| WE_int <| WA_cons <| WE_int <| WA_nil <|
    datsS_mk (ds := [.none, .int (-1), .bool true, .str "2", .list [.int 1], .tup [], .int 8, .int 1]) <| newL.d (small_le (by simp)) <| WA_nil ⟨rfl, kq, ns, t2, l2, _, rfl, gs _ _, hns, by omega, by omega, by simp, by simp, fun odd t3 l3 hx c3 c4 => ?_⟩⟩
  rw [List.set_set]
  obtain ⟨hodd, hty⟩ : (inW odd = false ∨ odd ∈ [D.int 3, D.int 1, D.int 8, D.int (16 + (r : Int))]) ∧ ∃ a, tyD odd = some a := by
    simp only [List.mem_cons, List.not_mem_nil, or_false] at hx
    rcases hx with rfl | rfl | rfl | rfl | rfl | rfl | rfl | rfl
    · exact ⟨.inl rfl, _, rfl⟩
    · exact ⟨.inl rfl, _, rfl⟩
    · exact ⟨.inl rfl, _, rfl⟩
    · exact ⟨.inl rfl, _, rfl⟩
    · exact ⟨.inl rfl, _, rfl⟩
    · exact ⟨.inl rfl, _, rfl⟩
    · exact ⟨.inr (by simp), _, rfl⟩
    · exact ⟨.inr (by simp), _, rfl⟩
  clear hx
  have hat : at_ ≤ 4 := by omega
  refine WB_cons <| WS_set 4 (hN := nd) <| WE_bin <| WE_bin <| WE_slice <| WE_var 1 <| wo_none <| wo_int <| WE_var 2 ⟨(at_ : Int), rfl, ?_⟩
  refine sl_of rfl <| newL.d (small_le (by have := cutD_len [D.int 3, D.int 1, D.int 8, D.int (16 + (r : Int))] none (some (at_ : Int)); exact Nat.le_trans this (by simp))) ?_
  rw [cut_take]
  refine WE_list <| WA_cons <| WE_var 3 <| WA_nil <| datsS_mk (ds := [odd]) <| newL.d (small_le (by simp)) <| b_cat rfl rfl <| newL.d (small_le (by simp; omega)) ?_
  refine WE_slice <| WE_var 1 <| wo_int <| WE_var 2 ⟨(at_ : Int), rfl, wo_none ?_⟩
  refine sl_of rfl <| newL.d (small_le (by have := cutD_len [D.int 3, D.int 1, D.int 8, D.int (16 + (r : Int))] (some (at_ : Int)) none; exact Nat.le_trans this (by simp))) ?_
  rw [cut_drop _ _ (by simpa using hat)]
  refine b_cat rfl rfl <| newL.d (small_le (by simp; omega)) ?_
  have hbent := bent_bad (at_ := at_) hodd
  have htys : ∀ x ∈ [D.int 3, D.int 1, D.int 8, D.int (16 + (r : Int))].take at_ ++ [odd] ++ [D.int 3, D.int 1, D.int 8, D.int (16 + (r : Int))].drop at_, ∃ a, tyD x = some a := fun x hx => by
    have p := perm_mid ([D.int 3, D.int 1, D.int 8, D.int (16 + (r : Int))].take at_) ([D.int 3, D.int 1, D.int 8, D.int (16 + (r : Int))].drop at_) odd
    rw [List.take_append_drop] at p
    rcases List.mem_cons.mp (p.mem_iff.mp hx) with rfl | h
    · exact hty
    · simp only [List.mem_cons, List.not_mem_nil, or_false] at h
      rcases h with rfl | rfl | rfl | rfl <;> exact ⟨_, rfl⟩
  have hle : ([D.int 3, D.int 1, D.int 8, D.int (16 + (r : Int))].take at_ ++ [odd] ++ [D.int 3, D.int 1, D.int 8, D.int (16 + (r : Int))].drop at_).length ≤ 4000 := by simp; omega
  generalize [D.int 3, D.int 1, D.int 8, D.int (16 + (r : Int))].take at_ ++ [odd] ++ [D.int 3, D.int 1, D.int 8, D.int (16 + (r : Int))].drop at_ = bent at hbent htys hle ⊢
  refine WB_cons <| WS_if <| WT_bop <| WW_or <| WT_not <| WT_truth <| WE_call DR cal hj <| WA_cons <| WE_var 4 <| WA_cons <| WE_str <| WA_nil ⟨rfl, _, .inl ⟨rfl, .inr ⟨bent, .inl rfl, hle, htys, hbent⟩, t_bool <| ite_f ?_⟩⟩
  refine WW_or1 <| WT_not <| WT_truth <| WE_call DR cal hj <| WA_cons <| WE_call D2 cal hj <| WA_cons <| WE_var 0 <| WA_cons <| WE_list <| WA_cons <| WE_none <| WA_cons <| WE_int <| WA_cons <| WE_str <| WA_cons <| WE_dict0 ⟨.inl <| WA_cons <| WE_dictII ⟨.inl <| WA_cons <| WE_bool <| WA_nil <|
    datsS_mk (ds := [.none, .int 7, .str "13", .dict [], .dict [(.inl 1, .int 2)], .bool true]) <| newL.d (small_le (by simp)) <| WA_nil ⟨rfl, kq, ns, t3, l3, _, rfl, gs _ _, hns, by omega, by omega, by simp, by simp, fun odd2 t4 l4 hx d3 d4 => ?_⟩⟩⟩
  rw [List.set_set]
  have hbad : isBad odd2 := by
    simp only [List.mem_cons, List.not_mem_nil, or_false] at hx
    rcases hx with rfl | rfl | rfl | rfl | rfl | rfl <;> exact .inl ⟨_, rfl, by decide, by decide⟩
  clear hx
  refine WA_cons <| WE_str <| WA_nil ⟨rfl, _, .inl ⟨rfl, hbad, t_bool <| ite_f <| WB_nil ?_⟩⟩
  refine WB_cons <| WS_set 5 (hN := nd) <| WE_listRg (by walk_at "B") (by walk_at "B") calm <| WE_bin <| WE_int <| WE_call D1 cal hj <| WA_cons <| WE_var 0 <| WA_cons <| WE_int <| WA_nil ⟨rfl, kq, ns, t4, l4, _, rfl, gs _ _, hns, by omega, by omega, by decide, by have := million; omega, fun r5 t5 l5 e1 e2 e3 e4 => ?_⟩
  obtain ⟨r5, rfl⟩ := Int.eq_ofNat_of_zero_le e1
  rw [List.set_set]
  refine b_add ⟨1025 + r5, by rw [Int.natCast_add]; rfl, by omega, ?_⟩
  rw [map_natD]
  have hml : ((List.range (1025 + r5)).map natD).length = 1025 + r5 := by rw [List.length_map, List.length_range]
  refine newL.d (small_le (by omega)) ?_
  have q := q t5 l5 (by omega) (by omega)
  have hbω : Below (ω.set kq (quay ns t5 l5)).length (ω.set kq (quay ns t5 l5)) := below_lst hb
  have hlen : (ω.set kq (quay ns t5 l5)).length = ω.length := by simp
  have fin : Rt ω.length Q0 (.d (.bool true)) (ω.set kq (quay ns t5 l5)) := rt_g (List.prefix_refl _) (by rw [hlen]; exact Nat.le_refl _) trivial hbω q
  generalize ω.set kq (quay ns t5 l5) = ω3 at q hbω hlen fin ⊢
  refine WB_cons <| WS_if <| WT_bop <| WW_or <| WT_not <| WT_truth <| WE_call DR cal hj <| WA_cons <| WE_var 5 <| WA_cons <| WE_str <| WA_nil ⟨rfl, _, .inr ⟨rfl, ⟨List.range (1025 + r5), .inl rfl, by rw [List.length_range]; omega, List.nodup_range, by rw [List.length_range]; omega⟩, t_bool <| ite_f ?_⟩⟩
  refine WW_or1 <| WT_not <| WT_truth <| WE_call DR cal hj <| WA_cons <| WE_bin <| WE_var 5 <| WE_list <| WA_cons <| WE_int <| WA_nil <| datsS_mk (ds := [natD 5]) <| newL.d (small_le (by simp)) <| b_cat rfl rfl <| newL.d (small_le (by rw [List.length_append, hml]; simp; omega)) ?_
  have hb5 : isWords ((List.range (1025 + r5)).map natD ++ [natD 5]) = false := by
    rw [show (List.range (1025 + r5)).map natD ++ [natD 5] = (List.range (1025 + r5) ++ [5]).map natD by rw [List.map_append]; rfl, isWords_of]
    refine decide_eq_false fun hn => ?_
    rw [List.nodup_append] at hn
    exact hn.2.2 5 (List.mem_range.mpr (by omega)) 5 (by simp) rfl
  have ht5 : ∀ x ∈ (List.range (1025 + r5)).map natD ++ [natD 5], ∃ a, tyD x = some a := fun x hx => by
    rcases List.mem_append.mp hx with h | h
    · obtain ⟨b, _, rfl⟩ := List.mem_map.mp h
      exact ⟨_, rfl⟩
    · rw [List.mem_singleton.mp h]; exact ⟨_, rfl⟩
  refine WA_cons <| WE_str <| WA_nil ⟨rfl, _, .inl ⟨rfl, .inr ⟨_, .inl rfl, by rw [List.length_append, hml]; simp; omega, ht5, hb5⟩, t_bool <| ite_f <| WB_nil ?_⟩⟩
  clear hb5 ht5 hml
  refine WB_cons <| WS_ret <| WE_and <| WE_cmp hu <| WE_call DP cal hj <| WA_cons <| WE_list <| WA_nil <| datsS_mk (ds := []) <| newL.d (small_le (by simp)) <| WA_nil ⟨rfl, pairs_good (L := []) (.inl rfl) (by decide) List.nodup_nil (by simp) ?_⟩
  refine WE_int <| c_eq <| t_bool <| ite_t <| WE_one <| WE_cmp hu <| WE_call DP cal hj <| WA_cons <| WE_listRg (by walk_at "B") (by walk_at "B") calm <| WE_int ⟨1024, rfl, by decide, ?_⟩
  rw [map_natD]
  refine newL.d (small_le (by rw [List.length_map, List.length_range]; decide)) <| WA_nil ⟨rfl, pairs_good (L := List.range 1024) (.inl rfl) (by rw [List.length_range]; exact Nat.le_refl _) List.nodup_range (fun w hw => Nat.lt_trans (List.mem_range.mp hw) (by decide)) ?_⟩
  rw [prs_range, show (1024 : Nat) = 2 ^ (9 + 1) by decide, sum_pow]
  exact WE_int <| c_eq fin
abbrev spLaw : Spc := fun ss ω Q E => ∃ ns, ss = [.d (.scr ns)] ∧ ns.length ≤ 63 ∧ (∀ z ∈ ns, Builtin.Int.intBits z ≤ 1048576) ∧ Q (.d (.bool true)) ω
theorem sc29 : FnScope ["script", "hive", "turn"] ["script"] (defScope (top 29)) := ⟨rfl, rfl, rfl, by decide +kernel, rfl, by decide +kernel, by decide +kernel⟩
theorem b29 {j : Nat} (hB : Bs W blts) (DQ : Def W "_law_hive" 1 j ["script"] spQuay []) (DA : Def W "_law_counted_right" 1 j ["hive"] spRight []) (DB : Def W "_law_full_right" 1 j ["hive"] spRight []) (DE : Def W "_law_refused_right" 1 j ["hive"] spRight []) (hj : j ≤ k) :
    Body W ["script", "hive", "turn"] ["script"] "law" (defScope (top 29)) cdv (defBody (top 29)) k spLaw := by
  intro f A outer st H E G as rz ss ω Q0 E0 B hl h
  obtain ⟨ns0, rfl, hn, hns0, q⟩ := h
  have hu := B.cal.rm
  have hb := B.bel
  have cal := B.cal
  have calm := B.calm
  have own := B.own
  have nd : (["script", "hive", "turn"] : List Str).Nodup := sc29.nd
  refine WB_cons <| WS_set 1 (hN := nd) <| WE_call DQ cal hj <| WA_cons <| WE_var 0 <| WA_nil ⟨rfl, ns0, rfl, hn, ?_⟩
  have hns : ∀ z ∈ ns0.take 60, Builtin.Int.intBits z ≤ 1048576 := fun z hz => hns0 z (List.mem_of_mem_take hz)
  generalize ns0.take 60 = ns at hns ⊢
  have fin : ∀ o : O, Rt ω.length Q0 (.d (.bool true)) (ω ++ [o]) := fun o => rt_g (List.prefix_append _ _) (Nat.le_refl _) trivial hb q
  refine WB_seq (R := fun τ' ω' => ∃ t l b, ω' = ω ++ [quay ns t l] ∧ 0 ≤ t ∧ t ≤ 2000 ∧ τ' = [some (.d (.scr ns0)), some (.o ω.length), b]) ?_ ?_
  · refine WS_for own calm <| ItD_range1 (by walk_at "B") <| WE_int ⟨4, rfl, by decide, by decide, ?_⟩
    refine ⟨fun i τ' ω' => ∃ t l b, ω' = ω ++ [quay ns t l] ∧ 0 ≤ t ∧ t ≤ 400 * i ∧ τ' = [some (.d (.scr ns0)), some (.o ω.length), b], ⟨0, 0, none, rfl, by decide, by decide, rfl⟩, fun _ _ _ _ _ => trivial, ?_, ?_⟩
    · rintro i _ _ hi ⟨t, l, b, rfl, h1, h2, rfl⟩
      have hi : i < 4 := hi
      refine WG_name 2 (hN := nd) ?_
      refine WB_one <| WS_if <| WT_not <| WT_truth <| WE_call DA cal hj <| WA_cons <| WE_var 1 <| WA_nil ⟨rfl, ω.length, ns, t, l, rfl, get_last, hns, h1, by omega, fun t1 l1 g1 g2 => t_bool <| ite_f <| WB_nil ?_⟩
      rw [set_last]
      exact ⟨t1, l1, _, rfl, by omega, by omega, rfl⟩
    · rintro _ _ ⟨t, l, b, rfl, h1, h2, rfl⟩
      exact ⟨t, l, b, rfl, h1, by omega, rfl⟩
  rintro _ _ ⟨t, l, b, rfl, h1, h2, rfl⟩
  refine WB_cons <| WS_ret <| WE_and <| WE_call DB cal hj <| WA_cons <| WE_var 1 <| WA_nil ⟨rfl, ω.length, ns, t, l, rfl, get_last, hns, h1, by omega, fun t1 l1 g1 g2 => t_bool <| ite_t ?_⟩
  rw [set_last]
  refine WE_one <| WE_call DE cal hj <| WA_cons <| WE_var 1 <| WA_nil ⟨rfl, ω.length, ns, t1, l1, rfl, get_last, hns, by omega, by omega, fun t2 l2 g3 g4 => ?_⟩
  rw [set_last]
  exact fin _
end L05

set_option Elab.async false
set_option linter.all false
set_option maxRecDepth 100000
set_option maxHeartbeats 0
namespace L05
open PySem PySem.Spec PyProof.Rows L2 LamX Z
def dd (i : Nat) (x : Str) : He.DefD := ⟨(x, none), x, x, defArgs (top i), defBody (top i), defScope (top i), [], []⟩
def clsInit (st : Stmt) : Stmt := match st with | .ClassDef _ _ _ (b :: _) _ _ _ _ _ _ _ => b | s => s
def ii (i : Nat) (x q : Str) : IniD := ⟨x, q, defArgs (clsInit (top i)), defBody (clsInit (top i)), defScope (clsInit (top i))⟩
def fn : List He.DefD := [dd 6 "is_integer", dd 7 "is_within", dd 8 "need_number", dd 11 "need_words", dd 12 "is_one", dd 13 "bits_in", dd 14 "most_pairs", dd 15 "pairs_among", dd 17 "_law_hive", dd 18 "_law_sting", dd 19 "_law_one", dd 20 "_law_mixed", dd 21 "_law_some", dd 22 "_law_is_near", dd 23 "_law_pairs", dd 24 "_law_below", dd 25 "_law_counted_right", dd 26 "_law_full_right", dd 27 "_law_is_refused", dd 28 "_law_refused_right", dd 29 "law"]
def fi : List IniD := [ii 2 "BadNumber" "BadNumber.__init__", ii 3 "BadWord" "BadWord.__init__", ii 4 "TooMany" "TooMany.__init__"]
def fa : List He.Fa := [.glo "is_integer", .glo "is_within", .glo "need_number", .glo "need_words", .glo "is_one", .glo "bits_in", .glo "most_pairs", .glo "pairs_among", .glo "_law_hive", .glo "_law_sting", .glo "_law_one", .glo "_law_mixed", .glo "_law_some", .glo "_law_is_near", .glo "_law_pairs", .glo "_law_below", .glo "_law_counted_right", .glo "_law_full_right", .glo "_law_is_refused", .glo "_law_refused_right", .glo "law", .glo "FlipError", .glo "BadNumber", .glo "BadWord", .glo "TooMany", .int "MOST_WORDS" (1024), .free "ValueError", .free "len", .free "range", .free "int", .free "abs", .free "repr", .free "sorted", .free "list", .free "tuple", .free "isinstance", .free "max", .free "min", .free "sum", .free "enumerate", .free "zip", .free "bool", .free "str", .free "super", .free "dict", .free "set", .free "all", .free "any", .free "type", .free "reversed"]
def cks : List Ck := [.sup "BadNumber" ["part"], .exf "BadNumber" "part", .exi "BadNumber", .sup "BadWord" ["part"], .exf "BadWord" "part", .exi "BadWord", .sup "TooMany" ["what", "most"], .exf "TooMany" "what", .exf "TooMany" "most", .exi "TooMany", .exm "BadNumber" "FlipError" true, .exm "BadWord" "FlipError" true, .exm "TooMany" "FlipError" true, .kit "BadNumber" "BadWord" false, .kit "BadWord" "BadWord" true, .kit "TooMany" "BadWord" false, .kitT "NoneType" "BadWord" false, .kit "BadNumber" "TooMany" false, .kit "BadWord" "TooMany" false, .kit "TooMany" "TooMany" true, .kitT "NoneType" "TooMany" false]
def tf : List He.Defn := []
abbrev R : PySem.W.OpenRow := PySem.W.OpenLaw.row PySem.Challenge.rw_oneflip_k05_whole_no_words_have_more_pai
abbrev hk : PySem.W.Hook := hookZ 5 prog fa fn tf fi cks
def ob (s : PySem.W.SharedT) : AlZ := obsZ 5 prog fa fn tf fi cks (HandSHeadRun.getT s)
theorem ob_eq (s : PySem.W.SharedT) : ob s = hk.obs s.abs := obsZ_eq (HandSHeadRun.getT_eq s)
def names : List Str := ["FlipError", "BadNumber", "BadWord", "TooMany", "is_integer", "is_within", "need_number", "MOST_WORDS", "need_words", "is_one", "bits_in", "most_pairs", "pairs_among", "_law_hive", "_law_sting", "_law_one", "_law_mixed", "_law_some", "_law_is_near", "_law_pairs", "_law_below", "_law_counted_right", "_law_full_right", "_law_is_refused", "_law_refused_right"]
theorem run (w : World) : HandSHeadRun.RunEq R (PySem.W.view R.prog [29]) hk ob 4000 names w := by
  intro os
  kernel_rfl
theorem ckAt {h : Heap} {K : PySem.W.Frag} (c : SaysZ prog fa fn tf fi cks h K) (i : Nat) {x : Ck} (e : cks[i]? = some x := by rfl) : x.ok prog K = true := c.ck x (List.mem_of_getElem? e)
theorem tx2 : IniText (ii 2 "BadNumber" "BadNumber.__init__") ["part"] := ⟨⟨rfl, rfl, rfl, by decide, by decide, by decide⟩, rfl, ⟨_, rfl, rfl⟩, fun _ _ _ _ _ _ us hl => match us, hl with | [_, _], _ => rfl,
  ⟨_, _, _, _, _, _, _, _, [(_, _, _, _)], _, rfl, rfl, fun _ _ _ _ => rfl, fun _ _ _ _ y hy => by
    simp only [List.zip_cons_cons, List.zip_nil_right, List.mem_cons, List.not_mem_nil, or_false] at hy
    subst hy; rfl⟩⟩
theorem tx3 : IniText (ii 3 "BadWord" "BadWord.__init__") ["part"] := ⟨⟨rfl, rfl, rfl, by decide, by decide, by decide⟩, rfl, ⟨_, rfl, rfl⟩, fun _ _ _ _ _ _ us hl => match us, hl with | [_, _], _ => rfl,
  ⟨_, _, _, _, _, _, _, _, [(_, _, _, _)], _, rfl, rfl, fun _ _ _ _ => rfl, fun _ _ _ _ y hy => by
    simp only [List.zip_cons_cons, List.zip_nil_right, List.mem_cons, List.not_mem_nil, or_false] at hy
    subst hy; rfl⟩⟩
theorem tx4 : IniText (ii 4 "TooMany" "TooMany.__init__") ["what", "most"] := ⟨⟨rfl, rfl, rfl, by decide, by decide, by decide⟩, rfl, ⟨_, rfl, rfl⟩, fun _ _ _ _ _ _ us hl => match us, hl with | [_, _, _], _ => rfl,
  ⟨_, _, _, _, _, _, _, _, [(_, _, _, _), (_, _, _, _)], _, rfl, rfl, fun _ _ _ _ => rfl, fun _ _ _ _ y hy => by
    simp only [List.zip_cons_cons, List.zip_nil_right, List.mem_cons, List.not_mem_nil, or_false] at hy
    rcases hy with rfl | rfl <;> rfl⟩⟩
theorem mkDef {W : Wd} {x qual : Str} {params : Arguments} {body : List Stmt} {scope : Scope} {fd : FuncData} {n k : Nat} {ps : List Str} {sp : Spc} (mg : W.mg x = some (.ref (He.ga W.K x))) (F : FunD W.K x qual params body scope [] [] (He.ga W.K x) fd) (hf : FnD W k (He.ga W.K x) fd ps sp) (hb : Binds W.K fd ps []) : Def W x n k ps sp [] :=
  ⟨⟨_, fd, [], [], hf, mg, F.kp, hb, .nil, fun _ => .nil⟩⟩
end L05

set_option Elab.async false
set_option linter.all false
set_option maxRecDepth 100000
set_option maxHeartbeats 0
namespace L05
open PySem PySem.Spec PyProof.Rows L2 LamX Z
abbrev FnP (K : PySem.W.Frag) (x : Str) (i : Nat) (fd : FuncData) : Prop := FunD K x x (defArgs (top i)) (defBody (top i)) (defScope (top i)) [] [] (He.ga K x) fd
theorem facts {w : World} {K : PySem.W.Frag} {h : Heap} {mg : Str → Option Value} {f : Addr} (X : K.In h) (G : h.Ns mainGlobals mg) (hfa : mg ("law" : Str) = some (.ref f)) (c : SaysZ prog fa fn tf fi cks h K) :
    LawEnd PySem.Challenge.rw_oneflip_k05_whole_no_words_have_more_pai w K 12 63 "script" mg f h := by
  obtain ⟨fd6, F6⟩ : ∃ fd, FnP K "is_integer" 6 fd := c.d.def_ 0 (d := dd 6 "is_integer") rfl
  obtain ⟨fd7, F7⟩ : ∃ fd, FnP K "is_within" 7 fd := c.d.def_ 1 (d := dd 7 "is_within") rfl
  obtain ⟨fd8, F8⟩ : ∃ fd, FnP K "need_number" 8 fd := c.d.def_ 2 (d := dd 8 "need_number") rfl
  obtain ⟨fd11, F11⟩ : ∃ fd, FnP K "need_words" 11 fd := c.d.def_ 3 (d := dd 11 "need_words") rfl
  obtain ⟨fd12, F12⟩ : ∃ fd, FnP K "is_one" 12 fd := c.d.def_ 4 (d := dd 12 "is_one") rfl
  obtain ⟨fd13, F13⟩ : ∃ fd, FnP K "bits_in" 13 fd := c.d.def_ 5 (d := dd 13 "bits_in") rfl
  obtain ⟨fd14, F14⟩ : ∃ fd, FnP K "most_pairs" 14 fd := c.d.def_ 6 (d := dd 14 "most_pairs") rfl
  obtain ⟨fd15, F15⟩ : ∃ fd, FnP K "pairs_among" 15 fd := c.d.def_ 7 (d := dd 15 "pairs_among") rfl
  obtain ⟨fd17, F17⟩ : ∃ fd, FnP K "_law_hive" 17 fd := c.d.def_ 8 (d := dd 17 "_law_hive") rfl
  obtain ⟨fd18, F18⟩ : ∃ fd, FnP K "_law_sting" 18 fd := c.d.def_ 9 (d := dd 18 "_law_sting") rfl
  obtain ⟨fd19, F19⟩ : ∃ fd, FnP K "_law_one" 19 fd := c.d.def_ 10 (d := dd 19 "_law_one") rfl
  obtain ⟨fd20, F20⟩ : ∃ fd, FnP K "_law_mixed" 20 fd := c.d.def_ 11 (d := dd 20 "_law_mixed") rfl
  obtain ⟨fd21, F21⟩ : ∃ fd, FnP K "_law_some" 21 fd := c.d.def_ 12 (d := dd 21 "_law_some") rfl
  obtain ⟨fd22, F22⟩ : ∃ fd, FnP K "_law_is_near" 22 fd := c.d.def_ 13 (d := dd 22 "_law_is_near") rfl
  obtain ⟨fd23, F23⟩ : ∃ fd, FnP K "_law_pairs" 23 fd := c.d.def_ 14 (d := dd 23 "_law_pairs") rfl
  obtain ⟨fd24, F24⟩ : ∃ fd, FnP K "_law_below" 24 fd := c.d.def_ 15 (d := dd 24 "_law_below") rfl
  obtain ⟨fd25, F25⟩ : ∃ fd, FnP K "_law_counted_right" 25 fd := c.d.def_ 16 (d := dd 25 "_law_counted_right") rfl
  obtain ⟨fd26, F26⟩ : ∃ fd, FnP K "_law_full_right" 26 fd := c.d.def_ 17 (d := dd 26 "_law_full_right") rfl
  obtain ⟨fd27, F27⟩ : ∃ fd, FnP K "_law_is_refused" 27 fd := c.d.def_ 18 (d := dd 27 "_law_is_refused") rfl
  obtain ⟨fd28, F28⟩ : ∃ fd, FnP K "_law_refused_right" 28 fd := c.d.def_ 19 (d := dd 28 "_law_refused_right") rfl
  obtain ⟨fd29, F29⟩ : ∃ fd, FnP K "law" 29 fd := c.d.def_ 20 (d := dd 29 "law") rfl
  have glo : ∀ i (x : Str), fa[i]? = some (He.Fa.glo x) → mg x = some (.ref (He.ga K x)) := fun i x e => He.glo_ok X G (c.d.fact i e)
  have gL := glo 20 "law" rfl
  have e := hfa.symm.trans gL
  cases e
  have hIMOST_WORDS : ∃ t, mg ("MOST_WORDS" : Str) = some (.int (1024) t) := He.int_ok X G (c.d.fact 25 rfl)
  have bt : ∀ x ∈ blts, mg x = none := by
    intro x hx
    obtain ⟨i, hi, e⟩ := List.mem_iff_getElem.mp hx
    have key : fa.drop 27 = blts.map He.Fa.free := rfl
    have e2 : fa[27 + i]? = some (He.Fa.free x) := by rw [← List.getElem?_drop, key, List.getElem?_map, List.getElem?_eq_getElem hi, e]; rfl
    exact He.free_ok X G (c.d.fact (27 + i) e2)
  have b6' : Binds K fd6 ["value"] [] := F6.bindsN fun _ _ _ _ _ _ us hl => match us, hl with | [_], _ => rfl
  have b7' : Binds K fd7 ["value", "least", "most"] [] := F7.bindsN fun _ _ _ _ _ _ us hl => match us, hl with | [_, _, _], _ => rfl
  have b8' : Binds K fd8 ["value", "part", "least", "most"] [] := F8.bindsN fun _ _ _ _ _ _ us hl => match us, hl with | [_, _, _, _], _ => rfl
  have b11' : Binds K fd11 ["value"] [] := F11.bindsN fun _ _ _ _ _ _ us hl => match us, hl with | [_], _ => rfl
  have b12' : Binds K fd12 ["word", "bit"] [] := F12.bindsN fun _ _ _ _ _ _ us hl => match us, hl with | [_, _], _ => rfl
  have b13' : Binds K fd13 ["word"] [] := F13.bindsN fun _ _ _ _ _ _ us hl => match us, hl with | [_], _ => rfl
  have b14' : Binds K fd14 ["many"] [] := F14.bindsN fun _ _ _ _ _ _ us hl => match us, hl with | [_], _ => rfl
  have b15' : Binds K fd15 ["words"] [] := F15.bindsN fun _ _ _ _ _ _ us hl => match us, hl with | [_], _ => rfl
  have b17' : Binds K fd17 ["script"] [] := F17.bindsN fun _ _ _ _ _ _ us hl => match us, hl with | [_], _ => rfl
  have b18' : Binds K fd18 ["hive", "many"] [] := F18.bindsN fun _ _ _ _ _ _ us hl => match us, hl with | [_, _], _ => rfl
  have b19' : Binds K fd19 ["hive", "some"] [] := F19.bindsN fun _ _ _ _ _ _ us hl => match us, hl with | [_, _], _ => rfl
  have b20' : Binds K fd20 ["hive", "some"] [] := F20.bindsN fun _ _ _ _ _ _ us hl => match us, hl with | [_, _], _ => rfl
  have b21' : Binds K fd21 ["hive"] [] := F21.bindsN fun _ _ _ _ _ _ us hl => match us, hl with | [_], _ => rfl
  have b22' : Binds K fd22 ["one", "other"] [] := F22.bindsN fun _ _ _ _ _ _ us hl => match us, hl with | [_, _], _ => rfl
  have b23' : Binds K fd23 ["words"] [] := F23.bindsN fun _ _ _ _ _ _ us hl => match us, hl with | [_], _ => rfl
  have b24' : Binds K fd24 ["many"] [] := F24.bindsN fun _ _ _ _ _ _ us hl => match us, hl with | [_], _ => rfl
  have b25' : Binds K fd25 ["hive"] [] := F25.bindsN fun _ _ _ _ _ _ us hl => match us, hl with | [_], _ => rfl
  have b26' : Binds K fd26 ["hive"] [] := F26.bindsN fun _ _ _ _ _ _ us hl => match us, hl with | [_], _ => rfl
  have b27' : Binds K fd27 ["words", "kind"] [] := F27.bindsN fun _ _ _ _ _ _ us hl => match us, hl with | [_, _], _ => rfl
  have b28' : Binds K fd28 ["hive"] [] := F28.bindsN fun _ _ _ _ _ _ us hl => match us, hl with | [_], _ => rfl
  have b29' : Binds K fd29 ["script"] [] := F29.bindsN fun _ _ _ _ _ _ us hl => match us, hl with | [_], _ => rfl
  have k15 : KBy K fd15 ["words"] 0 ["words"] [0] := ⟨by
    obtain ⟨oc, od, dV, kV, doc, pm, an, cdv, ct, osl, rfl, lk, hcd, hD, _⟩ := F15.ex
    have eD : dV = .none := by
      rcases hD with ⟨_, z⟩ | ⟨z, _⟩
      · exact z
      · exact (z rfl).elim
    subst eD
    exact fun s us ws _ h1 h2 => match us, ws, h1, h2 with | [], [_], _, _ => .of_eq rfl, by decide⟩
  refine ⟨fd29, tf.map (He.cT K), [], spLaw, ?_, ?_, ?_, ?_, ?_, ?_, ?_⟩
  · intro p hp; obtain ⟨t, ht, rfl⟩ := List.mem_map.mp hp; exact c.empty t ht
  · intro p hp; obtain ⟨t, ht, rfl⟩ := List.mem_map.mp hp; exact c.out t ht
  · intro p hp; obtain ⟨t, ht, rfl⟩ := List.mem_map.mp hp; exact PySem.W.codeHd_of_K X (c.hd t ht)
  · intro p hp
    cases hp
  · exact fun s v => FunD.bindsA (ps := ["script"]) F29 (fun _ _ _ _ _ _ us hl => match us, hl with | [_], _ => rfl) s [v] rfl
  · exact fun ns hl hb Q q => ⟨ns, rfl, hl, hb, q⟩
  intro base hB hN hT
  have hb : Bs ⟨PySem.Challenge.rw_oneflip_k05_whole_no_words_have_more_pai.prog, w, K, mg, base, []⟩ blts := ⟨bt⟩
  -- checks: 0 sup "BadNumber" ["part"]; 1 exf "BadNumber" "part"; 2 exi "BadNumber"; 3 sup "BadWord" ["part"]; 4 exf "BadWord" "part"; 5 exi "BadWord"; 6 sup "TooMany" ["what", "most"]; 7 exf "TooMany" "what"; 8 exf "TooMany" "most"; 9 exi "TooMany"; 10 exm "BadNumber" "FlipError" true; 11 exm "BadWord" "FlipError" true; 12 exm "TooMany" "FlipError" true; 13 kit "BadNumber" "BadWord" false; 14 kit "BadWord" "BadWord" true; 15 kit "TooMany" "BadWord" false; 16 kitT "NoneType" "BadWord" false; 17 kit "BadNumber" "TooMany" false; 18 kit "BadWord" "TooMany" false; 19 kit "TooMany" "TooMany" true; 20 kitT "NoneType" "TooMany" false
  have E2 := err_of (P := prog) (w := w) (base := base) (T := []) (glo 22 "BadNumber" rfl) (bt _ (by decide)) (ckAt c 0) (c.ini (ii 2 "BadNumber" "BadNumber.__init__") (by simp [fi])) tx2 (.inl ⟨_, rfl⟩)
  have E3 := err_of (P := prog) (w := w) (base := base) (T := []) (glo 23 "BadWord" rfl) (bt _ (by decide)) (ckAt c 3) (c.ini (ii 3 "BadWord" "BadWord.__init__") (by simp [fi])) tx3 (.inl ⟨_, rfl⟩)
  have E4 := err_of (P := prog) (w := w) (base := base) (T := []) (glo 24 "TooMany" rfl) (bt _ (by decide)) (ckAt c 6) (c.ini (ii 4 "TooMany" "TooMany.__init__") (by simp [fi])) tx4 (.inr ⟨_, _, rfl, by decide⟩)
  -- glo: 0 is_integer 1 is_within 2 need_number 3 need_words 4 is_one 5 bits_in 6 most_pairs 7 pairs_among 8 _law_hive 9 _law_sting 10 _law_one 11 _law_mixed 12 _law_some 13 _law_is_near 14 _law_pairs 15 _law_below 16 _law_counted_right 17 _law_full_right 18 _law_is_refused 19 _law_refused_right 20 law 21 FlipError 22 BadNumber 23 BadWord 24 TooMany
  have D6 : ∀ n, Def _ "is_integer" 1 (n + 1) _ spIsI [] := fun n => mkDef (glo 0 _ rfl) F6 (fnD_ok F6 sc6 fun cdv _ => b6 hb) b6'
  have D7 : ∀ n, Def _ "is_within" 3 (n + 2) _ spIsW [] := fun n => mkDef (glo 1 _ rfl) F7 (fnD_ok F7 sc7 fun cdv _ => b7 hb (D6 n) (Nat.le_refl _)) b7'
  have D8 : ∀ n, Def _ "need_number" 4 (n + 4) _ (spNeedN _) [] := fun n => mkDef (glo 2 _ rfl) F8 (fnD_ok F8 sc8 fun cdv _ => b8 hb (D7 0) E2 (by omega) (by omega)) b8'
  have D11 : ∀ n, Def _ "need_words" 1 (n + 4) _ (spNeedWords _) [] := fun n => mkDef (glo 3 _ rfl) F11 (fnD_ok F11 sc11 fun cdv _ => b11 hb hIMOST_WORDS (D7 0) E3 E4 (by omega) (by omega)) b11'
  have D12 : ∀ n, Def _ "is_one" 2 (n + 1) _ spOneAt [] := fun n => mkDef (glo 4 _ rfl) F12 (fnD_ok F12 sc12 fun cdv _ => b12 hb) b12'
  have D13 : ∀ n, Def _ "bits_in" 1 (n + 2) _ spBits [] := fun n => mkDef (glo 5 _ rfl) F13 (fnD_ok F13 sc13 fun cdv _ => b13 hb (D12 n) (Nat.le_refl _)) b13'
  have D14 : ∀ n, Def _ "most_pairs" 1 (n + 5) _ (spMP _) [] := fun n => mkDef (glo 6 _ rfl) F14 (fnD_ok F14 sc14 fun cdv _ => b14 hb (D8 n) (Nat.le_refl _)) b14'
  have N15 : ∀ n, FnD _ (n + 5) _ fd15 _ (spPairs _) := fun n => fnD_ok F15 sc15 fun cdv _ => b15 hb (D11 n) (D13 (n + 2)) (Nat.le_refl _)
  have D15 : ∀ n, Def _ "pairs_among" 1 (n + 5) _ (spPairs _) [] := fun n => mkDef (glo 7 _ rfl) F15 (N15 n) b15'
  have K15 : ∀ n, DefK _ "pairs_among" (n + 5) _ (spPairs _) 0 ["words"] [0] := fun n => ⟨⟨_, fd15, N15 n, glo 7 _ rfl, F15.kp, k15⟩⟩
  have D17 : ∀ n, Def _ "_law_hive" 1 (n + 1) _ spQuay [] := fun n => mkDef (glo 8 _ rfl) F17 (fnD_ok F17 sc17 fun cdv _ => b17 hb) b17'
  have D18 : ∀ n, Def _ "_law_sting" 2 (n + 1) _ spMoor [] := fun n => mkDef (glo 9 _ rfl) F18 (fnD_ok F18 sc18 fun cdv _ => b18 hb) b18'
  have D19 : ∀ n, Def _ "_law_one" 2 (n + 2) _ spOne [] := fun n => mkDef (glo 10 _ rfl) F19 (fnD_ok F19 sc19 fun cdv _ => b19 hb (D18 n) (Nat.le_refl _)) b19'
  have D20 : ∀ n, Def _ "_law_mixed" 2 (n + 2) _ spStir [] := fun n => mkDef (glo 11 _ rfl) F20 (fnD_ok F20 sc20 fun cdv _ => b20 hb (D18 n) (Nat.le_refl _)) b20'
  have D21 : ∀ n, Def _ "_law_some" 1 (n + 3) _ spSome [] := fun n => mkDef (glo 12 _ rfl) F21 (fnD_ok F21 sc21 fun cdv _ => b21 hb (D18 (n + 1)) (D19 n) (Nat.le_refl _)) b21'
  have D22 : ∀ n, Def _ "_law_is_near" 2 (n + 1) _ spNear [] := fun n => mkDef (glo 13 _ rfl) F22 (fnD_ok F22 sc22 fun cdv _ => b22 hb) b22'
  have D23 : ∀ n, Def _ "_law_pairs" 1 (n + 2) _ spLawPairs [] := fun n => mkDef (glo 14 _ rfl) F23 (fnD_ok F23 sc23 fun cdv _ => b23 hb (D22 n) (Nat.le_refl _)) b23'
  have D24 : ∀ n, Def _ "_law_below" 1 (n + 1) _ spBelow [] := fun n => mkDef (glo 15 _ rfl) F24 (fnD_ok F24 sc24 fun cdv _ => b24 hb) b24'
  have D25 : Def _ "_law_counted_right" 1 11 _ spRight [] := mkDef (glo 16 _ rfl) F25 (fnD_ok F25 sc25 fun cdv _ => b25 (k := 10) hb (D21 7) (D19 8) (D23 8) (D15 5) (K15 5) (D14 5) (D24 9) (Nat.le_refl _)) b25'
  have D26 : Def _ "_law_full_right" 1 11 _ spRight [] := mkDef (glo 17 _ rfl) F26 (fnD_ok F26 sc26 fun cdv _ => b26 (k := 10) hb (D18 9) (D19 8) (D20 8) (D15 5) (D14 5) (D24 9) (Nat.le_refl _)) b26'
  have hex : ∀ x y : Str, Ck.exm x y true ∈ cks → PySem.W.exmOne K (.ref (He.ga K x)) (.ref (He.ga K y)) = some true := fun x y h => of_decide_eq_true (c.ck (.exm x y true) h)
  have hkt : ∀ (x y : Str) (b : Bool), Ck.kit x y b ∈ cks → PySem.W.kitOne K (.ref (He.ga K x)) (.ref (He.ga K y)) = some b := fun x y b h => of_decide_eq_true (c.ck (.kit x y b) h)
  have ht : Ht ⟨PySem.Challenge.rw_oneflip_k05_whole_no_words_have_more_pai.prog, w, K, mg, base, []⟩ := ⟨glo 21 _ rfl, glo 23 _ rfl, glo 24 _ rfl, exf_ok (c.ck (.exf "BadWord" "part") (by decide)), exf_ok (c.ck (.exf "TooMany" "what") (by decide)), exf_ok (c.ck (.exf "TooMany" "most") (by decide)), exi_ok (c.ck (.exi "BadWord") (by decide)), exi_ok (c.ck (.exi "TooMany") (by decide)),
    hex _ _ (by decide), hex _ _ (by decide), hkt _ _ _ (by decide), hkt _ _ _ (by decide)⟩
  have D27 : Def _ "_law_is_refused" 2 10 _ spRefused [] := mkDef (glo 18 _ rfl) F27 (fnD_ok F27 sc27 fun cdv _ => b27 (k := 9) hb ht (D15 4) (Nat.le_refl _)) b27'
  have D28 : Def _ "_law_refused_right" 1 11 _ spRight [] := mkDef (glo 19 _ rfl) F28 (fnD_ok F28 sc28 fun cdv _ => b28 (j := 10) (k := 10) hb (D18 9) (D19 8) D27 (D15 5) (Nat.le_refl _)) b28'
  exact fnD_ok F29 sc29 fun cdv _ => b29 (j := 11) (k := 11) hb (D17 10) D25 D26 D28 (Nat.le_refl _)
end L05

set_option Elab.async false
set_option linter.all false
set_option maxRecDepth 100000
set_option maxHeartbeats 0
open PySem PySem.W PySem.Calls PyProof.Rows
theorem PySem.Challenge.cw_oneflip_k05_whole_no_words_have_more_pai_holds : PySem.Challenge.rw_oneflip_k05_whole_no_words_have_more_pai.Holds := by
  w_on; o_law
  refine HandSHeadRun.head_any (r := OpenLaw.row PySem.Challenge.rw_oneflip_k05_whole_no_words_have_more_pai) (q := view (OpenLaw.row PySem.Challenge.rw_oneflip_k05_whole_no_words_have_more_pai).prog [29]) (H := L05.hk) (ob := L05.ob) (M := 4000) (loose := L05.names) (d := HandSHeadRun.topDef (OpenLaw.row PySem.Challenge.rw_oneflip_k05_whole_no_words_have_more_pai).prog 29) (kwd := []) L05.ob_eq
    (by kernel_rfl) (fun s => by kernel_rfl) L05.run (by kernel_rfl) (by kernel_rfl) (by kernel_rfl) (by rfl) (by first | assumption | decide +kernel) (by decide +kernel) ⟨rfl, rfl, rfl, rfl, rfl, by decide +kernel⟩ ?hw ?hc
  case hw => w_witness2
  case hc =>
    refine Z.walk_end (l := PySem.Challenge.rw_oneflip_k05_whole_no_words_have_more_pai) (n := 63) (k := 12) (x := "script") rfl (by decide) (by kernel_rfl) ⟨rfl, by decide, by decide⟩ ?F
    intro w mg fa h Y G hmg0
    obtain ⟨K, KX, c⟩ := Y
    have hmg : mg ("law" : PySem.Str) = some (.ref fa) := by
      have e : (HandSHeadRun.topDef (OpenLaw.row PySem.Challenge.rw_oneflip_k05_whole_no_words_have_more_pai).prog 29).name = ("law" : PySem.Str) := by kernel_rfl
      rw [← e]
      exact hmg0
    exact ⟨K, KX, L05.facts KX G hmg c⟩
