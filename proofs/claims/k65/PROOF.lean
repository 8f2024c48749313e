import PyProof.Rows.All
import Wide.All
import OpenK.AllK
import Wide.FinOn
import HandS.ForMost
import HandS.TupAny
import HandS.IsInst
import HandS.Style
import HandS.Wide
import HandS.Zip
import HandS.SortKw
import HandS.SortRule
import HandS.SortInts
import HandS.CallLocal
import KE.KDictZip
import KE.GoesMore
import HandS.DictTup
import HandS.Conv
import PyProof.TupleOfGen
import KE.GoesEnum
import PyProof.StrBlock
import KE.SortKeyHeap
import HandS.OwnIter
import HandS.Star
import PySem.Challenge.RW_lasthopes_k65_tables_judged_one_thing_at
set_option Elab.async false
set_option linter.all false
set_option maxRecDepth 100000
namespace G
open PySem PySem.Spec PyProof.Rows L2

/-! ### weakest preconditions over the layer -/
def WE (X : Cx) (e : Expr) : TE := fun σ H Q => ∀ pins s, Inv X pins σ H s → wpAny (model X.prog X.w) X.A (eval e X.env) (EP X pins σ Q) X.xe s
def WT (X : Cx) (e : Expr) : TT := fun σ H Q => ∀ pins s, Inv X pins σ H s → wpAny (model X.prog X.w) X.A (isTrue e X.env (eval e X.env)) (TP X pins σ Q) X.xe s
def WA (X : Cx) (es : List Expr) : TA := fun σ H Q => ∀ pos pins s, Inv X pins σ H s → wpAny (model X.prog X.w) X.A (spliced (backTo pos (starEach es X.env))) (AP X pins σ Q) X.xe s
def WS (X : Cx) (st : Stmt) : TS := fun D σ H => ∀ pins s, Inv X pins σ H s → wpAny (model X.prog X.w) X.A (exec st X.env) (SP X pins D) X.xe s
def WSs (X : Cx) (st : List Stmt) : TS := fun D σ H => ∀ pins s, Inv X pins σ H s → wpAny (model X.prog X.w) X.A (execs st X.env) (SP X pins D) X.xe s
section
variable {X : Cx} {e : Expr} {es : List Expr} {st : Stmt} {sts : List Stmt} {σ : L2.St} {H : Hp}
theorem pe_W : PE X e (WE X e) := ⟨fun pins s σ H Q I h => h pins s I⟩
theorem pt_W : PT X e (WT X e) := ⟨fun pins s σ H Q I h => h pins s I⟩
theorem pa_W : PA X es (WA X es) := ⟨fun pos pins s σ H Q I h => h pos pins s I⟩
theorem ps_W : PS X st (WS X st) := ⟨fun pins s σ H D I h => h pins s I⟩
theorem pss_W : PSs X sts (WSs X sts) := ⟨fun pins s σ H D I h => h pins s I⟩
theorem WE_of {t : TE} (h : PE X e t) {Q : VK} (q : t σ H Q) : WE X e σ H Q := fun pins s I => h.run pins s σ H Q I q
theorem WT_of {t : TT} (h : PT X e t) {Q : Bool → Hp → Prop} (q : t σ H Q) : WT X e σ H Q := fun pins s I => h.run pins s σ H Q I q
theorem WA_of {t : TA} (h : PA X es t) {Q : List V → Hp → Prop} (q : t σ H Q) : WA X es σ H Q := fun pos pins s I => h.run pos pins s σ H Q I q
theorem WS_of {t : TS} (h : PS X st t) {D : Ends} (q : t D σ H) : WS X st D σ H := fun pins s I => h.run pins s σ H D I q
theorem WSs_of {t : TS} (h : PSs X sts t) {D : Ends} (q : t D σ H) : WSs X sts D σ H := fun pins s I => h.run pins s σ H D I q
theorem WE_mono {Q Q' : VK} (h : WE X e σ H Q) (m : ∀ v H', Q v H' → Q' v H') : WE X e σ H Q' := fun pins s I =>
  thn (h pins s I) fun _ _ ⟨v, H', I', r, q⟩ => ⟨v, H', I', r, m _ _ q⟩
theorem WT_mono {Q Q' : Bool → Hp → Prop} (h : WT X e σ H Q) (m : ∀ v H', Q v H' → Q' v H') : WT X e σ H Q' := fun pins s I =>
  thn (h pins s I) fun _ _ ⟨H', I', q⟩ => ⟨H', I', m _ _ q⟩
theorem WA_mono {Q Q' : List V → Hp → Prop} (h : WA X es σ H Q) (m : ∀ v H', Q v H' → Q' v H') : WA X es σ H Q' := fun pos pins s I =>
  thn (h pos pins s I) fun _ _ ⟨v, H', I', r, q⟩ => ⟨v, H', I', r, m _ _ q⟩
end

/-! ### data in a heap -/
mutual
/-- v is the data d: lists and tuples tracked (or frozen), a tuple perhaps the module's own -/
inductive Dd (K : PySem.W.Frag) (H : Hp) : V → PyData → Prop
  | non : Dd K H .non .none
  | bl (b : Bool) : Dd K H (.bl b) (.bool b)
  | int (i : Int) : Dd K H (.int i) (.int i)
  | str (x : Str) : Dd K H (.str x) (.str x)
  | lst {a : Addr} {xs : List V} {ds : List PyData} : H a = some (.lst xs) → DdAll K H xs ds → Dd K H (.ref a) (.list ds)
  | tup {a : Addr} {xs : List V} {ds : List PyData} : SqT K H a xs → DdAll K H xs ds → Dd K H (.ref a) (.tuple ds)
inductive DdAll (K : PySem.W.Frag) (H : Hp) : List V → List PyData → Prop
  | nil : DdAll K H [] []
  | cons {v : V} {vs : List V} {d : PyData} {ds : List PyData} : Dd K H v d → DdAll K H vs ds → DdAll K H (v :: vs) (d :: ds)
end
section
variable {K : PySem.W.Frag} {F H F' H' : Hp}
theorem sqT_up (e : Same F F') {a : Addr} {xs : List V} (h : SqT K F a xs) : SqT K F' a xs := by
  rcases h with (h | ⟨o, h⟩) | h
  · exact .inl (.inl (e _ _ h))
  · exact .inl (.inr ⟨o, e _ _ h⟩)
  · exact .inr h
theorem rd_up (e : Same F F') {a : Addr} {u : HO} (h : Rd F a u) : Rd F' a u := by
  rcases h with h | ⟨o, h⟩
  · exact .inl (e _ _ h)
  · exact .inr ⟨o, e _ _ h⟩
mutual
theorem Dd.up (e : Same F F') : ∀ (d : PyData) (v : V), Dd K F v d → Dd K F' v d
  | .none, _, h => by cases h; exact .non
  | .bool _, _, h => by cases h; exact .bl _
  | .int _, _, h => by cases h; exact .int _
  | .str _, _, h => by cases h; exact .str _
  | .list ds, _, h => by cases h with | lst q a => exact .lst (e _ _ q) (DdAll.up e ds _ a)
  | .tuple ds, _, h => by cases h with | tup q a => exact .tup (sqT_up e q) (DdAll.up e ds _ a)
  | .dict _, _, h => by cases h
theorem DdAll.up (e : Same F F') : ∀ (ds : List PyData) (vs : List V), DdAll K F vs ds → DdAll K F' vs ds
  | [], _, h => by cases h; exact .nil
  | d :: ds, _, h => by cases h with | cons a b => exact .cons (Dd.up e d _ a) (DdAll.up e ds _ b)
end
mutual
theorem Dd.dp : ∀ (d : PyData) (v : V), Dd K F v d → Dp K F v d
  | .none, _, h => by cases h; exact .non
  | .bool _, _, h => by cases h; exact .bl _
  | .int _, _, h => by cases h; exact .int _
  | .str _, _, h => by cases h; exact .str _
  | .list ds, _, h => by cases h with | lst q a => exact .lst (.of q) (DdAll.dp ds _ a)
  | .tuple ds, _, h => by cases h with | tup q a => exact .tup q (DdAll.dp ds _ a)
  | .dict _, _, h => by cases h
theorem DdAll.dp : ∀ (ds : List PyData) (vs : List V), DdAll K F vs ds → DpAll K F vs ds
  | [], _, h => by cases h; exact .nil
  | d :: ds, _, h => by cases h with | cons a b => exact .cons (Dd.dp d _ a) (DdAll.dp ds _ b)
end
theorem DdAll.length : ∀ {vs : List V} {ds : List PyData}, DdAll K F vs ds → vs.length = ds.length
  | _, _, .nil => rfl
  | _, _, .cons _ t => by simp [DdAll.length t]
theorem DdAll.get : ∀ {vs : List V} {ds : List PyData} {i : Nat} {d : PyData}, DdAll K F vs ds → ds[i]? = some d → ∃ v, vs[i]? = some v ∧ Dd K F v d
  | _, _, _, _, .nil, e => by simp at e
  | _, _, 0, _, .cons r _, e => by simp at e; subst e; exact ⟨_, rfl, r⟩
  | _, _, i + 1, _, .cons _ t, e => by
    obtain ⟨v, h1, h2⟩ := DdAll.get (i := i) t (by simpa using e)
    exact ⟨v, by simpa using h1, h2⟩
theorem DdAll.getV : ∀ {vs : List V} {ds : List PyData} {i : Nat} {v : V}, DdAll K F vs ds → vs[i]? = some v → ∃ d, ds[i]? = some d ∧ Dd K F v d
  | _, _, _, _, .nil, e => by simp at e
  | _, _, 0, _, .cons r _, e => by simp at e; subst e; exact ⟨_, rfl, r⟩
  | _, _, i + 1, _, .cons _ t, e => by
    obtain ⟨v, h1, h2⟩ := DdAll.getV (i := i) t (by simpa using e)
    exact ⟨v, by simpa using h1, h2⟩
theorem DdAll.app : ∀ {vs : List V} {ds : List PyData} {ws : List V} {es : List PyData}, DdAll K F vs ds → DdAll K F ws es → DdAll K F (vs ++ ws) (ds ++ es)
  | _, _, _, _, .nil, h => h
  | _, _, _, _, .cons a b, h => .cons a (DdAll.app b h)
theorem DdAll.take : ∀ {vs : List V} {ds : List PyData} (n : Nat), DdAll K F vs ds → DdAll K F (vs.take n) (ds.take n)
  | _, _, 0, _ => .nil
  | _, _, _ + 1, .nil => .nil
  | _, _, n + 1, .cons a b => .cons a (DdAll.take n b)
theorem DdAll.drop : ∀ {vs : List V} {ds : List PyData} (n : Nat), DdAll K F vs ds → DdAll K F (vs.drop n) (ds.drop n)
  | _, _, 0, h => h
  | _, _, _ + 1, .nil => .nil
  | _, _, n + 1, .cons a b => DdAll.drop n b
theorem DdAll.rev : ∀ {vs : List V} {ds : List PyData}, DdAll K F vs ds → DdAll K F vs.reverse ds.reverse
  | _, _, .nil => .nil
  | _, _, .cons a b => by rw [List.reverse_cons, List.reverse_cons]; exact DdAll.app (DdAll.rev b) (.cons a .nil)
theorem DdAll.rep {vs : List V} {ds : List PyData} (h : DdAll K F vs ds) : ∀ k : Nat, DdAll K F (List.replicate k vs).flatten (List.replicate k ds).flatten
  | 0 => .nil
  | k + 1 => by rw [List.replicate_succ, List.replicate_succ, List.flatten_cons, List.flatten_cons]; exact DdAll.app h (DdAll.rep h k)
theorem Dd.int_inv {v : V} {i : Int} (h : Dd K F v (.int i)) : v = .int i := by cases h; rfl
theorem Dd.bl_inv {v : V} {b : Bool} (h : Dd K F v (.bool b)) : v = .bl b := by cases h; rfl
theorem Dd.str_inv {v : V} {x : Str} (h : Dd K F v (.str x)) : v = .str x := by cases h; rfl
theorem Dd.non_inv {v : V} (h : Dd K F v .none) : v = .non := by cases h; rfl
theorem Dd.tup_inv {v : V} {ds : List PyData} (h : Dd K F v (.tuple ds)) : ∃ a xs, v = .ref a ∧ SqT K F a xs ∧ DdAll K F xs ds := by cases h with | tup q a => exact ⟨_, _, rfl, q, a⟩
theorem Dd.lst_inv {v : V} {ds : List PyData} (h : Dd K F v (.list ds)) : ∃ a xs, v = .ref a ∧ F a = some (.lst xs) ∧ DdAll K F xs ds := by cases h with | lst q a => exact ⟨_, _, rfl, q, a⟩
theorem DdAll.ints : ∀ {vs : List V} {ns : List Int}, DdAll K F vs (ns.map .int) → vs = ns.map V.int
  | _, [], h => by cases h; rfl
  | _, n :: ns, h => by cases h with | cons a b => rw [Dd.int_inv a, DdAll.ints b]; rfl
theorem DdAll.bools : ∀ {vs : List V} {ns : List Bool}, DdAll K F vs (ns.map .bool) → vs = ns.map V.bl
  | _, [], h => by cases h; rfl
  | _, n :: ns, h => by cases h with | cons a b => rw [Dd.bl_inv a, DdAll.bools b]; rfl
theorem DdAll.ofInts : ∀ (ns : List Int), DdAll K F (ns.map V.int) (ns.map PyData.int)
  | [] => .nil
  | n :: ns => .cons (.int n) (DdAll.ofInts ns)
end

/-! ### cells: data, lists that may be changed, addresses -/
inductive C where
  | dat (d : PyData)
  | own (cs : List C)
  | adr (a : Addr)
  | seq (ns : List Int)
abbrev Gm := List (Option C)
inductive R where
  | val (c : C)
  | pth (i : Nat) (ks : List Nat)

mutual
inductive RepC (K : PySem.W.Frag) (F H : Hp) : C → V → List Addr → Prop
  | dat {d : PyData} {v : V} : Dd K F v d → RepC K F H (.dat d) v []
  | adr {a : Addr} : RepC K F H (.adr a) (.ref a) []
  | seq {a : Addr} {ns : List Int} : SqL K F a (ns.map V.int) → RepC K F H (.seq ns) (.ref a) []
  | own {p : Addr} {xs : List V} {cs : List C} {os : List Addr} : H p = some (.lst xs) → F p = none → RepCs K F H cs xs os → RepC K F H (.own cs) (.ref p) (p :: os)
inductive RepCs (K : PySem.W.Frag) (F H : Hp) : List C → List V → List Addr → Prop
  | nil : RepCs K F H [] [] []
  | cons {c : C} {v : V} {cs : List C} {vs : List V} {o1 o2 : List Addr} : RepC K F H c v o1 → RepCs K F H cs vs o2 → RepCs K F H (c :: cs) (v :: vs) (o1 ++ o2)
end

mutual
def C.view : C → Option PyData
  | .dat d => some d
  | .own cs => (C.views cs).map .list
  | .adr _ => none
  | .seq _ => none
def C.views : List C → Option (List PyData)
  | [] => some []
  | c :: cs => match C.view c, C.views cs with
    | some d, some ds => some (d :: ds)
    | _, _ => none
end
theorem views_dat : ∀ ds : List PyData, C.views (ds.map .dat) = some ds
  | [] => rfl
  | d :: ds => by rw [List.map_cons, C.views, views_dat ds]; rfl

section
variable {K : PySem.W.Frag} {F H F' H' : Hp}
theorem RepCs.length : ∀ {cs : List C} {vs : List V} {os : List Addr}, RepCs K F H cs vs os → vs.length = cs.length
  | _, _, _, .nil => rfl
  | _, _, _, .cons _ t => by simp [RepCs.length t]
mutual
theorem RepC.see (le : Same F H) : ∀ {c : C} {v : V} {os : List Addr} {d : PyData}, RepC K F H c v os → C.view c = some d → Dd K H v d
  | .dat _, _, _, _, .dat h, e => by cases e; exact Dd.up le _ _ h
  | .own cs, _, _, _, .own h1 h2 h3, e => by
    cases q : C.views cs with
    | none => rw [C.view, q] at e; cases e
    | some ds =>
      rw [C.view, q] at e; cases e
      exact .lst h1 (RepCs.see le h3 q)
  | .adr _, _, _, _, .adr, e => by cases e
  | .seq _, _, _, _, .seq _, e => by cases e
theorem RepCs.see (le : Same F H) : ∀ {cs : List C} {vs : List V} {os : List Addr} {ds : List PyData}, RepCs K F H cs vs os → C.views cs = some ds → DdAll K H vs ds
  | [], _, _, _, .nil, e => by cases e; exact .nil
  | c :: cs, _, _, _, .cons h1 h2, e => by
    cases q1 : C.view c with
    | none => rw [C.views, q1] at e; cases e
    | some d =>
      cases q2 : C.views cs with
      | none => rw [C.views, q1, q2] at e; cases e
      | some ds =>
        rw [C.views, q1, q2] at e; cases e
        exact .cons (RepC.see le h1 q1) (RepCs.see le h2 q2)
end
/-- the frozen heap with more addresses of H -/
def grow (F H : Hp) (os : List Addr) : Hp := fun a => if a ∈ os then H a else F a
theorem grow_same (le : Same F H) (os : List Addr) : Same F (grow F H os) := fun a o h => by
  unfold grow; split
  · exact le a o h
  · exact h
theorem grow_le (le : Same F H) (os : List Addr) : Same (grow F H os) H := fun a o h => by
  unfold grow at h; split at h
  · exact h
  · exact le a o h
mutual
theorem RepC.ice (le : Same F H) : ∀ {c : C} {v : V} {os os' : List Addr} {d : PyData}, RepC K F H c v os → C.view c = some d → (∀ a ∈ os, a ∈ os') → Dd K (grow F H os') v d
  | .dat _, _, _, _, _, .dat h, e, _ => by cases e; exact Dd.up (grow_same le _) _ _ h
  | .own cs, _, _, _, _, .own (p := p) h1 h2 h3, e, s => by
    cases q : C.views cs with
    | none => rw [C.view, q] at e; cases e
    | some ds =>
      rw [C.view, q] at e; cases e
      refine .lst ?_ (RepCs.ice le h3 q fun a m => s a (List.mem_cons_of_mem _ m))
      unfold grow; rw [if_pos (s p List.mem_cons_self)]; exact h1
  | .adr _, _, _, _, _, .adr, e, _ => by cases e
  | .seq _, _, _, _, _, .seq _, e, _ => by cases e
theorem RepCs.ice (le : Same F H) : ∀ {cs : List C} {vs : List V} {os os' : List Addr} {ds : List PyData}, RepCs K F H cs vs os → C.views cs = some ds → (∀ a ∈ os, a ∈ os') → DdAll K (grow F H os') vs ds
  | [], _, _, _, _, .nil, e, _ => by cases e; exact .nil
  | c :: cs, _, _, _, _, .cons h1 h2, e, s => by
    cases q1 : C.view c with
    | none => rw [C.views, q1] at e; cases e
    | some d =>
      cases q2 : C.views cs with
      | none => rw [C.views, q1, q2] at e; cases e
      | some ds =>
        rw [C.views, q1, q2] at e; cases e
        exact .cons (RepC.ice le h1 q1 fun a m => s a (List.mem_append_left _ m)) (RepCs.ice le h2 q2 fun a m => s a (List.mem_append_right _ m))
end
mutual
theorem RepC.there : ∀ {c : C} {v : V} {os : List Addr}, RepC K F H c v os → ∀ a ∈ os, (∃ xs, H a = some (.lst xs)) ∧ F a = none
  | .dat _, _, _, .dat h, a, m => by cases m
  | .own cs, _, _, .own h1 h2 h3, a, m => by
    rcases List.mem_cons.mp m with e | m
    · subst e; exact ⟨⟨_, h1⟩, h2⟩
    · exact RepCs.there h3 a m
  | .adr _, _, _, .adr, a, m => by cases m
  | .seq _, _, _, .seq _, a, m => by cases m
theorem RepCs.there : ∀ {cs : List C} {vs : List V} {os : List Addr}, RepCs K F H cs vs os → ∀ a ∈ os, (∃ xs, H a = some (.lst xs)) ∧ F a = none
  | [], _, _, .nil, a, m => by cases m
  | c :: cs, _, _, .cons h1 h2, a, m => by
    rcases List.mem_append.mp m with m | m
    · exact RepC.there h1 a m
    · exact RepCs.there h2 a m
end

mutual
theorem RepC.move (le : Same F F') : ∀ {c : C} {v : V} {os : List Addr}, RepC K F H c v os → (∀ a ∈ os, H' a = H a ∧ F' a = none) → RepC K F' H' c v os
  | .dat _, _, _, .dat h, _ => .dat (Dd.up le _ _ h)
  | .own cs, _, _, .own h1 h2 h3, k => .own (by rw [(k _ List.mem_cons_self).1]; exact h1) (k _ List.mem_cons_self).2 (RepCs.move le h3 fun a m => k a (List.mem_cons_of_mem _ m))
  | .adr _, _, _, .adr, _ => .adr
  | .seq _, _, _, .seq h, _ => .seq (Same.seq le h)
theorem RepCs.move (le : Same F F') : ∀ {cs : List C} {vs : List V} {os : List Addr}, RepCs K F H cs vs os → (∀ a ∈ os, H' a = H a ∧ F' a = none) → RepCs K F' H' cs vs os
  | [], _, _, .nil, _ => .nil
  | c :: cs, _, _, .cons h1 h2, k => .cons (RepC.move le h1 fun a m => k a (List.mem_append_left _ m)) (RepCs.move le h2 fun a m => k a (List.mem_append_right _ m))
end
end

/-! ### how the heaps go on -/
structure Fut (P : Addr → Prop) (F H : Hp) (P' : Addr → Prop) (F' H' : Hp) : Prop where
  le : Same F F'
  frame : ∀ a o, H a = some o → ¬ P a → H' a = some o
  newF : ∀ a, F a = none → F' a ≠ none → H a = none ∨ P a
  newO : ∀ a, P' a → P a ∨ H a = none
section
variable {P P1 P2 T : Addr → Prop} {F H F1 H1 F2 H2 : Hp}
theorem Fut.refl (h : ∀ a, P1 a → P a) : Fut P F H P1 F H := ⟨.refl _, fun _ _ e _ => e, fun a h1 h2 => absurd h1 h2, fun a m => .inl (h a m)⟩
theorem Fut.trans (x : Fut P F H P1 F1 H1) (y : Fut P1 F1 H1 P2 F2 H2) : Fut P F H P2 F2 H2 := by
  have back : ∀ a, P1 a → P a ∨ H a = none := x.newO
  have bn : ∀ a, H1 a = none → H a = none ∨ P a := fun a e => by
    cases q : H a with
    | none => exact .inl rfl
    | some o =>
      by_cases p : P a
      · exact .inr p
      · rw [x.frame a o q p] at e; cases e
  refine ⟨x.le.trans y.le, fun a o e n => y.frame a o (x.frame a o e n) fun m => ?_, fun a e1 e2 => ?_, fun a m => ?_⟩
  · rcases back a m with z | z
    · exact n z
    · rw [e] at z; cases z
  · by_cases q : F1 a = none
    · rcases y.newF a q e2 with z | z
      · exact bn a z
      · exact (back a z).symm
    · exact x.newF a e1 q
  · rcases y.newO a m with z | z
    · exact back a z
    · exact (bn a z).symm
theorem Fut.wide (x : Fut P F H P1 F1 H1) : Fut (fun a => P a ∨ T a) F H (fun a => P1 a ∨ T a) F1 H1 :=
  ⟨x.le, fun a o e n => x.frame a o e fun m => n (.inl m), fun a e1 e2 => (x.newF a e1 e2).imp id .inl, fun a m => by
    rcases m with m | m
    · exact (x.newO a m).imp .inl id
    · exact .inl (.inr m)⟩
theorem Fut.post (x : Fut P F H P1 F1 H1) (h : ∀ a, P2 a → P1 a) : Fut P F H P2 F1 H1 := ⟨x.le, x.frame, x.newF, fun a m => x.newO a (h a m)⟩
theorem Fut.pre (x : Fut P F H P1 F1 H1) (h : ∀ a, P a → P2 a) : Fut P2 F H P1 F1 H1 :=
  ⟨x.le, fun a o e n => x.frame a o e fun m => n (h a m), fun a e1 e2 => (x.newF a e1 e2).imp id (h a), fun a m => (x.newO a m).imp (h a) id⟩
end

structure RepG (K : PySem.W.Frag) (F H : Hp) (σ : L2.St) (Γ : Gm) (O : Nat → List Addr) : Prop where
  le : Same F H
  len : Γ.length = σ.length
  cell : ∀ i c, Γ[i]? = some (some c) → ∃ v, σ[i]? = some (some v) ∧ RepC K F H c v (O i)
  nd : ∀ i, (O i).Nodup
  dj : ∀ i j a, a ∈ O i → a ∈ O j → i = j
  off : ∀ i, (∀ c, Γ[i]? ≠ some (some c)) → O i = []
def Own (O : Nat → List Addr) (a : Addr) : Prop := ∃ i, a ∈ O i
def OwnT (O : Nat → List Addr) (os : List Addr) (a : Addr) : Prop := Own O a ∨ a ∈ os

inductive PathV (H : Hp) : V → List Nat → V → Prop
  | nil {v : V} : PathV H v [] v
  | cons {p : Addr} {xs : List V} {k : Nat} {ks : List Nat} {v w : V} : H p = some (.lst xs) → xs[k]? = some v → PathV H v ks w → PathV H (.ref p) (k :: ks) w
inductive RepR (K : PySem.W.Frag) (F H : Hp) (σ : L2.St) : R → V → List Addr → Prop
  | val {c : C} {v : V} {os : List Addr} : RepC K F H c v os → RepR K F H σ (.val c) v os
  | pth {i : Nat} {ks : List Nat} {v0 v : V} : σ[i]? = some (some v0) → PathV H v0 ks v → RepR K F H σ (.pth i ks) v []

/-- the whole state between two steps, with temporaries' addresses os -/
structure Sn (X : Cx) (F H : Hp) (σ : L2.St) (Γ : Gm) (O : Nat → List Addr) (os : List Addr) : Prop where
  g : RepG X.K F H σ Γ O
  nd : os.Nodup
  dj : ∀ a ∈ os, ¬ Own O a

abbrev KR := R → Gm → Prop
def WPe (X : Cx) (e : Expr) (Γ : Gm) (Kn : KR) : Prop := ∀ (F H : Hp) (σ : L2.St) (O : Nat → List Addr), RepG X.K F H σ Γ O → ∀ Q : VK,
  (∀ r Γ' F' H' O' v os, Kn r Γ' → RepG X.K F' H' σ Γ' O' → RepR X.K F' H' σ r v os → os.Nodup → (∀ a ∈ os, ¬ Own O' a) → Fut (Own O) F H (OwnT O' os) F' H' → Q v H') → WE X e σ H Q
def WPt (X : Cx) (e : Expr) (Γ : Gm) (Kn : Bool → Gm → Prop) : Prop := ∀ (F H : Hp) (σ : L2.St) (O : Nat → List Addr), RepG X.K F H σ Γ O → ∀ Q : Bool → Hp → Prop,
  (∀ b Γ' F' H' O', Kn b Γ' → RepG X.K F' H' σ Γ' O' → Fut (Own O) F H (Own O') F' H' → Q b H') → WT X e σ H Q

section
variable {X : Cx} {e : Expr} {Γ : Gm}
theorem WPe.mono {Kn Kn' : KR} (h : WPe X e Γ Kn) (m : ∀ r Γ', Kn r Γ' → Kn' r Γ') : WPe X e Γ Kn' := fun F H σ O g Q q =>
  h F H σ O g Q fun r Γ' F' H' O' v os k => q r Γ' F' H' O' v os (m _ _ k)
theorem WPt.mono {Kn Kn' : Bool → Gm → Prop} (h : WPt X e Γ Kn) (m : ∀ r Γ', Kn r Γ' → Kn' r Γ') : WPt X e Γ Kn' := fun F H σ O g Q q =>
  h F H σ O g Q fun r Γ' F' H' O' k => q r Γ' F' H' O' (m _ _ k)
end
end G
namespace G
open PySem PySem.Spec PyProof.Rows L2

section
variable {K : PySem.W.Frag} {F H F' H' : Hp} {σ : L2.St} {Γ : Gm} {O : Nat → List Addr} {P' : Addr → Prop}
theorem keepF {P : Addr → Prop} (f : Fut P F H P' F' H') {os : List Addr} (th : ∀ a ∈ os, (∃ xs, H a = some (.lst xs)) ∧ F a = none) (dj : ∀ a ∈ os, ¬ P a) : ∀ a ∈ os, H' a = H a ∧ F' a = none := fun a m => by
  obtain ⟨⟨xs, e⟩, n⟩ := th a m
  refine ⟨by rw [f.frame a _ e (dj a m), e], ?_⟩
  cases q : F' a with
  | none => rfl
  | some o =>
    rcases f.newF a n (by rw [q]; simp) with z | z
    · rw [e] at z; cases z
    · exact absurd z (dj a m)
theorem RepC.fut {P : Addr → Prop} {c : C} {v : V} {os : List Addr} (r : RepC K F H c v os) (f : Fut P F H P' F' H') (dj : ∀ a ∈ os, ¬ P a) : RepC K F' H' c v os := r.move f.le (keepF f r.there dj)
theorem RepC.apart {P : Addr → Prop} {c : C} {v : V} {os : List Addr} (r : RepC K F H c v os) (f : Fut P F H P' F' H') (dj : ∀ a ∈ os, ¬ P a) : ∀ a ∈ os, ¬ P' a := fun a m p => by
  obtain ⟨⟨xs, e⟩, _⟩ := r.there a m
  rcases f.newO a p with z | z
  · exact dj a m z
  · rw [e] at z; cases z
def R.stab : R → Bool
  | .val _ => true
  | .pth _ ks => ks.isEmpty
theorem RepR.fut {P : Addr → Prop} {r : R} {v : V} {os : List Addr} (h : RepR K F H σ r v os) (st : r.stab = true) (f : Fut P F H P' F' H') (dj : ∀ a ∈ os, ¬ P a) : RepR K F' H' σ r v os := by
  cases h with
  | val h => exact .val (h.fut f dj)
  | pth e p =>
    rename_i i ks v0
    cases ks with
    | nil => cases p; exact .pth e .nil
    | cons k ks => cases st
theorem RepR.there {r : R} {v : V} {os : List Addr} (h : RepR K F H σ r v os) : ∀ a ∈ os, (∃ xs, H a = some (.lst xs)) ∧ F a = none := by
  cases h with
  | val h => exact h.there
  | pth _ _ => intro a m; cases m
theorem apartT {P : Addr → Prop} {os : List Addr} (th : ∀ a ∈ os, (∃ xs, H a = some (.lst xs)) ∧ F a = none) (f : Fut P F H P' F' H') (dj : ∀ a ∈ os, ¬ P a) : ∀ a ∈ os, ¬ P' a := fun a m p => by
  obtain ⟨⟨xs, e⟩, _⟩ := th a m
  rcases f.newO a p with z | z
  · exact dj a m z
  · rw [e] at z; cases z

/-! ### what a result holds, read -/
def C.at : C → List Nat → Option C
  | c, [] => some c
  | .own cs, k :: ks => match cs[k]? with
    | some c => C.at c ks
    | none => none
  | _, _ :: _ => none
def vw (Γ : Gm) : R → Option PyData
  | .val c => c.view
  | .pth i ks => match Γ[i]? with
    | some (some c) => match C.at c ks with
      | some c' => c'.view
      | none => none
    | _ => none
theorem RepCs.get : ∀ {cs : List C} {vs : List V} {os : List Addr} {k : Nat} {c : C}, RepCs K F H cs vs os → cs[k]? = some c → ∃ v os', vs[k]? = some v ∧ RepC K F H c v os' ∧ ∀ a ∈ os', a ∈ os
  | _, _, _, _, _, .nil, e => by simp at e
  | _, _, _, 0, _, .cons h1 h2, e => by simp at e; subst e; exact ⟨_, _, rfl, h1, fun a m => List.mem_append_left _ m⟩
  | _, _, _, k + 1, _, .cons h1 h2, e => by
    obtain ⟨v, os', e1, r, s⟩ := RepCs.get (k := k) h2 (by simpa using e)
    exact ⟨v, os', by simpa using e1, r, fun a m => List.mem_append_right _ (s a m)⟩
theorem path_at : ∀ {ks : List Nat} {c c' : C} {v0 v : V} {os : List Addr}, RepC K F H c v0 os → PathV H v0 ks v → C.at c ks = some c' → ∃ os', RepC K F H c' v os' ∧ ∀ a ∈ os', a ∈ os
  | [], c, c', v0, v, os, r, p, e => by
    cases p; cases (show some c = some c' by cases c <;> exact e); exact ⟨os, r, fun _ m => m⟩
  | k :: ks, c, c', v0, v, os, r, p, e => by
    cases r with
    | dat _ => cases e
    | adr => cases e
    | seq _ => cases e
    | own h1 h2 h3 =>
      rename_i p0 xs cs os0
      cases p with
      | cons q1 q2 q3 =>
        rw [h1] at q1; cases q1
        simp only [C.at] at e
        cases q : cs[k]? with
        | none => rw [q] at e; cases e
        | some c1 =>
          rw [q] at e
          obtain ⟨w, os', e1, r1, s1⟩ := h3.get q
          rw [q2] at e1; cases e1
          obtain ⟨os2, r2, s2⟩ := path_at r1 q3 e
          exact ⟨os2, r2, fun a m => List.mem_cons_of_mem _ (s1 a (s2 a m))⟩
theorem path_of : ∀ {ks : List Nat} {c c' : C} {v0 : V} {os : List Addr}, RepC K F H c v0 os → C.at c ks = some c' → ∃ v os', PathV H v0 ks v ∧ RepC K F H c' v os' ∧ ∀ a ∈ os', a ∈ os
  | [], c, c', v0, os, r, e => by
    cases (show some c = some c' by cases c <;> exact e); exact ⟨v0, os, .nil, r, fun _ m => m⟩
  | k :: ks, c, c', v0, os, r, e => by
    cases r with
    | dat _ => cases e
    | adr => cases e
    | seq _ => cases e
    | own h1 h2 h3 =>
      rename_i p0 xs cs os0
      simp only [C.at] at e
      cases q : cs[k]? with
      | none => rw [q] at e; cases e
      | some c1 =>
        rw [q] at e
        obtain ⟨w, os', e1, r1, s1⟩ := h3.get q
        obtain ⟨v, os2, p2, r2, s2⟩ := path_of r1 e
        exact ⟨v, os2, .cons h1 e1 p2, r2, fun a m => List.mem_cons_of_mem _ (s1 a (s2 a m))⟩
theorem RepG.at (g : RepG K F H σ Γ O) {i : Nat} {ks : List Nat} {v : V} {os : List Addr} {c c' : C} (h : RepR K F H σ (.pth i ks) v os) (e : Γ[i]? = some (some c)) (a : C.at c ks = some c') :
    ∃ os', RepC K F H c' v os' ∧ ∀ b ∈ os', b ∈ O i := by
  cases h with
  | pth e1 p =>
    obtain ⟨w, e2, r⟩ := g.cell i c e
    rw [e1] at e2; cases e2
    exact path_at r p a
theorem vw_ok (g : RepG K F H σ Γ O) {r : R} {v : V} {os : List Addr} {d : PyData} (h : RepR K F H σ r v os) (e : vw Γ r = some d) : Dd K H v d := by
  cases r with
  | val c => cases h with | val h => exact h.see g.le e
  | pth i ks =>
    simp only [vw] at e
    cases q : Γ[i]? with
    | none => rw [q] at e; cases e
    | some oc =>
      cases oc with
      | none => rw [q] at e; cases e
      | some c =>
        rw [q] at e
        cases q2 : C.at c ks with
        | none => simp only [q2] at e; cases e
        | some c' =>
          simp only [q2] at e
          obtain ⟨os', r, _⟩ := g.at h q q2
          exact r.see g.le e

/-! ### freezing -/
def frz (Γ : Gm) : R → Option (PyData × Gm)
  | .val c => c.view.map fun d => (d, Γ)
  | .pth i [] => match Γ[i]? with
    | some (some c) => c.view.map fun d => (d, Γ.set i (some (.dat d)))
    | _ => none
  | .pth _ (_ :: _) => none
def Osub (O : Nat → List Addr) (i : Nat) (os : List Addr) : Nat → List Addr := fun j => if j = i then os else O j
theorem Osub_same {i : Nat} {os : List Addr} : Osub O i os i = os := if_pos rfl
theorem Osub_ne {i j : Nat} {os : List Addr} (h : j ≠ i) : Osub O i os j = O j := if_neg h
/-- a cell of the frame is put in another's place -/
theorem RepG.put (g : RepG K F H σ Γ O) {i : Nat} {c : C} {v : V} {os : List Addr} (hi : i < Γ.length) (r : RepC K F H c v os) (nd : os.Nodup) (dj : ∀ a ∈ os, ∀ j, j ≠ i → a ∉ O j) :
    RepG K F H (σ.set i (some v)) (Γ.set i (some c)) (Osub O i os) := by
  refine ⟨g.le, by simp [g.len], fun j c' e => ?_, fun j => ?_, fun j k a h1 h2 => ?_, fun j h => ?_⟩
  · by_cases hj : j = i
    · subst hj
      rw [List.getElem?_set_self hi] at e; cases e
      exact ⟨v, by rw [List.getElem?_set_self (by rw [← g.len]; exact hi)], by rw [Osub_same]; exact r⟩
    · rw [List.getElem?_set_ne (Ne.symm hj)] at e
      obtain ⟨w, e1, r1⟩ := g.cell j c' e
      exact ⟨w, by rw [List.getElem?_set_ne (Ne.symm hj)]; exact e1, by rw [Osub_ne hj]; exact r1⟩
  · by_cases hj : j = i
    · subst hj; rw [Osub_same]; exact nd
    · rw [Osub_ne hj]; exact g.nd j
  · by_cases hj : j = i
    · subst hj
      rw [Osub_same] at h1
      by_cases hk : k = j
      · exact hk.symm
      · rw [Osub_ne hk] at h2; exact absurd h2 (dj a h1 k hk)
    · rw [Osub_ne hj] at h1
      by_cases hk : k = i
      · subst hk; rw [Osub_same] at h2; exact absurd h1 (dj a h2 j hj)
      · rw [Osub_ne hk] at h2; exact g.dj j k a h1 h2
  · by_cases hj : j = i
    · subst hj; exact absurd (List.getElem?_set_self hi) (h c)
    · rw [Osub_ne hj]
      refine g.off j fun c' e => h c' ?_
      rw [List.getElem?_set_ne (Ne.symm hj)]; exact e
/-- a slot is forgotten -/
theorem RepG.drop (g : RepG K F H σ Γ O) {i : Nat} : RepG K F H σ (Γ.set i none) (Osub O i []) := by
  refine ⟨g.le, by simp [g.len], fun j c' e => ?_, fun j => ?_, fun j k a h1 h2 => ?_, fun j h => ?_⟩
  · by_cases hj : j = i
    · subst hj
      by_cases hi : j < Γ.length
      · rw [List.getElem?_set_self hi] at e; cases e
      · rw [List.getElem?_eq_none (by simpa using hi)] at e; cases e
    · rw [List.getElem?_set_ne (Ne.symm hj)] at e
      rw [Osub_ne hj]; exact g.cell j c' e
  · by_cases hj : j = i
    · subst hj; rw [Osub_same]; exact .nil
    · rw [Osub_ne hj]; exact g.nd j
  · by_cases hj : j = i
    · subst hj; rw [Osub_same] at h1; cases h1
    · rw [Osub_ne hj] at h1
      by_cases hk : k = i
      · subst hk; rw [Osub_same] at h2; cases h2
      · rw [Osub_ne hk] at h2; exact g.dj j k a h1 h2
  · by_cases hj : j = i
    · subst hj; rw [Osub_same]
    · rw [Osub_ne hj]
      refine g.off j fun c' e => h c' ?_
      rw [List.getElem?_set_ne (Ne.symm hj)]; exact e
/-- a cell of the frame, changed in place -/
theorem RepG.putV (g : RepG K F H σ Γ O) {i : Nat} {c : C} {v : V} {os : List Addr} (hv : σ[i]? = some (some v)) (r : RepC K F H c v os) (nd : os.Nodup) (dj : ∀ a ∈ os, ∀ j, j ≠ i → a ∉ O j) :
    RepG K F H σ (Γ.set i (some c)) (Osub O i os) := by
  have hi : i < Γ.length := by rw [g.len]; exact (List.getElem?_eq_some_iff.mp hv).1
  have q := g.put hi r nd dj
  have e : σ.set i (some v) = σ := by
    apply List.ext_getElem?
    intro j
    by_cases hj : j = i
    · subst hj; rw [List.getElem?_set_self (by rw [← g.len]; exact hi), hv]
    · rw [List.getElem?_set_ne (Ne.symm hj)]
  rw [e] at q
  exact q
/-- the heaps go on beside the frame's cells -/
theorem RepG.move (g : RepG K F H σ Γ O) (le : Same F F') (le' : Same F' H') (k : ∀ a, Own O a → H' a = H a ∧ F' a = none) : RepG K F' H' σ Γ O :=
  ⟨le', g.len, fun i c e => let ⟨v, e1, r⟩ := g.cell i c e; ⟨v, e1, r.move le fun a m => k a ⟨i, m⟩⟩, g.nd, g.dj, g.off⟩
theorem RepG.there (g : RepG K F H σ Γ O) : ∀ a, Own O a → (∃ xs, H a = some (.lst xs)) ∧ F a = none := fun a ⟨i, m⟩ => by
  cases q : Γ[i]? with
  | none => rw [g.off i (fun c e => by rw [q] at e; cases e)] at m; cases m
  | some oc =>
    cases oc with
    | none => rw [g.off i (fun c e => by rw [q] at e; cases e)] at m; cases m
    | some c =>
      obtain ⟨v, _, r⟩ := g.cell i c q
      exact r.there a m
theorem own_sub {i : Nat} {os : List Addr} {a : Addr} (h : Own (Osub O i os) a) : Own O a ∨ a ∈ os := by
  obtain ⟨j, m⟩ := h
  by_cases hj : j = i
  · subst hj; rw [Osub_same] at m; exact .inr m
  · rw [Osub_ne hj] at m; exact .inl ⟨j, m⟩
theorem frz_ok (g : RepG K F H σ Γ O) {r : R} {v : V} {os : List Addr} {d : PyData} {Γ' : Gm} (h : RepR K F H σ r v os) (nd : os.Nodup) (dj : ∀ a ∈ os, ¬ Own O a) (e : frz Γ r = some (d, Γ')) :
    ∃ F' O', RepG K F' H σ Γ' O' ∧ Dd K F' v d ∧ Fut (OwnT O os) F H (Own O') F' H := by
  cases r with
  | val c =>
    cases h with
    | val h =>
      simp only [frz] at e
      cases q : c.view with
      | none => rw [q] at e; cases e
      | some d' =>
        rw [q] at e; cases e
        refine ⟨grow F H os, O, g.move (grow_same g.le _) (grow_le g.le _) fun a m => ⟨rfl, ?_⟩, h.ice g.le q fun _ m => m, ⟨grow_same g.le _, fun a o e _ => e, fun a e1 e2 => ?_, fun a m => .inl (.inl m)⟩⟩
        · unfold grow; rw [if_neg fun z => dj a z m]; exact (g.there a m).2
        · unfold grow at e2
          by_cases z : a ∈ os
          · exact .inr (.inr z)
          · rw [if_neg z] at e2; exact absurd e1 e2
  | pth i ks =>
    cases ks with
    | cons k ks => cases e
    | nil =>
      simp only [frz] at e
      cases q0 : Γ[i]? with
      | none => rw [q0] at e; cases e
      | some oc =>
        cases oc with
        | none => rw [q0] at e; cases e
        | some c =>
          rw [q0] at e
          cases q : c.view with
          | none => simp only [q] at e; cases e
          | some d' =>
            simp only [q] at e; cases e
            obtain ⟨w, ew, r⟩ := g.cell i c q0
            cases h with
            | pth e1 p =>
              cases p
              rw [e1] at ew; cases ew
              have D := r.ice g.le q (os' := O i) fun _ m => m
              have g1 : RepG K (grow F H (O i)) H σ (Γ.set i none) (Osub O i []) := (g.drop (i := i)).move (grow_same g.le _) (grow_le g.le _) fun a m => ⟨rfl, by
                obtain ⟨j, m⟩ := m
                by_cases hj : j = i
                · subst hj; rw [Osub_same] at m; cases m
                · rw [Osub_ne hj] at m
                  unfold grow; rw [if_neg fun z => hj (g.dj j i a m z)]; exact (g.there a ⟨j, m⟩).2⟩
              have g2 := g1.putV (i := i) (c := .dat d) (os := []) (by exact e1) (.dat D) .nil (fun a m => by cases m)
              refine ⟨grow F H (O i), Osub (Osub O i []) i [], ?_, D, ⟨grow_same g.le _, fun a o e _ => e, fun a e1 e2 => ?_, fun a m => ?_⟩⟩
              · have z : (Γ.set i none).set i (some (C.dat d)) = Γ.set i (some (C.dat d)) := by simp
                rw [z] at g2; exact g2
              · unfold grow at e2
                by_cases z : a ∈ O i
                · exact .inr (.inl ⟨i, z⟩)
                · rw [if_neg z] at e2; exact absurd e1 e2
              · rcases own_sub m with m | m
                · rcases own_sub m with m | m
                  · exact .inl (.inl m)
                  · cases m
                · cases m
end

/-! ### the rules of expressions -/
section
variable {X : Cx} {Γ : Gm} {Kn : KR} {pos : Pos} {a b c e : Expr}
theorem done_dat {F H : Hp} {σ : L2.St} {O : Nat → List Addr} {Q : VK} {d : PyData} {v : V} {Γ' : Gm} (g : RepG X.K F H σ Γ' O)
    (q : ∀ r Γ' F' H' O' v os, Kn r Γ' → RepG X.K F' H' σ Γ' O' → RepR X.K F' H' σ r v os → os.Nodup → (∀ a ∈ os, ¬ Own O' a) → Fut (Own O) F H (OwnT O' os) F' H' → Q v H') (h : Kn (.val (.dat d)) Γ') (r : Dd X.K F v d) : Q v H :=
  q _ _ F H O v [] h g (.val (.dat r)) .nil (fun a m => by cases m) (.refl fun a m => by rcases m with m | m; exact m; cases m)
theorem WPe_int {i : Int} {j : Nat} (h : Kn (.val (.dat (.int i))) Γ) : WPe X (.Constant (.int i) j pos) Γ Kn := fun F H σ O g Q q => WE_of pe_int (done_dat g q h (.int i))
theorem WPe_bl {i : Bool} {j : Nat} (h : Kn (.val (.dat (.bool i))) Γ) : WPe X (.Constant (.bool i) j pos) Γ Kn := fun F H σ O g Q q => WE_of pe_bl (done_dat g q h (.bl i))
theorem WPe_non {j : Nat} (h : Kn (.val (.dat .none)) Γ) : WPe X (.Constant .none j pos) Γ Kn := fun F H σ O g Q q => WE_of pe_non (done_dat g q h .non)
theorem WPe_str {x : Str} {j : Nat} (h : Kn (.val (.dat (.str x))) Γ) : WPe X (.Constant (.str x) j pos) Γ Kn := fun F H σ O g Q q => WE_of pe_str (done_dat g q h (.str x))
def rd (i : Nat) : C → R
  | .dat d => .val (.dat d)
  | .adr a => .val (.adr a)
  | .own _ => .pth i []
  | .seq ns => .val (.seq ns)
theorem WPe_name (i : Nat) {x : Str} {c : C} (hc : Γ[i]? = some (some c)) (h : Kn (rd i c) Γ) (hN : X.N[i]? = some x := by rfl) (hv : Vis X.env.scope x := by first | exact Or.inl rfl | exact Or.inr (Or.inl rfl) | exact Or.inr (Or.inr rfl))
    (hd : (x == ("__debug__" : Str)) = false := by decide) (hcd : (x == ("__classdict__" : Str)) = false := by decide) : WPe X (.Name x pos) Γ Kn := fun F H σ O g Q q => by
  refine WE_of (pe_var hN hv hd hcd) ?_
  obtain ⟨v, e1, r⟩ := g.cell i c hc
  refine ⟨v, e1, ?_⟩
  generalize O i = oi at r
  cases r with
  | dat r => exact done_dat g q h r
  | seq hs => exact q _ _ F H O _ [] h g (.val (.seq hs)) .nil (fun a m => by cases m) (.refl fun a m => by rcases m with m | m; exact m; cases m)
  | adr => exact q _ _ F H O _ [] h g (.val .adr) .nil (fun a m => by cases m) (.refl fun a m => by rcases m with m | m; exact m; cases m)
  | own h1 h2 h3 => exact q _ _ F H O _ [] h g (.pth e1 .nil) .nil (fun a m => by cases m) (.refl fun a m => by rcases m with m | m; exact m; cases m)

/-- what is known of a value that is read: data (as it lies), or a list or tuple (true) whose items are frozen data -/
inductive W where
  | d (d : PyData)
  | s (t : Bool) (ds : List PyData)
def SeeV (K : PySem.W.Frag) (F H : Hp) (v : V) : W → Prop
  | .d d => Dd K H v d
  | .s t ds => ∃ a xs, v = .ref a ∧ (if t = true then SqT K F a xs else H a = some (.lst xs)) ∧ DdAll K F xs ds
def C.dats : List C → Option (List PyData)
  | [] => some []
  | .dat d :: cs => (C.dats cs).map (d :: ·)
  | _ => none
theorem dats_dat : ∀ ds : List PyData, C.dats (ds.map .dat) = some ds
  | [] => rfl
  | d :: ds => by rw [List.map_cons, C.dats, dats_dat ds]; rfl
def C.items : C → Option (Bool × List PyData)
  | .dat (.list ds) => some (false, ds)
  | .dat (.tuple ds) => some (true, ds)
  | .own cs => (C.dats cs).map (false, ·)
  | _ => none
def iv (Γ : Gm) : R → Option (Bool × List PyData)
  | .val c => c.items
  | .pth i ks => match Γ[i]? with
    | some (some c) => match C.at c ks with
      | some c' => c'.items
      | none => none
    | _ => none
def Sees (Γ : Gm) (r : R) : W → Prop
  | .d d => vw Γ r = some d
  | .s t ds => iv Γ r = some (t, ds)
theorem dats_ok {K : PySem.W.Frag} {F H : Hp} : ∀ {cs : List C} {vs : List V} {os : List Addr} {ds : List PyData}, RepCs K F H cs vs os → C.dats cs = some ds → DdAll K F vs ds
  | [], _, _, _, .nil, e => by cases e; exact .nil
  | c :: cs, _, _, _, .cons h1 h2, e => by
    cases c with
    | dat d =>
      simp only [C.dats] at e
      cases q : C.dats cs with
      | none => rw [q] at e; cases e
      | some ds =>
        rw [q] at e; cases e
        cases h1 with | dat h1 => exact .cons h1 (dats_ok h2 q)
    | own _ => cases e
    | adr _ => cases e
    | seq _ => cases e
theorem items_ok {K : PySem.W.Frag} {F H : Hp} (le : Same F H) {c : C} {v : V} {os : List Addr} {t : Bool} {ds : List PyData} (r : RepC K F H c v os) (e : c.items = some (t, ds)) : SeeV K F H v (.s t ds) := by
  cases r with
  | dat h =>
    cases h with
    | lst q a => cases e; exact ⟨_, _, rfl, by rw [if_neg (by decide)]; exact le _ _ q, a⟩
    | tup q a => cases e; exact ⟨_, _, rfl, by rw [if_pos rfl]; exact q, a⟩
    | _ => cases e
  | adr => cases e
  | seq _ => cases e
  | own h1 h2 h3 =>
    rename_i p xs cs os0
    simp only [C.items] at e
    cases q : C.dats cs with
    | none => rw [q] at e; cases e
    | some ds' => rw [q] at e; cases e; exact ⟨_, _, rfl, by rw [if_neg (by decide)]; exact h1, dats_ok h3 q⟩
theorem Sees.ok {K : PySem.W.Frag} {F H : Hp} {σ : L2.St} {O : Nat → List Addr} (g : RepG K F H σ Γ O) {r : R} {v : V} {os : List Addr} {w : W} (h : RepR K F H σ r v os) (e : Sees Γ r w) : SeeV K F H v w := by
  cases w with
  | d d => exact vw_ok g h e
  | s t ds =>
    have e : iv Γ r = some (t, ds) := e
    cases r with
    | val c => cases h with | val h => exact items_ok g.le h e
    | pth i ks =>
      simp only [iv] at e
      cases q : Γ[i]? with
      | none => rw [q] at e; cases e
      | some oc =>
        cases oc with
        | none => rw [q] at e; cases e
        | some c =>
          rw [q] at e
          cases q2 : C.at c ks with
          | none => simp only [q2] at e; cases e
          | some c' =>
            simp only [q2] at e
            obtain ⟨os', r, _⟩ := g.at h q q2
            exact items_ok g.le r e
/-- an operation on values of which so much is known -/
def OpD (X : Cx) (f : Value → Value → Sem Value) (d e : W) (c : C) : Prop := ∀ (F H : Hp) (x y : V) (Q : VK), Same F H → SeeV X.K F H x d → SeeV X.K F H y e →
  (∀ F' H' v os, RepC X.K F' H' c v os → os.Nodup → Same F' H' → Fut (fun _ => False) F H (· ∈ os) F' H' → Q v H') → ∃ r : R2, OpR X f r ∧ r x y H Q
/-- any rule for an operation -/
def rAny2 (X : Cx) (f : Value → Value → Sem Value) : R2 := fun x y H Q => ∃ r : R2, OpR X f r ∧ r x y H Q
theorem OpR_any {X : Cx} {f : Value → Value → Sem Value} : OpR X f (rAny2 X f) := fun pins s σ H x y v u Q I rx ry ⟨r, ho, hr⟩ => ho pins s σ H x y v u Q I rx ry hr
theorem RepG.beside {F H F' H' : Hp} {σ : L2.St} {O : Nat → List Addr} {P' : Addr → Prop} {K : PySem.W.Frag} (g : RepG K F H σ Γ O) (le' : Same F' H') (f : Fut (fun _ => False) F H P' F' H') : RepG K F' H' σ Γ O :=
  g.move f.le le' fun a m => by
    obtain ⟨⟨xs, e⟩, n⟩ := g.there a m
    refine ⟨by rw [f.frame a _ e id, e], ?_⟩
    cases q : F' a with
    | none => rfl
    | some o =>
      rcases f.newF a n (by rw [q]; simp) with z | z
      · rw [e] at z; cases z
      · exact z.elim
/-- the end of a step that lays new objects beside the frame -/
theorem done_new {F H F' H' : Hp} {σ : L2.St} {O : Nat → List Addr} {Q : VK} {c : C} {v : V} {os : List Addr} {Γ' : Gm} (g : RepG X.K F H σ Γ' O)
    (q : ∀ r Γ' F' H' O' v os, Kn r Γ' → RepG X.K F' H' σ Γ' O' → RepR X.K F' H' σ r v os → os.Nodup → (∀ a ∈ os, ¬ Own O' a) → Fut (Own O) F H (OwnT O' os) F' H' → Q v H') (h : Kn (.val c) Γ')
    (r : RepC X.K F' H' c v os) (nd : os.Nodup) (le' : Same F' H') (f : Fut (fun _ => False) F H (· ∈ os) F' H') : Q v H' :=
  q _ _ F' H' O v os h (g.beside le' f) (.val r) nd (fun a m z => by
    obtain ⟨⟨xs, e⟩, n⟩ := g.there a z
    rcases f.newO a m with p | p
    · exact p
    · rw [e] at p; cases p) ⟨f.le, fun a o e n => f.frame a o e id, fun a e1 e2 => (f.newF a e1 e2).imp id False.elim, fun a m => by
    rcases m with m | m
    · exact .inl m
    · exact (f.newO a m).imp False.elim id⟩
/-- carry an end over a first step -/
theorem chain {F H F1 H1 : Hp} {σ : L2.St} {O O1 : Nat → List Addr} {os : List Addr} {Q : VK} (f : Fut (Own O) F H (OwnT O1 os) F1 H1)
    (q : ∀ r Γ' F' H' O' v os, Kn r Γ' → RepG X.K F' H' σ Γ' O' → RepR X.K F' H' σ r v os → os.Nodup → (∀ a ∈ os, ¬ Own O' a) → Fut (Own O) F H (OwnT O' os) F' H' → Q v H') :
    ∀ r Γ' F' H' O' v os', Kn r Γ' → RepG X.K F' H' σ Γ' O' → RepR X.K F' H' σ r v os' → os'.Nodup → (∀ a ∈ os', ¬ Own O' a) → Fut (OwnT O1 os) F1 H1 (OwnT O' os') F' H' → Q v H' :=
  fun r Γ' F' H' O' v os' k g h nd dj f' => q r Γ' F' H' O' v os' k g h nd dj (f.trans f')
theorem chain1 {F H F1 H1 : Hp} {σ : L2.St} {O O1 : Nat → List Addr} {os : List Addr} {Q : VK} (f : Fut (Own O) F H (OwnT O1 os) F1 H1)
    (q : ∀ r Γ' F' H' O' v os, Kn r Γ' → RepG X.K F' H' σ Γ' O' → RepR X.K F' H' σ r v os → os.Nodup → (∀ a ∈ os, ¬ Own O' a) → Fut (Own O) F H (OwnT O' os) F' H' → Q v H') :
    ∀ r Γ' F' H' O' v os', Kn r Γ' → RepG X.K F' H' σ Γ' O' → RepR X.K F' H' σ r v os' → os'.Nodup → (∀ a ∈ os', ¬ Own O' a) → Fut (Own O1) F1 H1 (OwnT O' os') F' H' → Q v H' :=
  fun r Γ' F' H' O' v os' k g h nd dj f' => q r Γ' F' H' O' v os' k g h nd dj (f.trans (f'.pre fun a m => .inl m))
/-- two operands from the left -/
theorem WPe_two {F H : Hp} {σ : L2.St} {O : Nat → List Addr} {Kb : R → R → Gm → Prop} (h : WPe X a Γ fun x Γ1 => x.stab = true ∧ WPe X b Γ1 fun y Γ2 => Kb x y Γ2) (g : RepG X.K F H σ Γ O) {R : V → V → Hp → Prop}
    (q : ∀ x y Γ2 F2 H2 O2 v1 v2 os1 os2, Kb x y Γ2 → RepG X.K F2 H2 σ Γ2 O2 → RepR X.K F2 H2 σ x v1 os1 → RepR X.K F2 H2 σ y v2 os2 → Fut (Own O) F H (Own O2) F2 H2 → R v1 v2 H2) :
    WE X a σ H fun v H1 => WE X b σ H1 fun w H2 => R v w H2 := by
  refine h F H σ O g _ fun x Γ1 F1 H1 O1 v1 os1 k1 g1 r1 nd1 dj1 f1 => ?_
  obtain ⟨st, k1⟩ := k1
  refine k1 F1 H1 σ O1 g1 _ fun y Γ2 F2 H2 O2 v2 os2 k2 g2 r2 nd2 dj2 f2 => ?_
  exact q x y Γ2 F2 H2 O2 v1 v2 os1 os2 k2 g2 (r1.fut st f2 dj1) r2 ((f1.post fun a m => .inl m).trans (f2.post fun a m => .inl m))
theorem od_run {f : Value → Value → Sem Value} {w1 w2 : W} {c : C} (od : OpD X f w1 w2 c) {F H F2 H2 : Hp} {σ : L2.St} {O O2 : Nat → List Addr} {Γ2 : Gm} {x y : R} {v1 v2 : V} {os1 os2 : List Addr} {Q : VK} (g2 : RepG X.K F2 H2 σ Γ2 O2)
    (r1 : RepR X.K F2 H2 σ x v1 os1) (r2 : RepR X.K F2 H2 σ y v2 os2) (e1 : Sees Γ2 x w1) (e2 : Sees Γ2 y w2) (f2 : Fut (Own O) F H (Own O2) F2 H2) (k : Kn (.val c) Γ2)
    (q : ∀ r Γ' F' H' O' v os, Kn r Γ' → RepG X.K F' H' σ Γ' O' → RepR X.K F' H' σ r v os → os.Nodup → (∀ a ∈ os, ¬ Own O' a) → Fut (Own O) F H (OwnT O' os) F' H' → Q v H') : rAny2 X f v1 v2 H2 Q :=
  od F2 H2 v1 v2 Q g2.le (e1.ok g2 r1) (e2.ok g2 r2) fun F' H' v os rc nd le' f' => done_new g2 (fun r Γ' F' H' O' v os k g h nd dj f' => q r Γ' F' H' O' v os k g h nd dj (f2.trans f')) k rc nd le' f'
theorem WPe_bin {op : Operator} (h : WPe X a Γ fun x Γ1 => x.stab = true ∧ WPe X b Γ1 fun y Γ2 => ∃ w1 w2 c, Sees Γ2 x w1 ∧ Sees Γ2 y w2 ∧ OpD X (binaryOp op) w1 w2 c ∧ Kn (.val c) Γ2) :
    WPe X (.BinOp a op b pos) Γ Kn := fun F H σ O g Q q =>
  WE_of (pe_op OpR_any pe_W pe_W) (WPe_two h g fun x y Γ2 F2 H2 O2 v1 v2 os1 os2 ⟨w1, w2, c, e1, e2, od, k⟩ g2 r1 r2 f => od_run od g2 r1 r2 e1 e2 f k q)
/-- a comparison, its value -/
theorem WPe_cmp {op : CmpOp} (h : WPe X a Γ fun x Γ1 => x.stab = true ∧ WPe X b Γ1 fun y Γ2 => ∃ w1 w2 k, Sees Γ2 x w1 ∧ Sees Γ2 y w2 ∧ OpD X (compareOp op) w1 w2 (.dat (.bool k)) ∧ Kn (.val (.dat (.bool k))) Γ2)
    (hm : behindInMarks op b = false := by first | exact nomark _ | rfl) : WPe X (.Compare a [op] [b] pos) Γ Kn := fun F H σ O g Q q =>
  WE_of (pe_cmpR OpR_any pe_W pe_W hm) (WPe_two h g fun x y Γ2 F2 H2 O2 v1 v2 os1 os2 ⟨w1, w2, c, e1, e2, od, k⟩ g2 r1 r2 f => od_run od g2 r1 r2 e1 e2 f k q)
theorem WPt_cmp {op : CmpOp} {Kt : Bool → Gm → Prop} (h : WPe X a Γ fun x Γ1 => x.stab = true ∧ WPe X b Γ1 fun y Γ2 => ∃ w1 w2 k, Sees Γ2 x w1 ∧ Sees Γ2 y w2 ∧ OpD X (compareOp op) w1 w2 (.dat (.bool k)) ∧ Kt k Γ2)
    (hm : behindInMarks op b = false := by first | exact nomark _ | rfl) : WPt X (.Compare a [op] [b] pos) Γ Kt := fun F H σ O g Q q =>
  WT_of (pt_cmpR OpR_any pe_W pe_W hm) (WPe_two h g fun x y Γ2 F2 H2 O2 v1 v2 os1 os2 ⟨w1, w2, c, e1, e2, od, k⟩ g2 r1 r2 f =>
    od_run (Kn := fun r Γ' => r = .val (.dat (.bool c)) ∧ Kt c Γ') od g2 r1 r2 e1 e2 f ⟨rfl, k⟩ fun r Γ' F' H' O' v os ⟨er, k⟩ g h nd dj f => by
      subst er
      cases h with | val h => cases h with | dat h => exact ⟨c, h.bl_inv, q _ _ _ _ _ k g (f.post fun a m => .inl m)⟩)
end
end G
namespace G
open PySem PySem.Spec PyProof.Rows L2
section
variable {X : Cx} {Γ : Gm} {Kn : KR} {pos : Pos} {a b c e : Expr}

theorem od_dat {f : Value → Value → Sem Value} {w1 w2 : W} {z : PyData} (h : ∀ (F H : Hp) (x y : V) (Q : VK), Same F H → SeeV X.K F H x w1 → SeeV X.K F H y w2 → (∀ v, Dd X.K F v z → Q v H) → ∃ r : R2, OpR X f r ∧ r x y H Q) : OpD X f w1 w2 (.dat z) :=
  fun F H x y Q le hx hy q => h F H x y Q le hx hy fun v hv => q F H v [] (.dat hv) .nil le (.refl fun a m => by cases m)
theorem see_int {K : PySem.W.Frag} {F H : Hp} {x : V} {i : Int} (h : SeeV K F H x (.d (.int i))) : x = .int i := Dd.int_inv h
theorem see_bl {K : PySem.W.Frag} {F H : Hp} {x : V} {i : Bool} (h : SeeV K F H x (.d (.bool i))) : x = .bl i := Dd.bl_inv h
theorem see_str {K : PySem.W.Frag} {F H : Hp} {x : V} {i : Str} (h : SeeV K F H x (.d (.str i))) : x = .str i := Dd.str_inv h
theorem see_non {K : PySem.W.Frag} {F H : Hp} {x : V} (h : SeeV K F H x (.d .none)) : x = .non := Dd.non_inv h
theorem od_int {f : Value → Value → Sem Value} {i j : Int} {Cd : Int → Int → Prop} {g : Int → Int → Int} (ho : OpR X f (rI Cd fun i j => .int (g i j))) (hc : Cd i j) : OpD X f (.d (.int i)) (.d (.int j)) (.dat (.int (g i j))) :=
  od_dat fun F H x y Q le hx hy q => ⟨_, ho, i, j, see_int hx, see_int hy, hc, q _ (.int _)⟩
theorem od_int0 {f : Value → Value → Sem Value} {i j : Int} {g : Int → Int → Int} (ho : OpR X f (rI0 fun i j => .int (g i j))) : OpD X f (.d (.int i)) (.d (.int j)) (.dat (.int (g i j))) :=
  od_dat fun F H x y Q le hx hy q => ⟨_, ho, i, j, see_int hx, see_int hy, q _ (.int _)⟩
theorem od_bl0 {f : Value → Value → Sem Value} {i j : Int} {g : Int → Int → Bool} (ho : OpR X f (rI0 fun i j => .bl (g i j))) : OpD X f (.d (.int i)) (.d (.int j)) (.dat (.bool (g i j))) :=
  od_dat fun F H x y Q le hx hy q => ⟨_, ho, i, j, see_int hx, see_int hy, q _ (.bl _)⟩
theorem od_add {i j : Int} : OpD X (binaryOp .Add) (.d (.int i)) (.d (.int j)) (.dat (.int (i + j))) := od_int0 (g := fun i j => i + j) op_add
theorem od_sub {i j : Int} : OpD X (binaryOp .Sub) (.d (.int i)) (.d (.int j)) (.dat (.int (i - j))) := od_int0 (g := fun i j => i - j) op_sub
theorem od_iadd {i j : Int} : OpD X (inplaceOp .Add) (.d (.int i)) (.d (.int j)) (.dat (.int (i + j))) := od_int0 (g := fun i j => i + j) iop_add
theorem od_isub {i j : Int} : OpD X (inplaceOp .Sub) (.d (.int i)) (.d (.int j)) (.dat (.int (i - j))) := od_int0 (g := fun i j => i - j) iop_sub
theorem od_mul {i j : Int} (h : CMulW i j) : OpD X (binaryOp .Mult) (.d (.int i)) (.d (.int j)) (.dat (.int (i * j))) := od_int (g := fun i j => i * j) op_mulW h
theorem od_div {i j : Int} (h : CDivW i j) : OpD X (binaryOp .FloorDiv) (.d (.int i)) (.d (.int j)) (.dat (.int (i / j))) := od_int (g := fun i j => i / j) op_fdivW h
theorem od_mod {i j : Int} (h : 0 < j) : OpD X (binaryOp .Mod) (.d (.int i)) (.d (.int j)) (.dat (.int (i % j))) := od_int (g := fun i j => i % j) op_mod h
theorem od_shr {i j : Int} (h : 0 ≤ j) : OpD X (binaryOp .RShift) (.d (.int i)) (.d (.int j)) (.dat (.int (i / 2 ^ j.toNat))) := od_int (g := fun i j => i / 2 ^ j.toNat) op_shr h
theorem od_shl {i j : Int} (h : CPow i j) : OpD X (binaryOp .LShift) (.d (.int i)) (.d (.int j)) (.dat (.int (i * 2 ^ j.toNat))) := od_int (g := fun i j => i * 2 ^ j.toNat) op_shl h
theorem od_pow {i j : Int} (h : CPow i j) : OpD X (binaryOp .Pow) (.d (.int i)) (.d (.int j)) (.dat (.int (i ^ j.toNat))) := od_int (g := fun i j => i ^ j.toNat) op_pow h
theorem od_and {i j : Int} : OpD X (binaryOp .BitAnd) (.d (.int i)) (.d (.int j)) (.dat (.int (Builtin.bitAnd i j))) := od_int0 op_and
theorem od_or {i j : Int} : OpD X (binaryOp .BitOr) (.d (.int i)) (.d (.int j)) (.dat (.int (Builtin.bitOr i j))) := od_int0 op_or
theorem od_lt {i j : Int} : OpD X (compareOp .Lt) (.d (.int i)) (.d (.int j)) (.dat (.bool (decide (i < j)))) := od_bl0 (g := fun i j => decide (i < j)) op_lt
theorem od_le {i j : Int} : OpD X (compareOp .LtE) (.d (.int i)) (.d (.int j)) (.dat (.bool (decide (i ≤ j)))) := od_bl0 (g := fun i j => decide (i ≤ j)) op_le
theorem od_gt {i j : Int} : OpD X (compareOp .Gt) (.d (.int i)) (.d (.int j)) (.dat (.bool (decide (j < i)))) := od_bl0 (g := fun i j => decide (j < i)) op_gt
theorem od_ge {i j : Int} : OpD X (compareOp .GtE) (.d (.int i)) (.d (.int j)) (.dat (.bool (decide (j ≤ i)))) := od_bl0 (g := fun i j => decide (j ≤ i)) op_ge
/-- == and != : of two ints, bools, texts without a look at their shapes -/
theorem od_eqI {i j : Int} : OpD X (compareOp .Eq) (.d (.int i)) (.d (.int j)) (.dat (.bool (decide (i = j)))) :=
  od_dat fun F H x y Q le hx hy q => ⟨_, op_eq, by rw [see_int hx, see_int hy]; exact ⟨rfl, q _ (by rw [show decide (V.int i = V.int j) = decide (i = j) by rw [dec_int, Bool.beq_eq_decide_eq]]; exact .bl _)⟩⟩
theorem od_neI {i j : Int} : OpD X (compareOp .NotEq) (.d (.int i)) (.d (.int j)) (.dat (.bool (!decide (i = j)))) :=
  od_dat fun F H x y Q le hx hy q => ⟨_, op_ne, by rw [see_int hx, see_int hy]; exact ⟨rfl, q _ (by rw [show decide (V.int i = V.int j) = decide (i = j) by rw [dec_int, Bool.beq_eq_decide_eq]]; exact .bl _)⟩⟩
theorem od_eqB {i j : Bool} : OpD X (compareOp .Eq) (.d (.bool i)) (.d (.bool j)) (.dat (.bool (i == j))) :=
  od_dat fun F H x y Q le hx hy q => ⟨_, op_eq, by rw [see_bl hx, see_bl hy]; exact ⟨rfl, q _ (by rw [dec_bl]; exact .bl _)⟩⟩
theorem od_neB {i j : Bool} : OpD X (compareOp .NotEq) (.d (.bool i)) (.d (.bool j)) (.dat (.bool (i != j))) :=
  od_dat fun F H x y Q le hx hy q => ⟨_, op_ne, by rw [see_bl hx, see_bl hy]; exact ⟨rfl, q _ (by rw [dec_bl]; exact .bl _)⟩⟩
theorem od_eqS {i j : Str} : OpD X (compareOp .Eq) (.d (.str i)) (.d (.str j)) (.dat (.bool (i == j))) :=
  od_dat fun F H x y Q le hx hy q => ⟨_, op_eq, by rw [see_str hx, see_str hy]; exact ⟨rfl, q _ (by rw [dec_str]; exact .bl _)⟩⟩
theorem od_neS {i j : Str} : OpD X (compareOp .NotEq) (.d (.str i)) (.d (.str j)) (.dat (.bool (i != j))) :=
  od_dat fun F H x y Q le hx hy q => ⟨_, op_ne, by rw [see_str hx, see_str hy]; exact ⟨rfl, q _ (by rw [dec_str]; exact .bl _)⟩⟩
theorem od_eqD {d e : PyData} (hu : X.A.units + 64 < cLine) (h1 : SeqAt.shaped d = true) (h2 : SeqAt.shaped e = true) : OpD X (compareOp .Eq) (.d d) (.d e) (.dat (.bool (PyData.eqv d e))) :=
  od_dat fun F H x y Q le hx hy q => ⟨_, op_eqD hu, d, e, Dd.dp _ _ hx, Dd.dp _ _ hy, h1, h2, q _ (.bl _)⟩
theorem od_neD {d e : PyData} (hu : X.A.units + 64 < cLine) (h1 : SeqAt.shaped d = true) (h2 : SeqAt.shaped e = true) : OpD X (compareOp .NotEq) (.d d) (.d e) (.dat (.bool (!PyData.eqv d e))) :=
  od_dat fun F H x y Q le hx hy q => ⟨_, op_neD hu, d, e, Dd.dp _ _ hx, Dd.dp _ _ hy, h1, h2, q _ (.bl _)⟩
def isNon : PyData → Bool
  | .none => true
  | _ => false
theorem dp_non {K : PySem.W.Frag} {H : Hp} {x : V} {d : PyData} (h : Dd K H x d) : decide (x = V.non) = isNon d := by
  cases h <;> simp [isNon]
theorem od_isN {d : PyData} : OpD X (compareOp .Is) (.d d) (.d .none) (.dat (.bool (isNon d))) :=
  od_dat fun F H x y Q le hx hy q => ⟨_, op_isN, see_non hy, q _ (by rw [dp_non hx]; exact .bl _)⟩
theorem od_notN {d : PyData} : OpD X (compareOp .IsNot) (.d d) (.d .none) (.dat (.bool (!isNon d))) :=
  od_dat fun F H x y Q le hx hy q => ⟨_, op_notN, see_non hy, q _ (by rw [dp_non hx]; exact .bl _)⟩
theorem od_isB {i j : Bool} : OpD X (compareOp .Is) (.d (.bool i)) (.d (.bool j)) (.dat (.bool (decide (i = j)))) :=
  od_dat fun F H x y Q le hx hy q => ⟨_, op_isBl, i, j, see_bl hx, see_bl hy, q _ (.bl _)⟩
theorem od_notB {i j : Bool} : OpD X (compareOp .IsNot) (.d (.bool i)) (.d (.bool j)) (.dat (.bool (!decide (i = j)))) :=
  od_dat fun F H x y Q le hx hy q => ⟨_, op_notBl, i, j, see_bl hx, see_bl hy, q _ (.bl _)⟩
theorem od_adds {i j : Str} (h : i.length + j.length ≤ sizeLine) : OpD X (binaryOp .Add) (.d (.str i)) (.d (.str j)) (.dat (.str (i ++ j))) :=
  od_dat fun F H x y Q le hx hy q => ⟨_, op_add_str, i, j, see_str hx, see_str hy, h, q _ (.str _)⟩

/-! ### a new object beside all that stands -/
theorem free_F {F H : Hp} {p : Addr} (le : Same F H) (hp : H p = none) : F p = none := by
  cases q : F p with
  | none => rfl
  | some o => rw [le p o q] at hp; cases hp
theorem repcs_dat {K : PySem.W.Frag} {F H : Hp} : ∀ {xs : List V} {ds : List PyData}, DdAll K F xs ds → RepCs K F H (ds.map .dat) xs []
  | _, _, .nil => .nil
  | _, _, .cons a b => RepCs.cons (o1 := []) (o2 := []) (.dat a) (repcs_dat b)
theorem fresh_lst {K : PySem.W.Frag} {F H : Hp} {p : Addr} {xs : List V} {ds : List PyData} (le : Same F H) (hp : H p = none) (fl : DdAll K F xs ds) :
    RepC K F (upd H p (.lst xs)) (.own (ds.map .dat)) (.ref p) [p] := .own upd_same (free_F le hp) (repcs_dat fl)
theorem fut_new {F H : Hp} {p : Addr} {o : HO} (hp : H p = none) : Fut (fun _ => False) F H (· ∈ [p]) F (upd H p o) :=
  ⟨.refl _, fun a o e _ => by rw [upd_ne (ne_of_none e hp)]; exact e, fun a e1 e2 => absurd e1 e2, fun a m => .inr (by simp at m; subst m; exact hp)⟩
theorem same_new {F H : Hp} {p : Addr} {o : HO} (le : Same F H) (hp : H p = none) : Same F (upd H p o) := fun a o e => by rw [upd_ne (ne_of_none (le a o e) hp)]; exact le a o e
/-- a new frozen object -/
theorem fut_ice {F H : Hp} {p : Addr} {o : HO} (hp : H p = none) (le : Same F H) : Fut (fun _ => False) F H (· ∈ []) (upd F p o) (upd H p o) :=
  ⟨same_new (.refl _) (free_F le hp), fun a o e _ => by rw [upd_ne (ne_of_none e hp)]; exact e, fun a e1 e2 => by
    by_cases z : a = p
    · subst z; exact .inl hp
    · rw [upd_ne z] at e2; exact absurd e1 e2, fun a m => by cases m⟩
theorem same_ice {F H : Hp} {p : Addr} {o : HO} (le : Same F H) : Same (upd F p o) (upd H p o) := fun a o e => by
  by_cases z : a = p
  · subst z; rw [upd_same] at e ⊢; exact e
  · rw [upd_ne z] at e ⊢; exact le a o e
theorem fresh_tup {K : PySem.W.Frag} {F H : Hp} {p : Addr} {xs : List V} {ds : List PyData} (le : Same F H) (hp : H p = none) (fl : DdAll K F xs ds) : Dd K (upd F p (.tup xs)) (.ref p) (.tuple ds) :=
  .tup (.of upd_same) (DdAll.up (same_new (.refl _) (free_F le hp)) _ _ fl)
theorem od_lst {f : Value → Value → Sem Value} {w1 w2 : W} {ds : List PyData} (h : ∀ (F H : Hp) (x y : V) (Q : VK), Same F H → SeeV X.K F H x w1 → SeeV X.K F H y w2 → (∀ xs, DdAll X.K F xs ds → ∀ p, H p = none → Q (.ref p) (upd H p (.lst xs))) → ∃ r : R2, OpR X f r ∧ r x y H Q) : OpD X f w1 w2 (.own (ds.map .dat)) :=
  fun F H x y Q le hx hy q => h F H x y Q le hx hy fun xs fl p hp => q F _ _ _ (fresh_lst le hp fl) (by simp) (same_new le hp) (fut_new hp)
theorem od_tup {f : Value → Value → Sem Value} {w1 w2 : W} {ds : List PyData} (h : ∀ (F H : Hp) (x y : V) (Q : VK), Same F H → SeeV X.K F H x w1 → SeeV X.K F H y w2 → (∀ v, Dd X.K F v (.tuple ds) → Q v H) → (∀ xs, DdAll X.K F xs ds → ∀ p, H p = none → Q (.ref p) (upd H p (.tup xs))) → ∃ r : R2, OpR X f r ∧ r x y H Q) : OpD X f w1 w2 (.dat (.tuple ds)) :=
  fun F H x y Q le hx hy q => h F H x y Q le hx hy (fun v hv => q F H v [] (.dat hv) .nil le (.refl fun a m => by cases m)) fun xs fl p hp => q _ _ _ _ (.dat (fresh_tup le hp fl)) .nil (same_ice le) (fut_ice hp le)
end

/-! ### list + list, of read lists -/
section
variable {X : Cx}
theorem od_catL {ds es : List PyData} (h : ds.length + es.length ≤ sizeLine) : OpD X (binaryOp .Add) (.s false ds) (.s false es) (.own ((ds ++ es).map .dat)) :=
  od_lst fun F H x y Q le hx hy q => by
    obtain ⟨a, xs, rfl, hr, ha⟩ := hx
    obtain ⟨b, zs, rfl, hb, hc⟩ := hy
    exact ⟨_, op_cat, a, b, xs, zs, rfl, rfl, hr, hb, by rw [ha.length, hc.length]; exact h, q _ (ha.app hc)⟩
theorem od_catT {ds es : List PyData} (h : ds.length + es.length ≤ sizeLine) : OpD X (binaryOp .Add) (.s true ds) (.s true es) (.dat (.tuple (ds ++ es))) :=
  od_tup fun F H x y Q le hx hy q1 q2 => by
    obtain ⟨a, xs, rfl, hr, ha⟩ := hx
    obtain ⟨b, zs, rfl, hb, hc⟩ := hy
    have hr : SqT X.K F a xs := hr
    have hb : SqT X.K F b zs := hb
    refine ⟨_, op_catA, a, b, xs, zs, rfl, rfl, sqT_up le hr, sqT_up le hb, by rw [ha.length, hc.length]; exact h, fun e => ?_, fun e1 e2 => ?_, fun e1 e2 p hp => q2 _ (ha.app hc) p hp⟩
    · subst e; cases ha; exact q1 _ (.tup hb hc)
    · subst e2; cases hc; rw [List.append_nil] at q1; exact q1 _ (.tup hr ha)
/-- [..] * k -/
theorem od_repL {ds : List PyData} {k : Int} (h1 : -(2 ^ 63) ≤ k) (h2 : k < 2 ^ 63) (h : ds.length * k.toNat ≤ sizeLine) : OpD X (binaryOp .Mult) (.s false ds) (.d (.int k)) (.own ((List.replicate k.toNat ds).flatten.map .dat)) :=
  od_lst fun F H x y Q le hx hy q => by
    obtain ⟨a, xs, rfl, hr, ha⟩ := hx
    exact ⟨_, op_rep, a, k, xs, rfl, see_int hy, hr, h1, h2, by rw [ha.length]; exact h, q _ (ha.rep _)⟩
/-! ### in, not in: among items that are flat -/
def flatD : PyData → Bool
  | .none => true
  | .bool _ => true
  | .int _ => true
  | .str _ => true
  | _ => false
/-- the flat value of flat data -/
def valD : PyData → V
  | .none => .non
  | .bool b => .bl b
  | .int i => .int i
  | .str s => .str s
  | _ => .non
theorem flat_val {K : PySem.W.Frag} {H : Hp} {v : V} {d : PyData} (h : Dd K H v d) (f : flatD d = true) : v = valD d ∧ flatV v = true := by
  cases h <;> first | exact ⟨rfl, rfl⟩ | cases f
theorem flat_vals {K : PySem.W.Frag} {H : Hp} : ∀ {vs : List V} {ds : List PyData}, DdAll K H vs ds → ds.all flatD = true → vs = ds.map valD ∧ vs.all flatV = true
  | _, _, .nil, _ => ⟨rfl, rfl⟩
  | _, _, .cons a b, f => by
    rw [List.all_cons, Bool.and_eq_true] at f
    obtain ⟨e1, f1⟩ := flat_val a f.1
    obtain ⟨e2, f2⟩ := flat_vals b f.2
    exact ⟨by rw [List.map_cons, ← e1, ← e2], by rw [List.all_cons, f1, f2]; rfl⟩
def inD (d : PyData) (ds : List PyData) : Bool := inV (valD d) (ds.map valD)
theorem od_in {t : Bool} {d : PyData} {ds : List PyData} (h1 : flatD d = true) (h2 : ds.all flatD = true) : OpD X (compareOp .In) (.d d) (.s t ds) (.dat (.bool (inD d ds))) :=
  od_dat fun F H x y Q le hx hy q => by
    obtain ⟨a, xs, rfl, hr, ha⟩ := hy
    obtain ⟨e1, f1⟩ := flat_val hx h1
    obtain ⟨e2, f2⟩ := flat_vals ha h2
    refine ⟨_, op_in_seq, a, xs, rfl, ?_, f1, f2, ?_⟩
    · cases t with
      | true => exact .inr (sqT_up le hr)
      | false => exact .inl (.of hr)
    · rw [e1, e2]; exact q _ (.bl _)
theorem od_notIn {t : Bool} {d : PyData} {ds : List PyData} (h1 : flatD d = true) (h2 : ds.all flatD = true) : OpD X (compareOp .NotIn) (.d d) (.s t ds) (.dat (.bool (!inD d ds))) :=
  od_dat fun F H x y Q le hx hy q => by
    obtain ⟨a, xs, rfl, hr, ha⟩ := hy
    obtain ⟨e1, f1⟩ := flat_val hx h1
    obtain ⟨e2, f2⟩ := flat_vals ha h2
    refine ⟨_, op_notIn_seq, a, xs, rfl, ?_, f1, f2, ?_⟩
    · cases t with
      | true => exact .inr (sqT_up le hr)
      | false => exact .inl (.of hr)
    · rw [e1, e2]; exact q _ (.bl _)
theorem inD_int {i : Int} {ns : List Int} : inD (.int i) (ns.map .int) = ns.any (fun j => j == i) := by
  unfold inD inV
  rw [List.map_map, List.any_map]
  rfl
/-- t < u of tuples of ints -/
theorem od_ltT {ns ms : List Int} (hu : X.A.units < cLine) : OpD X (compareOp .Lt) (.s true (ns.map .int)) (.s true (ms.map .int)) (.dat (.bool (HT.lexLt ns ms))) :=
  od_dat fun F H x y Q le hx hy q => by
    obtain ⟨a, xs, rfl, hr, ha⟩ := hx
    obtain ⟨b, ys, rfl, hb, hc⟩ := hy
    have hr : SqT X.K F a xs := hr
    have hb : SqT X.K F b ys := hb
    rw [ha.ints] at hr
    rw [hc.ints] at hb
    exact ⟨_, op_ltT hu, a, b, ns, ms, rfl, rfl, sqT_up le hr, sqT_up le hb, q _ (.bl _)⟩
end
end G
namespace G
open PySem PySem.Spec PyProof.Rows L2
section
variable {X : Cx} {Γ : Gm} {Kn : KR} {Kt : Bool → Gm → Prop} {pos : Pos} {a b c e : Expr} {rest : List Expr}

/-! ### tests -/
theorem WPt_val (h : WPe X e Γ fun r Γ1 => ∃ k, vw Γ1 r = some (.bool k) ∧ Kt k Γ1) (he : ∀ whole, isTrue e X.env whole = (do let v ← whole; standAt e.pos; holding [v] (truthy v)) := by intro _; rfl) : WPt X e Γ Kt := fun F H σ O g Q q =>
  WT_of (pt_val pe_W he) (h F H σ O g _ fun r Γ' F' H' O' v os ⟨k, e1, k1⟩ g' h' nd dj f => ⟨k, Dd.bl_inv (vw_ok g' h' e1), q _ _ _ _ _ k1 g' (f.post fun a m => .inl m)⟩)
/-- the truth of read values -/
def truD : W → Option Bool
  | .d .none => some false
  | .d (.bool b) => some b
  | .d (.int i) => some (i != 0)
  | .s _ ds => some !ds.isEmpty
  | _ => none
theorem WPt_truth (h : WPe X e Γ fun r Γ1 => ∃ w k, Sees Γ1 r w ∧ truD w = some k ∧ Kt k Γ1) (he : ∀ whole, isTrue e X.env whole = (do let v ← whole; standAt e.pos; holding [v] (truthy v)) := by intro _; rfl) : WPt X e Γ Kt := fun F H σ O g Q q =>
  WT_of (pt_truth pe_W he) (h F H σ O g _ fun r Γ' F' H' O' v os ⟨w, k, e1, e2, k1⟩ g' h' nd dj f => ⟨k, by
    have s := e1.ok g' h'
    cases w with
    | d d =>
      cases d <;> first | cases e2 | skip
      · rw [Dd.non_inv s]; exact rfl
      · rw [Dd.bl_inv s]; exact rfl
      · rw [Dd.int_inv s]; exact rfl
    | s t ds =>
      cases e2
      obtain ⟨p, xs, rfl, hr, ha⟩ := s
      have e3 : (!ds.isEmpty) = !xs.isEmpty := by cases ha <;> rfl
      rw [e3]
      cases t with
      | true => exact .inr (.inl ⟨xs, sqT_up g'.le hr, rfl⟩)
      | false => exact .inl ⟨xs, .of hr, rfl⟩, q _ _ _ _ _ k1 g' (f.post fun a m => .inl m)⟩)
/-- a test whatever its whole is -/
def WPw (X : Cx) (e : Expr) (Γ : Gm) (Kt : Bool → Gm → Prop) : Prop := ∀ (F H : Hp) (σ : L2.St) (O : Nat → List Addr), RepG X.K F H σ Γ O → ∀ Q : Bool → Hp → Prop,
  (∀ b Γ' F' H' O', Kt b Γ' → RepG X.K F' H' σ Γ' O' → Fut (Own O) F H (Own O') F' H' → Q b H') → ∀ whole pins s, L2.Inv X pins σ H s → wpAny (model X.prog X.w) X.A (isTrue e X.env whole) (TP X pins σ Q) X.xe s
theorem WPt_w (h : WPw X e Γ Kt) : WPt X e Γ Kt := fun F H σ O g Q q pins s I => h F H σ O g Q q _ pins s I
theorem pw_WW {t : TT} (h : ∀ σ H Q, t σ H Q → ∀ whole pins s, L2.Inv X pins σ H s → wpAny (model X.prog X.w) X.A (isTrue e X.env whole) (TP X pins σ Q) X.xe s) : PW X e t := ⟨fun wh pins s σ H Q I q => h σ H Q q wh pins s I⟩
theorem pw_run {t : TT} (h : PW X e t) {σ : L2.St} {H : Hp} {Q : Bool → Hp → Prop} (q : t σ H Q) : ∀ whole pins s, L2.Inv X pins σ H s → wpAny (model X.prog X.w) X.A (isTrue e X.env whole) (TP X pins σ Q) X.xe s := fun wh pins s I => h.run wh pins s σ H Q I q
def WWt (X : Cx) (e : Expr) : TT := fun σ H Q => ∀ whole pins s, L2.Inv X pins σ H s → wpAny (model X.prog X.w) X.A (isTrue e X.env whole) (TP X pins σ Q) X.xe s
theorem pw_W : PW X e (WWt X e) := ⟨fun wh pins s σ H Q I q => q wh pins s I⟩
theorem WPw_and1 (h : WPt X a Γ Kt) : WPw X (.BoolOp .And [a] pos) Γ Kt := fun F H σ O g Q q => pw_run (pw_and1 pt_W) (h F H σ O g Q q)
theorem WPw_or1 (h : WPt X a Γ Kt) : WPw X (.BoolOp .Or [a] pos) Γ Kt := fun F H σ O g Q q => pw_run (pw_or1 pt_W) (h F H σ O g Q q)
theorem WPw_and (h : WPt X a Γ fun k Γ1 => (k = true → WPw X (.BoolOp .And (b :: rest) pos) Γ1 Kt) ∧ (k = false → Kt false Γ1)) : WPw X (.BoolOp .And (a :: b :: rest) pos) Γ Kt := fun F H σ O g Q q =>
  pw_run (pw_and pt_W pw_W) (h F H σ O g _ fun k Γ1 F1 H1 O1 ⟨k1, k2⟩ g1 f1 => by
    cases k with
    | true => exact iteT (k1 rfl F1 H1 σ O1 g1 Q fun b Γ' F' H' O' k g f => q b Γ' F' H' O' k g (f1.trans f))
    | false => exact iteF (q _ _ _ _ _ (k2 rfl) g1 f1))
theorem WPw_or (h : WPt X a Γ fun k Γ1 => (k = false → WPw X (.BoolOp .Or (b :: rest) pos) Γ1 Kt) ∧ (k = true → Kt true Γ1)) : WPw X (.BoolOp .Or (a :: b :: rest) pos) Γ Kt := fun F H σ O g Q q =>
  pw_run (pw_or pt_W pw_W) (h F H σ O g _ fun k Γ1 F1 H1 O1 ⟨k1, k2⟩ g1 f1 => by
    cases k with
    | false => exact iteF (k1 rfl F1 H1 σ O1 g1 Q fun b Γ' F' H' O' k g f => q b Γ' F' H' O' k g (f1.trans f))
    | true => exact iteT (q _ _ _ _ _ (k2 rfl) g1 f1))
theorem WPt_not (h : WPt X a Γ fun k Γ1 => Kt (!k) Γ1) : WPt X (.UnaryOp .Not a pos) Γ Kt := fun F H σ O g Q q =>
  WT_of (pt_not pt_W) (h F H σ O g _ fun k Γ1 F1 H1 O1 k1 g1 f1 => q _ _ _ _ _ k1 g1 f1)

/-! ### and, or, not as values; a if t else b -/
theorem chainT {F H F1 H1 : Hp} {σ : L2.St} {O O1 : Nat → List Addr} {Q : VK} (f : Fut (Own O) F H (Own O1) F1 H1)
    (q : ∀ r Γ' F' H' O' v os, Kn r Γ' → RepG X.K F' H' σ Γ' O' → RepR X.K F' H' σ r v os → os.Nodup → (∀ a ∈ os, ¬ Own O' a) → Fut (Own O) F H (OwnT O' os) F' H' → Q v H') :
    ∀ r Γ' F' H' O' v os', Kn r Γ' → RepG X.K F' H' σ Γ' O' → RepR X.K F' H' σ r v os' → os'.Nodup → (∀ a ∈ os', ¬ Own O' a) → Fut (Own O1) F1 H1 (OwnT O' os') F' H' → Q v H' :=
  fun r Γ' F' H' O' v os' k g h nd dj f' => q r Γ' F' H' O' v os' k g h nd dj (f.trans f')
theorem done_bl {F H F1 H1 : Hp} {σ : L2.St} {O O1 : Nat → List Addr} {Q : VK} {k : Bool} {Γ' : Gm} (g : RepG X.K F1 H1 σ Γ' O1) (f : Fut (Own O) F H (Own O1) F1 H1)
    (q : ∀ r Γ' F' H' O' v os, Kn r Γ' → RepG X.K F' H' σ Γ' O' → RepR X.K F' H' σ r v os → os.Nodup → (∀ a ∈ os, ¬ Own O' a) → Fut (Own O) F H (OwnT O' os) F' H' → Q v H') (h : Kn (.val (.dat (.bool k))) Γ') : Q (.bl k) H1 :=
  q _ _ F1 H1 O1 _ [] h g (.val (.dat (.bl k))) .nil (fun a m => by cases m) (f.post fun a m => by rcases m with m | m; exact m; cases m)
theorem WPe_one {op : BoolOp} (h : WPe X a Γ Kn) : WPe X (.BoolOp op [a] pos) Γ Kn := fun F H σ O g Q q => WE_of (pe_one pe_W) (h F H σ O g Q q)
theorem WPe_and (h : WPe X a Γ fun r Γ1 => ∃ k, vw Γ1 r = some (.bool k) ∧ (k = true → WPe X (.BoolOp .And (b :: rest) pos) Γ1 Kn) ∧ (k = false → Kn (.val (.dat (.bool false))) Γ1)) : WPe X (.BoolOp .And (a :: b :: rest) pos) Γ Kn := fun F H σ O g Q q =>
  WE_of (pe_and pe_W pe_W) (h F H σ O g _ fun r Γ1 F1 H1 O1 v os ⟨k, e1, k1, k2⟩ g1 h1 nd dj f1 => ⟨k, Dd.bl_inv (vw_ok g1 h1 e1), by
    cases k with
    | true => exact iteT (k1 rfl F1 H1 σ O1 g1 Q (chainT (f1.post fun a m => .inl m) q))
    | false => exact iteF (done_bl g1 (f1.post fun a m => .inl m) q (k2 rfl))⟩)
theorem WPe_or (h : WPe X a Γ fun r Γ1 => ∃ k, vw Γ1 r = some (.bool k) ∧ (k = false → WPe X (.BoolOp .Or (b :: rest) pos) Γ1 Kn) ∧ (k = true → Kn (.val (.dat (.bool true))) Γ1)) : WPe X (.BoolOp .Or (a :: b :: rest) pos) Γ Kn := fun F H σ O g Q q =>
  WE_of (pe_or pe_W pe_W) (h F H σ O g _ fun r Γ1 F1 H1 O1 v os ⟨k, e1, k1, k2⟩ g1 h1 nd dj f1 => ⟨k, Dd.bl_inv (vw_ok g1 h1 e1), by
    cases k with
    | false => exact iteF (k1 rfl F1 H1 σ O1 g1 Q (chainT (f1.post fun a m => .inl m) q))
    | true => exact iteT (done_bl g1 (f1.post fun a m => .inl m) q (k2 rfl))⟩)
theorem WPe_not (h : WPe X a Γ fun r Γ1 => ∃ k, vw Γ1 r = some (.bool k) ∧ Kn (.val (.dat (.bool !k))) Γ1) : WPe X (.UnaryOp .Not a pos) Γ Kn := fun F H σ O g Q q =>
  WE_of (pe_not pe_W) (h F H σ O g _ fun r Γ1 F1 H1 O1 v os ⟨k, e1, k1⟩ g1 h1 nd dj f1 => ⟨k, Dd.bl_inv (vw_ok g1 h1 e1), done_bl g1 (f1.post fun a m => .inl m) q k1⟩)
theorem WPe_neg (h : WPe X a Γ fun r Γ1 => ∃ i, vw Γ1 r = some (.int i) ∧ Kn (.val (.dat (.int (-i)))) Γ1) : WPe X (.UnaryOp .USub a pos) Γ Kn := fun F H σ O g Q q =>
  WE_of (pe_un un_neg pe_W) (h F H σ O g _ fun r Γ1 F1 H1 O1 v os ⟨i, e1, k1⟩ g1 h1 nd dj f1 => ⟨i, Dd.int_inv (vw_ok g1 h1 e1),
    q _ _ F1 H1 O1 _ [] k1 g1 (.val (.dat (.int _))) .nil (fun a m => by cases m) (f1.post fun a m => by rcases m with m | m; exact .inl m; cases m)⟩)
theorem WPe_if (h : WPt X c Γ fun k Γ1 => (k = true → WPe X a Γ1 Kn) ∧ (k = false → WPe X b Γ1 Kn)) : WPe X (.IfExp c a b pos) Γ Kn := fun F H σ O g Q q =>
  WE_of (pe_ifExp pt_W pe_W pe_W) (h F H σ O g _ fun k Γ1 F1 H1 O1 ⟨k1, k2⟩ g1 f1 => by
    cases k with
    | true => exact iteT (k1 rfl F1 H1 σ O1 g1 Q (chainT f1 q))
    | false => exact iteF (k2 rfl F1 H1 σ O1 g1 Q (chainT f1 q)))

/-! ### a op b op' c -/
theorem chain_core {op op' : CmpOp} (h : WPe X a Γ fun x Γ1 => x.stab = true ∧ WPe X b Γ1 fun y Γ2 => y.stab = true ∧ ∃ w1 w2 k, Sees Γ2 x w1 ∧ Sees Γ2 y w2 ∧ OpD X (compareOp op) w1 w2 (.dat (.bool k)) ∧
      (k = true → WPe X c Γ2 fun z Γ3 => ∃ w2' w3 k', Sees Γ3 y w2' ∧ Sees Γ3 z w3 ∧ OpD X (compareOp op') w2' w3 (.dat (.bool k')) ∧ Kn (.val (.dat (.bool k'))) Γ3) ∧ (k = false → Kn (.val (.dat (.bool false))) Γ2))
    {F H : Hp} {σ : L2.St} {O : Nat → List Addr} (g : RepG X.K F H σ Γ O) {Q : VK}
    (q : ∀ r Γ' F' H' O' v os, Kn r Γ' → RepG X.K F' H' σ Γ' O' → RepR X.K F' H' σ r v os → os.Nodup → (∀ a ∈ os, ¬ Own O' a) → Fut (Own O) F H (OwnT O' os) F' H' → Q v H') :
    tChain (rAny2 X (compareOp op)) (rAny2 X (compareOp op')) (WE X a) (WE X b) (WE X c) σ H Q := by
  refine h F H σ O g _ fun x Γ1 F1 H1 O1 v1 os1 ⟨st, k1⟩ g1 r1 nd1 dj1 f1 => ?_
  refine k1 F1 H1 σ O1 g1 _ fun y Γ2 F2 H2 O2 v2 os2 ⟨st2, w1, w2, k, e1, e2, od, kt, kf⟩ g2 r2 nd2 dj2 f2 => ?_
  have r1' := r1.fut st f2 dj1
  have f12 : Fut (Own O) F H (OwnT O2 os2) F2 H2 := (f1.post fun a m => .inl m).trans f2
  refine od F2 H2 v1 v2 _ g2.le (e1.ok g2 r1') (e2.ok g2 r2) fun F3 H3 v3 os3 rc nd3 le3 f3 => ?_
  have ev : v3 = .bl k := by cases rc with | dat h => exact h.bl_inv
  have eo : os3 = [] := by cases rc; rfl
  subst ev eo
  refine ⟨k, rfl, ?_⟩
  have f3' : Fut (OwnT O2 os2) F2 H2 (OwnT O2 os2) F3 H3 := (f3.wide (T := OwnT O2 os2)).pre (fun a m => by rcases m with m | m; exact m.elim; exact m) |>.post fun a m => .inr m
  have g3 := g2.beside le3 f3
  cases k with
  | false => exact iteF (done_bl g3 ((f12.trans f3').post fun a m => .inl m) q (kf rfl))
  | true =>
    refine iteT ?_
    have r2' := r2.fut st2 f3 (fun a m z => z)
    refine kt rfl F3 H3 σ O2 g3 _ fun z Γ3 F4 H4 O3 v4 os4 ⟨w2', w3, k', e1', e2', od', kk⟩ g4 r4 nd4 dj4 f4 => ?_
    exact od_run od' g4 (r2'.fut st2 f4 dj2) r4 e1' e2' (((f12.trans f3').post fun a m => .inl m).trans (f4.post fun a m => .inl m)) kk q
theorem WPe_chain {op op' : CmpOp} (h : WPe X a Γ fun x Γ1 => x.stab = true ∧ WPe X b Γ1 fun y Γ2 => y.stab = true ∧ ∃ w1 w2 k, Sees Γ2 x w1 ∧ Sees Γ2 y w2 ∧ OpD X (compareOp op) w1 w2 (.dat (.bool k)) ∧
      (k = true → WPe X c Γ2 fun z Γ3 => ∃ w2' w3 k', Sees Γ3 y w2' ∧ Sees Γ3 z w3 ∧ OpD X (compareOp op') w2' w3 (.dat (.bool k')) ∧ Kn (.val (.dat (.bool k'))) Γ3) ∧ (k = false → Kn (.val (.dat (.bool false))) Γ2))
    (hm : lastMarks [op, op'] [b, c] = false := by with_unfolding_all rfl) : WPe X (.Compare a [op, op'] [b, c] pos) Γ Kn := fun F H σ O g Q q =>
  WE_of (pe_chain OpR_any OpR_any pe_W pe_W pe_W hm) (chain_core h g q)
theorem WPt_chain {op op' : CmpOp} (h : WPe X a Γ fun x Γ1 => x.stab = true ∧ WPe X b Γ1 fun y Γ2 => y.stab = true ∧ ∃ w1 w2 k, Sees Γ2 x w1 ∧ Sees Γ2 y w2 ∧ OpD X (compareOp op) w1 w2 (.dat (.bool k)) ∧
      (k = true → WPe X c Γ2 fun z Γ3 => ∃ w2' w3 k', Sees Γ3 y w2' ∧ Sees Γ3 z w3 ∧ OpD X (compareOp op') w2' w3 (.dat (.bool k')) ∧ Kt k' Γ3) ∧ (k = false → Kt false Γ2))
    (hm : lastMarks [op, op'] [b, c] = false := by with_unfolding_all rfl) : WPt X (.Compare a [op, op'] [b, c] pos) Γ Kt := fun F H σ O g Q q =>
  WT_of (pt_chain OpR_any OpR_any pe_W pe_W pe_W hm) (chain_core (Kn := fun r Γ' => ∃ k, r = .val (.dat (.bool k)) ∧ Kt k Γ')
    (h.mono fun x Γ1 ⟨s, k⟩ => ⟨s, k.mono fun y Γ2 ⟨s2, w1, w2, k, e1, e2, od, kt, kf⟩ => ⟨s2, w1, w2, k, e1, e2, od, fun e => (kt e).mono fun z Γ3 ⟨w2', w3, k', a, b, c, d⟩ => ⟨w2', w3, k', a, b, c, k', rfl, d⟩, fun e => ⟨false, rfl, kf e⟩⟩⟩) g
    fun r Γ' F' H' O' v os ⟨k, er, kk⟩ g h nd dj f => by
      subst er
      cases h with | val h => cases h with | dat h => exact ⟨k, h.bl_inv, q _ _ _ _ _ kk g (f.post fun a m => .inl m)⟩)

/-! ### subscripts -/
def rAnyIx (X : Cx) : R2 := fun x y H Q => ∃ r : R2, IxR X r ∧ r x y H Q
theorem IxR_any : IxR X (rAnyIx X) := fun value slice pins s σ H x y v u Q I rx ry ⟨r, ho, hr⟩ hs => ho value slice pins s σ H x y v u Q I rx ry hr hs
def ixC (i : Int) : C → Option C
  | .dat (.list ds) => (atI ds i).map .dat
  | .dat (.tuple ds) => (atI ds i).map .dat
  | .own cs => match atI cs i with
    | some (.dat d) => some (.dat d)
    | some (.adr a) => some (.adr a)
    | _ => none
  | _ => none
def isOwn : C → Bool
  | .own _ => true
  | _ => false
/-- what x[i] is -/
def ixr (Γ : Gm) (x : R) (i : Int) : Option R := match x with
  | .val c => (ixC i c).map .val
  | .pth j ks => match Γ[j]? with
    | some (some c) => match C.at c ks with
      | some (.own cs) => match ixN cs.length i with
        | some k => match cs[k]? with
          | some (.own _) => some (.pth j (ks ++ [k]))
          | some c' => some (.val c')
          | none => none
        | none => none
      | _ => none
    | _ => none
theorem atI_len {α β : Type} {xs : List α} {ys : List β} {i : Int} {y : β} (h : atI ys i = some y) (e : xs.length = ys.length) : ∃ k, ixN xs.length i = some k ∧ ixN ys.length i = some k ∧ ys[k]? = some y ∧ atI xs i = xs[k]? := by
  unfold atI at h ⊢
  rw [e]
  cases q : ixN ys.length i with
  | none => rw [q] at h; cases h
  | some k => rw [q] at h; exact ⟨k, rfl, rfl, h, rfl⟩
theorem path_snoc {H : Hp} {p : Addr} {xs : List V} {k : Nat} {w : V} (e : H p = some (.lst xs)) (ek : xs[k]? = some w) : ∀ {ks : List Nat} {v0 : V}, PathV H v0 ks (.ref p) → PathV H v0 (ks ++ [k]) w
  | [], v0, h => by cases h; exact .cons e ek .nil
  | k0 :: ks, v0, h => by cases h with | cons a b c => exact .cons a b (path_snoc e ek c)
theorem WPe_ix (h : WPe X a Γ fun x Γ1 => x.stab = true ∧ WPe X b Γ1 fun y Γ2 => ∃ i r, vw Γ2 y = some (.int i) ∧ ixr Γ2 x i = some r ∧ Kn r Γ2) (hs : PlainIx b := by exact fun _ _ => rfl) : WPe X (.Subscript a b pos) Γ Kn := fun F H σ O g Q q =>
  WE_of (pe_ix IxR_any pe_W pe_W hs) (WPe_two h g fun x y Γ2 F2 H2 O2 v1 v2 os1 os2 ⟨i, r, e1, e2, k⟩ g2 r1 r2 f => by
    have ey : v2 = .int i := Dd.int_inv (vw_ok g2 r2 e1)
    subst ey
    cases x with
    | val c =>
      simp only [ixr] at e2
      cases q2 : ixC i c with
      | none => rw [q2] at e2; cases e2
      | some c' =>
        rw [q2] at e2; cases e2
        cases r1 with
        | val rc =>
          have fin : ∀ (d : PyData) (v : V), c' = .dat d → Dd X.K F2 v d → Q v H2 := fun d v e hd => by
            subst e
            exact q _ _ F2 H2 O2 v [] k g2 (.val (.dat hd)) .nil (fun a m => by cases m) (f.post fun a m => by rcases m with m | m; exact m; cases m)
          cases rc with
          | adr => cases q2
          | seq _ => cases q2
          | dat hd =>
            cases hd with
            | lst hl ha =>
              simp only [ixC, Option.map_eq_some_iff] at q2
              obtain ⟨d, q3, rfl⟩ := q2
              obtain ⟨k0, n1, n2, n3, n4⟩ := atI_len q3 ha.length
              obtain ⟨w, w1, w2⟩ := ha.get n3
              exact ⟨_, ix_list, _, _, i, w, rfl, rfl, .of (g2.le _ _ hl), n4.trans w1, fin d w rfl w2⟩
            | tup hl ha =>
              simp only [ixC, Option.map_eq_some_iff] at q2
              obtain ⟨d, q3, rfl⟩ := q2
              obtain ⟨k0, n1, n2, n3, n4⟩ := atI_len q3 ha.length
              obtain ⟨w, w1, w2⟩ := ha.get n3
              exact ⟨_, ix_tup, _, _, i, w, rfl, rfl, sqT_up g2.le hl, n4.trans w1, fin d w rfl w2⟩
            | _ => cases q2
          | own h1 h2 h3 =>
            simp only [ixC] at q2
            split at q2
            · rename_i d q3
              cases q2
              obtain ⟨k0, n1, n2, n3, n4⟩ := atI_len q3 h3.length
              obtain ⟨w, os', w1, w2, _⟩ := h3.get n3
              cases w2 with
              | dat w2 => exact ⟨_, ix_list, _, _, i, w, rfl, rfl, .of h1, n4.trans w1, fin d w rfl w2⟩
            · rename_i a0 q3
              cases q2
              obtain ⟨k0, n1, n2, n3, n4⟩ := atI_len q3 h3.length
              obtain ⟨w, os', w1, w2, _⟩ := h3.get n3
              cases w2 with
              | adr => exact ⟨_, ix_list, _, _, i, _, rfl, rfl, .of h1, n4.trans w1, q _ _ F2 H2 O2 _ [] k g2 (.val .adr) .nil (fun a m => by cases m) (f.post fun a m => by rcases m with m | m; exact m; cases m)⟩
            · cases q2
    | pth j ks =>
      simp only [ixr] at e2
      cases q0 : Γ2[j]? with
      | none => rw [q0] at e2; cases e2
      | some oc =>
        cases oc with
        | none => rw [q0] at e2; cases e2
        | some c =>
          simp only [q0] at e2
          cases qa : C.at c ks with
          | none => rw [qa] at e2; cases e2
          | some c1 =>
            cases c1 with
            | dat _ => rw [qa] at e2; cases e2
            | adr _ => rw [qa] at e2; cases e2
            | seq _ => rw [qa] at e2; cases e2
            | own cs =>
              simp only [qa] at e2
              cases qi : ixN cs.length i with
              | none => simp only [qi] at e2; cases e2
              | some k0 =>
                simp only [qi] at e2
                cases qk : cs[k0]? with
                | none => simp only [qk] at e2; cases e2
                | some c2 =>
                  simp only [qk] at e2
                  obtain ⟨os', rc, sub⟩ := g2.at r1 q0 qa
                  cases rc with
                  | own h1 h2 h3 =>
                    obtain ⟨k1, n1, n2, n3, n4⟩ := atI_len (xs := _) (ys := cs) (i := i) (y := c2) (by unfold atI; rw [qi]; exact qk) h3.length
                    rw [qi] at n2; cases n2
                    obtain ⟨w, os2, w1, w2, _⟩ := h3.get n3
                    refine ⟨_, ix_list, _, _, i, w, rfl, rfl, .of h1, n4.trans w1, ?_⟩
                    cases w2 with
                    | dat hd => cases e2; exact q _ _ F2 H2 O2 _ [] k g2 (.val (.dat hd)) .nil (fun a m => by cases m) (f.post fun a m => by rcases m with m | m; exact m; cases m)
                    | adr => cases e2; exact q _ _ F2 H2 O2 _ [] k g2 (.val .adr) .nil (fun a m => by cases m) (f.post fun a m => by rcases m with m | m; exact m; cases m)
                    | seq hd => cases e2; exact q _ _ F2 H2 O2 _ [] k g2 (.val (.seq hd)) .nil (fun a m => by cases m) (f.post fun a m => by rcases m with m | m; exact m; cases m)
                    | own x1 x2 x3 =>
                      cases e2
                      cases r1 with
                      | pth ev pv => exact q _ _ F2 H2 O2 _ [] k g2 (.pth ev (path_snoc h1 w1 pv)) .nil (fun a m => by cases m) (f.post fun a m => by rcases m with m | m; exact m; cases m))
end
end G
namespace G
open PySem PySem.Spec PyProof.Rows L2
section
variable {X : Cx} {Γ : Gm} {Kn : KR} {pos p p2 : Pos} {a b c e : Expr} {es : List Expr}

/-! ### slices -/
def WO (X : Cx) (o : Option Expr) : TO := fun σ H Q => ∀ pins s, L2.Inv X pins σ H s → wpAny (model X.prog X.w) X.A (evalPart o X.env) (fun u s' => ∃ o H', L2.Inv X pins σ H' s' ∧ IsPart u o ∧ Q o H') X.xe s
theorem po_W {o : Option Expr} : PO X o (WO X o) := ⟨fun pins s σ H Q I h => h pins s I⟩
theorem WO_of {o : Option Expr} {t : TO} (h : PO X o t) {σ : L2.St} {H : Hp} {Q : Option Int → Hp → Prop} (q : t σ H Q) : WO X o σ H Q := fun pins s I => h.run pins s σ H Q I q
def WPo (X : Cx) (o : Option Expr) (Γ : Gm) (Ko : Option Int → Gm → Prop) : Prop := ∀ (F H : Hp) (σ : L2.St) (O : Nat → List Addr), RepG X.K F H σ Γ O → ∀ Q : Option Int → Hp → Prop,
  (∀ r Γ' F' H' O', Ko r Γ' → RepG X.K F' H' σ Γ' O' → Fut (Own O) F H (Own O') F' H' → Q r H') → WO X o σ H Q
theorem WPo_none {Ko : Option Int → Gm → Prop} (h : Ko none Γ) : WPo X none Γ Ko := fun F H σ O g Q q => WO_of po_none (q _ _ F H O h g (.refl fun a m => m))
theorem WPo_some {Ko : Option Int → Gm → Prop} (h : WPe X e Γ fun r Γ1 => ∃ i, vw Γ1 r = some (.int i) ∧ Ko (some i) Γ1) : WPo X (some e) Γ Ko := fun F H σ O g Q q =>
  WO_of (po_some pe_W) (h F H σ O g _ fun r Γ1 F1 H1 O1 v os ⟨i, e1, k1⟩ g1 h1 nd dj f1 => ⟨i, Dd.int_inv (vw_ok g1 h1 e1), q _ _ _ _ _ k1 g1 (f1.post fun a m => .inl m)⟩)
def rAnySl (X : Cx) : V → Option Int → Option Int → Hp → VK → Prop := fun x lo hi H Q => ∃ r, SlR X r ∧ r x lo hi H Q
theorem SlR_any : SlR X (rAnySl X) := fun pins s σ H x v vl vu lo hi sl Q I rx hs pl pu ⟨r, ho, hr⟩ => ho pins s σ H x v vl vu lo hi sl Q I rx hs pl pu hr
def cutP {α : Type} (xs : List α) (lo hi : Option Int) : List α := (xs.drop (HT.sIx xs.length 0 lo)).take (HT.sIx xs.length xs.length hi - HT.sIx xs.length 0 lo)
theorem cut_dd {K : PySem.W.Frag} {F : Hp} {xs : List V} {ds : List PyData} (h : DdAll K F xs ds) (lo hi : Option Int) : DdAll K F (cutV xs lo hi) (cutP ds lo hi) := by
  unfold cutV cutP
  rw [h.length]
  exact (h.drop _).take _
inductive SrcC where
  | tup (ds : List PyData)
  | lst (ds : List PyData)
  | seq (ns : List Int)
/-- what may be cut -/
def srcR (Γ : Gm) (r : R) : Option SrcC := match r with
  | .val (.seq ns) => some (.seq ns)
  | r => match iv Γ r with
    | some (true, ds) => some (.tup ds)
    | some (false, ds) => some (.lst ds)
    | none => none
def cutC (s : SrcC) (lo hi : Option Int) : C := match s with
  | .tup ds => .dat (.tuple (cutP ds lo hi))
  | .lst ds => .own ((cutP ds lo hi).map .dat)
  | .seq ns => .own (((cutP ns lo hi).map PyData.int).map .dat)
theorem WPe_slice {lo hi : Option Expr} (h : WPe X a Γ fun x Γ1 => x.stab = true ∧ WPo X lo Γ1 fun l Γ2 => WPo X hi Γ2 fun u Γ3 => ∃ s, srcR Γ3 x = some s ∧ Kn (.val (cutC s l u)) Γ3) :
    WPe X (.Subscript a (.Slice lo hi none p2) pos) Γ Kn := fun F H σ O g Q q =>
  WE_of (pe_slice SlR_any pe_W po_W po_W) (by
    refine h F H σ O g _ fun x Γ1 F1 H1 O1 v1 os1 ⟨st, k1⟩ g1 r1 nd1 dj1 f1 => ?_
    refine k1 F1 H1 σ O1 g1 _ fun l Γ2 F2 H2 O2 k2 g2 f2 => ?_
    refine k2 F2 H2 σ O2 g2 _ fun u Γ3 F3 H3 O3 ⟨s, es, k3⟩ g3 f3 => ?_
    have f23 := f2.trans f3
    have r3 := r1.fut st f23 dj1
    have f13 := (f1.post fun a m => .inl m).trans f23
    have q' := fun r Γ' F' H' O' v os k g h nd dj f' => q r Γ' F' H' O' v os k g h nd dj (f13.trans f')
    cases s with
    | seq ns =>
      have ex : x = .val (.seq ns) := by
        unfold srcR at es
        split at es
        · cases es; rfl
        · split at es <;> cases es
      subst ex
      cases r3 with | val r3 => cases r3 with | seq hs =>
        refine ⟨_, sl_list, _, _, rfl, Same.seq g3.le hs, fun p hp => ?_⟩
        have hd : DdAll X.K F3 (cutV (ns.map V.int) l u) (((cutP ns l u).map PyData.int)) := by
          have e : (cutP ns l u).map PyData.int = cutP (ns.map PyData.int) l u := by unfold cutP; rw [List.map_take, List.map_drop, List.length_map]
          rw [e]; exact cut_dd (DdAll.ofInts ns) l u
        exact done_new g3 q' k3 (fresh_lst g3.le hp hd) (by simp) (same_new g3.le hp) (fut_new hp)
    | tup ds =>
      have ei : iv Γ3 x = some (true, ds) := by
        unfold srcR at es
        split at es
        · cases es
        · split at es <;> first | (cases es; assumption) | cases es
      obtain ⟨p0, xs, rfl, hr, ha⟩ := Sees.ok (w := .s true ds) g3 r3 ei
      have hr : SqT X.K F3 p0 xs := hr
      have hd := cut_dd ha l u
      refine ⟨_, sl_tupA, _, _, rfl, sqT_up g3.le hr, fun w => ?_, fun w p hp => ?_⟩
      · have e : cutV xs l u = xs := by unfold cutV; rw [w.1, w.2]; simp
        rw [e] at hd
        exact done_new g3 q' k3 (.dat (.tup hr hd)) .nil g3.le (.refl fun a m => by cases m)
      · exact done_new g3 q' k3 (.dat (fresh_tup g3.le hp hd)) .nil (same_ice g3.le) (fut_ice hp g3.le)
    | lst ds =>
      have ei : iv Γ3 x = some (false, ds) := by
        unfold srcR at es
        split at es
        · cases es
        · split at es <;> first | (cases es; assumption) | cases es
      obtain ⟨p0, xs, rfl, hr, ha⟩ := Sees.ok (w := .s false ds) g3 r3 ei
      have hr : H3 p0 = some (.lst xs) := hr
      exact ⟨_, sl_list, _, _, rfl, .of hr, fun p hp => done_new g3 q' k3 (fresh_lst g3.le hp (cut_dd ha l u)) (by simp) (same_new g3.le hp) (fut_new hp)⟩)

/-! ### lists of expressions -/
inductive RepRs (K : PySem.W.Frag) (F H : Hp) (σ : L2.St) : List R → List V → List Addr → Prop
  | nil : RepRs K F H σ [] [] []
  | cons {r : R} {v : V} {rs : List R} {vs : List V} {o1 o2 : List Addr} : RepR K F H σ r v o1 → RepRs K F H σ rs vs o2 → RepRs K F H σ (r :: rs) (v :: vs) (o1 ++ o2)
/-- results that are read (none is frozen) -/
def WPa (X : Cx) (es : List Expr) (Γ : Gm) (Ka : List R → Gm → Prop) : Prop := ∀ (F H : Hp) (σ : L2.St) (O : Nat → List Addr), RepG X.K F H σ Γ O → ∀ Q : List V → Hp → Prop,
  (∀ rs Γ' F' H' O' vs os, Ka rs Γ' → RepG X.K F' H' σ Γ' O' → RepRs X.K F' H' σ rs vs os → os.Nodup → (∀ a ∈ os, ¬ Own O' a) → Fut (Own O) F H (OwnT O' os) F' H' → Q vs H') → WA X es σ H Q
theorem WPa_nil {Ka : List R → Gm → Prop} (h : Ka [] Γ) : WPa X [] Γ Ka := fun F H σ O g Q q => WA_of pa_nil (q _ _ F H O _ [] h g .nil .nil (fun a m => by cases m) (.refl fun a m => by rcases m with m | m; exact m; cases m))
theorem WPa_cons {Ka : List R → Gm → Prop} (h : WPe X e Γ fun r Γ1 => r.stab = true ∧ WPa X es Γ1 fun rs Γ2 => Ka (r :: rs) Γ2) (hs : starEach (e :: es) X.env = (false, eval e X.env) :: starEach es X.env := by rfl) : WPa X (e :: es) Γ Ka := fun F H σ O g Q q =>
  WA_of (pa_cons pe_W pa_W hs) (by
    refine h F H σ O g _ fun x Γ1 F1 H1 O1 v1 os1 ⟨st, k1⟩ g1 r1 nd1 dj1 f1 => ?_
    refine k1 F1 H1 σ O1 g1 _ fun rs Γ2 F2 H2 O2 vs os2 k2 g2 r2 nd2 dj2 f2 => ?_
    have th := r1.there
    have ap := apartT th f2 dj1
    refine q _ _ _ _ _ _ _ k2 g2 (.cons (r1.fut st f2 dj1) r2) (List.nodup_append.mpr ⟨nd1, nd2, fun a m b m2 e => ap a m (.inr (e ▸ m2))⟩) (fun a m => ?_) ?_
    · rcases List.mem_append.mp m with m | m
      · exact fun z => ap a m (.inl z)
      · exact dj2 a m
    · have f2' : Fut (OwnT O1 os1) F1 H1 (fun a => OwnT O2 os2 a ∨ a ∈ os1) F2 H2 := f2.wide
      exact (f1.trans f2').post fun a m => by
        rcases m with m | m
        · exact .inl (.inl m)
        · rcases List.mem_append.mp m with m | m
          · exact .inr m
          · exact .inl (.inr m))
/-- results frozen one by one: data -/
def WPd (X : Cx) (es : List Expr) (Γ : Gm) (Kd : List PyData → Gm → Prop) : Prop := ∀ (F H : Hp) (σ : L2.St) (O : Nat → List Addr), RepG X.K F H σ Γ O → ∀ Q : List V → Hp → Prop,
  (∀ ds Γ' F' H' O' vs, Kd ds Γ' → RepG X.K F' H' σ Γ' O' → DdAll X.K F' vs ds → Fut (Own O) F H (Own O') F' H' → Q vs H') → WA X es σ H Q
theorem WPd_nil {Kd : List PyData → Gm → Prop} (h : Kd [] Γ) : WPd X [] Γ Kd := fun F H σ O g Q q => WA_of pa_nil (q _ _ F H O _ h g .nil (.refl fun a m => m))
theorem WPd_cons {Kd : List PyData → Gm → Prop} (h : WPe X e Γ fun r Γ1 => ∃ d Γ1', frz Γ1 r = some (d, Γ1') ∧ WPd X es Γ1' fun ds Γ2 => Kd (d :: ds) Γ2) (hs : starEach (e :: es) X.env = (false, eval e X.env) :: starEach es X.env := by rfl) : WPd X (e :: es) Γ Kd := fun F H σ O g Q q =>
  WA_of (pa_cons pe_W pa_W hs) (by
    refine h F H σ O g _ fun x Γ1 F1 H1 O1 v1 os1 ⟨d, Γ1', fz, k1⟩ g1 r1 nd1 dj1 f1 => ?_
    obtain ⟨F1', O1', g1', hd, f1'⟩ := frz_ok g1 r1 nd1 dj1 fz
    refine k1 F1' H1 σ O1' g1' _ fun ds Γ2 F2 H2 O2 vs k2 g2 hds f2 => ?_
    exact q _ _ _ _ _ _ k2 g2 (.cons (Dd.up f2.le _ _ hd) hds) ((f1.trans f1').trans f2))

/-! ### displays -/
theorem WPe_tup {n : Nat} (h : WPd X es Γ fun ds Γ1 => ds.length ≤ sizeLine ∧ Kn (.val (.dat (.tuple ds))) Γ1) : WPe X (.Tuple es n pos) Γ Kn := fun F H σ O g Q q =>
  WE_of (pe_tup pa_W) (h F H σ O g _ fun ds Γ1 F1 H1 O1 vs ⟨hz, k1⟩ g1 hd f1 => ⟨by rw [hd.length]; exact hz, fun p hp =>
    done_new g1 (fun r Γ' F' H' O' v os k g h nd dj f' => q r Γ' F' H' O' v os k g h nd dj (f1.trans f')) k1 (.dat (fresh_tup g1.le hp hd)) .nil (same_ice g1.le) (fut_ice hp g1.le)⟩)
/-- a list of data -/
theorem WPe_lst (h : WPd X es Γ fun ds Γ1 => ds.length ≤ sizeLine ∧ Kn (.val (.own (ds.map .dat))) Γ1) : WPe X (.List es pos) Γ Kn := fun F H σ O g Q q =>
  WE_of (pe_lst pa_W) (h F H σ O g _ fun ds Γ1 F1 H1 O1 vs ⟨hz, k1⟩ g1 hd f1 => ⟨by rw [hd.length]; exact hz, fun p hp =>
    done_new g1 (fun r Γ' F' H' O' v os k g h nd dj f' => q r Γ' F' H' O' v os k g h nd dj (f1.trans f')) k1 (fresh_lst g1.le hp hd) (by simp) (same_new g1.le hp) (fut_new hp)⟩)
/-- a list that keeps lists of its own -/
def cellsOf : List R → Option (List C)
  | [] => some []
  | .val c :: rs => (cellsOf rs).map (c :: ·)
  | _ => none
theorem cells_rep {K : PySem.W.Frag} {F H : Hp} {σ : L2.St} : ∀ {rs : List R} {vs : List V} {os : List Addr} {cs : List C}, RepRs K F H σ rs vs os → cellsOf rs = some cs → RepCs K F H cs vs os
  | [], _, _, _, .nil, e => by cases e; exact .nil
  | r :: rs, _, _, _, .cons h t, e => by
    cases h with
    | val h =>
      simp only [cellsOf] at e
      cases q : cellsOf rs with
      | none => rw [q] at e; cases e
      | some cs => rw [q] at e; cases e; exact .cons h (cells_rep t q)
    | pth _ _ => cases e
theorem WPe_lstC (h : WPa X es Γ fun rs Γ1 => ∃ cs, cellsOf rs = some cs ∧ cs.length ≤ sizeLine ∧ Kn (.val (.own cs)) Γ1) : WPe X (.List es pos) Γ Kn := fun F H σ O g Q q =>
  WE_of (pe_lst pa_W) (h F H σ O g _ fun rs Γ1 F1 H1 O1 vs os ⟨cs, ec, hz, k1⟩ g1 hr nd dj f1 => by
    have rc := cells_rep hr ec
    refine ⟨by rw [rc.length]; exact hz, fun p hp => ?_⟩
    have th := fun a m => (RepCs.there rc a m)
    have np : p ∉ os := fun m => by obtain ⟨⟨xs, e⟩, _⟩ := th p m; rw [hp] at e; cases e
    have no : ¬ Own O1 p := fun z => by obtain ⟨⟨xs, e⟩, _⟩ := g1.there p z; rw [hp] at e; cases e
    have g2 : RepG X.K F1 (upd H1 p (.lst vs)) σ Γ1 O1 := g1.beside (same_new g1.le hp) (fut_new hp)
    refine q _ _ F1 _ O1 _ (p :: os) k1 g2 (.val (.own upd_same (free_F g1.le hp) (rc.move (.refl _) fun a m => ⟨?_, (th a m).2⟩))) (List.nodup_cons.mpr ⟨np, nd⟩) (fun a m => ?_) ?_
    · rw [upd_ne (fun e : _ = p => by subst e; exact np m)]
    · rcases List.mem_cons.mp m with e | m
      · subst e; exact no
      · exact dj a m
    · refine f1.trans ⟨.refl _, fun a o e n => by rw [upd_ne (ne_of_none e hp)]; exact e, fun a e1 e2 => absurd e1 e2, fun a m => ?_⟩
      rcases m with m | m
      · exact .inl (.inl m)
      · rcases List.mem_cons.mp m with e | m
        · subst e; exact .inr hp
        · exact .inl (.inr m))
end
end G
namespace G
open PySem PySem.Spec PyProof.Rows L2

/-! ### built-in functions -/
section
variable {X : Cx} {Γ : Gm} {Kn : KR} {pos p p2 : Pos} {a b c e : Expr} {es : List Expr}
def SeesAll (Γ : Gm) : List R → List W → Prop
  | [], [] => True
  | r :: rs, w :: ws => Sees Γ r w ∧ SeesAll Γ rs ws
  | _, _ => False
def SeeVs (K : PySem.W.Frag) (F H : Hp) : List V → List W → Prop
  | [], [] => True
  | v :: vs, w :: ws => SeeV K F H v w ∧ SeeVs K F H vs ws
  | _, _ => False
theorem SeesAll.ok {K : PySem.W.Frag} {F H : Hp} {σ : L2.St} {O : Nat → List Addr} (g : RepG K F H σ Γ O) : ∀ {rs : List R} {vs : List V} {os : List Addr} {ws : List W}, RepRs K F H σ rs vs os → SeesAll Γ rs ws → SeeVs K F H vs ws
  | [], _, _, [], .nil, _ => True.intro
  | r :: rs, _, _, w :: ws, .cons h t, e => ⟨e.1.ok g h, SeesAll.ok g t e.2⟩
  | [], _, _, _ :: _, .nil, e => e.elim
  | _ :: _, _, _, [], .cons _ _, e => e.elim
/-- a call of a built-in on values of which so much is known -/
def CallD (X : Cx) (f : Value) (ws : List W) (c : C) : Prop := ∀ (F H : Hp) (vs : List V) (Q : VK), Same F H → SeeVs X.K F H vs ws →
  (∀ F' H' v os, RepC X.K F' H' c v os → os.Nodup → Same F' H' → Fut (fun _ => False) F H (· ∈ os) F' H' → Q v H') → ∃ r : List V → Hp → VK → Prop, CallR X f r ∧ r vs H Q
def rAnyC (X : Cx) (f : Value) : List V → Hp → VK → Prop := fun vs H Q => ∃ r : List V → Hp → VK → Prop, CallR X f r ∧ r vs H Q
theorem CallR_any {f : Value} : CallR X f (rAnyC X f) := fun pins s σ H xs us Q I rv ⟨r, ho, hr⟩ => ho pins s σ H xs us Q I rv hr
theorem WPe_callB {id : String} {x : Str} (h : WPa X (e :: es) Γ fun rs Γ1 => ∃ ws c, SeesAll Γ1 rs ws ∧ CallD X (.builtin id) ws c ∧ Kn (.val c) Γ1) (hm : X.mg x = none) (hv : bootBuiltins x = some (.builtin id)) (hg : Gl X x := by rfl)
    (hn : x ≠ "__name__" := by decide) (hdb : (x == ("__debug__" : Str)) = false := by decide) (he : starEach (e :: es) X.env = (false, eval e X.env) :: starEach es X.env := by rfl) (hpl : (backTo pos (starEach es X.env)).any (·.1) = false := by rfl) :
    WPe X (.Call (.Name x p) (e :: es) [] pos) Γ Kn := fun F H σ O g Q q =>
  WE_of (pe_callB CallR_any hg hm hv pa_W hn hdb he hpl) (h F H σ O g _ fun rs Γ1 F1 H1 O1 vs os ⟨ws, c, e1, cd, k1⟩ g1 h1 nd dj f1 =>
    cd F1 H1 vs Q g1.le (e1.ok g1 h1) fun F' H' v os rc nd le' f' => done_new g1 (fun r Γ' F' H' O' v os k g h nd dj f' => q r Γ' F' H' O' v os k g h nd dj ((f1.post fun a m => .inl m).trans f')) k1 rc nd le' f')
theorem WPe_callTy {T : String} {x : Str} (h : WPa X (e :: es) Γ fun rs Γ1 => ∃ ws c, SeesAll Γ1 rs ws ∧ CallD X (.type T) ws c ∧ Kn (.val c) Γ1) (hm : X.mg x = none) (hv : bootBuiltins x = some (.type T)) (hg : Gl X x := by rfl)
    (hn : x ≠ "__name__" := by decide) (hdb : (x == ("__debug__" : Str)) = false := by decide) (he : starEach (e :: es) X.env = (false, eval e X.env) :: starEach es X.env := by rfl) (hpl : (backTo pos (starEach es X.env)).any (·.1) = false := by rfl) :
    WPe X (.Call (.Name x p) (e :: es) [] pos) Γ Kn := fun F H σ O g Q q =>
  WE_of (pe_callTy CallR_any hg hm hv pa_W hn hdb he hpl) (h F H σ O g _ fun rs Γ1 F1 H1 O1 vs os ⟨ws, c, e1, cd, k1⟩ g1 h1 nd dj f1 =>
    cd F1 H1 vs Q g1.le (e1.ok g1 h1) fun F' H' v os rc nd le' f' => done_new g1 (fun r Γ' F' H' O' v os k g h nd dj f' => q r Γ' F' H' O' v os k g h nd dj ((f1.post fun a m => .inl m).trans f')) k1 rc nd le' f')
theorem see1 {K : PySem.W.Frag} {F H : Hp} {vs : List V} {w : W} (h : SeeVs K F H vs [w]) : ∃ v, vs = [v] ∧ SeeV K F H v w := by
  cases vs with
  | nil => exact h.elim
  | cons v vs => cases vs with
    | nil => exact ⟨v, rfl, h.1⟩
    | cons _ _ => exact h.2.elim
theorem see2 {K : PySem.W.Frag} {F H : Hp} {vs : List V} {w1 w2 : W} (h : SeeVs K F H vs [w1, w2]) : ∃ v1 v2, vs = [v1, v2] ∧ SeeV K F H v1 w1 ∧ SeeV K F H v2 w2 := by
  cases vs with
  | nil => exact h.elim
  | cons v vs => obtain ⟨v2, rfl, h2⟩ := see1 h.2; exact ⟨v, v2, rfl, h.1, h2⟩
theorem cd_dat {f : Value} {ws : List W} {z : PyData} (h : ∀ (F H : Hp) (vs : List V) (Q : VK), Same F H → SeeVs X.K F H vs ws → (∀ v, Dd X.K F v z → Q v H) → ∃ r : List V → Hp → VK → Prop, CallR X f r ∧ r vs H Q) : CallD X f ws (.dat z) :=
  fun F H vs Q le hv q => h F H vs Q le hv fun v hd => q F H v [] (.dat hd) .nil le (.refl fun a m => by cases m)
theorem cd_len {t : Bool} {ds : List PyData} : CallD X (.builtin "len") [.s t ds] (.dat (.int ds.length)) := cd_dat fun F H vs Q le hv q => by
  obtain ⟨v, rfl, a, xs, rfl, hr, ha⟩ := see1 hv
  refine ⟨_, call_len, _, xs.length, rfl, ?_, q _ (by rw [ha.length]; exact .int _)⟩
  cases t with
  | true => exact .inr ⟨xs, sqT_up le hr, rfl⟩
  | false => exact .inl ⟨xs, .of hr, rfl⟩
theorem cd_lenS {s : Str} (h : s.length ≤ sizeLine) : CallD X (.builtin "len") [.d (.str s)] (.dat (.int s.length)) := cd_dat fun F H vs Q le hv q => by
  obtain ⟨v, rfl, hw⟩ := see1 hv
  rw [see_str hw]
  exact ⟨_, call_len, _, s.length, rfl, ⟨h, rfl⟩, q _ (.int _)⟩
theorem cd_abs {i : Int} : CallD X (.builtin "abs") [.d (.int i)] (.dat (.int (i.natAbs : Int))) := cd_dat fun F H vs Q le hv q => by
  obtain ⟨v, rfl, hw⟩ := see1 hv
  rw [see_int hw]
  refine ⟨_, call_abs, i, rfl, ?_⟩
  have e : (if i < 0 then -i else i) = (i.natAbs : Int) := by split <;> omega
  rw [e]
  exact q _ (.int _)
theorem cd_int {i : Int} : CallD X (.type "int") [.d (.int i)] (.dat (.int i)) := cd_dat fun F H vs Q le hv q => by
  obtain ⟨v, rfl, hw⟩ := see1 hv
  rw [see_int hw]
  exact ⟨_, call_int1, .inl ⟨i, rfl, q _ (.int _)⟩⟩
theorem cd_intB {b : Bool} : CallD X (.type "int") [.d (.bool b)] (.dat (.int (if b then 1 else 0))) := cd_dat fun F H vs Q le hv q => by
  obtain ⟨v, rfl, hw⟩ := see1 hv
  rw [see_bl hw]
  exact ⟨_, call_int1, .inr ⟨b, rfl, q _ (.int _)⟩⟩
theorem cd_max2 {i j : Int} (hc : X.calm = true) : CallD X (.builtin "max") [.d (.int i), .d (.int j)] (.dat (.int (max i j))) := cd_dat fun F H vs Q le hv q => by
  obtain ⟨v, w, rfl, hv, hw⟩ := see2 hv
  rw [see_int hv, see_int hw]
  refine ⟨_, call_max2 hc, i, j, rfl, ?_⟩
  have e : (if j > i then j else i) = max i j := by split <;> omega
  rw [e]
  exact q _ (.int _)
theorem cd_min2 {i j : Int} (hc : X.calm = true) : CallD X (.builtin "min") [.d (.int i), .d (.int j)] (.dat (.int (min i j))) := cd_dat fun F H vs Q le hv q => by
  obtain ⟨v, w, rfl, hv, hw⟩ := see2 hv
  rw [see_int hv, see_int hw]
  refine ⟨_, call_min2 hc, i, j, rfl, ?_⟩
  have e : (if j < i then j else i) = min i j := by split <;> omega
  rw [e]
  exact q _ (.int _)
theorem cd_sum {ns : List Int} (hc : X.calm = true) : CallD X (.builtin "sum") [.s false (ns.map .int)] (.dat (.int ns.sum)) := cd_dat fun F H vs Q le hv q => by
  obtain ⟨v, rfl, a, xs, rfl, hr, ha⟩ := see1 hv
  have hr : H a = some (.lst xs) := hr
  rw [ha.ints] at hr
  exact ⟨_, cr_sum hc, a, ns, rfl, .of hr, q _ (.int _)⟩
/-- the greatest, the least of some ints (0 of none) -/
def mxL (ns : List Int) : Int := ns.foldr max (ns.headD 0)
def mnL (ns : List Int) : Int := ns.foldr min (ns.headD 0)
theorem foldr_max {z : Int} : ∀ {ns : List Int}, (ns.foldr max z = z ∨ ns.foldr max z ∈ ns) ∧ z ≤ ns.foldr max z ∧ ∀ y ∈ ns, y ≤ ns.foldr max z
  | [] => ⟨.inl rfl, Int.le_refl _, fun y h => by cases h⟩
  | n :: ns => by
    obtain ⟨h1, h2, h3⟩ := @foldr_max z ns
    rw [List.foldr_cons]
    refine ⟨?_, by omega, fun y hy => ?_⟩
    · by_cases q : n ≤ ns.foldr max z
      · rw [Int.max_eq_right q]
        rcases h1 with h1 | h1
        · exact .inl h1
        · exact .inr (List.mem_cons_of_mem _ h1)
      · rw [Int.max_eq_left (by omega)]; exact .inr List.mem_cons_self
    · rcases List.mem_cons.mp hy with e | hy
      · omega
      · have := h3 y hy; omega
theorem foldr_min {z : Int} : ∀ {ns : List Int}, (ns.foldr min z = z ∨ ns.foldr min z ∈ ns) ∧ ns.foldr min z ≤ z ∧ ∀ y ∈ ns, ns.foldr min z ≤ y
  | [] => ⟨.inl rfl, Int.le_refl _, fun y h => by cases h⟩
  | n :: ns => by
    obtain ⟨h1, h2, h3⟩ := @foldr_min z ns
    rw [List.foldr_cons]
    refine ⟨?_, by omega, fun y hy => ?_⟩
    · by_cases q : n ≤ ns.foldr min z
      · rw [Int.min_eq_left q]; exact .inr List.mem_cons_self
      · rw [Int.min_eq_right (by omega)]
        rcases h1 with h1 | h1
        · exact .inl h1
        · exact .inr (List.mem_cons_of_mem _ h1)
    · rcases List.mem_cons.mp hy with e | hy
      · omega
      · have := h3 y hy; omega
theorem mxL_mem {ns : List Int} (h : ns ≠ []) : mxL ns ∈ ns := by
  cases ns with
  | nil => exact absurd rfl h
  | cons n ns =>
    rcases (@foldr_max ((n :: ns).headD 0) (n :: ns)).1 with e | e
    · unfold mxL; rw [e]; exact List.mem_cons_self
    · exact e
theorem mnL_mem {ns : List Int} (h : ns ≠ []) : mnL ns ∈ ns := by
  cases ns with
  | nil => exact absurd rfl h
  | cons n ns =>
    rcases (@foldr_min ((n :: ns).headD 0) (n :: ns)).1 with e | e
    · unfold mnL; rw [e]; exact List.mem_cons_self
    · exact e
theorem le_mxL {ns : List Int} {y : Int} (h : y ∈ ns) : y ≤ mxL ns := (@foldr_max (ns.headD 0) ns).2.2 y h
theorem mnL_le {ns : List Int} {y : Int} (h : y ∈ ns) : mnL ns ≤ y := (@foldr_min (ns.headD 0) ns).2.2 y h
theorem ne_nil_pos {α : Type} {ns : List α} (h : ns ≠ []) : 0 < ns.length := by cases ns with | nil => exact absurd rfl h | cons _ _ => exact Nat.succ_pos _
theorem cd_max {ns : List Int} (hc : X.calm = true) (h : ns ≠ []) : CallD X (.builtin "max") [.s false (ns.map .int)] (.dat (.int (mxL ns))) := cd_dat fun F H vs Q le hv q => by
  obtain ⟨v, rfl, a, xs, rfl, hr, ha⟩ := see1 hv
  have hr : H a = some (.lst xs) := hr
  rw [ha.ints] at hr
  refine ⟨_, cr_max hc, a, ns, rfl, .of hr, ne_nil_pos h, fun m h1 h2 => ?_⟩
  have e : m = mxL ns := by have := le_mxL h1; have := h2 _ (mxL_mem h); omega
  rw [e]
  exact q _ (.int _)
theorem cd_min {ns : List Int} (hc : X.calm = true) (h : ns ≠ []) : CallD X (.builtin "min") [.s false (ns.map .int)] (.dat (.int (mnL ns))) := cd_dat fun F H vs Q le hv q => by
  obtain ⟨v, rfl, a, xs, rfl, hr, ha⟩ := see1 hv
  have hr : H a = some (.lst xs) := hr
  rw [ha.ints] at hr
  refine ⟨_, cr_min hc, a, ns, rfl, .of hr, ne_nil_pos h, fun m h1 h2 => ?_⟩
  have e : m = mnL ns := by have := mnL_le h1; have := h2 _ (mnL_mem h); omega
  rw [e]
  exact q _ (.int _)
theorem cd_all {bs : List Bool} (hc : X.calm = true) : CallD X (.builtin "all") [.s false (bs.map .bool)] (.dat (.bool (bs.all id))) := cd_dat fun F H vs Q le hv q => by
  obtain ⟨v, rfl, a, xs, rfl, hr, ha⟩ := see1 hv
  have hr : H a = some (.lst xs) := hr
  rw [ha.bools] at hr
  exact ⟨_, cr_all hc, a, bs, rfl, .of hr, q _ (.bl _)⟩
theorem cd_any {bs : List Bool} (hc : X.calm = true) : CallD X (.builtin "any") [.s false (bs.map .bool)] (.dat (.bool (bs.any id))) := cd_dat fun F H vs Q le hv q => by
  obtain ⟨v, rfl, a, xs, rfl, hr, ha⟩ := see1 hv
  have hr : H a = some (.lst xs) := hr
  rw [ha.bools] at hr
  exact ⟨_, cr_any hc, a, bs, rfl, .of hr, q _ (.bl _)⟩
theorem cd_list {t : Bool} {ds : List PyData} : CallD X (.type "list") [.s t ds] (.own (ds.map .dat)) := fun F H vs Q le hv q => by
  obtain ⟨v, rfl, a, xs, rfl, hr, ha⟩ := see1 hv
  refine ⟨_, call_list_of, a, xs, rfl, ?_, fun p hp => q _ _ _ _ (fresh_lst le hp ha) (by simp) (same_new le hp) (fut_new hp)⟩
  cases t with
  | true => exact .inr (sqT_up le hr)
  | false => exact .inl (.of hr)
theorem cd_tuple {t : Bool} {ds : List PyData} : CallD X (.type "tuple") [.s t ds] (.dat (.tuple ds)) := fun F H vs Q le hv q => by
  obtain ⟨v, rfl, a, xs, rfl, hr, ha⟩ := see1 hv
  cases t with
  | true => exact ⟨_, call_tuple_of, a, xs, rfl, .inr ⟨sqT_up le hr, q F H _ [] (.dat (.tup hr ha)) .nil le (.refl fun a m => by cases m)⟩⟩
  | false => exact ⟨_, call_tuple_of, a, xs, rfl, .inl ⟨.of hr, fun p hp => q _ _ _ _ (.dat (fresh_tup le hp ha)) .nil (same_ice le) (fut_ice hp le)⟩⟩
/-- sorted of ints -/
def srtI (ns : List Int) : List Int := ns.mergeSort (fun a b => decide (a ≤ b))
theorem srtI_perm (ns : List Int) : (srtI ns).Perm ns := List.mergeSort_perm _ _
theorem srtI_pw (ns : List Int) : (srtI ns).Pairwise (· ≤ ·) := by
  have := List.pairwise_mergeSort (le := fun a b : Int => decide (a ≤ b)) (fun a b c h1 h2 => by simp at *; omega) (fun a b => by simp; omega) ns
  exact this.imp fun h => by simpa using h
theorem srt_uniq {ns ms : List Int} (hp : ns.Perm ms) (h1 : ns.Pairwise (· ≤ ·)) (h2 : ms.Pairwise (· ≤ ·)) : ns = ms :=
  List.Perm.eq_of_pairwise (fun a b _ _ h1 h2 => Int.le_antisymm h1 h2) h1 h2 hp
theorem cd_sorted {ns : List Int} : CallD X (.builtin "sorted") [.s false (ns.map .int)] (.own (((srtI ns).map PyData.int).map .dat)) := fun F H vs Q le hv q => by
  obtain ⟨v, rfl, a, xs, rfl, hr, ha⟩ := see1 hv
  have hr : H a = some (.lst xs) := hr
  rw [ha.ints] at hr
  refine ⟨_, cr_sortedI, a, ns, rfl, .of hr, fun ns' p h1 h2 hp => ?_⟩
  have e : ns' = srtI ns := srt_uniq (h1.trans (srtI_perm ns).symm) h2 (srtI_pw ns)
  rw [e]
  exact q _ _ _ _ (fresh_lst le hp (DdAll.ofInts _)) (by simp) (same_new le hp) (fut_new hp)
end
end G
namespace G
open PySem PySem.Spec PyProof.Rows L2

/-! ### a list of the frame, changed -/
mutual
def C.put : C → List Nat → C → C
  | _, [], c => c
  | .own cs, k :: ks, c => .own (C.puts cs k ks c)
  | c0, _ :: _, _ => c0
def C.puts : List C → Nat → List Nat → C → List C
  | [], _, _, _ => []
  | c0 :: cs, 0, ks, c => C.put c0 ks c :: cs
  | c0 :: cs, k + 1, ks, c => c0 :: C.puts cs k ks c
end
section
variable {K : PySem.W.Frag} {F H : Hp}
/-- what a change of the list at p in a cell wants -/
def Rew (K : PySem.W.Frag) (F H : Hp) (os : List Addr) (p : Addr) (xs : List V) (cs : List C) (T : List V → List C → List Addr → Prop) (Z : Hp → List Addr → C → Prop) : Prop :=
  ∃ osn : List Addr, H p = some (.lst xs) ∧ F p = none ∧ RepCs K F H cs xs osn ∧ osn.Nodup ∧ p ∉ osn ∧ p ∈ os ∧ (∀ a ∈ osn, a ∈ os)
mutual
theorem RepC.rew : ∀ {ks : List Nat} {c : C} {v0 : V} {os : List Addr} {p : Addr} {cs : List C}, RepC K F H c v0 os → os.Nodup → PathV H v0 ks (.ref p) → C.at c ks = some (.own cs) →
    ∃ (xs : List V) (osn : List Addr), H p = some (.lst xs) ∧ F p = none ∧ RepCs K F H cs xs osn ∧ osn.Nodup ∧ p ∉ osn ∧ p ∈ os ∧ (∀ a ∈ osn, a ∈ os) ∧
      ∀ (cs' : List C) (xs' : List V) (os' : List Addr), RepCs K F (upd H p (.lst xs')) cs' xs' os' → os'.Nodup → p ∉ os' → (∀ a ∈ os', a ∈ osn ∨ a ∉ os) →
        ∃ os2, RepC K F (upd H p (.lst xs')) (C.put c ks (.own cs')) v0 os2 ∧ os2.Nodup ∧ (∀ a ∈ os2, a ∈ os ∨ a ∈ os')
  | [], c, v0, os, p, cs, r, nd, pv, e => by
    cases (show some c = some (C.own cs) by cases c <;> exact e)
    cases pv
    cases r with
    | own h1 h2 h3 =>
      rename_i xs os0
      obtain ⟨n1, n2⟩ := List.nodup_cons.mp nd
      refine ⟨xs, os0, h1, h2, h3, n2, n1, List.mem_cons_self, fun a m => List.mem_cons_of_mem _ m, fun cs' xs' os' r' nd' np sub => ⟨p :: os', ?_, List.nodup_cons.mpr ⟨np, nd'⟩, fun a m => ?_⟩⟩
      · rw [C.put]; exact .own upd_same h2 r'
      · rcases List.mem_cons.mp m with e | m
        · subst e; exact .inl List.mem_cons_self
        · exact .inr m
  | k :: ks, c, v0, os, p, cs, r, nd, pv, e => by
    cases r with
    | dat _ => cases e
    | adr => cases e
    | seq _ => cases e
    | own h1 h2 h3 =>
      rename_i p0 xs0 cs0 os0
      cases pv with
      | cons q1 q2 q3 =>
        rw [h1] at q1; cases q1
        obtain ⟨n1, n2⟩ := List.nodup_cons.mp nd
        obtain ⟨xs, osn, a1, a2, a3, a4, a5, a6, a7, a8⟩ := RepCs.rew h3 n2 q2 q3 (by
          simp only [C.at] at e
          exact e)
        have pne : p0 ≠ p := fun z => n1 (z ▸ a6)
        refine ⟨xs, osn, a1, a2, a3, a4, a5, List.mem_cons_of_mem _ a6, fun a m => List.mem_cons_of_mem _ (a7 a m), fun cs' xs' os' r' nd' np sub => ?_⟩
        obtain ⟨os2, b1, b2, b3⟩ := a8 cs' xs' os' r' nd' np fun a m => (sub a m).imp id fun z => fun m2 => z (List.mem_cons_of_mem _ m2)
        refine ⟨p0 :: os2, ?_, List.nodup_cons.mpr ⟨fun m => ?_, b2⟩, fun a m => ?_⟩
        · rw [C.put]; exact .own (by rw [upd_ne pne]; exact h1) h2 b1
        · rcases b3 p0 m with z | z
          · exact n1 z
          · rcases sub p0 z with z | z
            · exact n1 (a7 _ z)
            · exact z List.mem_cons_self
        · rcases List.mem_cons.mp m with e | m
          · subst e; exact .inl List.mem_cons_self
          · exact (b3 a m).imp (List.mem_cons_of_mem _) id
theorem RepCs.rew : ∀ {k : Nat} {ks : List Nat} {cs0 : List C} {vs : List V} {v1 : V} {os : List Addr} {p : Addr} {cs : List C}, RepCs K F H cs0 vs os → os.Nodup → vs[k]? = some v1 → PathV H v1 ks (.ref p) →
    (match cs0[k]? with | some c => C.at c ks | none => none) = some (.own cs) →
    ∃ (xs : List V) (osn : List Addr), H p = some (.lst xs) ∧ F p = none ∧ RepCs K F H cs xs osn ∧ osn.Nodup ∧ p ∉ osn ∧ p ∈ os ∧ (∀ a ∈ osn, a ∈ os) ∧
      ∀ (cs' : List C) (xs' : List V) (os' : List Addr), RepCs K F (upd H p (.lst xs')) cs' xs' os' → os'.Nodup → p ∉ os' → (∀ a ∈ os', a ∈ osn ∨ a ∉ os) →
        ∃ os2, RepCs K F (upd H p (.lst xs')) (C.puts cs0 k ks (.own cs')) vs os2 ∧ os2.Nodup ∧ (∀ a ∈ os2, a ∈ os ∨ a ∈ os')
  | k, ks, [], vs, v1, os, p, cs, h, nd, ev, pv, e => by simp at e
  | 0, ks, c :: cs0, v :: vs, v1, _, p, cs, .cons (o1 := o1) (o2 := o2) h t, nd, ev, pv, e => by
    simp at ev; subst ev
    obtain ⟨nd1, nd2, dj⟩ := List.nodup_append.mp nd
    obtain ⟨xs, osn, a1, a2, a3, a4, a5, a6, a7, a8⟩ := RepC.rew h nd1 pv (by simpa using e)
    refine ⟨xs, osn, a1, a2, a3, a4, a5, List.mem_append_left _ a6, fun a m => List.mem_append_left _ (a7 a m), fun cs' xs' os' r' nd' np sub => ?_⟩
    obtain ⟨os2, b1, b2, b3⟩ := a8 cs' xs' os' r' nd' np fun a m => (sub a m).imp id fun z => fun m2 => z (List.mem_append_left _ m2)
    refine ⟨os2 ++ o2, ?_, List.nodup_append.mpr ⟨b2, nd2, fun a m b m2 ee => ?_⟩, fun a m => ?_⟩
    · rw [C.puts]
      exact .cons b1 (t.move (.refl _) fun a m => ⟨by rw [upd_ne (fun z : a = p => dj p a6 a m z.symm)], (t.there a m).2⟩)
    · subst ee
      rcases b3 a m with z | z
      · exact dj a z a m2 rfl
      · rcases sub a z with z | z
        · exact dj a (a7 _ z) a m2 rfl
        · exact z (List.mem_append_right _ m2)
    · rcases List.mem_append.mp m with m | m
      · exact (b3 a m).imp (List.mem_append_left _) id
      · exact .inl (List.mem_append_right _ m)
  | k + 1, ks, c :: cs0, v :: vs, v1, _, p, cs, .cons (o1 := o1) (o2 := o2) h t, nd, ev, pv, e => by
    obtain ⟨nd1, nd2, dj⟩ := List.nodup_append.mp nd
    obtain ⟨xs, osn, a1, a2, a3, a4, a5, a6, a7, a8⟩ := RepCs.rew (k := k) (ks := ks) t nd2 (by simpa using ev) pv (by simpa using e)
    refine ⟨xs, osn, a1, a2, a3, a4, a5, List.mem_append_right _ a6, fun a m => List.mem_append_right _ (a7 a m), fun cs' xs' os' r' nd' np sub => ?_⟩
    obtain ⟨os2, b1, b2, b3⟩ := a8 cs' xs' os' r' nd' np fun a m => (sub a m).imp id fun z => fun m2 => z (List.mem_append_right _ m2)
    refine ⟨o1 ++ os2, ?_, List.nodup_append.mpr ⟨nd1, b2, fun a m b m2 ee => ?_⟩, fun a m => ?_⟩
    · rw [C.puts]
      exact .cons (h.move (.refl _) fun a m => ⟨by rw [upd_ne (fun z : a = p => dj a m p a6 z)], (h.there a m).2⟩) b1
    · subst ee
      rcases b3 a m2 with z | z
      · exact dj a m a z rfl
      · rcases sub a z with z | z
        · exact dj a m a (a7 _ z) rfl
        · exact z (List.mem_append_left _ m)
    · rcases List.mem_append.mp m with m | m
      · exact .inl (List.mem_append_left _ m)
      · exact (b3 a m).imp (List.mem_append_right _) id
end
/-- the frame behind a change of the list at a place of slot i -/
def Gput (Γ : Gm) (i : Nat) (ks : List Nat) (c : C) : Gm := match Γ[i]? with
  | some (some c0) => Γ.set i (some (C.put c0 ks c))
  | _ => Γ
theorem RepG.rew {σ : L2.St} {Γ : Gm} {O : Nat → List Addr} (g : RepG K F H σ Γ O) {i : Nat} {ks : List Nat} {v : V} {os : List Addr} {c0 : C} {cs : List C} (h : RepR K F H σ (.pth i ks) v os) (e0 : Γ[i]? = some (some c0)) (ea : C.at c0 ks = some (.own cs)) :
    ∃ (p : Addr) (xs : List V) (osn : List Addr), v = .ref p ∧ H p = some (.lst xs) ∧ F p = none ∧ RepCs K F H cs xs osn ∧ osn.Nodup ∧ p ∉ osn ∧ Own O p ∧ (∀ a ∈ osn, Own O a) ∧
      ∀ (cs' : List C) (xs' : List V) (os' : List Addr), RepCs K F (upd H p (.lst xs')) cs' xs' os' → os'.Nodup → p ∉ os' → (∀ a ∈ os', a ∈ osn ∨ ¬ Own O a) →
        ∃ O', RepG K F (upd H p (.lst xs')) σ (Gput Γ i ks (.own cs')) O' ∧ ∀ a, Own O' a → Own O a ∨ a ∈ os' := by
  cases h with
  | pth ev pv =>
    rename_i v0
    obtain ⟨w, ew, rc⟩ := g.cell i c0 e0
    rw [ev] at ew; cases ew
    obtain ⟨os', rr, sub⟩ := path_at rc pv ea
    cases rr with
    | own x1 x2 x3 =>
      rename_i p xs0 os0
      obtain ⟨xs, osn, a1, a2, a3, a4, a5, a6, a7, a8⟩ := rc.rew (g.nd i) pv ea
      refine ⟨p, xs, osn, rfl, a1, a2, a3, a4, a5, ⟨i, a6⟩, fun a m => ⟨i, a7 a m⟩, fun cs' xs' os' r' nd' np sub' => ?_⟩
      obtain ⟨os2, b1, b2, b3⟩ := a8 cs' xs' os' r' nd' np fun a m => (sub' a m).imp id fun z m2 => z ⟨i, m2⟩
      have g1 : RepG K F (upd H p (.lst xs')) σ (Γ.set i none) (Osub O i []) := by
        refine (g.drop (i := i)).move (.refl _) (fun a o e => ?_) fun a m => ?_
        · rw [upd_ne (fun z : a = p => by rw [z, a2] at e; cases e)]; exact g.le a o e
        · obtain ⟨j, m⟩ := m
          by_cases hj : j = i
          · subst hj; rw [Osub_same] at m; cases m
          · rw [Osub_ne hj] at m
            exact ⟨by rw [upd_ne (fun z : a = p => hj (g.dj j i a m (z ▸ a6)))], (g.there a ⟨j, m⟩).2⟩
      have g2 := g1.putV (i := i) ev b1 b2 (fun a m j hj m2 => by
        rw [Osub_ne hj] at m2
        rcases b3 a m with z | z
        · exact hj (g.dj j i a m2 z)
        · rcases sub' a z with z | z
          · exact hj (g.dj j i a m2 (a7 a z))
          · exact z ⟨j, m2⟩)
      refine ⟨_, by
        unfold Gput; rw [e0]
        have z : (Γ.set i none).set i (some (C.put c0 ks (.own cs'))) = Γ.set i (some (C.put c0 ks (.own cs'))) := by simp
        rw [z] at g2; exact g2, fun a m => ?_⟩
      rcases own_sub m with m | m
      · rcases own_sub m with m | m
        · exact .inl m
        · cases m
      · rcases b3 a m with z | z
        · exact .inl ⟨i, z⟩
        · exact .inr z
end

/-! ### append, pop, extend -/
section
variable {X : Cx} {Γ : Gm} {Kn : KR} {pos apos p p2 : Pos} {o a b c e : Expr} {es : List Expr}
def rAnyM (X : Cx) (id : String) : V → List V → Hp → VK → Prop := fun x vs H Q => ∃ r, MtR X id r ∧ r x vs H Q
theorem MtR_any {id : String} : MtR X id (rAnyM X id) := fun pins s σ H x xs v us Q I rx rv ⟨r, ho, hr⟩ => ho pins s σ H x xs v us Q I rx rv hr
def ownAt (Γ : Gm) (i : Nat) (ks : List Nat) : Option (List C) := match Γ[i]? with
  | some (some c) => match C.at c ks with
    | some (.own cs) => some cs
    | _ => none
  | _ => none
theorem ownAt_iff {i : Nat} {ks : List Nat} {cs : List C} (h : ownAt Γ i ks = some cs) : ∃ c0, Γ[i]? = some (some c0) ∧ C.at c0 ks = some (.own cs) := by
  unfold ownAt at h
  cases q : Γ[i]? with
  | none => rw [q] at h; cases h
  | some oc =>
    cases oc with
    | none => rw [q] at h; cases h
    | some c =>
      simp only [q] at h
      cases q2 : C.at c ks with
      | none => simp only [q2] at h; cases h
      | some c' =>
        cases c' with
        | own cs' => simp only [q2] at h; cases h; exact ⟨c, rfl, q2⟩
        | dat _ => simp only [q2] at h; cases h
        | adr _ => simp only [q2] at h; cases h
        | seq _ => simp only [q2] at h; cases h
theorem repcs_app {K : PySem.W.Frag} {F H : Hp} : ∀ {cs : List C} {vs : List V} {o1 : List Addr} {ds : List C} {ws : List V} {o2 : List Addr}, RepCs K F H cs vs o1 → RepCs K F H ds ws o2 → RepCs K F H (cs ++ ds) (vs ++ ws) (o1 ++ o2)
  | _, _, _, _, _, _, .nil, h => h
  | _, _, _, _, _, _, .cons a b, h => by rw [List.append_assoc]; exact .cons a (repcs_app b h)
theorem fut_in {F H : Hp} {P P' : Addr → Prop} {p : Addr} {u : HO} (hp : P p) (h : ∀ a, P' a → P a) : Fut P F H P' F (upd H p u) :=
  ⟨.refl _, fun a o e n => by rw [upd_ne (fun z : a = p => n (z ▸ hp))]; exact e, fun a e1 e2 => absurd e1 e2, fun a m => .inl (h a m)⟩
/-- o.append(e): the item a cell (an own list too), or a named one frozen -/
def itemR (Γ : Gm) : R → Option (C × Gm)
  | .val c => some (c, Γ)
  | .pth i ks => (frz Γ (.pth i ks)).map fun x => (.dat x.1, x.2)
theorem itemR_ok {K : PySem.W.Frag} {F H : Hp} {σ : L2.St} {O : Nat → List Addr} (g : RepG K F H σ Γ O) {r : R} {v : V} {os : List Addr} {c : C} {Γ' : Gm} (h : RepR K F H σ r v os) (nd : os.Nodup) (dj : ∀ a ∈ os, ¬ Own O a) (e : itemR Γ r = some (c, Γ')) :
    ∃ F' O' os', RepG K F' H σ Γ' O' ∧ RepC K F' H c v os' ∧ os'.Nodup ∧ (∀ a ∈ os', ¬ Own O' a) ∧ Fut (OwnT O os) F H (OwnT O' os') F' H := by
  cases r with
  | val c0 =>
    cases e
    cases h with | val h => exact ⟨F, O, os, g, h, nd, dj, .refl fun a m => m⟩
  | pth i ks =>
    simp only [itemR] at e
    cases q : frz Γ (.pth i ks) with
    | none => rw [q] at e; cases e
    | some x =>
      rw [q] at e; cases e
      obtain ⟨F', O', g', d, f⟩ := frz_ok g h nd dj q
      exact ⟨F', O', [], g', .dat d, List.nodup_nil, fun a m => (by cases m), f.post fun a m => by rcases m with m | m; exact m; cases m⟩
theorem done_non {F H F1 H1 : Hp} {σ : L2.St} {O O1 : Nat → List Addr} {Q : VK} {Γ' : Gm} (g : RepG X.K F1 H1 σ Γ' O1) (f : Fut (Own O) F H (Own O1) F1 H1)
    (q : ∀ r Γ' F' H' O' v os, Kn r Γ' → RepG X.K F' H' σ Γ' O' → RepR X.K F' H' σ r v os → os.Nodup → (∀ a ∈ os, ¬ Own O' a) → Fut (Own O) F H (OwnT O' os) F' H' → Q v H') (h : Kn (.val (.dat .none)) Γ') : Q .non H1 :=
  q _ _ F1 H1 O1 _ [] h g (.val (.dat .non)) .nil (fun a m => by cases m) (f.post fun a m => by rcases m with m | m; exact m; cases m)
theorem WPe_append (h : WPe X o Γ fun x Γ1 => ∃ i cs1, x = .pth i [] ∧ ownAt Γ1 i [] = some cs1 ∧ WPe X e Γ1 fun y Γ2 => ∃ c Γ2' cs, itemR Γ2 y = some (c, Γ2') ∧ ownAt Γ2' i [] = some cs ∧ cs.length < sizeLine ∧ Kn (.val (.dat .none)) (Gput Γ2' i [] (.own (cs ++ [c]))))
    (hbase : attributeBase o "append" X.env (eval o X.env) = eval o X.env := by rfl)
    (hfew : ((backTo pos (starEach [e] X.env)).all (fun x => !x.1) && (backToKw pos (keywordEach [] X.env)).all (fun x => x.1.isSome) && decide (([e]).length + ([] : List Keyword).length + (if ([] : List Keyword).isEmpty then 0 else 1) < 30)) = true := by rfl)
    (hline : (apos.endLine == pos.line) = true := by rfl) (hs : starEach [e] X.env = (false, eval e X.env) :: starEach [] X.env := by rfl) (hplain : (backTo pos (starEach [] X.env)).any (·.1) = false := by rfl) :
    WPe X (.Call (.Attribute o "append" apos) [e] [] pos) Γ Kn := fun F H σ O g Q q =>
  WE_of (pe_bm PySem.F.plainAttrs_list PySem.F.slot_list_append PySem.F.type_list_append mt_append pe_W (pa_cons pe_W pa_nil hs) hbase hfew hline hs hplain) (by
    refine h F H σ O g _ fun x Γ1 F1 H1 O1 v1 os1 ⟨i, cs1, ex, eo1, k1⟩ g1 r1 nd1 dj1 f1 => ?_
    subst ex
    obtain ⟨c0, e0, ea⟩ := ownAt_iff eo1
    obtain ⟨p, xs, osn, ev, hp, _⟩ := g1.rew r1 e0 ea
    subst ev
    refine ⟨.inl ⟨rfl, xs, .of hp⟩, ?_⟩
    refine k1 F1 H1 σ O1 g1 _ fun y Γ2 F2 H2 O2 v2 os2 ⟨c, Γ2', cs, ei, eo, hz, k2⟩ g2 r2 nd2 dj2 f2 => ?_
    have r1' := r1.fut rfl f2 dj1
    obtain ⟨F3, O3, os3, g3, rc, nd3, dj3, f3⟩ := itemR_ok g2 r2 nd2 dj2 ei
    have r1'' : RepR X.K F3 H2 σ (.pth i []) (.ref p) os1 := by cases r1' with | pth a b => exact .pth a (by cases b; exact .nil)
    obtain ⟨c1, e1, ea1⟩ := ownAt_iff eo
    obtain ⟨p', ys, osn', ev, hp', fp, rcs, n1, n2, op, osub, fin⟩ := g3.rew r1'' e1 ea1
    cases ev
    refine ⟨p, ys, v2, rfl, rfl, hp', by rw [rcs.length]; exact hz, ?_⟩
    have pn : p ∉ os3 := fun m => dj3 p m op
    obtain ⟨O4, g4, o4⟩ := fin (cs ++ [c]) (ys ++ [v2]) (osn' ++ (os3 ++ [])) (repcs_app (rcs.move (.refl _) fun a m => ⟨by rw [upd_ne (fun z : a = p => n2 (z ▸ m))], (rcs.there a m).2⟩) (.cons (rc.move (.refl _) fun a m => ⟨by rw [upd_ne (fun z : a = p => pn (z ▸ m))], (rc.there a m).2⟩) .nil))
      (by rw [List.append_nil]; exact List.nodup_append.mpr ⟨n1, nd3, fun a m b m2 ee => dj3 b m2 (ee ▸ osub a m)⟩) (by simp [n2, pn]) (fun a m => by
        rw [List.append_nil] at m
        rcases List.mem_append.mp m with m | m
        · exact .inl m
        · exact .inr (dj3 a m))
    refine done_non g4 (((f1.post fun a m => .inl m).trans (f2.trans f3)).trans (fut_in (.inl op) fun a m => ?_)) q k2
    rcases o4 a m with z | z
    · exact .inl z
    · rw [List.append_nil] at z
      rcases List.mem_append.mp z with z | z
      · exact .inl (osub a z)
      · exact .inr z)
/-- o.pop(e), an item that is data -/
theorem repcs_erase {K : PySem.W.Frag} {F H : Hp} : ∀ {cs : List C} {vs : List V} {os : List Addr} (k : Nat), RepCs K F H cs vs os → ∃ os', RepCs K F H (cs.eraseIdx k) (vs.eraseIdx k) os' ∧ (os.Nodup → os'.Nodup) ∧ ∀ a ∈ os', a ∈ os
  | _, _, _, k, .nil => ⟨[], .nil, id, fun a m => m⟩
  | _, _, _, 0, .cons (o2 := o2) a b => ⟨o2, b, fun n => (List.nodup_append.mp n).2.1, fun a m => List.mem_append_right _ m⟩
  | _, _, _, k + 1, .cons (o1 := o1) a b => by
    obtain ⟨os', r, n, s⟩ := repcs_erase k b
    refine ⟨o1 ++ os', .cons a r, fun z => ?_, fun x m => ?_⟩
    · obtain ⟨z1, z2, z3⟩ := List.nodup_append.mp z
      exact List.nodup_append.mpr ⟨z1, n z2, fun a m b m2 e => z3 a m b (s b m2) e⟩
    · rcases List.mem_append.mp m with m | m
      · exact List.mem_append_left _ m
      · exact List.mem_append_right _ (s x m)
theorem WPe_pop (h : WPe X o Γ fun x Γ1 => ∃ i cs1, x = .pth i [] ∧ ownAt Γ1 i [] = some cs1 ∧ WPe X e Γ1 fun y Γ2 => ∃ (k : Nat) (d : PyData) (cs : List C), vw Γ2 y = some (.int k) ∧ ownAt Γ2 i [] = some cs ∧ cs.length ≤ sizeLine ∧ cs[k]? = some (.dat d) ∧ Kn (.val (.dat d)) (Gput Γ2 i [] (.own (cs.eraseIdx k))))
    (hbase : attributeBase o "pop" X.env (eval o X.env) = eval o X.env := by rfl)
    (hfew : ((backTo pos (starEach [e] X.env)).all (fun x => !x.1) && (backToKw pos (keywordEach [] X.env)).all (fun x => x.1.isSome) && decide (([e]).length + ([] : List Keyword).length + (if ([] : List Keyword).isEmpty then 0 else 1) < 30)) = true := by rfl)
    (hline : (apos.endLine == pos.line) = true := by rfl) (hs : starEach [e] X.env = (false, eval e X.env) :: starEach [] X.env := by rfl) (hplain : (backTo pos (starEach [] X.env)).any (·.1) = false := by rfl) :
    WPe X (.Call (.Attribute o "pop" apos) [e] [] pos) Γ Kn := fun F H σ O g Q q =>
  WE_of (pe_bm PySem.F.plainAttrs_list PySem.F.slot_list_pop PySem.F.type_list_pop mt_popAt pe_W (pa_cons pe_W pa_nil hs) hbase hfew hline hs hplain) (by
    refine h F H σ O g _ fun x Γ1 F1 H1 O1 v1 os1 ⟨i, cs1, ex, eo1, k1⟩ g1 r1 nd1 dj1 f1 => ?_
    subst ex
    obtain ⟨c0, e0, ea⟩ := ownAt_iff eo1
    obtain ⟨p, xs, osn, ev, hp, _⟩ := g1.rew r1 e0 ea
    subst ev
    refine ⟨.inl ⟨rfl, xs, .of hp⟩, ?_⟩
    refine k1 F1 H1 σ O1 g1 _ fun y Γ2 F2 H2 O2 v2 os2 ⟨k, d, cs, ei, eo, hz0, ek, k2⟩ g2 r2 nd2 dj2 f2 => ?_
    have r1' := r1.fut rfl f2 dj1
    have ey : v2 = .int k := Dd.int_inv (vw_ok g2 r2 ei)
    subst ey
    obtain ⟨c1, e1, ea1⟩ := ownAt_iff eo
    obtain ⟨p', ys, osn', ev, hp', fp, rcs, n1, n2, op, osub, fin⟩ := g2.rew r1' e1 ea1
    cases ev
    obtain ⟨w, osw, w1, w2, _⟩ := rcs.get ek
    have hk : k < ys.length := (List.getElem?_eq_some_iff.mp w1).1
    have hz : ys.length ≤ sizeLine := by rw [rcs.length]; exact hz0
    refine ⟨p, ys, k, k, w, rfl, rfl, hp', by omega, by have := line63; omega, PySem.StrLaws.seqIndex_nonneg (by omega) (by omega), w1, ?_⟩
    obtain ⟨os', r', nn, ss⟩ := repcs_erase k rcs
    obtain ⟨O4, g4, o4⟩ := fin (cs.eraseIdx k) (ys.eraseIdx k) os' (r'.move (.refl _) fun a m => ⟨by rw [upd_ne (fun z : a = p => n2 (ss _ (z ▸ m)))], (rcs.there a (ss a m)).2⟩) (nn n1) (fun m => n2 (ss _ m)) (fun a m => .inl (ss a m))
    refine q _ _ _ _ _ _ [] k2 g4 (.val (.dat (by cases w2 with | dat w2 => exact w2))) .nil (fun a m => by cases m) (((f1.post fun a m => .inl m).trans (f2.post fun a m => .inl m)).trans (fut_in op fun a m => ?_))
    rcases m with m | m
    · rcases o4 a m with z | z
      · exact z
      · exact osub a (ss a z)
    · cases m)
end
end G
namespace G
open PySem PySem.Spec PyProof.Rows L2

/-! ### statements -/
structure Out where
  nx : Gm → Prop := fun _ => False
  rt : C → Gm → Prop := fun _ _ => False
  bk : Gm → Prop := fun _ => False
  ct : Gm → Prop := fun _ => False
def kept (kp : List Nat) (σ σ' : L2.St) : Prop := σ'.length = σ.length ∧ ∀ i ∈ kp, σ'[i]? = σ[i]?
theorem kept.refl {kp : List Nat} {σ : L2.St} : kept kp σ σ := ⟨rfl, fun _ _ => rfl⟩
theorem kept.trans {kp : List Nat} {σ σ1 σ2 : L2.St} (a : kept kp σ σ1) (b : kept kp σ1 σ2) : kept kp σ σ2 := ⟨b.1.trans a.1, fun i m => (b.2 i m).trans (a.2 i m)⟩
theorem kept.set {kp : List Nat} {σ : L2.St} {i : Nat} {v : Option V} (h : i ∉ kp) : kept kp σ (σ.set i v) := ⟨by simp, fun j m => List.getElem?_set_ne (fun e : i = j => h (by rw [e]; exact m))⟩
structure EOk (X : Cx) (kp : List Nat) (F H : Hp) (σ : L2.St) (P : Addr → Prop) (D : Out) (E : Ends) : Prop where
  nx : ∀ Γ' F' H' σ' O', D.nx Γ' → RepG X.K F' H' σ' Γ' O' → kept kp σ σ' → Fut P F H (Own O') F' H' → E.nx σ' H'
  rt : ∀ c Γ' F' H' σ' O' v os, D.rt c Γ' → RepG X.K F' H' σ' Γ' O' → kept kp σ σ' → RepC X.K F' H' c v os → os.Nodup → (∀ a ∈ os, ¬ Own O' a) → Fut P F H (OwnT O' os) F' H' → E.rt v H'
  bk : ∀ Γ' F' H' σ' O', D.bk Γ' → RepG X.K F' H' σ' Γ' O' → kept kp σ σ' → Fut P F H (Own O') F' H' → E.bk σ' H'
  ct : ∀ Γ' F' H' σ' O', D.ct Γ' → RepG X.K F' H' σ' Γ' O' → kept kp σ σ' → Fut P F H (Own O') F' H' → E.ct σ' H'
section
variable {X : Cx} {kp : List Nat} {F H F1 H1 : Hp} {σ σ1 : L2.St} {P P1 : Addr → Prop} {D D' : Out} {E : Ends}
theorem EOk.step (q : EOk X kp F H σ P D E) (f : Fut P F H P1 F1 H1) (k : kept kp σ σ1) : EOk X kp F1 H1 σ1 P1 D E :=
  ⟨fun Γ' F' H' σ' O' d g k' f' => q.nx Γ' F' H' σ' O' d g (k.trans k') (f.trans f'), fun c Γ' F' H' σ' O' v os d g k' r nd dj f' => q.rt c Γ' F' H' σ' O' v os d g (k.trans k') r nd dj (f.trans f'),
    fun Γ' F' H' σ' O' d g k' f' => q.bk Γ' F' H' σ' O' d g (k.trans k') (f.trans f'), fun Γ' F' H' σ' O' d g k' f' => q.ct Γ' F' H' σ' O' d g (k.trans k') (f.trans f')⟩
end
def WPs (X : Cx) (kp : List Nat) (st : Stmt) (Γ : Gm) (D : Out) : Prop := ∀ (F H : Hp) (σ : L2.St) (O : Nat → List Addr), RepG X.K F H σ Γ O → ∀ E : Ends, EOk X kp F H σ (Own O) D E → WS X st E σ H
def WPss (X : Cx) (kp : List Nat) (st : List Stmt) (Γ : Gm) (D : Out) : Prop := ∀ (F H : Hp) (σ : L2.St) (O : Nat → List Addr), RepG X.K F H σ Γ O → ∀ E : Ends, EOk X kp F H σ (Own O) D E → WSs X st E σ H

section
variable {X : Cx} {kp : List Nat} {Γ : Gm} {D : Out} {st : Stmt} {rest sts sts' : List Stmt} {e c a b : Expr} {pos p p2 : Pos}
theorem blt_of {i n : Nat} (h : Nat.blt i n = true) : i < n := Nat.le_of_ble_eq_true h
theorem nin_of {i : Nat} {kp : List Nat} (h : kp.contains i = false) : i ∉ kp := fun m => by rw [List.contains_iff_mem.mpr m] at h; cases h
theorem WPss_nil (h : D.nx Γ) : WPss X kp [] Γ D := fun F H σ O g E q => WSs_of pss_nil (q.nx _ _ _ _ _ h g .refl (.refl fun a m => m))
theorem WPss_cons (h : WPs X kp st Γ { D with nx := fun Γ1 => WPss X kp rest Γ1 D }) : WPss X kp (st :: rest) Γ D := fun F H σ O g E q =>
  WSs_of (pss_cons ps_W pss_W) (h F H σ O g _ ⟨fun Γ' F' H' σ' O' d g' k' f' => d F' H' σ' O' g' E (q.step f' k'), q.rt, q.bk, q.ct⟩)
theorem WPss_one (h : WPs X kp st Γ D) : WPss X kp [st] Γ D := fun F H σ O g E q => WSs_of (pss_one ps_W) (h F H σ O g E q)
theorem WPs_pass (h : D.nx Γ) : WPs X kp (.Pass pos) Γ D := fun F H σ O g E q => WS_of ps_pass (q.nx _ _ _ _ _ h g .refl (.refl fun a m => m))
theorem WPs_break (h : D.bk Γ) : WPs X kp (.Break pos) Γ D := fun F H σ O g E q => WS_of ps_break (q.bk _ _ _ _ _ h g .refl (.refl fun a m => m))
theorem WPs_cont (h : D.ct Γ) : WPs X kp (.Continue pos) Γ D := fun F H σ O g E q => WS_of ps_continue (q.ct _ _ _ _ _ h g .refl (.refl fun a m => m))
theorem WPs_expr (h : WPe X e Γ fun _ Γ1 => D.nx Γ1) (hs : swapsWith e none pos.line X.env = pure false := by rfl) : WPs X kp (.Expr e pos) Γ D := fun F H σ O g E q =>
  WS_of (ps_expr pe_W hs) (h F H σ O g _ fun r Γ' F' H' O' v os k g' h' nd dj f => q.nx _ _ _ _ _ k g' .refl (f.post fun a m => .inl m))
theorem WPs_if (h : WPt X c Γ fun k Γ1 => (k = true → WPss X kp sts Γ1 D) ∧ (k = false → WPss X kp sts' Γ1 D)) : WPs X kp (.If c sts sts' pos) Γ D := fun F H σ O g E q =>
  WS_of (ps_if pt_W pss_W pss_W) (h F H σ O g _ fun k Γ1 F1 H1 O1 ⟨k1, k2⟩ g1 f1 => by
    cases k with
    | true => exact iteT (k1 rfl F1 H1 σ O1 g1 E (q.step f1 .refl))
    | false => exact iteF (k2 rfl F1 H1 σ O1 g1 E (q.step f1 .refl)))
theorem WPs_retN (h : D.rt (.dat .none) Γ) : WPs X kp (.Return none pos) Γ D := fun F H σ O g E q => WS_of ps_retN (q.rt _ _ _ _ _ _ _ [] h g .refl (.dat .non) .nil (fun a m => by cases m) (.refl fun a m => by rcases m with m | m; exact m; cases m))
/-- what leaves: a value, or a list of the frame, moved -/
def mvR (Γ : Gm) : R → Option (C × Gm)
  | .val c => some (c, Γ)
  | .pth i [] => match Γ[i]? with
    | some (some c) => some (c, Γ.set i none)
    | _ => none
  | .pth _ (_ :: _) => none
theorem mvR_ok {K : PySem.W.Frag} {F H : Hp} {σ : L2.St} {O : Nat → List Addr} (g : RepG K F H σ Γ O) {r : R} {v : V} {os : List Addr} {c : C} {Γ' : Gm} (h : RepR K F H σ r v os) (nd : os.Nodup) (dj : ∀ a ∈ os, ¬ Own O a) (e : mvR Γ r = some (c, Γ')) :
    ∃ O' os', RepG K F H σ Γ' O' ∧ RepC K F H c v os' ∧ os'.Nodup ∧ (∀ a ∈ os', ¬ Own O' a) ∧ (∀ a, OwnT O' os' a → OwnT O os a) := by
  cases r with
  | val c0 =>
    cases e
    cases h with | val h => exact ⟨O, os, g, h, nd, dj, fun a m => m⟩
  | pth i ks =>
    cases ks with
    | cons _ _ => cases e
    | nil =>
      simp only [mvR] at e
      cases q : Γ[i]? with
      | none => rw [q] at e; cases e
      | some oc =>
        cases oc with
        | none => rw [q] at e; cases e
        | some c0 =>
          simp only [q] at e; cases e
          cases h with
          | pth ev pv =>
            cases pv
            obtain ⟨w, ew, rc⟩ := g.cell i c q
            rw [ev] at ew; cases ew
            refine ⟨_, _, g.drop (i := i), rc, g.nd i, fun a m z => ?_, fun a m => ?_⟩
            · obtain ⟨j, m2⟩ := z
              by_cases hj : j = i
              · subst hj; rw [Osub_same] at m2; cases m2
              · rw [Osub_ne hj] at m2; exact hj (g.dj j i a m2 m)
            · rcases m with m | m
              · rcases own_sub m with m | m
                · exact .inl m
                · cases m
              · exact .inl ⟨i, m⟩
theorem WPs_ret (h : WPe X e Γ fun r Γ1 => ∃ c Γ2, mvR Γ1 r = some (c, Γ2) ∧ D.rt c Γ2) : WPs X kp (.Return (some e) pos) Γ D := fun F H σ O g E q =>
  WS_of (ps_ret pe_W) (h F H σ O g _ fun r Γ' F' H' O' v os ⟨c, Γ2, em, k⟩ g' h' nd dj f => by
    obtain ⟨O2, os2, g2, rc, nd2, dj2, sub⟩ := mvR_ok g' h' nd dj em
    exact q.rt _ _ _ _ _ _ _ _ k g2 .refl rc nd2 dj2 (f.post sub))
/-! ### a name is stored -/
/-- a new cell into slot i of the frame -/
theorem store_cell {F H : Hp} {O : Nat → List Addr} {σ : L2.St} {E : Ends} {i : Nat} {cl : C} {v : V} {os : List Addr} {F0 H0 : Hp} {O0 : Nat → List Addr} (q : EOk X kp F0 H0 σ (Own O0) D E) (g : RepG X.K F H σ Γ O) (rc : RepC X.K F H cl v os) (nd : os.Nodup) (dj : ∀ a ∈ os, ¬ Own O a)
    (f : Fut (Own O0) F0 H0 (OwnT O os) F H) (hi : i < Γ.length) (hk : i ∉ kp) (h : D.nx (Γ.set i (some cl))) : E.nx (σ.set i (some v)) H :=
  q.nx _ _ _ _ _ h (g.put hi rc nd fun a m j hj m2 => dj a m ⟨j, m2⟩) (.set hk) (f.post fun a m => by
    rcases own_sub m with m | m
    · exact .inl m
    · exact .inr m)
theorem WPs_set (i : Nat) {x : Str} {p' : Pos} (h : WPe X e Γ fun r Γ1 => ∃ cl Γ2, itemR Γ1 r = some (cl, Γ2) ∧ Nat.blt i Γ2.length = true ∧ D.nx (Γ2.set i (some cl))) (hN : X.N.Nodup) (hk : kp.contains i = false := by rfl) (hi : X.N[i]? = some x := by rfl) (hx : Loc X.env.scope x := by first | exact Or.inl rfl | exact Or.inr rfl)
    (hs : swapsWith e (some (.Name x p')) pos.line X.env = pure false := by rfl) (hf : X.fn x = true ∨ X.env.scope.names.lookup x = some .local := by first | exact .inl rfl | exact .inr rfl | assumption) : WPs X kp (.Assign [.Name x p'] e pos) Γ D := fun F H σ O g E q =>
  WS_of (ps_set hN hi hx pe_W hs hf) (h F H σ O g _ fun r Γ' F' H' O' v os ⟨cl, Γ2, ei, hl, k⟩ g' h' nd dj f => by
    obtain ⟨F3, O3, os3, g3, rc, nd3, dj3, f3⟩ := itemR_ok g' h' nd dj ei
    exact store_cell q g3 rc nd3 dj3 (f.trans f3) (blt_of hl) (nin_of hk) k)
/-- a, b = x, y of plain local names -/
theorem WPs_par (i j : Nat) {x y : Str} {px py pt : Pos} {kt k2 : Nat} {pt2 : Pos} (h : WPa X [a, b] Γ fun rs Γ1 => ∃ c1 c2, cellsOf rs = some [c1, c2] ∧ Nat.blt i Γ1.length = true ∧ Nat.blt j Γ1.length = true ∧ D.nx ((Γ1.set i (some c1)).set j (some c2))) (hc : X.calm = true) (hN : X.N.Nodup) (hij : i ≠ j := by decide) (hki : kp.contains i = false := by rfl) (hkj : kp.contains j = false := by rfl)
    (hi : X.N[i]? = some x := by rfl) (hj : X.N[j]? = some y := by rfl) (hx : X.env.scope.names.lookup x = some .local := by rfl) (hy : X.env.scope.names.lookup y = some .local := by rfl)
    (hw : swappedStores [.Tuple [.Name x px, .Name y py] kt pt] (.Tuple [a, b] k2 pt2) X.env = pure (some [x, y]) := by rfl)
    (hs : swapsWithSole [.Tuple [.Name x px, .Name y py] kt pt] (.Tuple [a, b] k2 pt2) pos.line X.env = pure false := by rfl) :
    WPs X kp (.Assign [.Tuple [.Name x px, .Name y py] kt pt] (.Tuple [a, b] k2 pt2) pos) Γ D := fun F H σ O g E q =>
  WS_of (ps_par hc hN hi hj hij hx hy pa_W hw hs) (h F H σ O g _ fun rs Γ1 F1 H1 O1 vs os ⟨c1, c2, ec, h1, h2, k⟩ g1 hr nd dj f => by
    have rc := cells_rep hr ec
    cases rc with
    | cons r1 rr =>
      cases rr with
      | cons r2 rr =>
        cases rr
        rename_i v1 o1 v2 o2
        rw [List.append_nil] at nd dj f
        obtain ⟨n1, n2, n3⟩ := List.nodup_append.mp nd
        refine ⟨v1, v2, rfl, ?_⟩
        have g2 := g1.put (i := i) (blt_of h1) r1 n1 fun a m k hk m2 => dj a (List.mem_append_left _ m) ⟨k, m2⟩
        have g3 := g2.put (i := j) (by have := blt_of h2; simpa using this) r2 n2 fun a m k hk m2 => by
          by_cases hki : k = i
          · subst hki; rw [Osub_same] at m2; exact n3 a m2 a m rfl
          · rw [Osub_ne hki] at m2; exact dj a (List.mem_append_right _ m) ⟨k, m2⟩
        refine q.nx _ _ _ _ _ k g3 ((kept.set (nin_of hki)).trans (.set (nin_of hkj))) (f.post fun a m => ?_)
        rcases own_sub m with m | m
        · rcases own_sub m with m | m
          · exact .inl m
          · exact .inr (List.mem_append_left _ m)
        · exact .inr (List.mem_append_right _ m))

/-! ### targets -/
def WG (X : Cx) (tg : Expr) : TG := fun v σ H Q => ∀ pins s u, L2.Inv X pins σ H s → RelV v u → wpAny (model X.prog X.w) X.A (assign tg X.env u) (fun _ s' => ∃ σ' H', L2.Inv X pins σ' H' s' ∧ Q σ' H') X.xe s
theorem pg_W {tg : Expr} : PG X tg (WG X tg) := ⟨fun pins s σ H v u Q I r h => h pins s u I r⟩
theorem WG_of {tg : Expr} {t : TG} (h : PG X tg t) {v : V} {σ : L2.St} {H : Hp} {Q : L2.St → Hp → Prop} (q : t v σ H Q) : WG X tg v σ H Q := fun pins s u I r => h.run pins s σ H v u Q I r q
def WGs (X : Cx) (tgs : List Expr) : TGs := fun vs σ H Q => ∀ pins s us, L2.Inv X pins σ H s → Vals vs us → wpAny (model X.prog X.w) X.A (assignInOrder ((assignEach tgs X.env).map (·.2)) us) (fun _ s' => ∃ σ' H', L2.Inv X pins σ' H' s' ∧ Q σ' H') X.xe s
theorem pgs_W {tgs : List Expr} : PGs X tgs (WGs X tgs) := ⟨fun pins s σ H vs us Q I r h => h pins s us I r⟩
theorem WGs_of {tgs : List Expr} {t : TGs} (h : PGs X tgs t) {vs : List V} {σ : L2.St} {H : Hp} {Q : L2.St → Hp → Prop} (q : t vs σ H Q) : WGs X tgs vs σ H Q := fun pins s us I r => h.run pins s σ H vs us Q I r q
/-- the heap at a target's end may differ (an item stored) -/
def WPg (X : Cx) (kp : List Nat) (tg : Expr) (d : PyData) (Γ : Gm) (Kg : Gm → Prop) : Prop := ∀ (F H : Hp) (σ : L2.St) (O : Nat → List Addr), RepG X.K F H σ Γ O → ∀ v, Dd X.K F v d → ∀ Q : L2.St → Hp → Prop,
  (∀ Γ' F' H' σ' O', Kg Γ' → RepG X.K F' H' σ' Γ' O' → kept kp σ σ' → Fut (Own O) F H (Own O') F' H' → Q σ' H') → WG X tg v σ H Q
def WPgs (X : Cx) (kp : List Nat) (tgs : List Expr) (ds : List PyData) (Γ : Gm) (Kg : Gm → Prop) : Prop := ∀ (F H : Hp) (σ : L2.St) (O : Nat → List Addr), RepG X.K F H σ Γ O → ∀ vs, DdAll X.K F vs ds → ∀ Q : L2.St → Hp → Prop,
  (∀ Γ' F' H' σ' O', Kg Γ' → RepG X.K F' H' σ' Γ' O' → kept kp σ σ' → Fut (Own O) F H (Own O') F' H' → Q σ' H') → WGs X tgs vs σ H Q
theorem WPg_name (i : Nat) {x : Str} {d : PyData} {Kg : Gm → Prop} (h : Kg (Γ.set i (some (.dat d)))) (hN : X.N.Nodup) (hl : Nat.blt i Γ.length = true := by rfl) (hk : kp.contains i = false := by rfl) (hi : X.N[i]? = some x := by rfl) (hx : Loc X.env.scope x := by first | exact Or.inl rfl | exact Or.inr rfl)
    (hf : X.fn x = true ∨ X.env.scope.names.lookup x = some .local := by first | exact .inl rfl | exact .inr rfl | assumption) : WPg X kp (.Name x pos) d Γ Kg := fun F H σ O g v hd Q q =>
  WG_of (pg_name hN hi hx hf) (q _ _ _ _ _ h (g.put (blt_of hl) (.dat hd) .nil fun a m => by cases m) (.set (nin_of hk)) (.refl fun a m => by
    rcases own_sub m with m | m
    · exact m
    · cases m))
theorem WPgs_nil {Kg : Gm → Prop} (h : Kg Γ) : WPgs X kp [] [] Γ Kg := fun F H σ O g vs hd Q q => WGs_of pgs_nil (by cases hd; exact ⟨rfl, q _ _ _ _ _ h g .refl (.refl fun a m => m)⟩)
theorem WPgs_cons {tgs : List Expr} {tg : Expr} {d : PyData} {ds : List PyData} {Kg : Gm → Prop} (h : WPg X kp tg d Γ fun Γ1 => WPgs X kp tgs ds Γ1 Kg) (hs : (assignEach (tg :: tgs) X.env).map (·.2) = assign tg X.env :: (assignEach tgs X.env).map (·.2) := by rfl) : WPgs X kp (tg :: tgs) (d :: ds) Γ Kg := fun F H σ O g vs hd Q q =>
  WGs_of (pgs_cons pg_W pgs_W hs) (by
    cases hd with
    | cons h1 h2 => exact ⟨_, _, rfl, h F H σ O g _ h1 _ fun Γ' F' H' σ' O' k g' kk f => k F' H' σ' O' g' _ (DdAll.up f.le _ _ h2) Q fun Γ2 F2 H2 σ2 O2 k2 g2 kk2 f2 => q _ _ _ _ _ k2 g2 (kk.trans kk2) (f.trans f2)⟩)
theorem WPg_tup {tgs : List Expr} {n : Nat} {ds : List PyData} {Kg : Gm → Prop} (h : WPgs X kp tgs ds Γ Kg) (hc : X.calm = true) (hn : (assignEach tgs X.env).length = ds.length := by rfl) (hst : (assignEach tgs X.env).findIdx? (·.1) = none := by rfl) : WPg X kp (.Tuple tgs n pos) (.tuple ds) Γ Kg := fun F H σ O g v hd Q q =>
  WG_of (pg_tup hc pgs_W rfl hst) (by
    cases hd with
    | tup h1 h2 => exact ⟨_, _, rfl, sqT_up g.le h1, by rw [h2.length, hn], h F H σ O g _ h2 Q q⟩)
/-- target = e, by data -/
theorem WPs_asg {tg : Expr} (h : WPe X e Γ fun r Γ1 => ∃ d Γ2, frz Γ1 r = some (d, Γ2) ∧ WPg X kp tg d Γ2 D.nx) (hs : swapsWithSole [tg] e pos.line X.env = pure false := by rfl) (hw : swappedStores [tg] e X.env = pure none := by rfl)
    (h1 : (assignEach [tg] X.env).map (·.2) = [assign tg X.env] := by rfl) : WPs X kp (.Assign [tg] e pos) Γ D := fun F H σ O g E q =>
  WS_of (ps_asg pe_W pg_W hs hw h1) (h F H σ O g _ fun r Γ' F' H' O' v os ⟨d, Γ2, ef, k⟩ g' h' nd dj f => by
    obtain ⟨F2, O2, g2, hd, f2⟩ := frz_ok g' h' nd dj ef
    exact k F2 H' σ O2 g2 v hd _ fun Γ3 F3 H3 σ3 O3 k3 g3 kk3 f3 => q.nx _ _ _ _ _ k3 g3 kk3 ((f.trans f2).trans f3))
/-- name op= e -/
theorem WPs_aug (i : Nat) {x : Str} {op : Operator} {p' : Pos} {d0 : PyData} (h0 : Γ[i]? = some (some (.dat d0))) (h : WPe X e Γ fun r Γ1 => ∃ d cl, vw Γ1 r = some d ∧ OpD X (inplaceOp op) (.d d0) (.d d) (.dat cl) ∧ Nat.blt i Γ1.length = true ∧ D.nx (Γ1.set i (some (.dat cl)))) (hN : X.N.Nodup) (hk : kp.contains i = false := by rfl) (hi : X.N[i]? = some x := by rfl) (hx : Loc X.env.scope x := by first | exact Or.inl rfl | exact Or.inr rfl)
    (hf : X.fn x = true ∨ X.env.scope.names.lookup x = some .local := by first | exact .inl rfl | exact .inr rfl | assumption) : WPs X kp (.AugAssign (.Name x p') op e pos) Γ D := fun F H σ O g E q =>
  WS_of (ps_aug hN hi hx pe_W (OpR_any (f := inplaceOp op)) hf) (by
    obtain ⟨v0, e0, r0⟩ := g.cell i _ h0
    generalize O i = oi at r0
    cases r0 with
    | dat hd0 =>
      refine ⟨v0, e0, h F H σ O g _ fun r Γ' F' H' O' v os ⟨d, cl, ev, od, hl, k⟩ g' h' nd dj f => ?_⟩
      exact od F' H' v0 v _ g'.le (Dd.up (Same.trans f.le g'.le) _ _ hd0) (vw_ok g' h' ev) fun F3 H3 v3 os3 rc nd3 le3 f3 => by
        have g3 := g'.beside le3 f3
        have eo : os3 = [] := by cases rc; rfl
        subst eo
        refine store_cell q g3 rc nd3 (fun a m => by cases m) ((f.post (P2 := Own O') fun a m => .inl m).trans ?_) (blt_of hl) (nin_of hk) k
        exact ((f3.wide (T := Own O')).pre fun a m => by rcases m with m | m; exact m.elim; exact m).post fun a m => by
          rcases m with m | m
          · exact .inr m
          · cases m)
end
end G
namespace G
open PySem PySem.Spec PyProof.Rows L2

/-! ### forgetting -/
def Wk (Γ Δ : Gm) : Prop := Δ.length = Γ.length ∧ ∀ (i : Nat) (c : C), Δ[i]? = some (some c) → Γ[i]? = some (some c)
theorem Wk.refl {Γ : Gm} : Wk Γ Γ := ⟨rfl, fun _ _ h => h⟩
open Classical in
theorem RepG.weak {K : PySem.W.Frag} {F H : Hp} {σ : L2.St} {Γ Δ : Gm} {O : Nat → List Addr} (g : RepG K F H σ Γ O) (w : Wk Γ Δ) : ∃ O', RepG K F H σ Δ O' ∧ ∀ a, Own O' a → Own O a := by
  refine ⟨fun i => if (∃ c, Δ[i]? = some (some c)) then O i else [], ⟨g.le, w.1.trans g.len, fun i c e => ?_, fun i => ?_, fun i j a h1 h2 => ?_, fun i h => ?_⟩, fun a ⟨i, m⟩ => ?_⟩
  · obtain ⟨v, e1, r⟩ := g.cell i c (w.2 i c e)
    exact ⟨v, e1, by rw [if_pos ⟨c, e⟩]; exact r⟩
  · split
    · exact g.nd i
    · exact .nil
  · split at h1
    · split at h2
      · exact g.dj i j a h1 h2
      · cases h2
    · cases h1
  · rw [if_neg (fun ⟨c, e⟩ => h c e)]
  · simp only at m
    split at m
    · exact ⟨i, m⟩
    · cases m
theorem EOk.own {X : Cx} {kp : List Nat} {F H : Hp} {σ : L2.St} {P P' : Addr → Prop} {D : Out} {E : Ends} (q : EOk X kp F H σ P D E) (h : ∀ a, P' a → P a) : EOk X kp F H σ P' D E :=
  ⟨fun Γ' F' H' σ' O' d g k f => q.nx Γ' F' H' σ' O' d g k (f.pre h), fun c Γ' F' H' σ' O' v os d g k r nd dj f => q.rt c Γ' F' H' σ' O' v os d g k r nd dj (f.pre h),
    fun Γ' F' H' σ' O' d g k f => q.bk Γ' F' H' σ' O' d g k (f.pre h), fun Γ' F' H' σ' O' d g k f => q.ct Γ' F' H' σ' O' d g k (f.pre h)⟩
theorem WPss_weak {X : Cx} {kp : List Nat} {st : List Stmt} {Γ Δ : Gm} {D : Out} (w : Wk Γ Δ) (h : WPss X kp st Δ D) : WPss X kp st Γ D := fun F H σ O g E q => by
  obtain ⟨O', g', s⟩ := g.weak w
  exact h F H σ O' g' E (q.own s)
theorem WPs_weak {X : Cx} {kp : List Nat} {st : Stmt} {Γ Δ : Gm} {D : Out} (w : Wk Γ Δ) (h : WPs X kp st Δ D) : WPs X kp st Γ D := fun F H σ O g E q => by
  obtain ⟨O', g', s⟩ := g.weak w
  exact h F H σ O' g' E (q.own s)

/-! ### iterables -/
def WI (X : Cx) (tg iter : Expr) : TI := fun σ H R => ∀ pins s, L2.Inv X pins σ H s → wpAny (model X.prog X.w) X.A (eval iter X.env) (fun v s1 => wpAny (model X.prog X.w) X.A (pyIter v) (PIE X pins σ tg R) X.xe s1) X.xe s
section
variable {X : Cx} {kp : List Nat} {Γ : Gm} {D : Out} {st : Stmt} {rest sts sts' body : List Stmt} {e c a b tg iter : Expr} {pos p p2 : Pos}
theorem pi_W : PI X tg iter (WI X tg iter) := ⟨fun pins s σ H R I h => h pins s I⟩
theorem WI_of {wi : TI} (h : PI X tg iter wi) {σ : L2.St} {H : Hp} {R : It → Hp → Prop} (q : wi σ H R) : WI X tg iter σ H R := fun pins s I => h.run pins s σ H R I q
/-- it yields these data, one after another, as long as all that was frozen stands -/
def Yld (K : PySem.W.Frag) (J : It) (ds : List PyData) (F0 : Hp) : Prop := ∀ (i : Nat) (F H : Hp), Same F0 F → Same F H →
  (i < ds.length → J.go i H) ∧ (ds.length ≤ i → J.stop i H) ∧ ∀ x H' d, J.yld i H x H' → ds[i]? = some d → ∃ F', Fut (fun _ => False) F H (fun _ => False) F' H' ∧ Same F' H' ∧ Dd K F' x d
def WPi (X : Cx) (tg iter : Expr) (Γ : Gm) (Ki : List PyData → Gm → Prop) : Prop := ∀ (F H : Hp) (σ : L2.St) (O : Nat → List Addr), RepG X.K F H σ Γ O → ∀ R : It → Hp → Prop,
  (∀ ds Γ' F' H' O' J, Ki ds Γ' → RepG X.K F' H' σ Γ' O' → Fut (Own O) F H (Own O') F' H' → Yld X.K J ds F' → R J H') → WI X tg iter σ H R
theorem yld_list {K : PySem.W.Frag} {F : Hp} {p : Addr} {xs : List V} {ds : List PyData} (h : F p = some (.lst xs)) (ha : DdAll K F xs ds) : Yld K (Itl K p) ds F := fun i F1 H1 l1 l2 => by
  have h2 : SqL K H1 p xs := .of (l2 _ _ (l1 _ _ h))
  refine ⟨fun lt => ?_, fun le => ⟨xs, h2, by rw [ha.length]; exact le⟩, fun x H' d ⟨e, y⟩ ed => ?_⟩
  · obtain ⟨v, ev, _⟩ := ha.get (List.getElem?_eq_getElem lt)
    exact ⟨xs, v, h2, ev⟩
  · subst e
    obtain ⟨v, ev, hv⟩ := ha.get ed
    have := y xs h2
    rw [ev] at this; cases this
    exact ⟨F1, .refl fun a m => m, l2, Dd.up l1 _ _ hv⟩
theorem yld_tup {K : PySem.W.Frag} {F : Hp} {p : Addr} {xs : List V} {ds : List PyData} (h : SqT K F p xs) (ha : DdAll K F xs ds) : Yld K (Itt K p) ds F := fun i F1 H1 l1 l2 => by
  have h2 : SqT K H1 p xs := sqT_up l2 (sqT_up l1 h)
  refine ⟨fun lt => ?_, fun le => ⟨xs, h2, by rw [ha.length]; exact le⟩, fun x H' d ⟨e, y⟩ ed => ?_⟩
  · obtain ⟨v, ev, _⟩ := ha.get (List.getElem?_eq_getElem lt)
    exact ⟨xs, v, h2, ev⟩
  · subst e
    obtain ⟨v, ev, hv⟩ := ha.get ed
    have := y xs h2
    rw [ev] at this; cases this
    exact ⟨F1, .refl fun a m => m, l2, Dd.up l1 _ _ hv⟩
theorem WPi_list {Ki : List PyData → Gm → Prop} (h : WPe X iter Γ fun r Γ1 => ∃ ds Γ2, frz Γ1 r = some (.list ds, Γ2) ∧ Ki ds Γ2) : WPi X tg iter Γ Ki := fun F H σ O g R q =>
  WI_of (pi_list pe_W) (by
    refine h F H σ O g _ fun r Γ1 F1 H1 O1 v os ⟨ds, Γ2, ef, k⟩ g1 h1 nd dj f => ?_
    obtain ⟨F2, O2, g2, hd, f2⟩ := frz_ok g1 h1 nd dj ef
    cases hd with
    | lst hl ha => exact ⟨_, rfl, ⟨_, .of (g2.le _ _ hl)⟩, q _ _ _ _ _ _ k g2 (f.trans f2) (yld_list hl ha)⟩)
theorem WPi_tup {Ki : List PyData → Gm → Prop} (h : WPe X iter Γ fun r Γ1 => ∃ ds Γ2, frz Γ1 r = some (.tuple ds, Γ2) ∧ Ki ds Γ2) : WPi X tg iter Γ Ki := fun F H σ O g R q =>
  WI_of (pi_tup pe_W) (by
    refine h F H σ O g _ fun r Γ1 F1 H1 O1 v os ⟨ds, Γ2, ef, k⟩ g1 h1 nd dj f => ?_
    obtain ⟨F2, O2, g2, hd, f2⟩ := frz_ok g1 h1 nd dj ef
    cases hd with
    | tup hl ha => exact ⟨_, rfl, ⟨_, sqT_up g2.le hl⟩, q _ _ _ _ _ _ k g2 (f.trans f2) (yld_tup hl ha)⟩)
theorem yld_rng {K : PySem.W.Frag} {F : Hp} {lo : Int} {n : Nat} : Yld K (Itr lo n) ((List.range n).map fun i : Nat => PyData.int (lo + i)) F := fun i F1 H1 l1 l2 => by
  refine ⟨fun lt => (show i < n by simpa using lt), fun le => (show n ≤ i by simpa using le), fun x H' d ⟨e, y⟩ ed => ?_⟩
  subst e y
  rw [List.getElem?_map] at ed
  cases q : (List.range n)[i]? with
  | none => rw [q] at ed; cases ed
  | some j =>
    rw [q] at ed; cases ed
    obtain ⟨h1, h2⟩ := List.getElem?_eq_some_iff.mp q
    have : j = i := by rw [← h2]; simp
    subst this
    exact ⟨F1, .refl fun a m => m, l2, .int _⟩
theorem WPi_range1 {Ki : List PyData → Gm → Prop} (h : WPe X a Γ fun r Γ1 => ∃ n : Int, vw Γ1 r = some (.int n) ∧ (-(2 ^ 62) ≤ n ∧ n < 2 ^ 62) ∧ Ki ((List.range n.toNat).map fun i : Nat => PyData.int (0 + i)) Γ1) (hm : X.mg "range" = none) (hg : Gl X "range" := by rfl)
    (hs : starEach [a] X.env = [(false, eval a X.env)] := by rfl) : WPi X tg (.Call (.Name "range" p) [a] [] pos) Γ Ki := fun F H σ O g R q =>
  WI_of (pi_range1 hg hm (pa_cons pe_W pa_nil hs) hs) (h F H σ O g _ fun r Γ1 F1 H1 O1 v os ⟨n, ev, hb, k⟩ g1 h1 nd dj f => ⟨n, by rw [Dd.int_inv (vw_ok g1 h1 ev)], hb.1, hb.2, q _ _ _ _ _ _ k g1 (f.post fun a m => .inl m) yld_rng⟩)
theorem WPi_range2 {Ki : List PyData → Gm → Prop} (h : WPd X [a, b] Γ fun ds Γ1 => ∃ lo hi : Int, ds = [.int lo, .int hi] ∧ (-(2 ^ 62) ≤ lo ∧ lo < 2 ^ 62 ∧ -(2 ^ 62) ≤ hi ∧ hi < 2 ^ 62) ∧ Ki ((List.range (hi - lo).toNat).map fun i : Nat => PyData.int (lo + i)) Γ1) (hm : X.mg "range" = none) (hg : Gl X "range" := by rfl)
    (hs : starEach [a, b] X.env = [(false, eval a X.env), (false, eval b X.env)] := by rfl) (hs2 : starEach [b] X.env = [(false, eval b X.env)] := by rfl) : WPi X tg (.Call (.Name "range" p) [a, b] [] pos) Γ Ki := fun F H σ O g R q =>
  WI_of (pi_range2 hg hm pa_W hs hs2) (h F H σ O g _ fun ds Γ1 F1 H1 O1 vs ⟨lo, hi, ed, hb, k⟩ g1 hd f => by
    subst ed
    cases hd with
    | cons x1 x2 => cases x2 with
      | cons x2 x3 =>
        cases x3
        exact ⟨lo, hi, by rw [x1.int_inv, x2.int_inv], hb, q _ _ _ _ _ _ k g1 f yld_rng⟩)
/-- zip of two lists, of two tuples -/
theorem WPi_zip {elts : List Expr} {kk : Nat} {tpos : Pos} {Ki : List PyData → Gm → Prop} (h : WPd X [a, b] Γ fun ds Γ1 => ∃ xs ys, (ds = [.list xs, .list ys] ∨ ds = [.tuple xs, .tuple ys]) ∧ Ki ((xs.zip ys).map fun p => PyData.tuple [p.1, p.2]) Γ1) (hm : X.mg "zip" = none) (hg : Gl X "zip" := by rfl)
    (hs : starEach [a, b] X.env = (false, eval a X.env) :: starEach [b] X.env := by rfl) (hpl : (backTo pos (starEach [b] X.env)).any (·.1) = false := by rfl) : WPi X (.Tuple elts kk tpos) (.Call (.Name "zip" p) [a, b] [] pos) Γ Ki := fun F H σ O g R q =>
  WI_of (RZ.pi_zipA hg hm pa_W hs hpl) (h F H σ O g _ fun ds Γ1 F1 H1 O1 vs ⟨xs, ys, ed, k⟩ g1 hd f => by
    have pair : ∀ {F2 : Hp} {i : Nat} {x y : V} {vx vy : List V} {T : Addr} {H2 : Hp} {d : PyData}, Same F1 F2 → Same F2 H2 → DdAll X.K F1 vx xs → DdAll X.K F1 vy ys → vx[i]? = some x → vy[i]? = some y → H2 T = none →
        ((xs.zip ys).map fun p => PyData.tuple [p.1, p.2])[i]? = some d → ∃ F', Fut (fun _ => False) F2 H2 (fun _ => False) F' (upd H2 T (.tup [x, y])) ∧ Same F' (upd H2 T (.tup [x, y])) ∧ Dd X.K F' (.ref T) d := by
      intro F2 i x y vx vy T H2 d s1 s2 hx hy ex ey hT ed
      obtain ⟨dx, ex', hdx⟩ := hx.getV ex
      obtain ⟨dy, ey', hdy⟩ := hy.getV ey
      have ez : (xs.zip ys)[i]? = some (dx, dy) := List.getElem?_zip_eq_some.mpr ⟨ex', ey'⟩
      rw [List.getElem?_map, ez] at ed
      cases ed
      refine ⟨_, (fut_ice (o := .tup [x, y]) hT s2).post fun a m => m.elim, same_ice s2, fresh_tup s2 hT (.cons (Dd.up s1 _ _ hdx) (.cons (Dd.up s1 _ _ hdy) .nil))⟩
    have lens : ((xs.zip ys).map fun p => PyData.tuple [p.1, p.2]).length = min xs.length ys.length := by simp
    rcases ed with ed | ed
    · subst ed
      cases hd with
      | cons x1 x2 => cases x2 with
        | cons x2 x3 =>
          cases x3
          obtain ⟨p1, v1, rfl, l1, d1⟩ := x1.lst_inv
          obtain ⟨p2, v2, rfl, l2, d2⟩ := x2.lst_inv
          refine ⟨p1, p2, v1, v2, rfl, .inl ⟨.of (g1.le _ _ l1), .of (g1.le _ _ l2), q _ _ _ _ _ _ k g1 f fun i F2 H2 s1 s2 => ?_⟩⟩
          have z1 : SqL X.K H2 p1 v1 := .of (s2 _ _ (s1 _ _ l1))
          have z2 : SqL X.K H2 p2 v2 := .of (s2 _ _ (s1 _ _ l2))
          have n1 := d1.length
          have n2 := d2.length
          rw [lens]
          refine ⟨fun lt => ⟨v1, v2, _, _, z1, z2, List.getElem?_eq_getElem (by omega), List.getElem?_eq_getElem (by omega)⟩, fun le => ⟨v1, v2, z1, z2, by omega⟩, fun x H' d ⟨T, vx, vy, e1, e2, e3, e4, e5⟩ ed => ?_⟩
          subst e1 e3
          exact pair s1 s2 d1 d2 (e4 _ z1) (e5 _ z2) e2 ed
    · subst ed
      cases hd with
      | cons x1 x2 => cases x2 with
        | cons x2 x3 =>
          cases x3
          obtain ⟨p1, v1, rfl, l1, d1⟩ := x1.tup_inv
          obtain ⟨p2, v2, rfl, l2, d2⟩ := x2.tup_inv
          refine ⟨p1, p2, v1, v2, rfl, .inr ⟨sqT_up g1.le l1, sqT_up g1.le l2, q _ _ _ _ _ _ k g1 f fun i F2 H2 s1 s2 => ?_⟩⟩
          have z1 : SqT X.K H2 p1 v1 := sqT_up s2 (sqT_up s1 l1)
          have z2 : SqT X.K H2 p2 v2 := sqT_up s2 (sqT_up s1 l2)
          have n1 := d1.length
          have n2 := d2.length
          rw [lens]
          refine ⟨fun lt => ⟨v1, v2, _, _, z1, z2, List.getElem?_eq_getElem (by omega), List.getElem?_eq_getElem (by omega)⟩, fun le => ⟨v1, v2, z1, z2, by omega⟩, fun x H' d ⟨T, vx, vy, e1, e2, e3, e4, e5⟩ ed => ?_⟩
          subst e1 e3
          exact pair s1 s2 d1 d2 (e4 _ z1) (e5 _ z2) e2 ed)

/-! ### for, while -/
theorem WPs_for (hp : PassesOwn (model X.prog X.w) X.A X.env X.xe) (hc : X.calm = true) (h : WPi X tg iter Γ fun ds Γ1 => ∃ mk : Nat → Gm, Wk Γ1 (mk 0) ∧
      (∀ i d, ds[i]? = some d → WPg X kp tg d (mk i) fun Γ2 => WPss X kp body Γ2 { nx := fun Γ3 => Wk Γ3 (mk (i + 1)), ct := fun Γ3 => Wk Γ3 (mk (i + 1)), bk := D.nx, rt := D.rt }) ∧ D.nx (mk ds.length))
    (hs : ∀ x, foldedSetIterable iter X.env x = pure x := by intro _; rfl) : WPs X kp (.For tg iter body [] pos) Γ D := fun F H σ O g E q =>
  WS_of (ps_for hp hc pi_W pg_W pss_W hs) (h F H σ O g _ fun ds Γ1 F1 H1 O1 J ⟨mk, w0, turn, fin⟩ g1 f1 yl => by
    have q1 := q.step f1 .refl
    obtain ⟨O2, g2, s2⟩ := g1.weak w0
    have q2 := q1.own s2
    refine ⟨fun i m σ' H' => m = ds.length - i ∧ i ≤ ds.length ∧ ∃ F' O', RepG X.K F' H' σ' (mk i) O' ∧ kept kp σ σ' ∧ Fut (Own O2) F1 H1 (Own O') F' H', ⟨ds.length, by simp, Nat.zero_le _, F1, O2, g2, .refl, .refl fun a m => m⟩, ?_⟩
    rintro i m σ' H' ⟨rfl, hi, F', O', g', k', f'⟩
    obtain ⟨y1, y2, y3⟩ := yl i F' H' f'.le g'.le
    by_cases hlt : i < ds.length
    · refine .inr ⟨y1 hlt, fun σ'' H'' => ∃ F'' O'', RepG X.K F'' H'' σ'' (mk (i + 1)) O'' ∧ kept kp σ σ'' ∧ Fut (Own O2) F1 H1 (Own O'') F'' H'', fun σ'' H'' z => ⟨ds.length - (i + 1), by omega, rfl, hlt, z⟩, fun x H'' hy => ?_⟩
      obtain ⟨F'', f'', le'', hx⟩ := y3 x H'' _ hy (List.getElem?_eq_getElem hlt)
      have g'' := g'.beside le'' f''
      have f3 : Fut (Own O') F' H' (Own O') F'' H'' := ((f''.wide (T := Own O')).pre fun a m => by rcases m with m | m; exact m.elim; exact m).post fun a m => .inr m
      refine turn i _ (List.getElem?_eq_getElem hlt) F'' H'' σ' O' g'' x hx _ fun Γ2 F3 H3 σ3 O3 kb g3 k3 f4 => ?_
      have ft := (f'.trans f3).trans f4
      have kt := k'.trans k3
      have qq := q2.step ft kt
      refine kb F3 H3 σ3 O3 g3 _ ⟨fun Γ4 F4 H4 σ4 O4 d g4 k4 f5 => ?_, qq.rt, qq.nx, fun Γ4 F4 H4 σ4 O4 d g4 k4 f5 => ?_⟩
      · obtain ⟨O5, g5, s5⟩ := g4.weak d
        exact ⟨F4, O5, g5, kt.trans k4, (ft.trans f5).post s5⟩
      · obtain ⟨O5, g5, s5⟩ := g4.weak d
        exact ⟨F4, O5, g5, kt.trans k4, (ft.trans f5).post s5⟩
    · have e : i = ds.length := by omega
      subst e
      exact .inl ⟨y2 (Nat.le_refl _), q2.nx _ _ _ _ _ fin g' k' f'⟩)
theorem WPs_while {S : Type} (P : S → Prop) (mk : S → Gm) (μ : S → Nat) (s0 : S) (w0 : Wk Γ (mk s0)) (p0 : P s0) (hp : PassesOwn (model X.prog X.w) X.A X.env X.xe)
    (turn : ∀ s, P s → WPt X c (mk s) fun k Γ1 => (k = true → WPss X kp body Γ1 { nx := fun Γ2 => ∃ s', P s' ∧ μ s' < μ s ∧ Wk Γ2 (mk s'), ct := fun Γ2 => ∃ s', P s' ∧ μ s' < μ s ∧ Wk Γ2 (mk s'), bk := D.nx, rt := D.rt }) ∧ (k = false → D.nx Γ1)) :
    WPs X kp (.While c body [] pos) Γ D := fun F H σ O g E q =>
  WS_of (ps_while hp pt_W pss_W) (by
    obtain ⟨O2, g2, s2⟩ := g.weak w0
    have q2 := q.own s2
    refine ⟨fun m σ' H' => ∃ s F' O', m = μ s ∧ P s ∧ RepG X.K F' H' σ' (mk s) O' ∧ kept kp σ σ' ∧ Fut (Own O2) F H (Own O') F' H', ⟨_, s0, F, O2, rfl, p0, g2, .refl, .refl fun a m => m⟩, ?_⟩
    rintro m σ' H' ⟨s, F', O', rfl, ps, g', k', f'⟩
    refine turn s ps F' H' σ' O' g' _ fun k Γ1 F1 H1 O1 ⟨k1, k2⟩ g1 f1 => ?_
    have ft := f'.trans f1
    cases k with
    | false => exact iteF (q2.nx _ _ _ _ _ (k2 rfl) g1 k' ft)
    | true =>
      have qq := q2.step ft k'
      have nx : ∀ Γ2 F2 H2 σ2 O2', (∃ s', P s' ∧ μ s' < μ s ∧ Wk Γ2 (mk s')) → RepG X.K F2 H2 σ2 Γ2 O2' → kept kp σ' σ2 → Fut (Own O1) F1 H1 (Own O2') F2 H2 →
          ∃ s' F'' O'', P s' ∧ μ s' < μ s ∧ RepG X.K F'' H2 σ2 (mk s') O'' ∧ kept kp σ σ2 ∧ Fut (Own O2) F H (Own O'') F'' H2 := fun Γ2 F2 H2 σ2 O2' ⟨s', p', l', w'⟩ g2 k2 f2 => by
        obtain ⟨O3, g3, s3⟩ := g2.weak w'
        exact ⟨s', F2, O3, p', l', g3, k'.trans k2, (ft.trans f2).post s3⟩
      refine iteT ⟨fun σ2 H2 => ∃ s' F'' O'', P s' ∧ μ s' < μ s ∧ RepG X.K F'' H2 σ2 (mk s') O'' ∧ kept kp σ σ2 ∧ Fut (Own O2) F H (Own O'') F'' H2, fun σ2 H2 ⟨s', F'', O'', p', l', g3, k3, f3⟩ => ⟨_, l', s', F'', O'', rfl, p', g3, k3, f3⟩, ?_⟩
      exact k1 rfl F1 H1 σ' O1 g1 _ ⟨nx, qq.rt, qq.nx, nx⟩)
end
end G
namespace G
open PySem PySem.Spec PyProof.Rows L2

/-! ### defs: contracts, calls, bodies -/
abbrev Ctr := List C → (C → List C → Prop) → Prop
def spG (K : PySem.W.Frag) (A : Ctr) : Sp := fun vs H Q _ => ∃ (cs : List C) (F : Hp) (O : Nat → List Addr) (Rz : C → List C → Prop), A cs Rz ∧ RepG K F H (vs.map some) (cs.map some) O ∧
  ∀ c cs' F' H' O' v os, Rz c cs' → RepG K F' H' (vs.map some) (cs'.map some) O' → RepC K F' H' c v os → os.Nodup → (∀ a ∈ os, ¬ Own O' a) → Fut (Own O) F H (OwnT O' os) F' H' → Q v H'
/-- data in, data out, on what pre holds of -/
def PureD (pre : List PyData → Prop) (g : List PyData → PyData) : Ctr := fun cs Rz => ∃ ds, cs = ds.map .dat ∧ pre ds ∧ Rz (.dat (g ds)) cs
section
variable {X : Cx} {kp : List Nat} {Γ : Gm} {Kn : KR} {D : Out} {st : Stmt} {rest sts sts' body : List Stmt} {e c a b tg iter : Expr} {es : List Expr} {pos p p2 : Pos} {A : Ctr} {k : Nat} {f : Addr} {fd : FuncData} {ps : List Str} {x : Str}
theorem repG_dats {K : PySem.W.Frag} {F H : Hp} {vs : List V} {ds : List PyData} (le : Same F H) (h : DdAll K F vs ds) : RepG K F H (vs.map some) ((ds.map C.dat).map some) (fun _ => []) := by
  refine ⟨le, by simp [h.length], fun i c e => ?_, fun _ => .nil, fun i j a m => (by cases m), fun _ _ => rfl⟩
  rw [List.getElem?_map, List.getElem?_map] at e
  cases q : ds[i]? with
  | none => rw [q] at e; cases e
  | some d =>
    rw [q] at e
    have e : some (some (C.dat d)) = some (some c) := e
    cases e
    obtain ⟨v, ev, hd⟩ := h.get q
    exact ⟨v, by rw [List.getElem?_map, ev]; rfl, .dat hd⟩
theorem WPe_callD (Gf : FnOk X.prog X.w X.K X.mg X.base CX0 k f fd ps (spG X.K A)) (hr : Room k X.A) (hm : X.mg x = some (.ref f)) (hk : PySem.W.keepIn X.K (.ref f) = true) (hb : Binds X.K fd ps []) (h : WPd X (e :: es) Γ fun ds Γ1 => A (ds.map .dat) fun c _ => Kn (.val c) Γ1)
    (hg : Gl X x := by rfl) (hdb : (x == ("__debug__" : Str)) = false := by decide) (he : starEach (e :: es) X.env = (false, eval e X.env) :: starEach es X.env := by rfl) (hpl : (backTo pos (starEach es X.env)).any (·.1) = false := by rfl) :
    WPe X (.Call (.Name x p) (e :: es) [] pos) Γ Kn := fun F H σ O g Q q =>
  WE_of (pe_call Gf hr hg hm hk hb .nil pass0 pa_W hdb he hpl) (h F H σ O g _ fun ds Γ1 F1 H1 O1 vs k1 g1 hd f1 => by
    refine ⟨ds.map .dat, F1, fun _ => [], _, k1, by rw [List.append_nil]; exact repG_dats g1.le hd, fun c cs' F' H' O' v os kc g' rc nd dj f' => ?_⟩
    have f2 : Fut (fun _ => False) F1 H1 (· ∈ os) F' H' := (f'.pre fun a ⟨i, m⟩ => by cases m).post fun a m => .inr m
    exact done_new g1 (fun r Γ' F' H' O' v os k g h nd dj f' => q r Γ' F' H' O' v os k g h nd dj (f1.trans f')) kc rc nd g'.le f2)
/-- the first argument a list of the frame that the callee may change -/
theorem WPe_callM (Gf : FnOk X.prog X.w X.K X.mg X.base CX0 k f fd ps (spG X.K A)) (hr : Room k X.A) (hm : X.mg x = some (.ref f)) (hk : PySem.W.keepIn X.K (.ref f) = true) (hb : Binds X.K fd ps [])
    (h : WPe X e Γ fun r Γ0 => ∃ i, r = .pth i [] ∧ WPd X es Γ0 fun ds Γ1 => ∃ cs1, ownAt Γ1 i [] = some cs1 ∧ A (.own cs1 :: ds.map .dat) fun c cs' => ∃ c0 r0, cs' = c0 :: r0 ∧ Kn (.val c) (Γ1.set i (some c0)))
    (hg : Gl X x := by rfl) (hdb : (x == ("__debug__" : Str)) = false := by decide) (he : starEach (e :: es) X.env = (false, eval e X.env) :: starEach es X.env := by rfl) (hpl : (backTo pos (starEach es X.env)).any (·.1) = false := by rfl) :
    WPe X (.Call (.Name x p) (e :: es) [] pos) Γ Kn := fun F H σ O g Q q =>
  WE_of (pe_call Gf hr hg hm hk hb .nil pass0 (pa_cons pe_W pa_W he) hdb he hpl) (by
    refine h F H σ O g _ fun r Γ0 F0 H0 O0 v0 os0 ⟨i, er, k0⟩ g0 r0 nd0 dj0 f0 => ?_
    subst er
    refine k0 F0 H0 σ O0 g0 _ fun ds Γ1 F1 H1 O1 vs ⟨cs1, eo, k1⟩ g1 hd f1 => ?_
    obtain ⟨c1, e1, ea⟩ := ownAt_iff eo
    cases (show some c1 = some (C.own cs1) by cases c1 <;> exact ea)
    have ev : σ[i]? = some (some v0) := by
      cases r0 with | pth ev pv => cases pv; exact ev
    obtain ⟨w, ew, rc⟩ := g1.cell i _ e1
    rw [ev] at ew; cases ew
    have f01 := (f0.post (P2 := Own O0) fun a m => .inl m).trans f1
    have gc : RepG X.K F1 H1 ((v0 :: vs).map some) ((C.own cs1 :: ds.map C.dat).map some) (fun j => if j = 0 then O1 i else []) := by
      refine ⟨g1.le, by simp [hd.length], fun j c e => ?_, fun j => ?_, fun j l a m1 m2 => ?_, fun j hj => ?_⟩
      · cases j with
        | zero =>
          have e : some (some (C.own cs1)) = some (some c) := e
          cases e
          exact ⟨v0, rfl, by rw [if_pos rfl]; exact rc⟩
        | succ j =>
          obtain ⟨v, e2, r2⟩ := (repG_dats g1.le hd).cell j c e
          exact ⟨v, e2, r2⟩
      · split
        · exact g1.nd i
        · exact .nil
      · split at m1
        · split at m2
          · omega
          · cases m2
        · cases m1
      · split
        · rename_i z; subst z; exact absurd rfl (hj (C.own cs1))
        · rfl
    refine ⟨C.own cs1 :: ds.map .dat, F1, fun j => if j = 0 then O1 i else [], _, k1, by rw [List.append_nil]; exact gc, fun c cs' F' H' O' v os ⟨c0, r0', ec, kc⟩ g' rc' nd dj f' => ?_⟩
    subst ec
    have hc0 := g'.cell 0 c0 rfl
    obtain ⟨w0, e0, rc0⟩ := hc0
    have e0 : some (some v0) = some (some w0) := e0
    cases e0
    have pre : ∀ a, Own (fun j => if j = 0 then O1 i else []) a → a ∈ O1 i := fun a ⟨j, m⟩ => by
      simp only at m
      split at m
      · exact m
      · cases m
    have f2 : Fut (fun a => a ∈ O1 i) F1 H1 (OwnT O' os) F' H' := f'.pre pre
    have gd : RepG X.K F' H' σ (Γ1.set i none) (Osub O1 i []) := (g1.drop (i := i)).move f'.le g'.le fun a m => by
      obtain ⟨j, m⟩ := m
      by_cases hj : j = i
      · subst hj; rw [Osub_same] at m; cases m
      · rw [Osub_ne hj] at m
        have na : ¬ a ∈ O1 i := fun z => hj (g1.dj j i a m z)
        exact keepF f2 (os := [a]) (fun b mb => by rw [List.mem_singleton.mp mb]; exact g1.there a ⟨j, m⟩) (fun b mb => by rw [List.mem_singleton.mp mb]; exact na) a List.mem_cons_self
    have g3 := gd.putV (i := i) ev rc0 (g'.nd 0) (fun a m j hj m2 => by
      rw [Osub_ne hj] at m2
      rcases f2.newO a (.inl ⟨0, m⟩) with z | z
      · exact hj (g1.dj j i a m2 z)
      · obtain ⟨⟨xs, e⟩, _⟩ := g1.there a ⟨j, m2⟩
        rw [z] at e; cases e)
    have z : (Γ1.set i none).set i (some c0) = Γ1.set i (some c0) := by simp
    rw [z] at g3
    have sub3 : ∀ a, Own (Osub (Osub O1 i []) i (O' 0)) a → (∃ j, j ≠ i ∧ a ∈ O1 j) ∨ a ∈ O' 0 := fun a ⟨j, m⟩ => by
      by_cases hj : j = i
      · subst hj; rw [Osub_same] at m; exact .inr m
      · rw [Osub_ne hj, Osub_ne hj] at m; exact .inl ⟨j, hj, m⟩
    have f3 : Fut (Own O1) F1 H1 (OwnT (Osub (Osub O1 i []) i (O' 0)) os) F' H' :=
      ((f2.wide (T := fun a => ∃ j, j ≠ i ∧ a ∈ O1 j)).pre fun a m => by
        rcases m with m | ⟨j, _, m⟩
        · exact ⟨i, m⟩
        · exact ⟨j, m⟩).post fun a m => by
        rcases m with m | m
        · rcases sub3 a m with m | m
          · exact .inr m
          · exact .inl (.inl ⟨0, m⟩)
        · exact .inl (.inr m)
    refine q _ _ F' H' _ v os kc g3 (.val rc') nd (fun a m z => ?_) (f01.trans f3)
    rcases sub3 a z with ⟨j, hj, m2⟩ | m2
    · rcases f2.newO a (.inr m) with z | z
      · exact hj (g1.dj j i a m2 z)
      · obtain ⟨⟨xs, e⟩, _⟩ := g1.there a ⟨j, m2⟩
        rw [z] at e; cases e
    · exact dj a m ⟨0, m2⟩)

/-! ### a body keeps a contract -/
def plainC : C → Bool
  | .own _ => false
  | _ => true
theorem RepC.plain {K : PySem.W.Frag} {F H F' H' : Hp} (le : Same F F') {c : C} {v : V} {os : List Addr} (r : RepC K F H c v os) (h : plainC c = true) : RepC K F' H' c v [] := by
  cases r with
  | dat h => exact .dat (Dd.up le _ _ h)
  | adr => exact .adr
  | seq hs => exact .seq (Same.seq le hs)
  | own _ _ _ => cases h
/-- the cells of the arguments behind the body: those of the kept slots as they stand now, others as they came -/
def Back (kp : List Nat) (cs : List C) (Γ : Gm) (cs' : List C) : Prop := cs'.length = cs.length ∧ ∀ (i : Nat) (c : C), cs'[i]? = some c → (i ∈ kp ∧ Γ[i]? = some (some c)) ∨ (cs[i]? = some c ∧ plainC c = true)
open Classical in
theorem back_ok {K : PySem.W.Frag} {F H F' H' : Hp} {σ : L2.St} {Γ : Gm} {O O' : Nat → List Addr} {N : List Str} {vs : List V} {cs cs' : List C} (g0 : RepG K F H (vs.map some) (cs.map some) O) (g : RepG K F' H' σ Γ O') (hk : kept kp (L2.start N vs) σ) (hl : vs.length ≤ N.length) (le : Same F F') (hb : Back kp cs Γ cs') :
    ∃ O2, RepG K F' H' (vs.map some) (cs'.map some) O2 ∧ ∀ a, Own O2 a → Own O' a := by
  have hlen : vs.length = cs.length := by have := g0.len; simp at this; omega
  refine ⟨fun i => if i ∈ kp ∧ (∃ c, cs'[i]? = some c ∧ Γ[i]? = some (some c)) then O' i else [], ⟨g.le, by simp [hb.1, hlen], fun i c e => ?_, fun i => ?_, fun i j a h1 h2 => ?_, fun i h => ?_⟩, fun a ⟨i, m⟩ => ?_⟩
  · rw [List.getElem?_map] at e
    obtain ⟨c', q, e⟩ := Option.map_eq_some_iff.mp e
    cases e
    have hi : i < vs.length := by rw [hlen, ← hb.1]; exact (List.getElem?_eq_some_iff.mp q).1
    by_cases hc : i ∈ kp ∧ (∃ c, cs'[i]? = some c ∧ Γ[i]? = some (some c))
    · rw [if_pos hc]
      obtain ⟨c2, e2, e3⟩ := hc.2
      rw [q] at e2; cases e2
      obtain ⟨v, ev, r⟩ := g.cell i c e3
      rw [hk.2 i hc.1] at ev
      unfold L2.start at ev
      rw [List.getElem?_append_left (by simpa using hi)] at ev
      exact ⟨v, ev, r⟩
    · rw [if_neg hc]
      rcases hb.2 i c q with z | ⟨z1, z2⟩
      · exact absurd ⟨z.1, c, q, z.2⟩ hc
      · obtain ⟨v, ev, r⟩ := g0.cell i c (by rw [List.getElem?_map, z1]; rfl)
        exact ⟨v, ev, r.plain le z2⟩
  · split
    · exact g.nd i
    · exact .nil
  · split at h1
    · split at h2
      · exact g.dj i j a h1 h2
      · cases h2
    · cases h1
  · split
    · rename_i z
      obtain ⟨_, c, z1, z2⟩ := z
      exact absurd (by rw [List.getElem?_map, z1]; rfl) (h c)
    · rfl
  · simp only at m
    split at m
    · exact ⟨i, m⟩
    · cases m
theorem start_rep {K : PySem.W.Frag} {F H : Hp} {vs : List V} {cs : List C} {O : Nat → List Addr} {N : List Str} (g : RepG K F H (vs.map some) (cs.map some) O) (hl : vs.length ≤ N.length) :
    ∃ O', RepG K F H (L2.start N vs) (cs.map some ++ List.replicate (N.length - cs.length) none) O' ∧ (∀ a, Own O' a → Own O a) := by
  have hlen : vs.length = cs.length := by have := g.len; simp at this; omega
  refine ⟨O, ⟨g.le, by unfold L2.start; simp [hlen], fun i c e => ?_, g.nd, g.dj, fun i h => ?_⟩, fun a m => m⟩
  · by_cases hi : i < cs.length
    · rw [List.getElem?_append_left (by simpa using hi)] at e
      obtain ⟨v, ev, r⟩ := g.cell i c e
      refine ⟨v, ?_, r⟩
      unfold L2.start
      rw [List.getElem?_append_left (by simpa using (by omega : i < vs.length))]
      exact ev
    · rw [List.getElem?_append_right (by simpa using hi), List.getElem?_replicate] at e
      split at e <;> cases e
  · by_cases hi : i < cs.length
    · refine g.off i fun c e => h c ?_
      rw [List.getElem?_append_left (by simpa using hi)]; exact e
    · refine g.off i fun c e => ?_
      rw [List.getElem?_map, List.getElem?_eq_none (by omega)] at e
      cases e
variable {P : Program} {w : World} {K : PySem.W.Frag} {mg : Str → Option Value} {base : Heap}
theorem fn_ok {qual : Str} {st : Stmt} {N : List Str} (F : Fun K x qual st f fd) (S : FnScope N ps (defScope st)) (hA : ∀ cs Rz, A cs Rz → cs.length = ps.length)
    (hbody : ∀ (cdv : Value) (A0 : Around) (outer : List Env) (s : Shared) (H : Hp) (E : XK), Room k (A0.deeper (envOfC qual (defScope st) s.heap.objs.size f cdv)) → ∀ cs Rz, A cs Rz →
      WPss (cxOf CX0 P w K mg base N qual (defScope st) f cdv A0 outer s H E).nox kp (defBody st) (cs.map some ++ List.replicate (N.length - cs.length) none)
        { nx := fun Γ' => ∃ cs', Rz (.dat .none) cs' ∧ Back kp cs Γ' cs', rt := fun c Γ' => ∃ cs', Rz c cs' ∧ Back kp cs Γ' cs' }) : FnOk P w K mg base CX0 (k + 1) f fd ps (spG K A) := by
  have lenq : ∀ vs H Q E, spG K A vs H Q E → vs.length = ps.length := fun vs H Q E ⟨cs, F0, O, Rz, hA', g, _⟩ => by
    have h1 := hA cs Rz hA'
    have h2 := g.len
    simp at h2
    omega
  have hpl : ps.length ≤ N.length := by have := congrArg List.length S.pre; rw [List.length_take] at this; omega
  refine F.ok S lenq fun cdv A0 outer s H vs Q E hr h => ?_
  have hl := lenq vs H Q E h
  obtain ⟨cs, F0, O, Rz, hA', g, q⟩ := h
  obtain ⟨O', g', so⟩ := start_rep (N := N) g (by omega)
  refine ⟨_, pss_W, hbody cdv A0 outer s H E hr cs Rz hA' F0 H _ O' g' _ ⟨fun Γ' F' H' σ' O2 ⟨cs', r, b⟩ g2 k2 f2 => ?_, fun c Γ' F' H' σ' O2 v os ⟨cs', r, b⟩ g2 k2 rc nd dj f2 => ?_, fun Γ' F' H' σ' O2 z => z.elim, fun Γ' F' H' σ' O2 z => z.elim⟩⟩
  · obtain ⟨O3, g3, s3⟩ := back_ok g g2 k2 (by omega) f2.le b
    exact q _ cs' F' H' O3 _ [] r g3 (.dat .non) .nil (fun a m => by cases m) ((f2.pre so).post fun a m => by rcases m with m | m; exact s3 a m; cases m)
  · obtain ⟨O3, g3, s3⟩ := back_ok g g2 k2 (by omega) f2.le b
    exact q c cs' F' H' O3 v os r g3 rc nd (fun a m z => dj a m (s3 a z)) ((f2.pre so).post fun a m => m.imp (s3 a) id)
end
end G
namespace G
open PySem PySem.Spec PyProof.Rows L2

/-! ### comprehensions -/
def wipeG (Γ : Gm) : List Nat → Gm
  | [] => Γ
  | v :: vs => (wipeG Γ vs).set v none
theorem wipeG_length (Γ : Gm) : ∀ vs, (wipeG Γ vs).length = Γ.length
  | [] => rfl
  | v :: vs => by unfold wipeG; rw [List.length_set, wipeG_length Γ vs]
theorem wipeG_some {Γ : Gm} {i : Nat} {c : C} : ∀ {vs : List Nat}, (wipeG Γ vs)[i]? = some (some c) → Γ[i]? = some (some c) ∧ i ∉ vs
  | [], h => ⟨h, by simp⟩
  | v :: vs, h => by
    unfold wipeG at h
    by_cases hi : v = i
    · subst hi
      by_cases hv : v < (wipeG Γ vs).length
      · rw [List.getElem?_set_self hv] at h; cases h
      · rw [List.getElem?_eq_none (by simpa using hv)] at h; cases h
    · rw [List.getElem?_set_ne hi] at h
      obtain ⟨h1, h2⟩ := wipeG_some h
      exact ⟨h1, by simp only [List.mem_cons, not_or]; exact ⟨fun e => hi e.symm, h2⟩⟩
theorem wipe_keep {σ : L2.St} {i : Nat} : ∀ {vs : List Nat}, i ∉ vs → (wipe σ vs)[i]? = σ[i]?
  | [], _ => rfl
  | v :: vs, h => by
    simp only [List.mem_cons, not_or] at h
    unfold wipe
    rw [List.getElem?_set_ne (Ne.symm h.1)]
    exact wipe_keep h.2
open Classical in
theorem RepG.wipe {K : PySem.W.Frag} {F H : Hp} {σ : L2.St} {Γ : Gm} {O : Nat → List Addr} (g : RepG K F H σ Γ O) (vs : List Nat) : ∃ O', RepG K F H (L2.wipe σ vs) (wipeG Γ vs) O' ∧ ∀ a, Own O' a → Own O a := by
  refine ⟨fun i => if (∃ c, (wipeG Γ vs)[i]? = some (some c)) then O i else [], ⟨g.le, by rw [wipeG_length, wipe_length]; exact g.len, fun i c e => ?_, fun i => ?_, fun i j a h1 h2 => ?_, fun i h => ?_⟩, fun a ⟨i, m⟩ => ?_⟩
  · obtain ⟨e1, e2⟩ := wipeG_some e
    obtain ⟨v, ev, r⟩ := g.cell i c e1
    exact ⟨v, by rw [wipe_keep e2]; exact ev, by rw [if_pos ⟨c, e⟩]; exact r⟩
  · split
    · exact g.nd i
    · exact .nil
  · split at h1
    · split at h2
      · exact g.dj i j a h1 h2
      · cases h2
    · cases h1
  · rw [if_neg (fun ⟨c, e⟩ => h c e)]
  · simp only at m
    split at m
    · exact ⟨i, m⟩
    · cases m
/-- behind a comprehension: its own names mean what they meant -/
def unwipe (Γ0 Γ : Gm) : List Nat → Gm
  | [] => Γ
  | v :: vs => (unwipe Γ0 Γ vs).set v (match Γ0[v]? with
    | some (some c) => if plainC c = true then some c else none
    | _ => none)
theorem unwipe_ok {K : PySem.W.Frag} {F0 H0 F H : Hp} {σ : L2.St} {Γ0 Γ : Gm} {O0 O : Nat → List Addr} (g0 : RepG K F0 H0 σ Γ0 O0) (le : Same F0 F) : ∀ {vs : List Nat}, RepG K F H (L2.wipe σ vs) Γ O → (∀ i ∈ vs, ∀ c, Γ[i]? ≠ some (some c)) → RepG K F H σ (unwipe Γ0 Γ vs) O := by
  intro vs g hv
  have key : ∀ ws : List Nat, (unwipe Γ0 Γ ws).length = Γ.length ∧ ∀ i c, (unwipe Γ0 Γ ws)[i]? = some (some c) → (i ∈ ws ∧ Γ0[i]? = some (some c) ∧ plainC c = true) ∨ (i ∉ ws ∧ Γ[i]? = some (some c)) := by
    intro ws
    induction ws with
    | nil => exact ⟨rfl, fun i c e => .inr ⟨by simp, e⟩⟩
    | cons v ws ih =>
      refine ⟨by unfold unwipe; rw [List.length_set, ih.1], fun i c e => ?_⟩
      unfold unwipe at e
      by_cases hi : v = i
      · subst hi
        by_cases hl : v < (unwipe Γ0 Γ ws).length
        · rw [List.getElem?_set_self hl] at e
          have e := Option.some.inj e
          split at e
          · rename_i c0 q
            split at e
            · rename_i pc
              cases e
              exact .inl ⟨List.mem_cons_self, q, pc⟩
            · cases e
          · cases e
        · rw [List.getElem?_eq_none (by simpa using hl)] at e; cases e
      · rw [List.getElem?_set_ne hi] at e
        rcases ih.2 i c e with z | z
        · exact .inl ⟨List.mem_cons_of_mem _ z.1, z.2⟩
        · exact .inr ⟨by simp only [List.mem_cons, not_or]; exact ⟨fun e => hi e.symm, z.1⟩, z.2⟩
  obtain ⟨hl, hc⟩ := key vs
  refine ⟨g.le, by rw [hl, g.len, wipe_length], fun i c e => ?_, g.nd, g.dj, fun i h => ?_⟩
  · rcases hc i c e with ⟨m, e1, pc⟩ | ⟨m, e1⟩
    · obtain ⟨v, ev, r⟩ := g0.cell i c e1
      exact ⟨v, ev, by rw [g.off i (hv i m)]; exact r.plain le pc⟩
    · obtain ⟨v, ev, r⟩ := g.cell i c e1
      exact ⟨v, by rw [← wipe_keep m]; exact ev, r⟩
  · refine g.off i fun c e => ?_
    by_cases m : i ∈ vs
    · exact hv i m c e
    · refine h c ?_
      have : ∀ ws : List Nat, i ∉ ws → (unwipe Γ0 Γ ws)[i]? = Γ[i]? := by
        intro ws
        induction ws with
        | nil => intro _; rfl
        | cons v ws ih =>
          intro hm
          simp only [List.mem_cons, not_or] at hm
          unfold unwipe
          rw [List.getElem?_set_ne (Ne.symm hm.1)]
          exact ih hm.2
      rw [this vs m]; exact e
section
variable {X : Cx} {kp : List Nat} {Γ : Gm} {Kn : KR} {D : Out} {e c elt tg iter : Expr} {ifs : List Expr} {scope : Scope} {own : List (Str × Nat)} {pos p p2 : Pos}
/-- the block's context -/
abbrev blk (X : Cx) (scope : Scope) (s : Shared) (H : Hp) (Ca : Addr) (cl : List (Str × Addr)) (fp : List Addr) : Cx := X.blk s H scope (compEnvC scope cl Ca X.env) fp
def gB (X : Cx) (scope : Scope) (tg : Expr) : TG := fun v σ H Q => ∀ s H0 Ca cl fp, WG (blk X scope s H0 Ca cl fp) tg v σ H Q
def ifB (X : Cx) (scope : Scope) : List Expr → TT
  | [] => fun σ H Q => Q true H
  | [c] => fun σ H Q => ∀ s H0 Ca cl fp, WT (blk X scope s H0 Ca cl fp) c σ H Q
  | _ => fun _ _ _ => False
def eB (X : Cx) (scope : Scope) (elt : Expr) : TE := fun σ H Q => ∀ s H0 Ca cl fp, WE (blk X scope s H0 Ca cl fp) elt σ H Q
def WPifs (X : Cx) (ifs : List Expr) (Γ : Gm) (Kt : Bool → Gm → Prop) : Prop := match ifs with
  | [] => Kt true Γ
  | [c] => WPt X c Γ Kt
  | _ => False
/-- the slots outside of vs -/
def outside (n : Nat) (vs : List Nat) : List Nat := (List.range n).filter fun i => !(vs.contains i)
theorem wipe_outside {σ σ2 : L2.St} {vs : List Nat} (k : kept (outside σ.length vs) (L2.wipe σ vs) σ2) : L2.wipe σ2 vs = L2.wipe σ vs := by
  have hl : σ2.length = σ.length := by rw [k.1, wipe_length]
  apply List.ext_getElem?
  intro i
  by_cases hi : i < σ.length
  · by_cases m : i ∈ vs
    · have w : ∀ (τ : L2.St), i < τ.length → ∀ ws : List Nat, i ∈ ws → (L2.wipe τ ws)[i]? = some none := by
        intro τ ht ws
        induction ws with
        | nil => intro h; cases h
        | cons v ws ih =>
          intro hm
          unfold L2.wipe
          by_cases hv : v = i
          · subst hv; rw [List.getElem?_set_self (by rw [wipe_length]; exact ht)]
          · rw [List.getElem?_set_ne hv]
            rcases List.mem_cons.mp hm with z | z
            · exact absurd z.symm hv
            · exact ih z
      rw [w σ2 (by omega) vs m, w σ hi vs m]
    · rw [wipe_keep m, k.2 i (by unfold outside; simp [hi, m])]
  · rw [List.getElem?_eq_none (by rw [wipe_length]; omega), List.getElem?_eq_none (by rw [wipe_length]; omega)]
theorem lc_core' {F H : Hp} {σ : L2.St} {O : Nat → List Addr} (hlen : X.N.length = Γ.length) (g : RepG X.K F H σ Γ O) (hc : ifs = [] ∨ ∃ c, ifs = [c])
    (h : WPi X tg iter Γ fun ds Γ1 => ∃ (mk : Nat → Gm) (acc : Nat → List C), ds.length ≤ sizeLine ∧ Wk (wipeG Γ1 (own.map (·.2))) (mk 0) ∧ acc 0 = [] ∧ (∀ i, ∀ j ∈ own.map (·.2), ∀ c, (mk i)[j]? ≠ some (some c)) ∧
      (∀ i d, ds[i]? = some d → ∀ s H Ca cl fp, WPg (blk X scope s H Ca cl fp) (outside X.N.length (own.map (·.2))) tg d (mk i) fun Γ2 => ∀ s H Ca cl fp, WPifs (blk X scope s H Ca cl fp) ifs Γ2 fun k Γ3 =>
        (k = true → ∀ s H Ca cl fp, WPe (blk X scope s H Ca cl fp) elt Γ3 fun r Γ4 => ∃ cl Γ5, itemR Γ4 r = some (cl, Γ5) ∧ Wk (wipeG Γ5 (own.map (·.2))) (mk (i + 1)) ∧ acc (i + 1) = acc i ++ [cl]) ∧
        (k = false → Wk (wipeG Γ3 (own.map (·.2))) (mk (i + 1)) ∧ acc (i + 1) = acc i)) ∧
      Kn (.val (.own (acc ds.length))) (unwipe Γ1 (mk ds.length) (own.map (·.2)))) {Q : VK}
    (q : ∀ r Γ' F' H' O' v os, Kn r Γ' → RepG X.K F' H' σ Γ' O' → RepR X.K F' H' σ r v os → os.Nodup → (∀ a ∈ os, ¬ Own O' a) → Fut (Own O) F H (OwnT O' os) F' H' → Q v H') :
    tLc (WI X tg iter) (gB X scope tg) (ifB X scope ifs) (eB X scope elt) (own.map (·.2)) σ H Q := by
  refine h F H σ O g _ fun ds Γ1 F1 H1 O1 J ⟨mk, acc, hz, w0, a0, hoff, turn, fin⟩ g1 f1 yl D hD => ?_
  have hσ : σ.length = X.N.length := by rw [← g.len, hlen]
  obtain ⟨Ow, gw, sw⟩ := g1.wipe (own.map (·.2))
  obtain ⟨O2, g2, s2⟩ := gw.weak w0
  have nD : ¬ Own O1 D := fun z => by obtain ⟨⟨xs, e⟩, _⟩ := g1.there D z; rw [hD] at e; cases e
  refine ⟨fun i m H' => m = ds.length - i ∧ i ≤ ds.length ∧ (acc i).length ≤ i ∧ ∃ F' O' xs os, RepG X.K F' H' (L2.wipe σ (own.map (·.2))) (mk i) O' ∧ RepC X.K F' H' (.own (acc i)) (.ref D) (D :: os) ∧ H' D = some (.lst xs) ∧ (D :: os).Nodup ∧ (∀ a ∈ D :: os, ¬ Own O' a) ∧ Fut (Own O1) F1 H1 (OwnT O' (D :: os)) F' H',
    ⟨ds.length, by simp, Nat.zero_le _, by rw [a0]; exact Nat.le_refl _, F1, O2, [], [], g2.beside (same_new g1.le hD) (fut_new hD), by rw [a0]; exact .own upd_same (free_F g1.le hD) .nil, upd_same, by simp, fun a m => ?_, ?_⟩, ?_⟩
  · rw [List.mem_singleton.mp m]; exact fun z => nD (sw _ (s2 _ z))
  · exact (((fut_new hD).wide (T := Own O1)).pre fun a m => by rcases m with m | m; exact m.elim; exact m).post fun a m => by
      rcases m with m | m
      · exact .inr (sw _ (s2 _ m))
      · exact .inl m
  rintro i m H' ⟨rfl, hi, hacc, F', O', xs, os, g', rD, eD, nd, dj, f'⟩
  obtain ⟨y1, y2, y3⟩ := yl i F' H' f'.le g'.le
  by_cases hlt : i < ds.length
  · refine .inr ⟨y1 hlt, fun H'' => (acc (i + 1)).length ≤ i + 1 ∧ ∃ F'' O'' xs os, RepG X.K F'' H'' (L2.wipe σ (own.map (·.2))) (mk (i + 1)) O'' ∧ RepC X.K F'' H'' (.own (acc (i + 1))) (.ref D) (D :: os) ∧ H'' D = some (.lst xs) ∧ (D :: os).Nodup ∧ (∀ a ∈ D :: os, ¬ Own O'' a) ∧ Fut (Own O1) F1 H1 (OwnT O'' (D :: os)) F'' H'',
      fun H'' z => ⟨ds.length - (i + 1), by omega, rfl, hlt, z⟩, fun x H'' hy => ?_⟩
    obtain ⟨F2, f2, le2, hx⟩ := y3 x H'' _ hy (List.getElem?_eq_getElem hlt)
    have g2 := g'.beside le2 f2
    have rD2 := rD.fut f2 (fun a m z => z)
    have f2' : Fut (OwnT O' (D :: os)) F' H' (OwnT O' (D :: os)) F2 H'' := ((f2.wide (T := OwnT O' (D :: os))).pre fun a m => by rcases m with m | m; exact m.elim; exact m).post fun a m => .inr m
    intro s0 H0 Ca0 cl0 fp0
    have tn := turn i _ (List.getElem?_eq_getElem hlt)
    refine tn s0 H0 Ca0 cl0 fp0 F2 H'' _ O' g2 x hx _ fun Γ2 F3 H3 σ3 O3 kb g3 k3 f3 => ⟨wipe_outside (by rw [hσ]; exact k3), ?_⟩
    have rD3 := rD2.fut f3 dj
    have dj3 := rD2.apart f3 dj
    have f3' : Fut (OwnT O' (D :: os)) F2 H'' (OwnT O3 (D :: os)) F3 H3 := f3.wide
    have eq3 : L2.wipe σ3 (own.map (·.2)) = L2.wipe σ (own.map (·.2)) := wipe_outside (by rw [hσ]; exact k3)
    have ft3 := (f'.trans f2').trans f3'
    have rest : ∀ k Γ3 F4 H4 O4, (k = true → ∀ s H Ca cl fp, WPe (blk X scope s H Ca cl fp) elt Γ3 fun r Γ4 => ∃ cl Γ5, itemR Γ4 r = some (cl, Γ5) ∧ Wk (wipeG Γ5 (own.map (·.2))) (mk (i + 1)) ∧ acc (i + 1) = acc i ++ [cl]) ∧
        (k = false → Wk (wipeG Γ3 (own.map (·.2))) (mk (i + 1)) ∧ acc (i + 1) = acc i) → RepG X.K F4 H4 σ3 Γ3 O4 → Fut (Own O3) F3 H3 (Own O4) F4 H4 →
        if k = true then (∀ s H0 Ca cl fp, WE (blk X scope s H0 Ca cl fp) elt σ3 H4 fun y H5 => ∃ ac, H5 D = some (.lst ac) ∧ ac.length < sizeLine ∧ ((acc (i + 1)).length ≤ i + 1 ∧ ∃ F'' O'' xs os, RepG X.K F'' (upd H5 D (.lst (ac ++ [y]))) (L2.wipe σ (own.map (·.2))) (mk (i + 1)) O'' ∧ RepC X.K F'' (upd H5 D (.lst (ac ++ [y]))) (.own (acc (i + 1))) (.ref D) (D :: os) ∧ (upd H5 D (.lst (ac ++ [y]))) D = some (.lst xs) ∧ (D :: os).Nodup ∧ (∀ a ∈ D :: os, ¬ Own O'' a) ∧ Fut (Own O1) F1 H1 (OwnT O'' (D :: os)) F'' (upd H5 D (.lst (ac ++ [y])))))
        else ((acc (i + 1)).length ≤ i + 1 ∧ ∃ F'' O'' xs os, RepG X.K F'' H4 (L2.wipe σ (own.map (·.2))) (mk (i + 1)) O'' ∧ RepC X.K F'' H4 (.own (acc (i + 1))) (.ref D) (D :: os) ∧ H4 D = some (.lst xs) ∧ (D :: os).Nodup ∧ (∀ a ∈ D :: os, ¬ Own O'' a) ∧ Fut (Own O1) F1 H1 (OwnT O'' (D :: os)) F'' H4) := by
      intro k Γ3 F4 H4 O4 ⟨kt, kf⟩ g4 f4
      have rD4 := rD3.fut f4 dj3
      have dj4 := rD3.apart f4 dj3
      have f4' : Fut (OwnT O3 (D :: os)) F3 H3 (OwnT O4 (D :: os)) F4 H4 := f4.wide
      have ft4 := ft3.trans f4'
      cases k with
      | false =>
        obtain ⟨w, ea⟩ := kf rfl
        refine iteF ⟨by rw [ea]; omega, ?_⟩
        obtain ⟨O5, g5, s5⟩ := g4.wipe (own.map (·.2))
        rw [eq3] at g5
        obtain ⟨O6, g6, s6⟩ := g5.weak w
        obtain ⟨ys, ey⟩ : ∃ ys, H4 D = some (.lst ys) := (rD4.there D List.mem_cons_self).1
        exact ⟨F4, O6, ys, os, g6, by rw [ea]; exact rD4, ey, nd, fun a m z => dj4 a m (s5 _ (s6 _ z)), ft4.post fun a m => m.imp (fun z => s5 _ (s6 _ z)) id⟩
      | true =>
        refine iteT fun s0 H0 Ca0 cl0 fp0 => ?_
        refine kt rfl s0 H0 Ca0 cl0 fp0 F4 H4 σ3 O4 g4 _ fun r Γ4 F5 H5 O5 y osr ⟨cl, Γ5, ei, w, ea⟩ g5 r5 nd5 dj5 f5 => ?_
        have rD5 := rD4.fut f5 dj4
        have dj5' := rD4.apart f5 dj4
        obtain ⟨F6, O6, os6, g6, rc6, nd6, dj6, f6⟩ := itemR_ok g5 r5 nd5 dj5 ei
        have rD6 := rD5.fut f6 dj5'
        have dj6' := rD5.apart f6 dj5'
        have ft6 : Fut (Own O1) F1 H1 (fun a => OwnT O6 os6 a ∨ a ∈ D :: os) F6 H5 := (ft4.trans (f5.wide (T := (· ∈ D :: os)))).trans (f6.wide (T := (· ∈ D :: os)))
        cases rD6 with
        | own b1 b2 b3 =>
          rename_i ys
          obtain ⟨n1, n2⟩ := List.nodup_cons.mp nd
          refine ⟨ys, b1, by rw [b3.length]; omega, by rw [ea]; simp; omega, ?_⟩
          have D6 : ¬ Own O6 D := fun z => dj6' D List.mem_cons_self (.inl z)
          have Dos : D ∉ os6 := fun z => dj6' D List.mem_cons_self (.inr z)
          have g7 : RepG X.K F6 (upd H5 D (.lst (ys ++ [y]))) σ3 Γ5 O6 := g6.move (.refl _) (fun a o e => by rw [upd_ne (fun z : a = D => by rw [z, b2] at e; cases e)]; exact g6.le a o e) fun a m => ⟨by rw [upd_ne (fun z : a = D => D6 (z ▸ m))], (g6.there a m).2⟩
          obtain ⟨O8, g8, s8⟩ := g7.wipe (own.map (·.2))
          rw [eq3] at g8
          obtain ⟨O9, g9, s9⟩ := g8.weak w
          have rcs : RepCs X.K F6 (upd H5 D (.lst (ys ++ [y]))) (acc i ++ [cl]) (ys ++ [y]) (os ++ (os6 ++ [])) :=
            repcs_app (b3.move (.refl _) fun a m => ⟨by rw [upd_ne (fun z : a = D => n1 (z ▸ m))], (b3.there a m).2⟩) (.cons (rc6.move (.refl _) fun a m => ⟨by rw [upd_ne (fun z : a = D => Dos (z ▸ m))], (rc6.there a m).2⟩) .nil)
          rw [List.append_nil] at rcs
          refine ⟨F6, O9, ys ++ [y], os ++ os6, g9, by rw [ea]; exact .own upd_same b2 rcs, upd_same, List.nodup_cons.mpr ⟨by simp [n1, Dos], List.nodup_append.mpr ⟨n2, nd6, fun a m b m2 ee => dj6' a (List.mem_cons_of_mem _ m) (.inr (ee ▸ m2))⟩⟩, fun a m z => ?_, ft6.trans (fut_in (.inr List.mem_cons_self) fun a m => ?_)⟩
          · have z6 := s8 _ (s9 _ z)
            rcases List.mem_cons.mp m with e | m
            · subst e; exact D6 z6
            · rcases List.mem_append.mp m with m | m
              · exact dj6' a (List.mem_cons_of_mem _ m) (.inl z6)
              · exact dj6 a m z6
          · rcases m with m | m
            · exact .inl (.inl (s8 _ (s9 _ m)))
            · rcases List.mem_cons.mp m with e | m
              · subst e; exact .inr List.mem_cons_self
              · rcases List.mem_append.mp m with m | m
                · exact .inr (List.mem_cons_of_mem _ m)
                · exact .inl (.inr m)
    rcases hc with e | ⟨c, e⟩
    · subst e
      have kb' := fun s H Ca cl fp => kb s H Ca cl fp
      exact rest true Γ2 F3 H3 O3 (kb s0 H0 Ca0 cl0 fp0) g3 (.refl fun a m => m)
    · subst e
      intro s1 H01 Ca1 cl1 fp1
      exact kb s1 H01 Ca1 cl1 fp1 F3 H3 σ3 O3 g3 _ fun k Γ3 F4 H4 O4 kk g4 f4 => rest k Γ3 F4 H4 O4 kk g4 f4
  · have e : i = ds.length := by omega
    subst e
    refine .inl ⟨y2 (Nat.le_refl _), ?_⟩
    have gu := unwipe_ok (vs := own.map (·.2)) g1 f'.le g' (hoff _)
    exact q _ _ F' H' O' _ (D :: os) fin gu (.val rD) nd dj (f1.trans f')
end
end G
namespace G
open PySem PySem.Spec PyProof.Rows L2
section
variable {X : Cx} {kp : List Nat} {Γ : Gm} {Kn : KR} {D : Out} {e c elt tg iter a b o : Expr} {es : List Expr} {ifs : List Expr} {scope : Scope} {own : List (Str × Nat)} {pos p p2 : Pos}
/-- what a comprehension wants: mk the frame, acc the list, by the turn -/
def LcOk (X : Cx) (elt tg : Expr) (ifs : List Expr) (scope : Scope) (vs : List Nat) (Γ1 : Gm) (ds : List PyData) (mk : Nat → Gm) (acc : Nat → List C) : Prop :=
  ds.length ≤ sizeLine ∧ Wk (wipeG Γ1 vs) (mk 0) ∧ acc 0 = [] ∧ (∀ i, ∀ j ∈ vs, ∀ c, (mk i)[j]? ≠ some (some c)) ∧
      (∀ i d, ds[i]? = some d → ∀ s H Ca cl fp, WPg (blk X scope s H Ca cl fp) (outside X.N.length vs) tg d (mk i) fun Γ2 => ∀ s H Ca cl fp, WPifs (blk X scope s H Ca cl fp) ifs Γ2 fun k Γ3 =>
        (k = true → ∀ s H Ca cl fp, WPe (blk X scope s H Ca cl fp) elt Γ3 fun r Γ4 => ∃ cl Γ5, itemR Γ4 r = some (cl, Γ5) ∧ Wk (wipeG Γ5 vs) (mk (i + 1)) ∧ acc (i + 1) = acc i ++ [cl]) ∧
        (k = false → Wk (wipeG Γ3 vs) (mk (i + 1)) ∧ acc (i + 1) = acc i))
theorem pts_lc (hc : ifs = [] ∨ ∃ c, ifs = [c]) (s : Shared) (H : Hp) (Ca : Addr) (cl : List (Str × Addr)) (fp : List Addr) : PTs (blk X scope s H Ca cl fp) ifs (ifB X scope ifs) := by
  rcases hc with e | ⟨c, e⟩
  · subst e
    exact ⟨fun pins s' σ H' Q I h => (pts_nil (X := blk X scope s H Ca cl fp)).run pins s' σ H' Q I h⟩
  · subst e
    exact ⟨fun pins s' σ H' Q I h => (pts_one (X := blk X scope s H Ca cl fp) pt_W).run pins s' σ H' Q I (h s H Ca cl fp)⟩
theorem pg_lc (s : Shared) (H : Hp) (Ca : Addr) (cl : List (Str × Addr)) (fp : List Addr) : PG (blk X scope s H Ca cl fp) tg (gB X scope tg) := ⟨fun pins s' σ H' v u Q I r h => h s H Ca cl fp pins s' u I r⟩
theorem pe_elt (s : Shared) (H : Hp) (Ca : Addr) (cl : List (Str × Addr)) (fp : List Addr) : PE (blk X scope s H Ca cl fp) elt (eB X scope elt) := ⟨fun pins s' σ H' Q I h => h s H Ca cl fp pins s' I⟩
theorem WPe_lc (own : List (Str × Nat)) (h : WPi X tg iter Γ fun ds Γ1 => ∃ (mk : Nat → Gm) (acc : Nat → List C), LcOk X elt tg ifs scope (own.map (·.2)) Γ1 ds mk acc ∧ Kn (.val (.own (acc ds.length))) (unwipe Γ1 (mk ds.length) (own.map (·.2))))
    (hlen : X.N.length = Γ.length) (hN : X.N.Nodup) (ok : BlkOk X.N X.env.scope scope own) (hc : X.calm = true := by rfl) (hi : ifs = [] ∨ ∃ c, ifs = [c] := by first | exact .inl rfl | exact .inr ⟨_, rfl⟩) (hs : ∀ x, foldedSetIterable iter X.env x = pure x := by intro _; rfl) :
    WPe X (.ListComp elt [⟨tg, iter, ifs, 0⟩] scope pos) Γ Kn := fun F H σ O g Q q =>
  WE_of (pe_lc hc hN pi_W ok pg_lc (pts_lc hi) pe_elt hs)
    (lc_core' hlen g hi (fun F H σ O g R q => h F H σ O g R fun ds Γ' F' H' O' J ⟨mk, acc, ⟨h1, h2, h3, h4, h5⟩, h6⟩ => q ds Γ' F' H' O' J ⟨mk, acc, h1, h2, h3, h4, h5, h6⟩) q)
theorem WPs_setLc (i : Nat) {y : Str} {py : Pos} (own : List (Str × Nat)) (h : WPi X tg iter Γ fun ds Γ1 => ∃ (mk : Nat → Gm) (acc : Nat → List C), LcOk X elt tg ifs scope (own.map (·.2)) Γ1 ds mk acc ∧ Nat.blt i (unwipe Γ1 (mk ds.length) (own.map (·.2))).length = true ∧ D.nx ((unwipe Γ1 (mk ds.length) (own.map (·.2))).set i (some (.own (acc ds.length)))))
    (hlen : X.N.length = Γ.length) (hN : X.N.Nodup) (ok : BlkOk X.N X.env.scope scope own) (hsw : swapsWith (.ListComp elt [⟨tg, iter, ifs, 0⟩] scope p) (some (.Name y py)) pos.line X.env = pure true) (hk : kp.contains i = false := by rfl) (hy : X.N[i]? = some y := by rfl) (hyl : X.env.scope.names.lookup y = some .local := by rfl)
    (hc : X.calm = true := by rfl) (hi : ifs = [] ∨ ∃ c, ifs = [c] := by first | exact .inl rfl | exact .inr ⟨_, rfl⟩) (hs : ∀ x, foldedSetIterable iter X.env x = pure x := by intro _; rfl) :
    WPs X kp (.Assign [.Name y py] (.ListComp elt [⟨tg, iter, ifs, 0⟩] scope p) pos) Γ D := fun F H σ O g E q =>
  WS_of (ps_setLc hc hN hy hyl hsw pi_W ok pg_lc (pts_lc hi) pe_elt hs)
    (lc_core' (Kn := fun r Γ' => ∃ c, r = .val (.own c) ∧ Nat.blt i Γ'.length = true ∧ D.nx (Γ'.set i (some (.own c)))) hlen g hi (fun F H σ O g R q => h F H σ O g R fun ds Γ' F' H' O' J ⟨mk, acc, ⟨h1, h2, h3, h4, h5⟩, h6, h7⟩ => q ds Γ' F' H' O' J ⟨mk, acc, h1, h2, h3, h4, h5, _, rfl, h6, h7⟩)
      fun r Γ' F' H' O' v os ⟨cs, er, hl, k⟩ g' h' nd dj f => by
        subst er
        cases h' with | val rc => exact store_cell q g' rc nd dj f (blt_of hl) (nin_of hk) k)

/-! ### global names -/
theorem WPe_globI {x : Str} {i : Int} {t : Tok} (h : Kn (.val (.dat (.int i))) Γ) (hm : X.mg x = some (.int i t)) (hg : Gl X x := by rfl) (hd : (x == ("__debug__" : Str)) = false := by decide) : WPe X (.Name x pos) Γ Kn := fun F H σ O g Q q =>
  WE_of (pe_glob (v := .int i) hg hm ⟨t, rfl⟩ hd) (done_dat g q h (.int i))
theorem WPe_globF {x : Str} {f : Addr} (h : Kn (.val (.adr f)) Γ) (hm : X.mg x = some (.ref f)) (hg : Gl X x := by rfl) (hd : (x == ("__debug__" : Str)) = false := by decide) : WPe X (.Name x pos) Γ Kn := fun F H σ O g Q q =>
  WE_of (pe_glob (v := .ref f) hg hm rfl hd) (q _ _ F H O _ [] h g (.val .adr) .nil (fun a m => by cases m) (.refl fun a m => by rcases m with m | m; exact m; cases m))

/-! ### isinstance -/
def tyD : PyData → String
  | .none => "NoneType"
  | .bool _ => "bool"
  | .int _ => "int"
  | .str _ => "str"
  | .list _ => "list"
  | .tuple _ => "tuple"
  | .dict _ => "dict"
theorem tyx_sqT {K : PySem.W.Frag} {H : Hp} {p : Addr} {xs : List V} (h : SqT K H p xs) : TyX K H (.ref p) (.type "tuple") := by
  rcases h with (h | ⟨o, h⟩) | ⟨o, its, n, hk, hc, _⟩
  · exact .base (.tup h)
  · exact .fTuple h
  · exact .kTuple hk hc
theorem tyx {K : PySem.W.Frag} {H : Hp} {v : V} {d : PyData} (h : Dd K H v d) : TyX K H v (.type (tyD d)) := by
  cases h with
  | non => exact .base .non
  | bl => exact .base (.bl _)
  | int => exact .base (.int _)
  | str => exact .base (.str _)
  | lst h _ => exact .base (.lst h)
  | tup h _ => exact tyx_sqT h
theorem WPe_isi {T : Str} {n : String} {pa : Pos} (h : WPe X a Γ fun r Γ1 => ∃ d k, vw Γ1 r = some d ∧ kitB (tyD d) n = some k ∧ Kn (.val (.dat (.bool k))) Γ1) (hm : X.mg "isinstance" = none) (hmT : X.mg T = none) (hvT : bootBuiltins T = some (.type n))
    (hv : bootBuiltins "isinstance" = some (.builtin "isinstance")) (hg : Gl X "isinstance" := by rfl) (hgT : Gl X T := by rfl) (hnT : T ≠ "__name__" := by decide) (hdT : (T == ("__debug__" : Str)) = false := by decide)
    (he : starEach [a, .Name T pa] X.env = (false, eval a X.env) :: starEach [.Name T pa] X.env := by rfl) (he2 : starEach [.Name T pa] X.env = (false, eval (.Name T pa) X.env) :: starEach [] X.env := by rfl) (hpl : (backTo pos (starEach [.Name T pa] X.env)).any (·.1) = false := by rfl) :
    WPe X (.Call (.Name "isinstance" p) [a, .Name T pa] [] pos) Γ Kn := fun F H σ O g Q q =>
  WE_of (pe_callB call_isi hg hm hv (pa_cons pe_W (pa_cons (pe_bltn (v := .ty n) hgT hmT hvT rfl hnT hdT) pa_nil he2) he) (by decide) (by decide) he hpl) (h F H σ O g _ fun r Γ1 F1 H1 O1 v os ⟨d, k, ev, hk, kn⟩ g1 h1 nd dj f =>
    ⟨v, .ty n, .type (tyD d), .type n, k, rfl, .ty n, tyx (vw_ok g1 h1 ev), kit_ty hk, done_bl g1 (f.post fun a m => .inl m) q kn⟩)
/-- .. of one of two types -/
theorem WPe_isi2 {T T' : Str} {n n' : String} {pa pb pt : Pos} {kt : Nat} (h : WPe X a Γ fun r Γ1 => ∃ d k, vw Γ1 r = some d ∧ (∃ k1 k2, kitB (tyD d) n = some k1 ∧ kitB (tyD d) n' = some k2 ∧ k = (k1 || k2)) ∧ Kn (.val (.dat (.bool k))) Γ1) (hm : X.mg "isinstance" = none)
    (hmT : X.mg T = none) (hvT : bootBuiltins T = some (.type n)) (hmT' : X.mg T' = none) (hvT' : bootBuiltins T' = some (.type n')) (hv : bootBuiltins "isinstance" = some (.builtin "isinstance"))
    (hg : Gl X "isinstance" := by rfl) (hgT : Gl X T := by rfl) (hgT' : Gl X T' := by rfl) (hnT : T ≠ "__name__" := by decide) (hdT : (T == ("__debug__" : Str)) = false := by decide) (hnT' : T' ≠ "__name__" := by decide) (hdT' : (T' == ("__debug__" : Str)) = false := by decide)
    (he : starEach [a, .Tuple [.Name T pa, .Name T' pb] kt pt] X.env = (false, eval a X.env) :: starEach [.Tuple [.Name T pa, .Name T' pb] kt pt] X.env := by rfl) (he2 : starEach [.Tuple [.Name T pa, .Name T' pb] kt pt] X.env = (false, eval (.Tuple [.Name T pa, .Name T' pb] kt pt) X.env) :: starEach [] X.env := by rfl)
    (he3 : starEach [.Name T pa, .Name T' pb] X.env = (false, eval (.Name T pa) X.env) :: starEach [.Name T' pb] X.env := by rfl) (he4 : starEach [.Name T' pb] X.env = (false, eval (.Name T' pb) X.env) :: starEach [] X.env := by rfl)
    (hpl : (backTo pos (starEach [.Tuple [.Name T pa, .Name T' pb] kt pt] X.env)).any (·.1) = false := by rfl) :
    WPe X (.Call (.Name "isinstance" p) [a, .Tuple [.Name T pa, .Name T' pb] kt pt] [] pos) Γ Kn := fun F H σ O g Q q =>
  WE_of (pe_callB call_isiT hg hm hv (pa_cons pe_W (pa_cons (pe_tup (pa_cons (pe_bltn (v := .ty n) hgT hmT hvT rfl hnT hdT) (pa_cons (pe_bltn (v := .ty n') hgT' hmT' hvT' rfl hnT' hdT') pa_nil he4) he3)) pa_nil he2) he) (by decide) (by decide) he hpl) (h F H σ O g _ fun r Γ1 F1 H1 O1 v os ⟨d, k, ev, ⟨k1, k2, hk1, hk2, ek⟩, kn⟩ g1 h1 nd dj f => by
    refine ⟨by show 2 ≤ sizeLine; decide, fun tp htp => ?_⟩
    have hd := vw_ok g1 h1 ev
    refine ⟨v, tp, [.ty n, .ty n'], .type (tyD d), [.type n, .type n'], k, rfl, upd_same, .cons (.ty n) (.cons (.ty n') .nil), tyx (Dd.up (same_new (.refl _) htp) _ _ hd), ?_, ?_⟩
    · refine kitAny_cons (kit_ty hk1) (fun e => kitAny_cons (kit_ty hk2) (fun e2 => ?_) fun e2 => ?_) fun e => ?_
      · rw [ek, e, e2]; exact kitAny_nil
      · rw [ek, e2]; simp
      · rw [ek, e]; simp
    · have f2 : Fut (fun _ => False) F1 H1 (· ∈ []) F1 (upd H1 tp (.tup [.ty n, .ty n'])) := ⟨.refl _, fun a o e _ => by rw [upd_ne (ne_of_none e htp)]; exact e, fun a e1 e2 => absurd e1 e2, fun a m => by cases m⟩
      exact done_new g1 (fun r Γ' F' H' O' v os k g h nd dj f' => q r Γ' F' H' O' v os k g h nd dj ((f.post fun a m => .inl m).trans f')) kn (.dat (.bl k)) .nil (same_new g1.le htp) f2)

/-! ### a def that a name of the frame holds -/
theorem WPe_callL (i : Nat) {x : Str} {f : Addr} {k : Nat} {fd : FuncData} {ps : List Str} {A : Ctr} (hf : Γ[i]? = some (some (.adr f))) (Gf : FnOk X.prog X.w X.K X.mg X.base CX0 k f fd ps (spG X.K A)) (hr : Room k X.A) (hk : PySem.W.keepIn X.K (.ref f) = true) (hb : Binds X.K fd ps []) (h : WPd X (e :: es) Γ fun ds Γ1 => A (ds.map .dat) fun c _ => Kn (.val c) Γ1)
    (hN : X.N[i]? = some x := by rfl) (hv : Vis X.env.scope x := by first | exact Or.inl rfl | exact Or.inr (Or.inl rfl) | exact Or.inr (Or.inr rfl)) (hdb : (x == ("__debug__" : Str)) = false := by decide) (hcd : (x == ("__classdict__" : Str)) = false := by decide) (he : starEach (e :: es) X.env = (false, eval e X.env) :: starEach es X.env := by rfl) (hpl : (backTo pos (starEach es X.env)).any (·.1) = false := by rfl) :
    WPe X (.Call (.Name x p) (e :: es) [] pos) Γ Kn := fun F H σ O g Q q =>
  WE_of (pe_callL (i := i) Gf hr hN hv hk hb .nil pass0 pa_W hdb hcd he hpl) (by
    obtain ⟨v, ev, r⟩ := g.cell i _ hf
    generalize O i = oi at r
    cases r with
    | adr =>
      refine ⟨ev, h F H σ O g _ fun ds Γ1 F1 H1 O1 vs k1 g1 hd f1 => ?_⟩
      refine ⟨ds.map .dat, F1, fun _ => [], _, k1, by rw [List.append_nil]; exact repG_dats g1.le hd, fun c cs' F' H' O' v os kc g' rc nd dj f' => ?_⟩
      have f2 : Fut (fun _ => False) F1 H1 (· ∈ os) F' H' := (f'.pre fun a ⟨i, m⟩ => by cases m).post fun a m => .inr m
      exact done_new g1 (fun r Γ' F' H' O' v os k g h nd dj f' => q r Γ' F' H' O' v os k g h nd dj (f1.trans f')) kc rc nd g'.le f2)
/-- a call whose arguments are cells that stay: data, defs, the script -/
def cellR : R → Option C
  | .val c => if plainC c = true then some c else none
  | .pth _ _ => none
def WPc (X : Cx) (es : List Expr) (Γ : Gm) (Kc : List C → Gm → Prop) : Prop := WPa X es Γ fun rs Γ1 => ∃ cs, cellsOf rs = some cs ∧ cs.all plainC = true ∧ Kc cs Γ1
theorem plain_reps {K : PySem.W.Frag} {F H : Hp} : ∀ {cs : List C} {vs : List V} {os : List Addr}, RepCs K F H cs vs os → cs.all plainC = true → os = [] ∧ ∀ (i : Nat) (c : C), cs[i]? = some c → ∃ v, vs[i]? = some v ∧ RepC K F H c v []
  | _, _, _, .nil, _ => ⟨rfl, fun i c e => by simp at e⟩
  | _, _, _, .cons a b, h => by
    rw [List.all_cons, Bool.and_eq_true] at h
    obtain ⟨e1, r1⟩ := plain_reps b h.2
    have a' := a.plain (.refl _) (H' := H) h.1
    have eo : ∀ {c : C} {v : V} {o : List Addr}, RepC K F H c v o → plainC c = true → o = [] := fun r h => by cases r <;> first | rfl | cases h
    refine ⟨by rw [eo a h.1, e1]; rfl, fun i c e => ?_⟩
    cases i with
    | zero => simp at e; subst e; exact ⟨_, rfl, a'⟩
    | succ i => obtain ⟨v, ev, r⟩ := r1 i c (by simpa using e); exact ⟨v, by simpa using ev, r⟩
theorem WPe_callC {k : Nat} {f : Addr} {fd : FuncData} {ps : List Str} {A : Ctr} {x : Str} (Gf : FnOk X.prog X.w X.K X.mg X.base CX0 k f fd ps (spG X.K A)) (hr : Room k X.A) (hm : X.mg x = some (.ref f)) (hk : PySem.W.keepIn X.K (.ref f) = true) (hb : Binds X.K fd ps []) (h : WPc X (e :: es) Γ fun cs Γ1 => A cs fun c _ => Kn (.val c) Γ1)
    (hg : Gl X x := by rfl) (hdb : (x == ("__debug__" : Str)) = false := by decide) (he : starEach (e :: es) X.env = (false, eval e X.env) :: starEach es X.env := by rfl) (hpl : (backTo pos (starEach es X.env)).any (·.1) = false := by rfl) :
    WPe X (.Call (.Name x p) (e :: es) [] pos) Γ Kn := fun F H σ O g Q q =>
  WE_of (pe_call Gf hr hg hm hk hb .nil pass0 pa_W hdb he hpl) (h F H σ O g _ fun rs Γ1 F1 H1 O1 vs os ⟨cs, ec, hp, k1⟩ g1 hr nd dj f1 => by
    have rc := cells_rep hr ec
    obtain ⟨eo, rr⟩ := plain_reps rc hp
    subst eo
    refine ⟨cs, F1, fun _ => [], _, k1, by
      rw [List.append_nil]
      refine ⟨g1.le, by simp [rc.length], fun i c e => ?_, fun _ => .nil, fun i j a m => (by cases m), fun _ _ => rfl⟩
      rw [List.getElem?_map] at e
      obtain ⟨c', q, e⟩ := Option.map_eq_some_iff.mp e
      cases e
      obtain ⟨v, ev, r⟩ := rr i c q
      exact ⟨v, by rw [List.getElem?_map, ev]; rfl, r⟩, fun c cs' F' H' O' v os kc g' rc nd dj f' => ?_⟩
    have f2 : Fut (fun _ => False) F1 H1 (· ∈ os) F' H' := (f'.pre fun a ⟨i, m⟩ => by cases m).post fun a m => .inr m
    exact done_new g1 (fun r Γ' F' H' O' v os k g h nd dj f' => q r Γ' F' H' O' v os k g h nd dj ((f1.post fun a m => .inl m).trans f')) kc rc nd g'.le f2)

/-! ### xs[i] = e, xs[i] op= e: xs a list of the frame at slot j, or a list within it whose place is written plainly -/
theorem get_list : PGet X (rIxL X.K) := by
  intro pins s σ H x y v u Q I rx ry h
  obtain ⟨pa, xs, i, z, rfl, rfl, hq, he, q⟩ := h
  cases rx
  obtain ⟨t, rfl⟩ := ry
  obtain ⟨its, r, pl, hz⟩ := I.list hq
  obtain ⟨j, h1, h2, h3, h4, h5⟩ := atI_get he
  obtain ⟨w, ew, rw'⟩ := r.get h2
  have hl := r.length
  have hn := line63
  by_cases h0 : 0 ≤ i
  · have hj : i.toNat = j := by
      rw [seqIndex_of h0 h5] at h1
      exact Option.some.inj h1
    exact wpAny_getItem_list pl.isList h0 (by omega) (by rw [hj]; simpa using ew) ⟨z, H, I, rw', q⟩
  · have hj : (i + (its.toArray.size : Int)).toNat = j := by
      rw [seqIndex_neg (by omega) h4] at h1
      rw [List.size_toArray, ← hl]
      exact Option.some.inj h1
    exact wpAny_getItem_list_neg pl.isList (by omega) (by rw [List.size_toArray]; omega) (by omega) (by rw [hj]; simpa using ew) ⟨z, H, I, rw', q⟩
theorem repcs_set {K : PySem.W.Frag} {F H : Hp} : ∀ {cs : List C} {vs : List V} {os : List Addr} (k : Nat) {c : C} {v : V} {o2 : List Addr}, RepCs K F H cs vs os → RepC K F H c v o2 → (∀ a ∈ o2, a ∉ os) → ∃ os', RepCs K F H (cs.set k c) (vs.set k v) os' ∧ (os.Nodup → o2.Nodup → os'.Nodup) ∧ ∀ a ∈ os', a ∈ os ∨ a ∈ o2
  | _, _, _, k, _, _, _, .nil, _, _ => ⟨[], .nil, fun a _ => a, fun a m => .inl m⟩
  | _, _, _, 0, c, v, o2, .cons (o1 := o1) (o2 := ob) a b, r, dj => ⟨o2 ++ ob, .cons r b, fun n n2 => List.nodup_append.mpr ⟨n2, (List.nodup_append.mp n).2.1, fun x m y m2 e => dj x m (e ▸ List.mem_append_right _ m2)⟩, fun x m => by
    rcases List.mem_append.mp m with m | m
    · exact .inr m
    · exact .inl (List.mem_append_right _ m)⟩
  | _, _, _, k + 1, c, v, o2, .cons (o1 := o1) (o2 := ob) a b, r, dj => by
    obtain ⟨os', r', n, s⟩ := repcs_set k b r fun x m m2 => dj x m (List.mem_append_right _ m2)
    refine ⟨o1 ++ os', .cons a r', fun z z2 => ?_, fun x m => ?_⟩
    · obtain ⟨z1, z3, z4⟩ := List.nodup_append.mp z
      refine List.nodup_append.mpr ⟨z1, n z3 z2, fun x m y m2 e => ?_⟩
      rcases s y m2 with w | w
      · exact z4 x m y w e
      · exact dj y w (e ▸ List.mem_append_left _ m)
    · rcases List.mem_append.mp m with m | m
      · exact .inl (List.mem_append_left _ m)
      · exact (s x m).imp (List.mem_append_right _) id
/-- an item of a list of the frame is stored: the end of a statement -/
theorem store_item {F H : Hp} {σ : L2.St} {O : Nat → List Addr} {i : Nat} {ks : List Nat} {v vn : V} {os osn : List Addr} {cs : List C} {cn : C} {k : Nat} {Γ' : Gm} (g : RepG X.K F H σ Γ' O) (r1 : RepR X.K F H σ (.pth i ks) v os) (eo : ownAt Γ' i ks = some cs) (hk : k < cs.length)
    (rn : RepC X.K F H cn vn osn) (nd : osn.Nodup) (dj : ∀ a ∈ osn, ¬ Own O a) :
    ∃ p xs, v = .ref p ∧ H p = some (.lst xs) ∧ xs.length = cs.length ∧ ∃ O', RepG X.K F (upd H p (.lst (xs.set k vn))) σ (Gput Γ' i ks (.own (cs.set k cn))) O' ∧ Fut (OwnT O osn) F H (Own O') F (upd H p (.lst (xs.set k vn))) := by
  obtain ⟨c0, e0, ea⟩ := ownAt_iff eo
  obtain ⟨p, xs, ost, ev, hp, fp, rcs, n1, n2, op, osub, fin⟩ := g.rew r1 e0 ea
  refine ⟨p, xs, ev, hp, rcs.length, ?_⟩
  have pn : p ∉ osn := fun m => dj p m op
  obtain ⟨os', r', nn, ss⟩ := repcs_set k (rcs.move (F' := F) (H' := upd H p (.lst (xs.set k vn))) (.refl _) fun a m => ⟨by rw [upd_ne (fun z : a = p => n2 (z ▸ m))], (rcs.there a m).2⟩) (rn.move (F' := F) (H' := upd H p (.lst (xs.set k vn))) (.refl _) fun a m => ⟨by rw [upd_ne (fun z : a = p => pn (z ▸ m))], (rn.there a m).2⟩) (fun a m m2 => dj a m (osub a m2))
  obtain ⟨O', g', so⟩ := fin (cs.set k cn) (xs.set k vn) os' r' (nn n1 nd) (fun m => by
    rcases ss p m with z | z
    · exact n2 z
    · exact pn z) (fun a m => (ss a m).imp id fun z => dj a z)
  refine ⟨O', g', fut_in (.inl op) fun a m => ?_⟩
  rcases so a m with z | z
  · exact .inl z
  · rcases ss a z with z | z
    · exact .inl (osub a z)
    · exact .inr z
theorem ix_own {n : Nat} {i : Int} {k : Nat} (h : ixN n i = some k) : k < n := (ixN_seq h).2.1
/-- xs[i] = e -/
theorem WPs_setS {tpos : Pos} (h : WPe X e Γ fun r Γ1 => ∃ d Γ2, frz Γ1 r = some (d, Γ2) ∧ WPe X a Γ2 fun x Γ3 => x.stab = true ∧ ∃ j ks, x = .pth j ks ∧ WPe X b Γ3 fun y Γ4 => ∃ i cs k, vw Γ4 y = some (.int i) ∧ ownAt Γ4 j ks = some cs ∧ ixN cs.length i = some k ∧ D.nx (Gput Γ4 j ks (.own (cs.set k (.dat d)))))
    (hs : swapsWithSole [.Subscript a b tpos] e pos.line X.env = pure false := by rfl) (hw : swappedStores [.Subscript a b tpos] e X.env = pure none := by rfl) (h1 : (assignEach [.Subscript a b tpos] X.env).map (·.2) = [assign (.Subscript a b tpos) X.env] := by rfl)
    (ha : ∀ v, assign (.Subscript a b tpos) X.env v = (do
      let ov ← holding [v] (eval a X.env)
      let iv ← holding [v, ov] (eval b X.env)
      standAt tpos
      holding [v, ov, iv] (setItem ov iv v)
      release [v, ov, iv] []) := by intro _; rfl) : WPs X kp (.Assign [.Subscript a b tpos] e pos) Γ D := fun F H σ O g E q =>
  WS_of (ps_asg pe_W (pg_sub pe_W pe_W set_list ha) hs hw h1) (by
    refine h F H σ O g _ fun r Γ1 F1 H1 O1 v os ⟨d, Γ2, ef, k2⟩ g1 h1 nd dj f1 => ?_
    obtain ⟨F2, O2, g2, hd, f2⟩ := frz_ok g1 h1 nd dj ef
    refine k2 F2 H1 σ O2 g2 _ fun x Γ3 F3 H3 O3 vx osx ⟨st, j, ks, ex, k3⟩ g3 r3 nd3 dj3 f3 => ?_
    subst ex
    refine k3 F3 H3 σ O3 g3 _ fun y Γ4 F4 H4 O4 vy osy ⟨i, cs, k, ei, eo, ek, k4⟩ g4 r4 nd4 dj4 f4 => ?_
    have r3' := r3.fut st f4 dj3
    have ey : vy = .int i := Dd.int_inv (vw_ok g4 r4 ei)
    subst ey
    have hd4 : RepC X.K F4 H4 (.dat d) v [] := .dat (Dd.up (Same.trans f3.le f4.le) _ _ hd)
    obtain ⟨p, xs, ev, hp, hl, O5, g5, f5⟩ := store_item g4 r3' eo (ix_own ek) hd4 .nil (fun a m => by cases m)
    subst ev
    have ft := ((f1.trans f2).trans (f3.post (P2 := Own O3) fun a m => .inl m)).trans (f4.post (P2 := Own O4) fun a m => .inl m)
    exact ⟨p, xs, i, k, rfl, rfl, hp, by rw [hl]; exact ek, q.nx _ _ _ _ _ k4 g5 .refl (ft.trans (f5.pre fun a m => by rcases m with m | m; exact m; cases m))⟩)
/-- xs[i] op= e, an item that is data -/
theorem WPs_augS {tpos : Pos} {op : Operator} (h : WPe X a Γ fun x Γ1 => x.stab = true ∧ ∃ j ks, x = .pth j ks ∧ WPe X b Γ1 fun y Γ2 => ∃ i cs k d0, vw Γ2 y = some (.int i) ∧ ownAt Γ2 j ks = some cs ∧ ixN cs.length i = some k ∧ cs[k]? = some (.dat d0) ∧
      WPe X e Γ2 fun r Γ3 => ∃ d d1 cs3, vw Γ3 r = some d ∧ OpD X (inplaceOp op) (.d d0) (.d d) (.dat d1) ∧ ownAt Γ3 j ks = some cs3 ∧ cs3.length = cs.length ∧ D.nx (Gput Γ3 j ks (.own (cs3.set k (.dat d1)))))
    (ha : ∀ ov iv new, augStore b ov iv new = (do holding [new, ov, iv] (setItem ov iv new); release [new, ov, iv] []; pure .next) := by intros; rfl) : WPs X kp (.AugAssign (.Subscript a b tpos) op e pos) Γ D := fun F H σ O g E q =>
  WS_of (ps_augS pe_W pe_W get_list pe_W (OpR_any (f := inplaceOp op)) set_list ha) (by
    refine h F H σ O g _ fun x Γ1 F1 H1 O1 vx osx ⟨st, j, ks, ex, k1⟩ g1 r1 nd1 dj1 f1 => ?_
    subst ex
    refine k1 F1 H1 σ O1 g1 _ fun y Γ2 F2 H2 O2 vy osy ⟨i, cs, k, d0, ei, eo, ek, ed, k2⟩ g2 r2 nd2 dj2 f2 => ?_
    have r1' := r1.fut st f2 dj1
    have ey : vy = .int i := Dd.int_inv (vw_ok g2 r2 ei)
    subst ey
    obtain ⟨c0, e0, ea⟩ := ownAt_iff eo
    obtain ⟨p, xs, osn, ev, hp, fp, rcs, _⟩ := g2.rew r1' e0 ea
    subst ev
    obtain ⟨w, osw, w1, w2, _⟩ := rcs.get ed
    cases w2 with
    | dat hw =>
      refine ⟨p, xs, i, w, rfl, rfl, .of hp, by unfold atI; rw [rcs.length, ek]; exact w1, ?_⟩
      refine k2 F2 H2 σ O2 g2 _ fun r Γ3 F3 H3 O3 vr osr ⟨d, d1, cs3, er, od, eo3, el3, k3⟩ g3 r3 nd3 dj3 f3 => ?_
      have f23 : Fut (Own O2) F2 H2 (Own O3) F3 H3 := f3.post fun a m => .inl m
      have r1'' := r1'.fut st f3 (fun a m => by cases r1' with | pth _ _ => cases m)
      refine od F3 H3 w vr _ g3.le (Dd.up (Same.trans f3.le g3.le) _ _ hw) (vw_ok g3 r3 er) fun F4 H4 v4 os4 rc4 nd4 le4 f4 => ?_
      have g4 := g3.beside le4 f4
      have r14 := r1''.fut st f4 (fun a m z => z)
      have eo4 : os4 = [] := by cases rc4; rfl
      subst eo4
      obtain ⟨p', ys, ev, hp', hl, O5, g5, f5⟩ := store_item (cn := .dat d1) g4 r14 eo3 (by rw [el3]; exact ix_own ek) rc4 nd4 (fun a m => by cases m)
      cases ev
      have f34 : Fut (Own O3) F3 H3 (Own O3) F4 H4 := ((f4.wide (T := Own O3)).pre fun a m => by rcases m with m | m; exact m.elim; exact m).post fun a m => .inr m
      have ft := (((f1.post (P2 := Own O1) fun a m => .inl m).trans (f2.post (P2 := Own O2) fun a m => .inl m)).trans f23).trans f34
      exact ⟨p, ys, i, k, rfl, rfl, hp', by rw [hl, el3]; exact ek, q.nx _ _ _ _ _ k3 g5 .refl (ft.trans (f5.pre fun a m => by rcases m with m | m; exact m; cases m))⟩)
end
end G
namespace G
open PySem PySem.Spec PyProof.Rows L2

/-! ### contracts by types: enc the arguments' cells, enc' the same behind the call, res the result -/
def Fn (T : Type) (pre : T → Prop) (enc enc' : T → List C) (res : T → C) : Ctr := fun cs Rz => ∃ t, pre t ∧ cs = enc t ∧ Rz (res t) (enc' t)
/-- nothing changes -/
abbrev Pu (T : Type) (pre : T → Prop) (enc : T → List C) (res : T → C) : Ctr := Fn T pre enc enc res
section
variable {P : Program} {w : World} {K : PySem.W.Frag} {mg : Str → Option Value} {base : Heap} {f : Addr} {fd : FuncData} {x qual : Str} {st : Stmt} {N ps : List Str} {k : Nat} {T : Type} {pre : T → Prop} {enc enc' : T → List C} {res : T → C}
theorem fn_pu (Γ0 : T → Gm) (F : Fun K x qual st f fd) (S : FnScope N ps (defScope st)) (hl : ∀ t, (enc t).length = ps.length) (hp : ∀ t, (enc t).all plainC = true)
    (hbody : ∀ (cdv : Value) (A0 : Around) (outer : List Env) (s : Shared) (H : Hp) (E : XK), Room k (A0.deeper (envOfC qual (defScope st) s.heap.objs.size f cdv)) → ∀ t, pre t →
      WPss (cxOf CX0 P w K mg base N qual (defScope st) f cdv A0 outer s H E).nox [] (defBody st) (Γ0 t)
        { nx := fun _ => res t = .dat .none, rt := fun c _ => c = res t }) (h0 : ∀ t, (enc t).map some ++ List.replicate (N.length - (enc t).length) none = Γ0 t := by intro _; rfl) : FnOk P w K mg base CX0 (k + 1) f fd ps (spG K (Pu T pre enc res)) := by
  refine fn_ok (kp := []) F S (fun cs Rz ⟨t, _, e, _⟩ => by rw [e]; exact hl t) fun cdv A0 outer s H E hr cs Rz ⟨t, ht, e, r⟩ => ?_
  subst e
  have bk : ∀ Γ', Back [] (enc t) Γ' (enc t) := fun Γ' => ⟨rfl, fun i c e => .inr ⟨e, List.all_eq_true.mp (hp t) c (List.mem_of_getElem? e)⟩⟩
  rw [h0]
  intro F H O O' g E q
  exact hbody cdv A0 outer s _ _ hr t ht F H O O' g E ⟨fun Γ' F' H' σ' O2 d => q.nx Γ' F' H' σ' O2 ⟨_, d ▸ r, bk Γ'⟩, fun c Γ' F' H' σ' O2 v os d => q.rt c Γ' F' H' σ' O2 v os ⟨_, d ▸ r, bk Γ'⟩, q.bk, q.ct⟩
/-- the first argument is changed -/
theorem fn_mu (Γ0 : T → Gm) (F : Fun K x qual st f fd) (S : FnScope N ps (defScope st)) (hl : ∀ t, (enc t).length = ps.length) (hl' : ∀ t, ∃ c c' r, enc t = c :: r ∧ enc' t = c' :: r ∧ r.all plainC = true)
    (hbody : ∀ (cdv : Value) (A0 : Around) (outer : List Env) (s : Shared) (H : Hp) (E : XK), Room k (A0.deeper (envOfC qual (defScope st) s.heap.objs.size f cdv)) → ∀ t, pre t →
      WPss (cxOf CX0 P w K mg base N qual (defScope st) f cdv A0 outer s H E).nox [0] (defBody st) (Γ0 t)
        { nx := fun Γ' => res t = .dat .none ∧ Γ'[0]? = ((enc' t)[0]?).map some, rt := fun c Γ' => c = res t ∧ Γ'[0]? = ((enc' t)[0]?).map some }) (h0 : ∀ t, (enc t).map some ++ List.replicate (N.length - (enc t).length) none = Γ0 t := by intro _; rfl) : FnOk P w K mg base CX0 (k + 1) f fd ps (spG K (Fn T pre enc enc' res)) := by
  refine fn_ok (kp := [0]) F S (fun cs Rz ⟨t, _, e, _⟩ => by rw [e]; exact hl t) fun cdv A0 outer s H E hr cs Rz ⟨t, ht, e, r⟩ => ?_
  subst e
  obtain ⟨c0, c1, rest, e1, e2, pr⟩ := hl' t
  have bk : ∀ Γ' : Gm, Γ'[0]? = ((enc' t)[0]?).map some → Back [0] (enc t) Γ' (enc' t) := fun Γ' h => ⟨by rw [e1, e2]; rfl, fun i c e => by
    cases i with
    | zero => exact .inl ⟨List.mem_cons_self, by rw [h, e]; rfl⟩
    | succ i =>
      rw [e2] at e
      exact .inr ⟨by rw [e1]; exact e, List.all_eq_true.mp pr c (List.mem_of_getElem? (by simpa using e))⟩⟩
  rw [h0]
  intro F H O O' g E q
  exact hbody cdv A0 outer s _ _ hr t ht F H O O' g E ⟨fun Γ' F' H' σ' O2 d => q.nx Γ' F' H' σ' O2 ⟨_, d.1 ▸ r, bk Γ' d.2⟩, fun c Γ' F' H' σ' O2 v os d => q.rt c Γ' F' H' σ' O2 v os ⟨_, d.1 ▸ r, bk Γ' d.2⟩, q.bk, q.ct⟩
end

/-! ### types of data -/
def isIntT : PyData → Bool
  | .int _ => true
  | .bool _ => true
  | _ => false
def isBoolT : PyData → Bool
  | .bool _ => true
  | _ => false
def isStrT : PyData → Bool
  | .str _ => true
  | _ => false
def isTupT : PyData → Bool
  | .tuple _ => true
  | _ => false
def isLstT : PyData → Bool
  | .list _ => true
  | _ => false
theorem kit_int (d : PyData) : kitB (tyD d) "int" = some (isIntT d) := by cases d <;> (simp only [tyD, isIntT]; decide +kernel)
theorem kit_bool (d : PyData) : kitB (tyD d) "bool" = some (isBoolT d) := by cases d <;> (simp only [tyD, isBoolT]; decide +kernel)
theorem kit_str (d : PyData) : kitB (tyD d) "str" = some (isStrT d) := by cases d <;> (simp only [tyD, isStrT]; decide +kernel)
theorem kit_tup (d : PyData) : kitB (tyD d) "tuple" = some (isTupT d) := by cases d <;> (simp only [tyD, isTupT]; decide +kernel)
theorem kit_lst (d : PyData) : kitB (tyD d) "list" = some (isLstT d) := by cases d <;> (simp only [tyD, isLstT]; decide +kernel)
theorem boot_isi : bootBuiltins "isinstance" = some (.builtin "isinstance") := by decide +kernel
theorem boot_int' : bootBuiltins "int" = some (.type "int") := by decide +kernel
theorem boot_bool' : bootBuiltins "bool" = some (.type "bool") := by decide +kernel
theorem boot_str' : bootBuiltins "str" = some (.type "str") := by decide +kernel
theorem boot_tuple' : bootBuiltins "tuple" = some (.type "tuple") := by decide +kernel
theorem boot_list' : bootBuiltins "list" = some (.type "list") := by decide +kernel
theorem boot_len' : bootBuiltins "len" = some (.builtin "len") := by decide +kernel
theorem boot_abs' : bootBuiltins "abs" = some (.builtin "abs") := by decide +kernel
theorem boot_max' : bootBuiltins "max" = some (.builtin "max") := by decide +kernel
theorem boot_min' : bootBuiltins "min" = some (.builtin "min") := by decide +kernel
theorem boot_sum' : bootBuiltins "sum" = some (.builtin "sum") := by decide +kernel
theorem boot_all' : bootBuiltins "all" = some (.builtin "all") := by decide +kernel
theorem boot_any' : bootBuiltins "any" = some (.builtin "any") := by decide +kernel
theorem boot_sorted' : bootBuiltins "sorted" = some (.builtin "sorted") := by decide +kernel
/-- the built-in names that the text leaves alone -/
structure Bl (mg : Str → Option Value) : Prop where
  isi : mg "isinstance" = none
  int : mg "int" = none
  bool : mg "bool" = none
  str : mg "str" = none
  tuple : mg "tuple" = none
  list : mg "list" = none
  len : mg "len" = none
  abs : mg "abs" = none
  max : mg "max" = none
  min : mg "min" = none
  sum : mg "sum" = none
  all : mg "all" = none
  any : mg "any" = none
  sorted : mg "sorted" = none
  range : mg "range" = none
  zip : mg "zip" = none
  enumerate : mg "enumerate" = none
  dict : mg "dict" = none
end G
namespace G
open PySem PySem.Spec PyProof.Rows L2
theorem dats_map {α : Type} (g : α → PyData) : ∀ xs : List α, C.dats (xs.map fun x => .dat (g x)) = some (xs.map g)
  | [] => rfl
  | x :: xs => by rw [List.map_cons, C.dats, dats_map g xs]; rfl
theorem views_map {α : Type} (g : α → PyData) : ∀ xs : List α, C.views (xs.map fun x => .dat (g x)) = some (xs.map g)
  | [] => rfl
  | x :: xs => by rw [List.map_cons, C.views, views_map g xs]; rfl
/-- a list of data -/
abbrev lD (ds : List PyData) : C := .own (ds.map .dat)
theorem seesL {Γ : Gm} {α : Type} {g : α → PyData} {xs : List α} : Sees Γ (.val (.own (xs.map fun x => .dat (g x)))) (.s false (xs.map g)) := by
  show iv _ _ = _
  simp [iv, C.items, dats_map]
theorem seesLD {Γ : Gm} {ds : List PyData} : Sees Γ (.val (.own (ds.map .dat))) (.s false ds) := by
  show iv _ _ = _
  simp [iv, C.items, dats_dat]
theorem wipeG_off {Γ : Gm} : ∀ {vs : List Nat} {j : Nat}, j ∈ vs → ∀ c, (wipeG Γ vs)[j]? ≠ some (some c)
  | vs, j, m, c, e => (wipeG_some e).2 m
section
variable {X : Cx} {kp : List Nat} {Γ : Gm} {Kn : KR} {D : Out} {e c elt tg iter a b o : Expr} {es : List Expr} {ifs : List Expr} {scope : Scope} {pos p p2 : Pos}
/-- a comprehension without a test that leaves the frame as it is -/
def LcMap (X : Cx) (elt tg : Expr) (scope : Scope) (vs : List Nat) (Γ1 : Gm) {α : Type} (xs : List α) (en : α → PyData) (g : α → C) : Prop :=
  xs.length ≤ sizeLine ∧ ∀ x, x ∈ xs → ∀ s H Ca cl fp, WPg (blk X scope s H Ca cl fp) (outside X.N.length vs) tg (en x) (wipeG Γ1 vs) fun Γ2 => ∀ s H Ca cl fp, WPe (blk X scope s H Ca cl fp) elt Γ2 fun r Γ4 => ∃ Γ5, itemR Γ4 r = some (g x, Γ5) ∧ Wk (wipeG Γ5 vs) (wipeG Γ1 vs)
theorem lcMap_ok {α : Type} {xs : List α} {en : α → PyData} {g : α → C} {vs : List Nat} {Γ1 : Gm} (h : LcMap X elt tg scope vs Γ1 xs en g) : LcOk X elt tg [] scope vs Γ1 (xs.map en) (fun _ => wipeG Γ1 vs) (fun i => (xs.take i).map g) := by
  refine ⟨by rw [List.length_map]; exact h.1, .refl, rfl, fun i j m c => wipeG_off m c, fun i d ed s H Ca cl fp => ?_⟩
  rw [List.getElem?_map] at ed
  obtain ⟨x, ex, e⟩ := Option.map_eq_some_iff.mp ed
  subst e
  have h2 := h.2 x (List.mem_of_getElem? ex) s H Ca cl fp
  intro F1 H1 σ1 O1 g1 v hv Q q
  refine h2 F1 H1 σ1 O1 g1 v hv Q fun Γ2 F2 H2 σ2 O2 k2 g2 kk f2 => q Γ2 F2 H2 σ2 O2 (fun s H Ca cl fp => ⟨fun _ s H Ca cl fp => (k2 s H Ca cl fp).mono fun r Γ4 ⟨Γ5, e1, e2⟩ => ⟨_, Γ5, e1, e2, ?_⟩, fun z => (by cases z)⟩) g2 kk f2
  show (xs.take (i + 1)).map g = (xs.take i).map g ++ [g x]
  rw [List.take_succ, ex]
  simp
theorem WPe_lcMap (own : List (Str × Nat)) (h : WPi X tg iter Γ fun ds Γ1 => ∃ (α : Type) (xs : List α) (en : α → PyData) (g : α → C), ds = xs.map en ∧ LcMap X elt tg scope (own.map (·.2)) Γ1 xs en g ∧ Kn (.val (.own (xs.map g))) (unwipe Γ1 (wipeG Γ1 (own.map (·.2))) (own.map (·.2))))
    (hlen : X.N.length = Γ.length) (hN : X.N.Nodup) (ok : BlkOk X.N X.env.scope scope own) (hc : X.calm = true := by rfl) (hs : ∀ x, foldedSetIterable iter X.env x = pure x := by intro _; rfl) :
    WPe X (.ListComp elt [⟨tg, iter, [], 0⟩] scope pos) Γ Kn :=
  WPe_lc own (fun F H σ O g R q => h F H σ O g R fun ds Γ' F' H' O' J ⟨α, xs, en, gg, e, l, k⟩ => q ds Γ' F' H' O' J ⟨_, _, e ▸ lcMap_ok l, by rw [e, List.length_map, List.take_length]; exact k⟩) hlen hN ok hc (.inl rfl) hs
theorem WPs_setLcMap (i : Nat) {y : Str} {py : Pos} (own : List (Str × Nat)) (h : WPi X tg iter Γ fun ds Γ1 => ∃ (α : Type) (xs : List α) (en : α → PyData) (g : α → C), ds = xs.map en ∧ LcMap X elt tg scope (own.map (·.2)) Γ1 xs en g ∧ Nat.blt i (unwipe Γ1 (wipeG Γ1 (own.map (·.2))) (own.map (·.2))).length = true ∧ D.nx ((unwipe Γ1 (wipeG Γ1 (own.map (·.2))) (own.map (·.2))).set i (some (.own (xs.map g)))))
    (hlen : X.N.length = Γ.length) (hN : X.N.Nodup) (ok : BlkOk X.N X.env.scope scope own) (hsw : swapsWith (.ListComp elt [⟨tg, iter, [], 0⟩] scope p) (some (.Name y py)) pos.line X.env = pure true) (hk : kp.contains i = false := by rfl) (hy : X.N[i]? = some y := by rfl) (hyl : X.env.scope.names.lookup y = some .local := by rfl)
    (hc : X.calm = true := by rfl) (hs : ∀ x, foldedSetIterable iter X.env x = pure x := by intro _; rfl) :
    WPs X kp (.Assign [.Name y py] (.ListComp elt [⟨tg, iter, [], 0⟩] scope p) pos) Γ D :=
  WPs_setLc i own (fun F H σ O g R q => h F H σ O g R fun ds Γ' F' H' O' J ⟨α, xs, en, gg, e, l, k1, k2⟩ => q ds Γ' F' H' O' J ⟨_, _, e ▸ lcMap_ok l, k1, by rw [e, List.length_map, List.take_length]; exact k2⟩) hlen hN ok hsw hk hy hyl hc (.inl rfl) hs
/-- .. with a test -/
def LcFil (X : Cx) (elt tg c : Expr) (scope : Scope) (vs : List Nat) (Γ1 : Gm) {α : Type} (xs : List α) (en : α → PyData) (p : α → Bool) (g : α → C) : Prop :=
  xs.length ≤ sizeLine ∧ ∀ x, x ∈ xs → ∀ s H Ca cl fp, WPg (blk X scope s H Ca cl fp) (outside X.N.length vs) tg (en x) (wipeG Γ1 vs) fun Γ2 => ∀ s H Ca cl fp, WPt (blk X scope s H Ca cl fp) c Γ2 fun k Γ3 => k = p x ∧
    (p x = true → ∀ s H Ca cl fp, WPe (blk X scope s H Ca cl fp) elt Γ3 fun r Γ4 => ∃ Γ5, itemR Γ4 r = some (g x, Γ5) ∧ Wk (wipeG Γ5 vs) (wipeG Γ1 vs)) ∧ (p x = false → Wk (wipeG Γ3 vs) (wipeG Γ1 vs))
theorem lcFil_ok {α : Type} {xs : List α} {en : α → PyData} {p : α → Bool} {g : α → C} {vs : List Nat} {Γ1 : Gm} (h : LcFil X elt tg c scope vs Γ1 xs en p g) : LcOk X elt tg [c] scope vs Γ1 (xs.map en) (fun _ => wipeG Γ1 vs) (fun i => ((xs.take i).filter p).map g) := by
  refine ⟨by rw [List.length_map]; exact h.1, .refl, rfl, fun i j m c => wipeG_off m c, fun i d ed s H Ca cl fp => ?_⟩
  rw [List.getElem?_map] at ed
  obtain ⟨x, ex, e⟩ := Option.map_eq_some_iff.mp ed
  subst e
  have h2 := h.2 x (List.mem_of_getElem? ex) s H Ca cl fp
  intro F1 H1 σ1 O1 g1 v hv Q q
  refine h2 F1 H1 σ1 O1 g1 v hv Q fun Γ2 F2 H2 σ2 O2 k2 g2 kk f2 => q Γ2 F2 H2 σ2 O2 (fun s H Ca cl fp => (k2 s H Ca cl fp).mono fun k Γ3 ⟨ek, h1, h2⟩ => ⟨fun e s H Ca cl fp => (h1 (ek ▸ e) s H Ca cl fp).mono fun r Γ4 ⟨Γ5, e1, e2⟩ => ⟨_, Γ5, e1, e2, ?_⟩, fun e => ⟨h2 (ek ▸ e), ?_⟩⟩) g2 kk f2
  · have e : p x = true := ek ▸ e
    show ((xs.take (i + 1)).filter p).map g = ((xs.take i).filter p).map g ++ [g x]
    rw [List.take_succ, ex]
    simp [List.filter_append, e]
  · have e : p x = false := ek ▸ e
    show ((xs.take (i + 1)).filter p).map g = ((xs.take i).filter p).map g
    rw [List.take_succ, ex]
    simp [List.filter_append, e]
theorem WPe_lcFil (own : List (Str × Nat)) (h : WPi X tg iter Γ fun ds Γ1 => ∃ (α : Type) (xs : List α) (en : α → PyData) (p : α → Bool) (g : α → C), ds = xs.map en ∧ LcFil X elt tg c scope (own.map (·.2)) Γ1 xs en p g ∧ Kn (.val (.own ((xs.filter p).map g))) (unwipe Γ1 (wipeG Γ1 (own.map (·.2))) (own.map (·.2))))
    (hlen : X.N.length = Γ.length) (hN : X.N.Nodup) (ok : BlkOk X.N X.env.scope scope own) (hc : X.calm = true := by rfl) (hs : ∀ x, foldedSetIterable iter X.env x = pure x := by intro _; rfl) :
    WPe X (.ListComp elt [⟨tg, iter, [c], 0⟩] scope pos) Γ Kn :=
  WPe_lc own (fun F H σ O g R q => h F H σ O g R fun ds Γ' F' H' O' J ⟨α, xs, en, pp, gg, e, l, k⟩ => q ds Γ' F' H' O' J ⟨_, _, e ▸ lcFil_ok l, by rw [e, List.length_map, List.take_length]; exact k⟩) hlen hN ok hc (.inr ⟨_, rfl⟩) hs
end
section
variable {X : Cx}
theorem cd_allM {α : Type} {xs : List α} {f : α → Bool} (hc : X.calm = true) : CallD X (.builtin "all") [.s false (xs.map fun x => .bool (f x))] (.dat (.bool (xs.all f))) := by
  have := cd_all (X := X) (bs := xs.map f) hc
  rw [List.map_map, List.all_map] at this
  exact this
theorem cd_anyM {α : Type} {xs : List α} {f : α → Bool} (hc : X.calm = true) : CallD X (.builtin "any") [.s false (xs.map fun x => .bool (f x))] (.dat (.bool (xs.any f))) := by
  have := cd_any (X := X) (bs := xs.map f) hc
  rw [List.map_map, List.any_map] at this
  exact this
theorem cd_sumM {α : Type} {xs : List α} {f : α → Int} (hc : X.calm = true) : CallD X (.builtin "sum") [.s false (xs.map fun x => .int (f x))] (.dat (.int (xs.map f).sum)) := by
  have := cd_sum (X := X) (ns := xs.map f) hc
  rw [List.map_map] at this
  exact this
theorem cd_maxM {α : Type} {xs : List α} {f : α → Int} (hc : X.calm = true) (h : xs ≠ []) : CallD X (.builtin "max") [.s false (xs.map fun x => .int (f x))] (.dat (.int (mxL (xs.map f)))) := by
  have := cd_max (X := X) (ns := xs.map f) hc (by simpa using h)
  rw [List.map_map] at this
  exact this
theorem cd_minM {α : Type} {xs : List α} {f : α → Int} (hc : X.calm = true) (h : xs ≠ []) : CallD X (.builtin "min") [.s false (xs.map fun x => .int (f x))] (.dat (.int (mnL (xs.map f)))) := by
  have := cd_min (X := X) (ns := xs.map f) hc (by simpa using h)
  rw [List.map_map] at this
  exact this
theorem cd_sortedM {α : Type} {xs : List α} {f : α → Int} : CallD X (.builtin "sorted") [.s false (xs.map fun x => .int (f x))] (.own (((srtI (xs.map f)).map PyData.int).map .dat)) := by
  have := cd_sorted (X := X) (ns := xs.map f)
  rw [List.map_map] at this
  exact this
end
theorem tup_of {d : PyData} (h : isTupT d = true) : ∃ ds, d = .tuple ds := by cases d <;> first | exact ⟨_, rfl⟩ | cases h
end G
namespace G
open PySem PySem.Spec PyProof.Rows L2

/-! ### list(zip(x, y)), tuple(zip(x, y)): every tuple that comes is kept -/
section
variable {prog : Program} {w : World} {A : Around} {E : Value → Shared → Prop} {s : Shared} {z TI TO T i1 i2 : Addr} {f : Bool} {oT : Obj} {fp1 fp2 : List Addr} {n1 n2 i : Nat} {P1 P2 : Nat → Value → Prop} {St1 St2 : Nat → Heap → Prop}
theorem zh_item {Q : Value → Shared → Prop} (S : ZipSep2 z TI TO i1 i2 fp1 fp2) (D1 : Draws prog w A i1 fp1 n1 P1 St1) (D2 : Draws prog w A i2 fp2 n2 P2 St2) (kz : PySem.IsZipHeld s.heap z TI TO T f) (kT : s.heap.get? T = some oT)
    (kI : IsTupOf2 s.heap TI (.ref i1) (.ref i2)) (st1 : St1 i s.heap) (st2 : St2 i s.heap) (l1 : i < n1) (l2 : i < n2)
    (k : ∀ x y h' tk, P1 i x → P2 i y → PySem.IsZipHeld h' z TI TO T true → St1 (i + 1) h' → St2 (i + 1) h' → IsTupOf2 h' s.heap.objs.size x y → h'.objs.size = s.heap.objs.size + 1 →
      (∀ c o, c ≠ z → c ≠ i1 → c ≠ i2 → s.heap.get? c = some o → h'.get? c = some o) → Q (.ref s.heap.objs.size) { s with heap := h', toks := tk }) :
    wpAny (model prog w) A (Builtin.«zip.__next__» ⟨[.ref z], []⟩) (fun r s' => ∃ v, r = .done (.ret v) ∧ Q v s') E s := by
  obtain ⟨h0, g0, d0, t0, os0⟩ := s
  show wpAny _ _ (field (.ref z) 2 >>= _) _ _ _
  refine wpAny_bind (wpAny_field kz rfl (x := .bool false) rfl ?_)
  show wpAny _ _ (field (.ref z) 3 >>= _) _ _ _
  refine wpAny_bind (wpAny_field kz rfl (x := .ref TI) rfl ?_)
  refine wpAny_bind (wpAny_seqItems kI rfl ?_)
  show wpAny _ _ (Builtin.SmallTypes.ownedTupleIsFree (.ref z) >>= _) _ _ _
  refine wpAny_bind (PySem.wpAny_tupleHeld_zip kz kT fun hA zA sA => ?_)
  replace sA : Heap.SameBut z h0 hA := sA
  simp only [Bool.false_eq_true, if_false]
  refine wpAny_bind ?_
  rw [← Array.forIn_toList]
  simp only [List.forIn_cons, List.forIn_nil]
  refine wpAny_bind (wpAny_bind (wpAny_holding ?_))
  show wpAny _ _ (Builtin.SmallTypes.nextOf (.ref i1) >>= _) _ _ ⟨hA, g0, d0, t0, os0⟩
  refine wpAny_bind (D1.item i _ _ _ l1 (D1.over st1 sA S.zf1) fun x hB tB px nB sB => wpAny_pure ?_)
  replace sB : Heap.SameBut i1 hA hB := sB
  refine wpAny_pure ?_
  refine wpAny_bind (wpAny_bind (wpAny_holding ?_))
  show wpAny _ _ (Builtin.SmallTypes.nextOf (.ref i2) >>= _) _ _ ⟨hB, g0, d0, tB, os0⟩
  refine wpAny_bind (D2.item i _ _ _ l2 (D2.over (D2.over st2 sA S.zf2) sB S.sep1_2) fun y hC tC py nC sC => wpAny_pure ?_)
  replace sC : Heap.SameBut i2 hB hC := sC
  refine wpAny_pure (wpAny_pure ?_)
  show wpAny _ _ (newTuple [x, y] >>= _) _ _ _
  refine wpAny_bind (wpAny_newTuple ?_)
  have sz : hC.objs.size = h0.objs.size := by rw [sC.1, sB.1, sA.1]
  have zC : PySem.IsZipHeld hC z TI TO T true := sC.extBut _ _ S.zi2 (sB.extBut _ _ S.zi1 zA)
  refine wpAny_pure ⟨_, rfl, ?_⟩
  show Q (.ref hC.objs.size) _
  have np : IsTupOf2 (hC.push { cls := .type "tuple", data := .seq #[x, y] }) hC.objs.size x y := Heap.get?_push_size _ rfl
  have ns : (hC.push { cls := .type "tuple", data := .seq #[x, y] }).objs.size = hC.objs.size + 1 := Heap.size_push ..
  rw [sz] at np ns ⊢
  exact k x y _ _ px py (Heap.get?_push_of_some _ zC) (D1.frame _ _ _ (D1.over nB sC S.sep2_1) fun b _ o e => Heap.get?_push_of_some _ e) (D2.frame _ _ _ nC fun b _ o e => Heap.get?_push_of_some _ e) np ns
    fun c o cz c1 c2 e => Heap.get?_push_of_some _ (sC.extBut _ _ c2 (sB.extBut _ _ c1 (sA.extBut _ _ cz e)))
theorem zh_end {Q : Fin → Shared → Prop} (S : ZipSep2 z TI TO i1 i2 fp1 fp2) (D1 : Draws prog w A i1 fp1 n1 P1 St1) (D2 : Draws prog w A i2 fp2 n2 P2 St2) (kz : PySem.IsZipHeld s.heap z TI TO T f) (kT : s.heap.get? T = some oT)
    (kI : IsTupOf2 s.heap TI (.ref i1) (.ref i2)) (st1 : St1 i s.heap) (st2 : St2 i s.heap) (l1 : i ≤ n1) (l2 : i ≤ n2) (ed : i = n1 ∨ i = n2)
    (k : ∀ h' tk e, (∀ c o, c ≠ z → c ≠ i1 → c ≠ i2 → s.heap.get? c = some o → h'.get? c = some o) → (∃ o, h'.get? e = some o ∧ o.cls = .type "StopIteration") → E (.ref e) { s with heap := h', toks := tk }) :
    wpAny (model prog w) A (Builtin.«zip.__next__» ⟨[.ref z], []⟩) Q E s := by
  obtain ⟨h0, g0, d0, t0, os0⟩ := s
  show wpAny _ _ (field (.ref z) 2 >>= _) _ _ _
  refine wpAny_bind (wpAny_field kz rfl (x := .bool false) rfl ?_)
  show wpAny _ _ (field (.ref z) 3 >>= _) _ _ _
  refine wpAny_bind (wpAny_field kz rfl (x := .ref TI) rfl ?_)
  refine wpAny_bind (wpAny_seqItems kI rfl ?_)
  show wpAny _ _ (Builtin.SmallTypes.ownedTupleIsFree (.ref z) >>= _) _ _ _
  refine wpAny_bind (PySem.wpAny_tupleHeld_zip kz kT fun hA zA sA => ?_)
  replace sA : Heap.SameBut z h0 hA := sA
  simp only [Bool.false_eq_true, if_false]
  refine wpAny_bind ?_
  rw [← Array.forIn_toList]
  simp only [List.forIn_cons, List.forIn_nil]
  refine wpAny_bind (wpAny_bind (wpAny_holding ?_))
  show wpAny _ _ (Builtin.SmallTypes.nextOf (.ref i1) >>= _) _ _ ⟨hA, g0, d0, t0, os0⟩
  by_cases q : i = n1
  · subst q
    refine wpAny_bind (D1.done _ _ _ (D1.over st1 sA S.zf1) fun hB e sB he => ?_)
    exact k hB _ e (fun c o cz c1 c2 x => sB _ _ c1 (sA.extBut _ _ cz x)) he
  · have q2 : i = n2 := by rcases ed with h | h; exact absurd h q; exact h
    refine wpAny_bind (D1.item i _ _ _ (by omega) (D1.over st1 sA S.zf1) fun x hB tB px nB sB => wpAny_pure ?_)
    replace sB : Heap.SameBut i1 hA hB := sB
    refine wpAny_pure ?_
    refine wpAny_bind (wpAny_bind (wpAny_holding ?_))
    show wpAny _ _ (Builtin.SmallTypes.nextOf (.ref i2) >>= _) _ _ ⟨hB, g0, d0, tB, os0⟩
    subst q2
    refine wpAny_bind (D2.done _ _ _ (D2.over (D2.over st2 sA S.zf2) sB S.sep1_2) fun hC e sC he => ?_)
    exact k hC _ e (fun c o cz c1 c2 x => sC _ _ c2 (sB.extBut _ _ c1 (sA.extBut _ _ cz x))) he

/-- a zip none of whose tuples came back yet: either nothing was drawn, or its last tuple lives above lo -/
def ZC (h : Heap) (z TI TO : Addr) (lo : Nat) : Prop := (IsZip h z TI TO .none ∧ ∃ a b, IsTupOf2 h TO a b) ∨ ∃ T f oT, lo < T ∧ PySem.IsZipHeld h z TI TO T f ∧ h.get? T = some oT
theorem ZC.type {h : Heap} {lo : Nat} (x : ZC h z TI TO lo) {g d t o} : (⟨h, g, d, t, o⟩ : Shared).TypeIs (.ref z) "zip" := by
  rcases x with ⟨x, _⟩ | ⟨T, f, oT, _, x, _⟩
  · exact ⟨_, x, rfl⟩
  · exact ⟨_, x, rfl⟩
/-- all its cells lie at lo or below -/
structure Low (z TI TO i1 i2 : Addr) (lo : Nat) : Prop where
  z : z ≤ lo
  TI : TI ≤ lo
  TO : TO ≤ lo
  i1 : i1 ≤ lo
  i2 : i2 ≤ lo
theorem zc_item {lo : Nat} {Q : Option Value → Shared → Prop} (S : ZipSep2 z TI TO i1 i2 fp1 fp2) (L : Low z TI TO i1 i2 lo) (D1 : Draws prog w A.in1 i1 fp1 n1 P1 St1) (D2 : Draws prog w A.in1 i2 fp2 n2 P2 St2) (kz : ZC s.heap z TI TO lo)
    (kI : IsTupOf2 s.heap TI (.ref i1) (.ref i2)) (st1 : St1 i s.heap) (st2 : St2 i s.heap) (l1 : i < n1) (l2 : i < n2) (hlo : lo < s.heap.objs.size)
    (k : ∀ x y h' tk, P1 i x → P2 i y → ZC h' z TI TO lo → IsTupOf2 h' TI (.ref i1) (.ref i2) → St1 (i + 1) h' → St2 (i + 1) h' → IsTupOf2 h' s.heap.objs.size x y → h'.objs.size = s.heap.objs.size + 1 →
      (∀ c o, c ≠ z → c ≠ TO → c ≠ i1 → c ≠ i2 → s.heap.get? c = some o → h'.get? c = some o) → Q (some (.ref s.heap.objs.size)) { s with heap := h', toks := tk }) :
    wpAny (model prog w) A (pyNext (.ref z)) Q E s := by
  rcases kz with ⟨kz, a, b, kO⟩ | ⟨T, f, oT, lT, kz, kT⟩
  · refine wpAny_pyNext_zipD2_item S D1 D2 kz kI kO st1 st2 l1 l2 fun x y h' tk px py nz nO n1 n2 nT ns kp => ?_
    exact k x y h' tk px py (.inr ⟨_, false, _, hlo, nz, nT⟩) (kp _ _ S.TIz S.TITO S.TIi1 S.TIi2 kI) n1 n2 nT ns kp
  · have hTy : s.TypeIs (.ref z) "zip" := ⟨_, kz, rfl⟩
    unfold pyNext
    refine wpAny_bind (wpAny_attempt (wpAny_callSpecial?_slot (name := Str.ofString "__next__") hTy F.slot_zip_next (wpAny_call_entry F.slot_zip_next hTy F.entry_zip_next (zh_item S D1 D2 kz kT kI st1 st2 l1 l2 fun x y h' tk px py nz n1 n2 nT ns kp => ?_) (F.args_zip_next_1 _))))
    have aT : T ≠ z ∧ T ≠ i1 ∧ T ≠ i2 := ⟨Nat.ne_of_gt (Nat.lt_of_le_of_lt L.z lT), Nat.ne_of_gt (Nat.lt_of_le_of_lt L.i1 lT), Nat.ne_of_gt (Nat.lt_of_le_of_lt L.i2 lT)⟩
    exact wpAny_pure (k x y h' tk px py (.inr ⟨T, true, oT, lT, nz, kp _ _ aT.1 aT.2.1 aT.2.2 kT⟩) (kp _ _ S.TIz S.TIi1 S.TIi2 kI) n1 n2 nT ns fun c o cz _ c1 c2 e => kp c o cz c1 c2 e)
theorem zc_end {lo : Nat} {Q : Option Value → Shared → Prop} (S : ZipSep2 z TI TO i1 i2 fp1 fp2) (D1 : Draws prog w A.in1 i1 fp1 n1 P1 St1) (D2 : Draws prog w A.in1 i2 fp2 n2 P2 St2) (kz : ZC s.heap z TI TO lo)
    (kI : IsTupOf2 s.heap TI (.ref i1) (.ref i2)) (st1 : St1 i s.heap) (st2 : St2 i s.heap) (l1 : i ≤ n1) (l2 : i ≤ n2) (ed : i = n1 ∨ i = n2)
    (k : ∀ h' tk, (∀ c o, c ≠ z → c ≠ TO → c ≠ i1 → c ≠ i2 → s.heap.get? c = some o → h'.get? c = some o) → Q none { s with heap := h', toks := tk }) : wpAny (model prog w) A (pyNext (.ref z)) Q E s := by
  rcases kz with ⟨kz, a, b, kO⟩ | ⟨T, f, oT, lT, kz, kT⟩
  · exact wpAny_pyNext_zipD2_end S D1 D2 kz kI kO st1 st2 l1 l2 ed k
  · have hTy : s.TypeIs (.ref z) "zip" := ⟨_, kz, rfl⟩
    unfold pyNext
    refine wpAny_bind (wpAny_attempt (wpAny_callSpecial?_slot (name := Str.ofString "__next__") hTy F.slot_zip_next (wpAny_call_entry F.slot_zip_next hTy F.entry_zip_next (zh_end S D1 D2 kz kT kI st1 st2 l1 l2 ed fun h' tk e kp he => ?_) (F.args_zip_next_1 _))))
    obtain ⟨o, ho, hc⟩ := he
    refine wpAny_bind (wpAny_isInstance (T := "StopIteration") (b := true) ⟨o, ho, hc⟩ isSubtype_stop ?_)
    exact wpAny_pure (k _ _ fun c o cz _ c1 c2 e => kp c o cz c1 c2 e)
theorem ZC.keep {h h' : Heap} {lo : Nat} (x : ZC h z TI TO lo) (L : Low z TI TO i1 i2 lo) (k : ∀ b o, b = z ∨ b = TO ∨ lo < b → h.get? b = some o → h'.get? b = some o) : ZC h' z TI TO lo := by
  rcases x with ⟨x, a, b, y⟩ | ⟨T, f, oT, l, x, y⟩
  · exact .inl ⟨k _ _ (.inl rfl) x, a, b, k _ _ (.inr (.inl rfl)) y⟩
  · exact .inr ⟨T, f, oT, l, k _ _ (.inl rfl) x, k _ _ (.inr (.inr l)) y⟩

/-- the tuples that came -/
structure Mk2 (P1 P2 : Nat → Value → Prop) (lo : Nat) (h : Heap) (as : List Addr) : Prop where
  rise : as.Pairwise (· < ·)
  above : ∀ a ∈ as, lo < a
  pairs : ∀ j a, as[j]? = some a → ∃ x y, P1 j x ∧ P2 j y ∧ IsTupOf2 h a x y
theorem Mk2.keep {lo : Nat} {h h' : Heap} {as : List Addr} (x : Mk2 P1 P2 lo h as) (k : ∀ b o, lo < b → h.get? b = some o → h'.get? b = some o) : Mk2 P1 P2 lo h' as :=
  ⟨x.rise, x.above, fun j a e => let ⟨u, v, pu, pv, t⟩ := x.pairs j a e; ⟨u, v, pu, pv, k _ _ (x.above a (List.mem_of_getElem? e)) t⟩⟩
theorem Mk2.snoc {lo : Nat} {h : Heap} {as : List Addr} {a : Addr} {x y : Value} (m : Mk2 P1 P2 lo h as) (hm : ∀ b ∈ as, b < a) (hl : lo < a) (px : P1 as.length x) (py : P2 as.length y) (t : IsTupOf2 h a x y) : Mk2 P1 P2 lo h (as ++ [a]) := by
  refine ⟨List.pairwise_append.mpr ⟨m.rise, List.pairwise_singleton _ _, fun b hb c hc => by rw [List.mem_singleton.mp hc]; exact hm b hb⟩, fun b hb => ?_, fun j b e => ?_⟩
  · rcases List.mem_append.mp hb with h | h
    · exact m.above b h
    · rw [List.mem_singleton.mp h]; exact hl
  · rcases Nat.lt_or_ge j as.length with l | l
    · rw [List.getElem?_append_left l] at e; exact m.pairs j b e
    · rw [List.getElem?_append_right l] at e
      obtain ⟨l2, e2⟩ := List.getElem?_eq_some_iff.mp e
      have : j - as.length = 0 := by simpa using l2
      have ej : j = as.length := by omega
      subst ej
      have : a = b := by simpa using e
      subst this
      exact ⟨x, y, px, py, t⟩
end
section
variable {prog : Program} {w : World} {A : Around} {s : Shared} {R : Result → Shared → Prop} {z TI TO i1 i2 : Addr} {fp1 fp2 : List Addr} {n1 n2 : Nat} {P1 P2 : Nat → Value → Prop} {St1 St2 : Nat → Heap → Prop}
/-- the list at q is filled with what comes from the zip -/
theorem zloop {lo q : Nat} (S : ZipSep2 z TI TO i1 i2 fp1 fp2) (L : Low z TI TO i1 i2 lo) (hql : q ≤ lo) (hqz : q ≠ z) (hqI : q ≠ TI) (hqO : q ≠ TO) (hq1 : q ∉ fp1) (hq2 : q ∉ fp2) (D1 : Draws prog w A.in1.in1 i1 fp1 n1 P1 St1) (D2 : Draws prog w A.in1.in1 i2 fp2 n2 P2 St2)
    (hn : min n1 n2 ≤ sizeLine) (res : Value) {h0 : Heap}
    (hR : ∀ h' tk acc c as, (∀ b o, b ≠ q → b ≠ z → b ≠ TO → b ≠ i1 → b ≠ i2 → h0.get? b = some o → h'.get? b = some o) → h'.get? q = some { cls := .type "list", dict := none, data := .seq acc c, slots := #[] } → as.length = min n1 n2 → Mk2 P1 P2 lo h' as →
      acc.toList = as.map Value.ref → R (.ok (.ret res)) { s with heap := h', toks := tk }) :
    ∀ (m i : Nat) (h : Heap) (tk c : Nat) (acc : Array Value) (as : List Addr), min n1 n2 - i = m → i ≤ min n1 n2 → ZC h z TI TO lo → IsTupOf2 h TI (.ref i1) (.ref i2) → St1 i h → St2 i h →
      (∀ b o, b ≠ q → b ≠ z → b ≠ TO → b ≠ i1 → b ≠ i2 → h0.get? b = some o → h.get? b = some o) → h.get? q = some { cls := .type "list", dict := none, data := .seq acc c, slots := #[] } → acc.toList = as.map Value.ref → as.length = i →
      Mk2 P1 P2 lo h as → lo < h.objs.size → codeAny (model prog w) A (.builtin "list.extend.loop" ⟨[.ref q, .ref z, res], []⟩) R { s with heap := h, toks := tk } := by
  have q1 : q ≠ i1 := fun e => hq1 (e ▸ S.mem1)
  have q2 : q ≠ i2 := fun e => hq2 (e ▸ S.mem2)
  intro m
  induction m with
  | zero =>
    intro i h tk c acc as em hi kz kI st1 st2 kp hS ha hl mk hlo
    refine codeAny_builtin F.entry_extend_loop ?_
    rw [Around.under_plainId F.plain_extend_loop _]
    show wpAny _ A.in1 (pyNext (.ref z) >>= _) _ _ _
    refine wpAny_bind (zc_end (s := { s with heap := h, toks := tk }) S D1 D2 kz kI st1 st2 (by omega) (by omega) (by omega) fun h' tk' k2 => ?_)
    have up : ∀ b o, lo < b → h.get? b = some o → h'.get? b = some o := fun b o l e => k2 b o (Nat.ne_of_gt (Nat.lt_of_le_of_lt L.z l)) (Nat.ne_of_gt (Nat.lt_of_le_of_lt L.TO l)) (Nat.ne_of_gt (Nat.lt_of_le_of_lt L.i1 l)) (Nat.ne_of_gt (Nat.lt_of_le_of_lt L.i2 l)) e
    exact wpAny_pure (hR h' tk' acc c as (fun b o b1 b2 b3 b4 b5 e => k2 b o b2 b3 b4 b5 (kp b o b1 b2 b3 b4 b5 e)) (k2 _ _ hqz hqO q1 q2 hS) (by omega) (mk.keep up) ha)
  | succ m ih =>
    intro i h tk c acc as em hi kz kI st1 st2 kp hS ha hl mk hlo
    have sz : acc.size = i := by rw [← Array.length_toList, ha, List.length_map, hl]
    refine codeAny_builtin F.entry_extend_loop ?_
    rw [Around.under_plainId F.plain_extend_loop _]
    show wpAny _ A.in1 (pyNext (.ref z) >>= _) _ _ _
    refine wpAny_bind (zc_item (s := { s with heap := h, toks := tk }) S L D1 D2 kz kI st1 st2 (by omega) (by omega) hlo fun x y h' tk' px py nz nI n1' n2' nT ns k2 => ?_)
    dsimp only at nT ns k2 ⊢
    have hS' := k2 _ _ hqz hqO q1 q2 hS
    have up : ∀ b o, b ≠ q → h'.get? b = some o → (h'.update q (Obj.mapSeq (·.push (Value.ref h.objs.size)))).get? b = some o := fun b o hb e => (Heap.get?_update_other _ _ (Ne.symm hb)).trans e
    have upl : ∀ b o, lo < b → h.get? b = some o → h'.get? b = some o := fun b o l e => k2 b o (Nat.ne_of_gt (Nat.lt_of_le_of_lt L.z l)) (Nat.ne_of_gt (Nat.lt_of_le_of_lt L.TO l)) (Nat.ne_of_gt (Nat.lt_of_le_of_lt L.i1 l)) (Nat.ne_of_gt (Nat.lt_of_le_of_lt L.i2 l)) e
    have neq : ∀ b, lo < b → b ≠ q := fun b l => Nat.ne_of_gt (Nat.lt_of_le_of_lt hql l)
    show wpAny _ A.in1 (updateSeq q (·.push (Value.ref h.objs.size)) >>= _) _ _ _
    refine wpAny_bind (wpAny_updateSeq hS' rfl (wpAny_pure ⟨plainId_quiet F.plain_extend_loop _, ih (i + 1) _ tk' _ (acc.push (Value.ref h.objs.size)) (as ++ [h.objs.size]) (by omega) (by omega) ?_ (up _ _ hqI.symm nI) ?_ ?_ ?_ (Heap.get?_update_self _ hS' rfl) ?_ ?_ ?_ ?_⟩) (by rw [sz]; omega) (by show (acc.push (Value.ref h.objs.size)).size ≤ sizeLine + 1; rw [Array.size_push, sz]; omega))
    · refine nz.keep L fun b o hb e => up b o ?_ e
      rcases hb with rfl | rfl | l
      · exact hqz.symm
      · exact hqO.symm
      · exact neq b l
    · exact D1.frame _ _ _ n1' fun b hb o e => up b o (fun z => hq1 (z ▸ hb)) e
    · exact D2.frame _ _ _ n2' fun b hb o e => up b o (fun z => hq2 (z ▸ hb)) e
    · exact fun b o b1 b2 b3 b4 b5 e => up b o b1 (k2 b o b2 b3 b4 b5 (kp b o b1 b2 b3 b4 b5 e))
    · rw [Array.toList_push, ha, List.map_append]; rfl
    · rw [List.length_append, hl]; rfl
    · refine ((mk.keep upl).keep fun b o l e => up b o (neq b l) e).snoc (fun b hb => ?_) hlo (by rw [hl]; exact px) (by rw [hl]; exact py) (up _ _ (neq _ hlo) nT)
      obtain ⟨j, ej⟩ := List.mem_iff_getElem?.mp hb
      obtain ⟨_, _, _, _, t⟩ := mk.pairs j b ej
      exact Heap.lt_size t
    · exact Nat.lt_trans hlo (Heap.lt_size (up _ _ (neq _ hlo) nT))
theorem nolen_zip : typeLookup (.type "zip") "__len__" = pure none := am_miss_of_fast (by decide +kernel)
theorem nohint_zip : typeLookup (.type "zip") "__length_hint__" = pure none := am_miss_of_fast (by decide +kernel)
/-- the empty list at q is lengthened by the zip -/
theorem zext {lo q c0 : Nat} (S : ZipSep2 z TI TO i1 i2 fp1 fp2) (L : Low z TI TO i1 i2 lo) (hql : q ≤ lo) (hqz : q ≠ z) (hqI : q ≠ TI) (hqO : q ≠ TO) (hq1 : q ∉ fp1) (hq2 : q ∉ fp2) (D1 : Draws prog w A.in1.in1 i1 fp1 n1 P1 St1) (D2 : Draws prog w A.in1.in1 i2 fp2 n2 P2 St2)
    (hn : min n1 n2 ≤ sizeLine) (res : Value) (kz : IsZip s.heap z TI TO .none) (kO : ∃ a b, IsTupOf2 s.heap TO a b) (kI : IsTupOf2 s.heap TI (.ref i1) (.ref i2)) (st1 : St1 0 s.heap) (st2 : St2 0 s.heap) (hlo : lo < s.heap.objs.size)
    (hS : s.heap.get? q = some { cls := .type "list", dict := none, data := .seq #[] c0, slots := #[] })
    (hR : ∀ h' tk acc c as, (∀ b o, b ≠ q → b ≠ z → b ≠ TO → b ≠ i1 → b ≠ i2 → s.heap.get? b = some o → h'.get? b = some o) → h'.get? q = some { cls := .type "list", dict := none, data := .seq acc c, slots := #[] } → as.length = min n1 n2 → Mk2 P1 P2 lo h' as →
      acc.toList = as.map Value.ref → R (.ok (.ret res)) { s with heap := h', toks := tk }) :
    wpAny (model prog w) A.in1 (Builtin.List.listExtendWith (.ref q) (.ref z) res)
      (fun r s' => match r with | .done f => R (.ok f) s' | .again c' => c'.quiet = true ∧ codeAny (model prog w) A c' R s') (fun e s' => R (.error e) s') s := by
  have hTy : s.TypeIs (.ref z) "zip" := ⟨_, kz, rfl⟩
  unfold Builtin.List.listExtendWith
  refine wpAny_bind (wpAny_typeOf hTy ?_)
  have e1 : Builtin.List.listSameRef (.ref q) (.ref z) = false := by simp [Builtin.List.listSameRef, hqz]
  have e2 : (Value.type "zip" == Value.type "list") = false := by decide
  have e3 : (Value.type "zip" == Value.type "tuple") = false := by decide
  simp only [e1, e2, e3, Bool.or_false, Bool.false_eq_true, if_false]
  refine wpAny_bind (wpAny_pyIter_zip kz ?_)
  refine wpAny_bind (wpAny_holding ?_)
  unfold Builtin.List.listLengthHint
  refine wpAny_bind (wpAny_specialOf hTy nolen_zip ?_)
  show wpAny _ A.in1 (specialOf (Value.ref z) (Str.ofString "__length_hint__") >>= _) _ _ _
  refine wpAny_bind (wpAny_specialOf hTy nohint_zip ?_)
  refine wpAny_pure ?_
  show wpAny _ A.in1 (rule "list.extend.makes-room" >>= fun _ => Builtin.List.listTouch (.ref q) >>= fun _ => again (.builtin "list.extend.loop" ⟨[.ref q, .ref z, res], []⟩)) _ _ _
  refine wpAny_bind (wpAny_rule ?_)
  refine wpAny_bind ?_
  show wpAny _ A.in1 (updateSeq q (·.push .none) >>= fun _ => updateSeq q (·.pop)) _ _ _
  refine wpAny_bind (wpAny_updateSeq hS rfl ?_)
  have hS2 := Heap.get?_update_self (Obj.mapSeq (·.push Value.none)) hS rfl
  refine wpAny_updateSeq (hz := by seq_fits) hS2 rfl ?_
  have hS3 := Heap.get?_update_self (Obj.mapSeq (·.pop)) hS2 rfl
  have oth : ∀ b o, b ≠ q → s.heap.get? b = some o → ((s.heap.update q (Obj.mapSeq (·.push Value.none))).update q (Obj.mapSeq (·.pop))).get? b = some o :=
    fun b o hb e => (Heap.get?_update_other _ _ (Ne.symm hb)).trans ((Heap.get?_update_other _ _ (Ne.symm hb)).trans e)
  obtain ⟨a, b, kO⟩ := kO
  refine wpAny_pure ⟨plainId_quiet F.plain_extend_loop _, zloop (h0 := s.heap) S L hql hqz hqI hqO hq1 hq2 D1 D2 hn res hR (min n1 n2) 0 _ _ _ #[] [] rfl (Nat.zero_le _) (.inl ⟨oth _ _ hqz.symm kz, a, b, oth _ _ hqO.symm kO⟩) (oth _ _ hqI.symm kI) (D1.frame _ _ _ st1 fun b hb o e => oth b o (fun z => hq1 (z ▸ hb)) e)
    (D2.frame _ _ _ st2 fun b hb o e => oth b o (fun z => hq2 (z ▸ hb)) e) (fun b o b1 _ _ _ _ e => oth b o b1 e) hS3 rfl rfl ⟨.nil, (fun a h => by cases h), (fun j a e => by simp at e)⟩ ?_⟩
  have z1 : (s.heap.update q (Obj.mapSeq (·.push Value.none))).objs.size = s.heap.objs.size := (Heap.SameBut.update ..).1
  have z2 : ((s.heap.update q (Obj.mapSeq (·.push Value.none))).update q (Obj.mapSeq (·.pop))).objs.size = _ := (Heap.SameBut.update ..).1
  rw [z2, z1]
  exact hlo
end
end G
namespace G
open PySem PySem.Spec PyProof.Rows L2
section
variable {prog : Program} {w : World} {A : Around} {E : Value → Shared → Prop} {s : Shared} {z TI TO i1 i2 : Addr} {fp1 fp2 : List Addr} {n1 n2 : Nat} {P1 P2 : Nat → Value → Prop} {St1 St2 : Nat → Heap → Prop}
/-- a fresh zip over two iterators -/
structure ZNew (prog : Program) (w : World) (h : Heap) (z TI TO i1 i2 : Addr) (fp1 fp2 : List Addr) (n1 n2 : Nat) (P1 P2 : Nat → Value → Prop) (St1 St2 : Nat → Heap → Prop) : Prop where
  sep : ZipSep2 z TI TO i1 i2 fp1 fp2
  D1 : ∀ A : Around, A.handled = none → Draws prog w A i1 fp1 n1 P1 St1
  D2 : ∀ A : Around, A.handled = none → Draws prog w A i2 fp2 n2 P2 St2
  kz : IsZip h z TI TO .none
  kO : ∃ a b, IsTupOf2 h TO a b
  kI : IsTupOf2 h TI (.ref i1) (.ref i2)
  st1 : St1 0 h
  st2 : St2 0 h
  fp : ∀ b, b ∈ fp1 ∨ b ∈ fp2 → b < h.objs.size
  sz : min n1 n2 ≤ sizeLine
theorem ZNew.low {h : Heap} (Z : ZNew prog w h z TI TO i1 i2 fp1 fp2 n1 n2 P1 P2 St1 St2) : Low z TI TO i1 i2 h.objs.size := by
  obtain ⟨a, b, kO⟩ := Z.kO
  exact ⟨Nat.le_of_lt (Heap.lt_size Z.kz), Nat.le_of_lt (Heap.lt_size Z.kI), Nat.le_of_lt (Heap.lt_size kO), Nat.le_of_lt (Z.fp _ (.inl Z.sep.mem1)), Nat.le_of_lt (Z.fp _ (.inr Z.sep.mem2))⟩
theorem ZNew.keep {h h' : Heap} (Z : ZNew prog w h z TI TO i1 i2 fp1 fp2 n1 n2 P1 P2 St1 St2) (hs : h.objs.size ≤ h'.objs.size) (k : ∀ b o, b < h.objs.size → h.get? b = some o → h'.get? b = some o) : ZNew prog w h' z TI TO i1 i2 fp1 fp2 n1 n2 P1 P2 St1 St2 := by
  obtain ⟨a, b, kO⟩ := Z.kO
  exact ⟨Z.sep, Z.D1, Z.D2, k _ _ (Heap.lt_size Z.kz) Z.kz, ⟨a, b, k _ _ (Heap.lt_size kO) kO⟩, k _ _ (Heap.lt_size Z.kI) Z.kI, (Z.D1 ({} : Around) rfl).frame _ _ _ Z.st1 fun b hb o e => k b o (Z.fp b (.inl hb)) e,
    (Z.D2 ({} : Around) rfl).frame _ _ _ Z.st2 fun b hb o e => k b o (Z.fp b (.inr hb)) e, fun b hb => Nat.lt_of_lt_of_le (Z.fp b hb) hs, Z.sz⟩
theorem ZNew.ext {q c0 : Nat} {R : Result → Shared → Prop} (hh : A.handled = none) (Z : ZNew prog w s.heap z TI TO i1 i2 fp1 fp2 n1 n2 P1 P2 St1 St2) (hq : q + 1 = s.heap.objs.size) (hz : z < q) (hI : TI < q) (hO : TO < q) (hf : ∀ b, b ∈ fp1 ∨ b ∈ fp2 → b < q) (res : Value)
    (hS : s.heap.get? q = some { cls := .type "list", dict := none, data := .seq #[] c0, slots := #[] })
    (hR : ∀ h' tk acc c as, (∀ b o, b ≠ q → b ≠ z → b ≠ TO → b ≠ i1 → b ≠ i2 → s.heap.get? b = some o → h'.get? b = some o) → h'.get? q = some { cls := .type "list", dict := none, data := .seq acc c, slots := #[] } → as.length = min n1 n2 → Mk2 P1 P2 q h' as →
      acc.toList = as.map Value.ref → R (.ok (.ret res)) { s with heap := h', toks := tk }) :
    wpAny (model prog w) A.in1 (Builtin.List.listExtendWith (.ref q) (.ref z) res)
      (fun r s' => match r with | .done f => R (.ok f) s' | .again c' => c'.quiet = true ∧ codeAny (model prog w) A c' R s') (fun e s' => R (.error e) s') s :=
  zext Z.sep ⟨Nat.le_of_lt hz, Nat.le_of_lt hI, Nat.le_of_lt hO, Nat.le_of_lt (hf _ (.inl Z.sep.mem1)), Nat.le_of_lt (hf _ (.inr Z.sep.mem2))⟩ (Nat.le_refl _) (Nat.ne_of_gt hz) (Nat.ne_of_gt hI) (Nat.ne_of_gt hO) (fun h => Nat.lt_irrefl _ (hf _ (.inl h))) (fun h => Nat.lt_irrefl _ (hf _ (.inr h)))
    (Z.D1 _ hh) (Z.D2 _ hh) Z.sz res Z.kz Z.kO Z.kI Z.st1 Z.st2 (by omega) hS hR

theorem call_listZ {Q : Value → Shared → Prop} (hh : A.handled = none) (Z : ZNew prog w s.heap z TI TO i1 i2 fp1 fp2 n1 n2 P1 P2 St1 St2)
    (k : ∀ h' tk acc c as, (∀ b o, b ≠ z → b ≠ TO → b ≠ i1 → b ≠ i2 → s.heap.get? b = some o → h'.get? b = some o) → h'.get? s.heap.objs.size = some { cls := .type "list", dict := none, data := .seq acc c, slots := #[] } → as.length = min n1 n2 → Mk2 P1 P2 s.heap.objs.size h' as →
      acc.toList = as.map Value.ref → Q (.ref s.heap.objs.size) { s with heap := h', toks := tk }) : wpAny (model prog w) A (call (.type "list") [.ref z]) Q E s := by
  refine callType_codes (Q₁ := fun o s1 => o = .ref s.heap.objs.size ∧ s1 = { s with heap := s.heap.push { cls := .type "list", data := .seq #[] } }) F.called_list (F.typeCall_list_1 _) F.entry_list_init (code_list_new _ ⟨rfl, rfl⟩) fun o s1 h1 => ?_
  obtain ⟨rfl, rfl⟩ := h1
  have e0 : (s.heap.push { cls := .type "list", data := .seq #[] }).objs.size = s.heap.objs.size + 1 := Heap.size_push ..
  have hS : (s.heap.push { cls := .type "list", data := .seq #[] }).get? s.heap.objs.size = some { cls := .type "list", data := .seq #[] } := Heap.get?_push_size _ rfl
  refine ⟨⟨_, hS, rfl⟩, F.args_list_init_2 _ _, ?_⟩
  show wpAny _ _ (do let old ← Builtin.List.listItems (.ref s.heap.objs.size); Builtin.List.listUpdate (.ref s.heap.objs.size) (fun _ => #[]); letGo old.toList.reverse; Builtin.List.listExtendWith (.ref s.heap.objs.size) (.ref z) .none) _ _ _
  refine wpAny_bind ?_
  unfold Builtin.List.listItems
  refine wpAny_bind (wpAny_seqItems hS rfl (wpAny_pure ?_))
  show wpAny _ _ (updateSeq s.heap.objs.size (fun _ => #[]) >>= fun _ => letGo (#[] : Array Value).toList.reverse >>= fun _ => Builtin.List.listExtendWith (.ref s.heap.objs.size) (.ref z) .none) _ _ _
  refine wpAny_bind (wpAny_updateSeq hS rfl ?_)
  have hS2 := Heap.get?_update_self (Obj.mapSeq (fun _ => (#[] : Array Value))) hS rfl
  have z1 : ((s.heap.push { cls := .type "list", data := .seq #[] }).update s.heap.objs.size (Obj.mapSeq (fun _ => (#[] : Array Value)))).objs.size = s.heap.objs.size + 1 := ((Heap.SameBut.update ..).1).trans e0
  have oth : ∀ b o, b < s.heap.objs.size → s.heap.get? b = some o → ((s.heap.push { cls := .type "list", data := .seq #[] }).update s.heap.objs.size (Obj.mapSeq (fun _ => (#[] : Array Value)))).get? b = some o :=
    fun b o hb e => (Heap.get?_update_other _ _ (Nat.ne_of_gt hb)).trans (Heap.get?_push_of_some _ e)
  refine wpAny_bind (wpAny_letGo ?_)
  obtain ⟨a, b, kO⟩ := Z.kO
  refine (Z.keep (by rw [z1]; omega) oth).ext (A := A.in1) hh z1.symm (Heap.lt_size Z.kz) (Heap.lt_size Z.kI) (Heap.lt_size kO) Z.fp .none hS2 fun h' tk acc c as kp hq hl mk ha => ?_
  exact ⟨rfl, k h' tk acc c as (fun b o b2 b3 b4 b5 e => kp b o (Nat.ne_of_lt (Heap.lt_size e)) b2 b3 b4 b5 (oth b o (Heap.lt_size e) e)) hq hl mk ha⟩

theorem collectZ {Q : List Value → Shared → Prop} (hh : A.handled = none) (Z : ZNew prog w s.heap z TI TO i1 i2 fp1 fp2 n1 n2 P1 P2 St1 St2)
    (k : ∀ h' tk as, (∀ b o, b ≠ z → b ≠ TO → b ≠ i1 → b ≠ i2 → s.heap.get? b = some o → h'.get? b = some o) → as.length = min n1 n2 → Mk2 P1 P2 s.heap.objs.size h' as → Q (as.map Value.ref) { s with heap := h', toks := tk }) :
    wpAny (model prog w) A (collect (.ref z)) Q E s := by
  have e0 : (s.heap.push { cls := .type "list", data := .seq ([] : List Value).toArray }).objs.size = s.heap.objs.size + 1 := Heap.size_push ..
  unfold collect
  refine wpAny_bind (wpAny_runValue (codeAny_builtin F.entry_proto_collect ?_))
  rw [Around.under_plainId F.plain_proto_collect _]
  show wpAny _ A.in1 (newList [] >>= fun l => again (.builtin "list.__iadd__" ⟨[l, .ref z], []⟩)) _ _ s
  refine wpAny_bind (wpAny_newObj_type ?_)
  refine wpAny_pure ⟨plainId_quiet F.plain_list_iadd _, codeAny_builtin F.entry_list_iadd ?_⟩
  rw [Around.under_plainId F.plain_list_iadd _]
  have hS : (s.heap.push { cls := .type "list", data := .seq ([] : List Value).toArray }).get? s.heap.objs.size = some { cls := .type "list", data := .seq #[] } := Heap.get?_push_size _ rfl
  show wpAny _ A.in1 (Builtin.List.listExtendWith (.ref s.heap.objs.size) (.ref z) (.ref s.heap.objs.size)) _ _ _
  obtain ⟨a, b, kO⟩ := Z.kO
  have key := (Z.keep (h' := s.heap.push { cls := .type "list", data := .seq ([] : List Value).toArray }) (by rw [e0]; omega) fun b o _ e => Heap.get?_push_of_some _ e).ext (s := { s with heap := s.heap.push { cls := .type "list", data := .seq ([] : List Value).toArray } }) (A := A) hh e0.symm
    (Heap.lt_size Z.kz) (Heap.lt_size Z.kI) (Heap.lt_size kO) Z.fp (.ref s.heap.objs.size) hS
    (R := fun (r : Result) (s' : Shared) => ∃ (h' : Heap) (tk : Nat) (acc : Array Value) (c : Nat) (as : List Addr), r = .ok (.ret (.ref s.heap.objs.size)) ∧ s' = { s with heap := h', toks := tk } ∧
      (∀ b o, b ≠ z → b ≠ TO → b ≠ i1 → b ≠ i2 → s.heap.get? b = some o → h'.get? b = some o) ∧ h'.get? s.heap.objs.size = some { cls := .type "list", dict := none, data := .seq acc c, slots := #[] } ∧ as.length = min n1 n2 ∧ Mk2 P1 P2 s.heap.objs.size h' as ∧ acc.toList = as.map Value.ref)
    fun h' tk acc c as kp hq hl mk ha => ⟨h', tk, acc, c, as, rfl, rfl, fun b o b2 b3 b4 b5 e => kp b o (Nat.ne_of_lt (Heap.lt_size e)) b2 b3 b4 b5 (Heap.get?_push_of_some _ e), hq, hl, mk, ha⟩
  refine wpAny_mono key (fun r s' x => ?_) fun e s' x => ?_
  · cases r with
    | done f =>
      obtain ⟨h', tk, acc, c, as, e, rfl, kp, hq, hl, mk, ha⟩ := x
      cases e
      show wpAny _ A (load s.heap.objs.size >>= _) _ _ _
      refine wpAny_bind (wpAny_load hq (wpAny_pure ?_))
      show Q acc.toList _
      rw [ha]
      exact k h' tk as kp hl mk
    | again c1 =>
      refine ⟨x.1, codeAny_mono x.2 fun r s2 y => ?_⟩
      obtain ⟨h', tk, acc, c, as, rfl, rfl, kp, hq, hl, mk, ha⟩ := y
      show wpAny _ A (load s.heap.objs.size >>= _) _ _ _
      refine wpAny_bind (wpAny_load hq (wpAny_pure ?_))
      show Q acc.toList _
      rw [ha]
      exact k h' tk as kp hl mk
  · obtain ⟨_, _, _, _, _, e', _⟩ := x
    cases e'
theorem call_tupleZ {Q : Value → Shared → Prop} (hh : A.handled = none) (Z : ZNew prog w s.heap z TI TO i1 i2 fp1 fp2 n1 n2 P1 P2 St1 St2)
    (k : ∀ h' tk as, (∀ b o, b ≠ z → b ≠ TO → b ≠ i1 → b ≠ i2 → s.heap.get? b = some o → h'.get? b = some o) → as.length = min n1 n2 → Mk2 P1 P2 s.heap.objs.size h' as →
      Q (.ref h'.objs.size) { s with heap := h'.push { cls := .type "tuple", data := .seq (as.map Value.ref).toArray }, toks := tk }) : wpAny (model prog w) A (call (.type "tuple") [.ref z]) Q E s := by
  refine callType_codes (Q₁ := fun o s1 => s1.TypeIs o "tuple" ∧ Q o s1) F.called_tuple (F.typeCall_tuple_1 _) F.entry_object_init ?_ fun o s1 h1 => ⟨h1.1, F.args_object_init_2 o _, object_init_meets F.called_tuple.init.lookup F.called_tuple.made (by decide) prog w A.in1 _ s1 ⟨h1.1, rfl, h1.2⟩⟩
  refine codeAny_of_tree ?_
  show wpAny _ _ (do checkBuiltinCall "tuple.__new__" ⟨[.type "tuple", .ref z], []⟩; again (.builtin "tuple.__new__" ⟨[.type "tuple", .ref z], []⟩)) _ _ s
  refine wpAny_bind (wpAny_of_eq (F.newCall_tuple_1 _) (wpAny_pure ⟨plainId_quiet F.plain_tuple_new _, codeAny_builtin F.entry_tuple_new ?_⟩))
  rw [Around.under_plainId F.plain_tuple_new _]
  have hsub := sub_tuple_self
  have hinit := init_tuple_lookup
  have hmh := madeHere_tuple
  have hTI : s.TypeIs (.ref z) "zip" := ⟨_, Z.kz, rfl⟩
  wp_walk using wpAny_typeOf hTI, collectZ (A := A.in1.in1) hh Z
  intro h' tk as kp hl mk
  show wpAny _ _ (Builtin.Tuple.tupleExact (as.map Value.ref).toArray >>= fun v => ret v) _ _ _
  unfold Builtin.Tuple.tupleExact
  refine wpAny_bind (wpAny_newObj_type ?_ (by show (as.map Value.ref).toArray.size ≤ sizeLine; rw [List.size_toArray, List.length_map, hl]; exact Z.sz))
  refine wpAny_pure ?_
  exact ⟨⟨_, Heap.get?_push_size _ rfl, rfl⟩, k h' tk as kp hl mk⟩
end
end G
namespace G
open PySem PySem.Spec PyProof.Rows L2
/-- pairs laid at their places -/
def tupAll (H : Hp) : List (Addr × V × V) → Hp
  | [] => H
  | p :: L => tupAll (upd H p.1 (.tup [p.2.1, p.2.2])) L
theorem tupAll_off : ∀ {L : List (Addr × V × V)} {H : Hp} {b : Addr}, b ∉ L.map (·.1) → tupAll H L b = H b
  | [], _, _, _ => rfl
  | p :: L, H, b, h => by
    simp only [List.map_cons, List.mem_cons, not_or] at h
    rw [tupAll, tupAll_off h.2, upd_ne h.1]
theorem tupAll_on : ∀ {L : List (Addr × V × V)} {H : Hp} {p : Addr × V × V}, (L.map (·.1)).Nodup → p ∈ L → tupAll H L p.1 = some (.tup [p.2.1, p.2.2])
  | q :: L, H, p, n, h => by
    rw [List.map_cons, List.nodup_cons] at n
    rcases List.mem_cons.mp h with rfl | h
    · rw [tupAll, tupAll_off n.1, upd_same]
    · rw [tupAll]; exact tupAll_on n.2 h
theorem ice_all : ∀ {L : List (Addr × V × V)} {F H : Hp}, Same F H → (L.map (·.1)).Nodup → (∀ p ∈ L, H p.1 = none) → Same (tupAll F L) (tupAll H L) ∧ Fut (fun _ => False) F H (fun _ => False) (tupAll F L) (tupAll H L)
  | [], F, H, le, _, _ => ⟨le, .refl fun a m => m⟩
  | p :: L, F, H, le, n, h => by
    rw [List.map_cons, List.nodup_cons] at n
    have hp := h p (List.mem_cons_self ..)
    obtain ⟨l2, f2⟩ := ice_all (L := L) (same_ice (p := p.1) (o := .tup [p.2.1, p.2.2]) le) n.2 fun q hq => by
      rw [upd_ne fun e => n.1 (by rw [← e]; exact List.mem_map_of_mem hq)]
      exact h q (List.mem_cons_of_mem _ hq)
    exact ⟨l2, (((fut_ice hp le).post fun a (m : False) => m.elim).trans f2)⟩
theorem inv_tupAll {X : Cx} {pins : List (Addr × Obj)} {σ : L2.St} {H0 : Hp} {s : Shared} {h' : Heap} {tk : Nat} (I0 : Inv X pins σ H0 s) : ∀ (L : List (Addr × V × V)) (H1 : Hp), Inv X pins σ H1 { s with heap := h', toks := tk } → (L.map (·.1)).Nodup →
    (∀ p ∈ L, s.heap.objs.size ≤ p.1 ∧ H1 p.1 = none ∧ ∀ H2, ObjOk X.prog X.w H2 h' p.1 (.tup [p.2.1, p.2.2])) → Inv X pins σ (tupAll H1 L) { s with heap := h', toks := tk }
  | [], _, I1, _, _ => I1
  | p :: L, H1, I1, n, h => by
    obtain ⟨hb, hn, ok⟩ := h p (List.mem_cons_self ..)
    rw [List.map_cons, List.nodup_cons] at n
    refine inv_tupAll I0 L _ (I1.take (h' := h') (t' := tk) (fun b o _ e => e) (I0.fpOk hb hn) (ok _)) n.2 fun q hq => ?_
    obtain ⟨c1, c2, c3⟩ := h q (List.mem_cons_of_mem _ hq)
    exact ⟨c1, by rw [upd_ne fun e => n.1 (by rw [← e]; exact List.mem_map_of_mem hq)]; exact c2, c3⟩
/-- a thing that can be walked: a list or a tuple -/
def Src (prog : Program) (w : World) (h : Heap) (a : Addr) (its : Array Value) : Prop := ∃ (o : Obj) (Hh : Heap → Prop) (St : Addr → Nat → Heap → Prop), Begins (.ref a) o Hh ∧ Hh h ∧ a < h.objs.size ∧
  ∀ N, a ≠ N → (∀ A : Around, A.handled = none → Draws prog w A N [N, a] its.size (fun i v => its[i]? = some v) (St N)) ∧ ∀ h', h'.get? N = some o → Hh h' → St N 0 h'
section
variable {prog : Program} {w : World} {A : Around} {E : Value → Shared → Prop} {s : Shared}
theorem src_list {h : Heap} {a : Addr} {its : Array Value} (hl : h.IsList a its) : Src prog w h a its :=
  ⟨_, _, fun N i h => h.IsListIter N a i ∧ h.IsList a its, begins_list a its, hl, (by obtain ⟨o, e, _⟩ := hl; exact Heap.lt_size e), fun N ne => ⟨fun A hh => Draws.list hh N a ne its, fun h' e hl' => ⟨⟨_, e, rfl, rfl⟩, hl'⟩⟩⟩
theorem src_tup {h : Heap} {a : Addr} {its : Array Value} (hl : h.IsTuple a its) : Src prog w h a its :=
  ⟨_, _, fun N i h => h.IsTupleIter N a i ∧ h.IsTuple a its, begins_tuple a its, hl, (by obtain ⟨o, e, _⟩ := hl; exact Heap.lt_size e), fun N ne => ⟨fun A hh => Draws.tuple hh N a ne its, fun h' e hl' => ⟨⟨_, e, rfl, rfl⟩, hl'⟩⟩⟩
theorem zip_new {a b : Addr} {xs ys : Array Value} {Q : Value → Shared → Prop} (S1 : Src prog w s.heap a xs) (S2 : Src prog w s.heap b ys) (hz : min xs.size ys.size ≤ sizeLine)
    (k : ∀ h' St1 St2, ZNew prog w h' (s.heap.objs.size + 4) (s.heap.objs.size + 2) (s.heap.objs.size + 3) s.heap.objs.size (s.heap.objs.size + 1) [s.heap.objs.size, a] [s.heap.objs.size + 1, b] xs.size ys.size (fun i v => xs[i]? = some v) (fun i v => ys[i]? = some v) St1 St2 → h'.objs.size = s.heap.objs.size + 5 →
      (∀ c o, s.heap.get? c = some o → h'.get? c = some o) → Q (.ref (s.heap.objs.size + 4)) { s with heap := h' }) : wpAny (model prog w) A (call (.type "zip") [.ref a, .ref b]) Q E s := by
  obtain ⟨o1, H1, T1, B1, g1, l1, r1⟩ := S1
  obtain ⟨o2, H2, T2, B2, g2, l2, r2⟩ := S2
  obtain ⟨d1, t1⟩ := r1 s.heap.objs.size (Nat.ne_of_lt l1)
  obtain ⟨d2, t2⟩ := r2 (s.heap.objs.size + 1) (Nat.ne_of_lt (Nat.lt_succ_of_lt l2))
  refine zip_begins2 B1 B2 g1 g2 fun h' kz kI kO e1 e2 hs kp => ?_
  refine k h' _ _ ⟨zip_sep2 (fp1 := [a]) (fp2 := [b]) (fun c hc => by rw [List.mem_singleton.mp hc]; exact l1) (fun c hc => by rw [List.mem_singleton.mp hc]; exact l2), d1, d2, kz, ⟨_, _, kO⟩, kI, t1 h' e1 (B1.keeps _ _ g1 kp), t2 h' e2 (B2.keeps _ _ g2 kp), fun c hc => ?_, hz⟩ hs kp
  rw [hs]
  have l1' : a < s.heap.objs.size + 5 := Nat.lt_of_lt_of_le l1 (Nat.le_add_right _ _)
  have l2' : b < s.heap.objs.size + 5 := Nat.lt_of_lt_of_le l2 (Nat.le_add_right _ _)
  rcases hc with hc | hc <;> rcases List.mem_cons.mp hc with hc | hc
  · rw [hc]; exact Nat.lt_add_of_pos_right (by decide)
  · rw [List.mem_singleton.mp hc]; exact l1'
  · rw [hc]; exact Nat.add_lt_add_left (by decide) _
  · rw [List.mem_singleton.mp hc]; exact l2'
end
section
variable {X : Cx} {Γ : Gm} {Kn : KR} {pos pos2 p p2 : Pos} {a b : Expr}
/-- what came, as tracked pairs -/
theorem zip_land {pins : List (Addr × Obj)} {σ : L2.St} {H : Hp} {s : Shared} {h2 : Heap} {tk : Nat} {lo : Addr} {xs ys : List V} {its its2 : List Value} {as : List Addr} (I : Inv X pins σ H s) (r1 : Vals xs its) (r2 : Vals ys its2)
    (hs : s.heap.objs.size ≤ lo) (fr : ∀ b o, s.heap.get? b = some o → h2.get? b = some o)
    (hl : as.length = min its.toArray.size its2.toArray.size) (mk : Mk2 (fun i v => its.toArray[i]? = some v) (fun i v => its2.toArray[i]? = some v) lo h2 as) :
    ∃ L : List (Addr × V × V), L.map (·.1) = as ∧ L.map (·.2) = xs.zip ys ∧ as.Nodup ∧ (∀ p ∈ L, H p.1 = none) ∧ Inv X pins σ (tupAll H L) { s with heap := h2, toks := tk } := by
  have n1 := r1.length
  have n2 := r2.length
  have nd : as.Nodup := mk.rise.imp fun h => Nat.ne_of_lt h
  have lz : (xs.zip ys).length = as.length := by rw [List.length_zip, hl]; simp [n1, n2]
  have e1 : (as.zip (xs.zip ys)).map (·.1) = as := List.map_fst_zip (by omega)
  have e2 : (as.zip (xs.zip ys)).map (·.2) = xs.zip ys := List.map_snd_zip (by omega)
  have hn : ∀ p ∈ as.zip (xs.zip ys), s.heap.objs.size ≤ p.1 ∧ H p.1 = none := fun p hp => by
    have m : p.1 ∈ as := by rw [← e1]; exact List.mem_map_of_mem hp
    have l := mk.above _ m
    exact ⟨by omega, I.hok.fresh (by omega)⟩
  refine ⟨as.zip (xs.zip ys), e1, e2, nd, fun p hp => (hn p hp).2, inv_tupAll I _ _ (I.kept (t' := tk) fr) (by rw [e1]; exact nd) fun p hp => ⟨(hn p hp).1, (hn p hp).2, fun H2 => ?_⟩⟩
  obtain ⟨j, ej⟩ := List.mem_iff_getElem?.mp hp
  obtain ⟨pa, pv⟩ := p
  obtain ⟨ea, ev⟩ := List.getElem?_zip_eq_some.mp ej
  obtain ⟨vx, vy⟩ := pv
  obtain ⟨ex, ey⟩ := List.getElem?_zip_eq_some.mp ev
  obtain ⟨u, v, eu, ev2, t⟩ := mk.pairs j pa ea
  obtain ⟨u', eu', ru⟩ := r1.get ex
  obtain ⟨v', ev', rv⟩ := r2.get ey
  have : u = u' := by rw [List.getElem?_toArray, eu'] at eu; exact (Option.some.inj eu).symm
  subst this
  have : v = v' := by rw [List.getElem?_toArray, ev'] at ev2; exact (Option.some.inj ev2).symm
  subst this
  exact ⟨by show 2 ≤ sizeLine; decide, [u, v], .cons ru (.cons rv .nil), ⟨_, t, rfl, _, rfl⟩⟩
theorem vals_refsOf (as : List Addr) : Vals (as.map V.ref) (as.map Value.ref) := by
  induction as with
  | nil => exact .nil
  | cons a as ih => exact .cons rfl ih

/-- values that are walked: a list, a tuple -/
def seqD (d : PyData) (ds : List PyData) : Prop := d = .list ds ∨ d = .tuple ds
theorem seqD_src {K : PySem.W.Frag} (hK : X.K = K) {pins : List (Addr × Obj)} {σ : L2.St} {F H : Hp} {s : Shared} {v : V} {u : Value} {d : PyData} {ds : List PyData} (I : Inv X pins σ H s) (le : Same F H) (hd : Dd X.K F v d) (e : seqD d ds) (r : RelV v u) :
    ∃ a xs its, v = .ref a ∧ u = .ref a ∧ Src X.prog X.w s.heap a its.toArray ∧ Vals xs its ∧ xs.length ≤ sizeLine ∧ DdAll X.K F xs ds := by
  rcases e with rfl | rfl
  · obtain ⟨a, xs, rfl, l, da⟩ := hd.lst_inv
    cases r
    obtain ⟨its, rv, p, hz⟩ := I.list (.of (le _ _ l))
    exact ⟨a, xs, its, rfl, rfl, src_list p.isList, rv, hz, da⟩
  · obtain ⟨a, xs, rfl, l, da⟩ := hd.tup_inv
    cases r
    obtain ⟨its, rv, p, hz⟩ := I.tuple (sqT_up le l)
    exact ⟨a, xs, its, rfl, rfl, src_tup p, rv, hz, da⟩
def zipD (xs ys : List PyData) : List PyData := (xs.zip ys).map fun p => .tuple [p.1, p.2]
theorem dd_pairs {K : PySem.W.Frag} {F F' : Hp} (s1 : Same F F') : ∀ {L : List (Addr × V × V)} {vx vy : List V} {xs ys : List PyData}, L.map (·.2) = vx.zip vy → DdAll K F vx xs → DdAll K F vy ys → (∀ p ∈ L, F' p.1 = some (.tup [p.2.1, p.2.2])) → DdAll K F' ((L.map (·.1)).map V.ref) (zipD xs ys)
  | [], [], _, _, _, _, .nil, _, _ => .nil
  | [], v :: vx, [], _, _, _, .cons _ _, .nil, _ => .nil
  | p :: L, v :: vx, u :: vy, x :: xs, y :: ys, e, .cons hx hxs, .cons hy hys, h => by
    rw [List.map_cons, List.zip_cons_cons] at e
    injection e with e1 e2
    have hp := h p (List.mem_cons_self ..)
    rw [e1] at hp
    exact .cons (.tup (.of hp) (.cons (Dd.up s1 _ _ hx) (.cons (Dd.up s1 _ _ hy) .nil))) (dd_pairs s1 e2 hxs hys fun q hq => h q (List.mem_cons_of_mem _ hq))
theorem WPe_zip (out : String) (ho : out = "list" ∨ out = "tuple") {x : Str} (h : WPd X [a, b] Γ fun ds Γ1 => ∃ d1 d2 xs ys, ds = [d1, d2] ∧ seqD d1 xs ∧ seqD d2 ys ∧ Kn (.val (if out = "list" then .own ((zipD xs ys).map .dat) else .dat (.tuple (zipD xs ys)))) Γ1) (hm : X.mg "zip" = none) (hm2 : X.mg x = none)
    (hv : bootBuiltins x = some (.type out)) (hc : X.calm = true := by rfl) (hg : Gl X "zip" := by rfl) (hg2 : Gl X x := by rfl) (hn : x ≠ "__name__" := by decide) (hdb : (x == ("__debug__" : Str)) = false := by decide)
    (hs : starEach [a, b] X.env = (false, eval a X.env) :: starEach [b] X.env := by rfl) (hpl : (backTo pos2 (starEach [b] X.env)).any (·.1) = false := by rfl)
    (hs2 : backTo pos (starEach [.Call (.Name "zip" p2) [a, b] [] pos2] X.env) = [(false, eval (.Call (.Name "zip" p2) [a, b] [] pos2) X.env)] := by rfl) :
    WPe X (.Call (.Name x p) [.Call (.Name "zip" p2) [a, b] [] pos2] [] pos) Γ Kn := fun F H σ O g Q q => by
  intro pins s I
  refine Call_ (ld_blt I hg2 hm2 hv ?_ hn hdb)
  rw [hs2]
  refine PySem.callWith_type1 ?_
  refine Call_ (ld_blt I hg hm PyProof.Rows.boot_zip (PyProof.Rows.callWith_type1 (thn (h F H σ O g (fun vs H1 => ∃ ds Γ1 F1 O1, (∃ d1 d2 xs ys, ds = [d1, d2] ∧ seqD d1 xs ∧ seqD d2 ys ∧ Kn (.val (if out = "list" then .own ((zipD xs ys).map .dat) else .dat (.tuple (zipD xs ys)))) Γ1) ∧ RepG X.K F1 H1 σ Γ1 O1 ∧ DdAll X.K F1 vs ds ∧ Fut (Own O) F H (Own O1) F1 H1)
    (fun ds Γ' F' H' O' vs k g d f => ⟨ds, Γ', F', O', k, g, d, f⟩) pos2 pins s I) fun us s1 ⟨vs, H1, I1, rv, ds, Γ1, F1, O1, ⟨d1, d2, xs, ys, ed, q1, q2, k1⟩, g1, hd, f1⟩ => ?_) hs hpl))
  subst ed
  cases hd with
  | cons x1 x2 => cases x2 with
    | cons x2 x3 =>
      cases x3
      cases rv with
      | cons u1 u2 => cases u2 with
        | cons u2 u3 =>
          cases u3
          obtain ⟨a1, v1, its1, rfl, rfl, S1, r1, z1, e1⟩ := seqD_src rfl I1 g1.le x1 q1 u1
          obtain ⟨a2, v2, its2, rfl, rfl, S2, r2, z2, e2⟩ := seqD_src rfl I1 g1.le x2 q2 u2
          have n1 := r1.length
          have n2 := r2.length
          refine zip_new S1 S2 (by rw [List.size_toArray]; omega) fun h' T1 T2 Z hsz kp => ?_
          have hh : X.A.handled = none := I1.ok.hd hc
          have notfp : ∀ b o, s1.heap.get? b = some o → b ≠ s1.heap.objs.size + 4 ∧ b ≠ s1.heap.objs.size + 3 ∧ b ≠ s1.heap.objs.size ∧ b ≠ s1.heap.objs.size + 1 := fun b o e => by
            have l : b < s1.heap.objs.size := Heap.lt_size e
            exact ⟨Nat.ne_of_lt (Nat.lt_of_lt_of_le l (Nat.le_add_right _ _)), Nat.ne_of_lt (Nat.lt_of_lt_of_le l (Nat.le_add_right _ _)), Nat.ne_of_lt l, Nat.ne_of_lt (Nat.lt_of_lt_of_le l (Nat.le_add_right _ _))⟩
          have hlo : s1.heap.objs.size ≤ h'.objs.size := by rw [hsz]; exact Nat.le_add_right _ _
          rcases ho with rfl | rfl
          · refine call_listZ (s := { s1 with heap := h' }) hh Z fun h2 tk acc c as k2 hq hl mk ha => ?_
            have fr : ∀ b o, s1.heap.get? b = some o → h2.get? b = some o := fun b o e => by
              obtain ⟨b1, b2, b3, b4⟩ := notfp b o e
              exact k2 b o b1 b2 b3 b4 (kp b o e)
            obtain ⟨L, eL1, eL2, nd, hn, I2⟩ := zip_land (tk := tk) I1 r1 r2 hlo fr hl mk
            subst eL1
            have nq : h'.objs.size ∉ L.map (·.1) := fun hm => Nat.lt_irrefl _ (mk.above _ hm)
            have hq0 : H1 h'.objs.size = none := I1.hok.fresh hlo
            have hq1 : tupAll H1 L h'.objs.size = none := by rw [tupAll_off nq]; exact hq0
            have hlen : ((L.map (·.1)).map V.ref).length ≤ sizeLine := by rw [List.length_map, hl]; simp; omega
            have I3 : Inv X pins σ (upd (tupAll H1 L) h'.objs.size (.lst ((L.map (·.1)).map V.ref))) { s1 with heap := h2, toks := tk } :=
              I2.take (h' := h2) (t' := tk) (fun b o _ e => e) (by
                have f0 := I1.fpOk hlo hq1
                exact f0) ⟨hlen, acc.toList, c, by rw [ha]; exact vals_refsOf _, by rw [Array.toArray_toList]; exact hq⟩
            obtain ⟨le2, f2⟩ := ice_all g1.le nd hn
            have dall := dd_pairs f2.le eL2 e1 e2 fun p hp => tupAll_on nd hp
            refine ⟨.ref h'.objs.size, _, I3, rfl, ?_⟩
            rw [if_pos rfl] at k1
            exact done_new g1 (fun r Γ' F' H' O' v os k g h nd dj f' => q r Γ' F' H' O' v os k g h nd dj (f1.trans f')) k1 (fresh_lst le2 hq1 dall) (by simp) (same_new le2 hq1) (f2.trans (fut_new hq1))
          · refine call_tupleZ (s := { s1 with heap := h' }) hh Z fun h2 tk as k2 hl mk => ?_
            have fr : ∀ b o, s1.heap.get? b = some o → h2.get? b = some o := fun b o e => by
              obtain ⟨b1, b2, b3, b4⟩ := notfp b o e
              exact k2 b o b1 b2 b3 b4 (kp b o e)
            obtain ⟨L, eL1, eL2, nd, hn, I2⟩ := zip_land (tk := tk) I1 r1 r2 hlo fr hl mk
            subst eL1
            have hq1 : tupAll H1 L h2.objs.size = none := I2.hok.fresh (Nat.le_refl _)
            have hlen : ((L.map (·.1)).map V.ref).length ≤ sizeLine := by rw [List.length_map, hl]; simp; omega
            have I3 : Inv X pins σ (upd (tupAll H1 L) h2.objs.size (.tup ((L.map (·.1)).map V.ref))) { s1 with heap := h2.push { cls := .type "tuple", data := .seq ((L.map (·.1)).map Value.ref).toArray }, toks := tk } :=
              I2.laid (t' := tk) (fun b o e => Heap.get?_push_of_some _ e) (Nat.le_refl _) (show ObjOk X.prog X.w _ _ _ (.tup _) from ⟨hlen, _, vals_refsOf _, IsTup.new _ _⟩)
            obtain ⟨le2, f2⟩ := ice_all g1.le nd hn
            have dall := dd_pairs f2.le eL2 e1 e2 fun p hp => tupAll_on nd hp
            refine ⟨.ref h2.objs.size, _, I3, rfl, ?_⟩
            rw [if_neg (by decide)] at k1
            exact done_new g1 (fun r Γ' F' H' O' v os k g h nd dj f' => q r Γ' F' H' O' v os k g h nd dj (f1.trans f')) k1 (.dat (fresh_tup le2 hq1 dall)) .nil (same_ice le2) (f2.trans (fut_ice hq1 le2))
end
end G
namespace G
open PySem PySem.Spec PyProof.Rows L2

/-! ### data read off the heap itself -/
section
variable {X : Cx} {pins : List (Addr × Obj)} {σ : L2.St} {F H : Hp} {s : Shared}
mutual
theorem dd_reads (I : Inv X pins σ H s) (le : Same F H) : ∀ (d : PyData) (v : V) (u : Value), Dd X.K F v d → RelV v u → ∃ as, Reads s.heap u d as
  | .none, _, _, h, r => by cases h; cases r; exact ⟨_, .none⟩
  | .bool b, _, _, h, r => by cases h; cases r; exact ⟨_, .bool b⟩
  | .int i, _, _, h, r => by cases h; obtain ⟨t, rfl⟩ := r; exact ⟨_, .int i t⟩
  | .str x, _, _, h, r => by cases h; obtain ⟨t, rfl⟩ := r; exact ⟨_, .str x t⟩
  | .list ds, _, _, h, r => by
    cases h with
    | lst q a =>
      cases r
      obtain ⟨its, rv, p, _⟩ := I.list (.of (le _ _ q))
      obtain ⟨o, ho, hc, n, hd⟩ := p.isList
      obtain ⟨as, ra⟩ := dd_readsAll I le ds _ _ a rv
      exact ⟨_, .list ho hc hd ra⟩
  | .tuple ds, _, _, h, r => by
    cases h with
    | tup q a =>
      cases r
      obtain ⟨its, rv, p, _⟩ := I.tuple (sqT_up le q)
      obtain ⟨o, ho, hc, n, hd⟩ := p
      obtain ⟨as, ra⟩ := dd_readsAll I le ds _ _ a rv
      exact ⟨_, .tuple ho hc hd ra⟩
  | .dict _, _, _, h, _ => by cases h
theorem dd_readsAll (I : Inv X pins σ H s) (le : Same F H) : ∀ (ds : List PyData) (vs : List V) (us : List Value), DdAll X.K F vs ds → Vals vs us → ∃ as, ReadsAll s.heap us ds as
  | [], _, _, h, r => by cases h; cases r; exact ⟨_, .nil⟩
  | d :: ds, _, _, h, r => by
    cases h with
    | cons h1 h2 =>
      cases r with
      | cons r1 r2 =>
        obtain ⟨as, q⟩ := dd_reads I le d _ _ h1 r1
        obtain ⟨bs, q2⟩ := dd_readsAll I le ds _ _ h2 r2
        exact ⟨_, .cons q q2⟩
end
theorem each_of {β : Type} {enc : β → PyData} {K : PySem.W.Frag} : ∀ {bs : List β} {vs : List V} {us : List Value}, DdAll K F vs (bs.map enc) → Vals vs us → PySem.W.EachIs (fun u b => ∃ v, RelV v u ∧ Dd K F v (enc b)) us bs
  | [], _, _, h, r => by
    have h' : DdAll K F _ [] := h
    cases h'; cases r; exact .nil
  | b :: bs, _, _, h, r => by
    have h' : DdAll K F _ (enc b :: bs.map enc) := h
    cases h' with
    | cons h1 h2 => cases r with
      | cons r1 r2 => exact .cons ⟨_, r1, h1⟩ (each_of h2 r2)
theorem each_back {β : Type} {enc : β → PyData} {K : PySem.W.Frag} : ∀ {bs : List β} {us : List Value}, PySem.W.EachIs (fun u b => ∃ v, RelV v u ∧ Dd K F v (enc b)) us bs → ∃ vs, Vals vs us ∧ DdAll K F vs (bs.map enc)
  | [], _, h => by cases h; exact ⟨[], .nil, .nil⟩
  | b :: bs, _, h => by
    cases h with
    | cons h1 h2 =>
      obtain ⟨v, r, d⟩ := h1
      obtain ⟨vs, r2, d2⟩ := each_back h2
      exact ⟨v :: vs, .cons r r2, .cons d d2⟩
end
/-! ### sorted of data -/
def srtD {β : Type} (k : β → PyData) (bs : List β) : List β := bs.mergeSort (PySem.W.dataLe false k)
def rSrt (K : PySem.W.Frag) {β : Type} (enc : β → PyData) (bs : List β) : List V → Hp → VK → Prop := fun vs H Q => ∃ (a : Addr) (xs : List V) (F : Hp), vs = [.ref a] ∧ Same F H ∧ H a = some (.lst xs) ∧ DdAll K F xs (bs.map enc) ∧
  ∀ ys p, H p = none → DdAll K F ys ((srtD enc bs).map enc) → Q (.ref p) (upd H p (.lst ys))
section
variable {X : Cx} {β : Type} {enc : β → PyData} {bs : List β}
theorem cr_srt (hu : X.A.units + 200 < cLine) (hal : PySem.W.AllAlike (bs.map enc)) (hk : PySem.W.Sortable (bs.map enc)) (hd : ∀ b ∈ bs, (enc b).depth ≤ 100) : CallR X (.builtin "sorted") (rSrt X.K enc bs) := by
  intro pins s σ H vs us Q I r h
  obtain ⟨a, xs, F, rfl, le, hl, da, q⟩ := h
  rw [Vals.ref1 r]
  obtain ⟨its, rv, p, hz⟩ := I.list (.of hl)
  have e := each_of da rv
  have hlen : bs.length ≤ sizeLine := by rw [← List.length_map (f := enc), ← da.length]; exact hz
  refine PySem.W.sorted_data (enc := enc) p.isList e (e.mono fun u b ⟨v, rv, dv⟩ => dd_reads I le _ _ _ dv rv) hal hk hlen (fun b hb => ?_) fun out ol eo => ?_
  · have := hd b hb; omega
  · obtain ⟨ys, ry, dy⟩ := each_back eo
    obtain ⟨ep, he'⟩ := PyProof.Rows.sortedAll_at s.heap its out.toArray
    have hlen2 : ys.length ≤ sizeLine := by rw [ry.length, ol]; exact hlen
    exact ⟨.ref _, upd H (s.heap.objs.size + 1) (.lst ys), I.laid (t' := s.toks) (fun _ _ => PyProof.Rows.sortedAll_old) (Nat.le_succ _) ⟨hlen2, out, ep, ry, he'⟩, rfl, q _ _ (I.hok.fresh (Nat.le_succ _)) dy⟩
theorem cd_sortedD (hu : X.A.units + 200 < cLine) (hal : PySem.W.AllAlike (bs.map enc)) (hk : PySem.W.Sortable (bs.map enc)) (hd : ∀ b ∈ bs, (enc b).depth ≤ 100) :
    CallD X (.builtin "sorted") [.s false (bs.map enc)] (.own (((srtD enc bs).map enc).map .dat)) := fun F H vs Q le hv q => by
  obtain ⟨v, rfl, a, xs, rfl, hr, ha⟩ := see1 hv
  exact ⟨_, cr_srt hu hal hk hd, a, xs, F, rfl, le, hr, ha, fun ys p hp dy => q _ _ _ _ (fresh_lst le hp dy) (by simp) (same_new le hp) (fut_new hp)⟩
end

/-! ### sorted by a def -/
section
variable {X : Cx} {β : Type} {enc key : β → PyData} {pre : β → Prop} {bs : List β} {k : Nat} {f : Addr} {fd : FuncData} {nm : Str} {pins : List (Addr × Obj)} {σ : L2.St} {F H : Hp} {s : Shared} {A1 : Around}
/-- the key of one item -/
theorem key_turn {E : Value → Shared → Prop} (sb : Sub X k A1) (Gf : FnOk X.prog X.w X.K X.mg X.base CX0 k f fd [nm] (spG X.K (Pu β pre (fun b => [.dat (enc b)]) fun b => .dat (key b)))) (hb : Binds X.K fd [nm] []) (hk : PySem.W.keepIn X.K (.ref f) = true)
    (I : Inv X pins σ H s) (le : Same F H) {v : V} {u : Value} {b : β} (hp : pre b) (hv : Dd X.K F v (enc b)) (r : RelV v u) :
    wpAny (model X.prog X.w) A1 (call (.ref f) [u]) (fun y s' => ∃ kv F' H', Inv X pins σ H' s' ∧ Same F' H' ∧ Fut (fun _ => False) F H (fun _ => False) F' H' ∧ RelV kv y ∧ Dd X.K F' kv (key b) ∧ Un (frs X.stack) [] H H' s.heap s'.heap) E s := by
  have e0 : Env0 X.prog X.w X.K X.mg X.base A1 X.stack s H := by
    have e := I.env0
    exact ⟨by rw [sb.fr]; exact e.frames, e.mod, e.bs, e.bsz, e.funs, e.frf, e.hok, e.bare⟩
  have hsp : spG X.K (Pu β pre (fun b => [.dat (enc b)]) fun b => .dat (key b)) [v] H (fun kv H' => ∃ F', Same F' H' ∧ Fut (fun _ => False) F H (fun _ => False) F' H' ∧ Dd X.K F' kv (key b)) (fun _ _ _ => False) := by
    refine ⟨[.dat (enc b)], F, fun _ => [], fun c cs' => c = .dat (key b), ⟨b, hp, rfl, rfl⟩, repG_dats (ds := [enc b]) le (.cons hv .nil), fun c cs' F' H' O' w' os ec g rc nd dj fu => ?_⟩
    subst ec
    cases rc with
    | dat d => exact ⟨F', g.le, (fu.pre fun a ⟨i, m⟩ => by cases m).post fun a (m : False) => m.elim, d⟩
  refine wpAny_call (codeAny_mono (Gf.run A1 X.stack s H ⟨[u], []⟩ [u] [v] _ _ sb.room e0 (by simpa using hb s [u] I.kIn (by simp)) (.cons r .nil) hsp) fun y s' hq => ?_)
  cases y with
  | error e => exact hq.elim
  | ok fl =>
    cases fl with
    | ret y =>
      obtain ⟨kv, H', os, bare, un, hok, ry, F', l', fu, d⟩ := hq
      refine ⟨kv, F', H', ?_, l', fu, ry, d, un⟩
      obtain ⟨hh, g, dd, t, os'⟩ := s'
      obtain rfl : os' = s.os := os
      exact I.call (h' := hh) (g' := g) (d' := dd) (t' := t) (ch := []) un hok bare (fun b z => absurd z (by simp))
    | next => exact hq.elim
    | brk => exact hq.elim
    | cont => exact hq.elim
end
end G
namespace G
open PySem PySem.Spec PyProof.Rows L2
theorem ddall_app {K : PySem.W.Frag} {F : Hp} : ∀ {vs us : List V} {ds es : List PyData}, DdAll K F vs ds → DdAll K F us es → DdAll K F (vs ++ us) (ds ++ es)
  | [], _, _, _, .nil, h => h
  | _ :: _, _, _, _, .cons h t, g => .cons h (ddall_app t g)
/-- the heap without its object at a -/
def lessAt (h : Heap) (a : Addr) : Heap := h.update a fun o => { o with data := .freed }
theorem lessAt_ne {h : Heap} {a b : Addr} (hb : b ≠ a) : (lessAt h a).get? b = h.get? b := Heap.get?_update_ne _ _ _ _ hb
theorem lessAt_self {h : Heap} {a : Addr} : (lessAt h a).get? a = none := by
  unfold lessAt Heap.get?
  rw [Heap.objs_update_self]
  cases h.objs[a]? <;> rfl
theorem lessAt_old {h : Heap} {a b : Addr} {o : Obj} (e : (lessAt h a).get? b = some o) : b ≠ a ∧ h.get? b = some o := by
  have hb : b ≠ a := fun z => by rw [z, lessAt_self] at e; cases e
  exact ⟨hb, by rw [← lessAt_ne hb]; exact e⟩
section
variable {X : Cx} {β : Type} {enc key : β → PyData} {pre : β → Prop} {bs : List β} {k : Nat} {f : Addr} {fd : FuncData} {nm : Str} {pins : List (Addr × Obj)} {σ : L2.St} {F H : Hp} {s : Shared} {A1 : Around}
theorem key_rest {P : PySem.Fin → Shared → Prop} {E : Value → Shared → Prop} {a kS : Addr} {e1 : Nat} {xs : List V} {its : List Value} (sb : Sub X k A1) (Gf : FnOk X.prog X.w X.K X.mg X.base CX0 k f fd [nm] (spG X.K (Pu β pre (fun b => [.dat (enc b)]) fun b => .dat (key b))))
    (hb : Binds X.K fd [nm] []) (hk : PySem.W.keepIn X.K (.ref f) = true) (hpre : ∀ b ∈ bs, pre b) (hal : PySem.W.AllAlike (bs.map key)) (hs : PySem.W.Sortable (bs.map key)) (hd : ∀ b ∈ bs, (key b).depth ≤ 100) (hu : A1.units + 150 < cLine)
    (I : Inv X pins σ H s) (le : Same F H) (hx : DdAll X.K F xs (bs.map enc)) (rv : Vals xs its) (hz : xs.length ≤ sizeLine) (fa : FpOk X pins H a) (fk : FpOk X pins H kS) (hne : kS ≠ a)
    (nk : s.heap.get? kS = some (seqObj "list" #[] 0)) (na : s.heap.get? a = some (seqObj "list" #[] e1))
    (q : ∀ F' H' s' ys, Inv X pins σ (upd H' a (.lst ys)) s' → Same F' H' → H' a = none → Fut (fun _ => False) F H (fun _ => False) F' H' → DdAll X.K F' ys ((srtD key bs).map enc) → P (.done (.ret .none)) s') :
    wpAny (model X.prog X.w) A1 (ksk_rest a (.ref f) false its.toArray e1 (.ref kS)) P E s := by
  have lx : xs.length = bs.length := by rw [hx.length, List.length_map]
  have li : its.length = bs.length := by rw [← rv.length]; exact lx
  unfold ksk_rest
  refine wpAny_bind (wpAny_rule ?_)
  first
    | rw [List.forIn_toArray]
    | (rw [← Array.forIn_toList]; simp only [List.toList_toArray])
    | rw [← Array.forIn_toList]
  refine wpAny_bind (ksk_fold (fun i s' => ∃ F' H' kA e kvs, Inv X pins σ H' s' ∧ Same F' H' ∧ Fut (fun _ => False) F H (fun _ => False) F' H' ∧ H' a = none ∧ H' kS = none ∧ s'.heap.get? kS = some (seqObj "list" kA e) ∧ s'.heap.get? a = some (seqObj "list" #[] e1) ∧ Vals kvs kA.toList ∧ DdAll X.K F' kvs ((bs.take i).map key)) its 0 s
    ⟨F, H, #[], 0, [], I, le, .refl fun a m => m, fa.1, fk.1, nk, na, .nil, by rw [List.take_zero]; exact .nil⟩ ?step ?done)
  case step =>
    rintro j x s' ej ⟨F', H', kA, e, kvs, I', le', fu, ha0, hk0, nk', na', rk, dk⟩
    simp only [Nat.zero_add] at dk ⊢
    have lj : j < its.length := (List.getElem?_eq_some_iff.mp ej).1
    obtain ⟨b, eb⟩ : ∃ b, bs[j]? = some b := ⟨_, List.getElem?_eq_getElem (by omega)⟩
    obtain ⟨v, ev⟩ : ∃ v, xs[j]? = some v := ⟨_, List.getElem?_eq_getElem (by omega)⟩
    obtain ⟨x', ex', rx⟩ := rv.get ev
    rw [ej] at ex'; cases ex'
    obtain ⟨d, ed, hv⟩ := hx.getV ev
    rw [List.getElem?_map, eb] at ed; cases ed
    have kz : kA.size ≤ its.length := by
      have h1 := rk.length
      have h2 := dk.length
      have h3 : kA.toList.length = kA.size := Array.length_toList
      rw [List.length_map, List.length_take] at h2
      omega
    refine wpAny_bind (wpAny_attempt (wpAny_mono (key_turn (E := fun _ _ => False) sb Gf hb hk I' le' (hpre b (List.mem_of_getElem? eb)) (Dd.up fu.le _ _ hv) rx) (fun y s2 hy => ?_) fun _ _ z => z.elim))
    obtain ⟨kv, F2, H2, I2, le2, fu2, ry, dy, un⟩ := hy
    try dsimp only
    have nfs : ∀ c, FpOk X pins H c → c ∉ frs X.stack := fun c fc m => (List.mem_cons.mp (I2.stkSub c m)).elim (fun z => fc.2.1 z) fun z => fc.2.2.1 z
    have nk2 : s2.heap.get? kS = some (seqObj "list" kA e) := un.keep _ _ nk' hk0 (nfs _ fk) (by simp)
    have na2 : s2.heap.get? a = some (seqObj "list" #[] e1) := un.keep _ _ na' ha0 (nfs _ fa) (by simp)
    have hk2 : H2 kS = none := un.free _ _ nk' hk0 (by simp)
    have ha2 : H2 a = none := un.free _ _ na' ha0 (by simp)
    have sU := Heap.SameBut.update s2.heap kS (Obj.mapSeq (·.push y))
    obtain ⟨c2, hc2⟩ : ∃ c2, (s2.heap.update kS (Obj.mapSeq (·.push y))).get? kS = some (seqObj "list" (kA.push y) c2) := ⟨_, get?_update_seq nk2 (·.push y)⟩
    have lz : its.length ≤ sizeLine := by rw [← rv.length]; exact hz
    refine wpAny_bind (listUpdate_at nk2 rfl ?_ (Nat.le_trans kz lz) (Nat.le_trans (Nat.le_of_eq (Array.size_push ..)) (Nat.succ_le_succ (Nat.le_trans kz lz))))
    refine wpAny_pure ⟨rfl, F2, H2, kA.push y, c2, kvs ++ [kv], I2.turned (t' := s2.toks) (fun b o hb e => (sU.2 b hb).trans e) hk2 fk.2.1 fk.2.2.2.1 fk.2.2.2.2.1 fk.2.2.2.2.2, le2, fu.trans fu2, ha2, hk2, hc2, (sU.2 a hne.symm).trans na2, ?_, ?_⟩
    · rw [Array.toList_push]; exact rk.append (.cons ry .nil)
    · rw [List.take_add_one, eb]
      simp only [Option.toList, List.map_append, List.map_cons, List.map_nil]
      exact ddall_app (DdAll.up fu2.le _ _ dk) (.cons dy .nil)
  case done =>
    rintro s' ⟨F', H', kA, e, kvs, I', le', fu, ha0, hk0, nk', na', rk, dk⟩
    rw [Nat.zero_add, List.take_of_length_le (by omega)] at dk
    have ksz : kA.size = its.length := by
      have h1 := rk.length
      have h2 := dk.length
      have h3 : kA.toList.length = kA.size := Array.length_toList
      rw [List.length_map] at h2
      omega
    have hk' : PySem.W.EachIs (fun v d => ∃ as, Reads s'.heap v d as) kA.toList (bs.map key) := PySem.W.each_map key ((each_of dk rk).mono fun u b ⟨v, rv, dv⟩ => dd_reads I' le' _ _ _ dv rv)
    refine wpAny_bind (listItems_at nk' rfl ?_)
    have lz : its.length ≤ sizeLine := by rw [← rv.length]; exact hz
    refine PySem.W.keyH_end (κ := PySem.W.dataKind s'.heap (bs.map key)) (h₁ := lessAt s'.heap kS) (b := false) (vs := its) (fun b o hb e => (lessAt_old e).2) lessAt_self nk' na' hne (PySem.W.SortsAt.data hk' hal hs fun d hd' => ?_) ksz lz fun h3 tk3 c k3 n3 => ?_
    · obtain ⟨b, hb, rfl⟩ := List.mem_map.mp hd'
      have := hd b hb
      omega
    · have eo := PySem.W.keyedOut_each (R := fun u b => ∃ v, RelV v u ∧ Dd X.K F v (enc b)) (bs := bs) (rev := false) key ⟨s'.heap, kA.toList, hal, rfl, hk'⟩ (each_of hx rv)
      obtain ⟨ys, ry, dy⟩ := each_back eo
      have ol : (PySem.W.sortVals (PySem.W.dataKind s'.heap (bs.map key)) false kA.toList its).length = its.length := PySem.W.sortVals_length false (by rw [Array.length_toList]; exact ksz)
      have hlen : ys.length ≤ sizeLine := by rw [ry.length, ol]; exact lz
      have fa' : FpOk X pins H' a := ⟨ha0, fa.2⟩
      have fk' : FpOk X pins H' kS := ⟨hk0, fk.2⟩
      have I3 : Inv X pins σ H' { s' with heap := h3, toks := tk3 } := I'.turnedL (ch := [kS, a]) (fun b o hb e => by
        simp only [List.mem_cons, List.not_mem_nil, or_false, not_or] at hb
        exact k3 b o hb.2 (by rw [lessAt_ne hb.1]; exact e)) fun b hb => by
          rcases List.mem_cons.mp hb with rfl | hb
          · exact fk'
          · rw [List.mem_singleton.mp hb]; exact fa'
      exact q F' H' _ ys (I3.take (h' := h3) (t' := tk3) (fun b o _ e => e) fa' ⟨hlen, _, c, ry, n3⟩) le' ha0 fu (DdAll.up fu.le _ _ dy)
end
end G
namespace G
open PySem PySem.Spec PyProof.Rows L2
def rSrtK (K : PySem.W.Frag) {β : Type} (enc key : β → PyData) (f : Addr) (bs : List β) : List V → List V → Hp → VK → Prop := fun vs zs H Q => ∃ (a : Addr) (xs : List V) (F : Hp), vs = [.ref a] ∧ zs = [.ref f] ∧ Same F H ∧ H a = some (.lst xs) ∧ DdAll K F xs (bs.map enc) ∧
  ∀ F' H' ys p, Same F' H' → Fut (fun _ => False) F H (fun _ => False) F' H' → H' p = none → DdAll K F' ys ((srtD key bs).map enc) → Q (.ref p) (upd H' p (.lst ys))
section
variable {X : Cx} {β : Type} {enc key : β → PyData} {pre : β → Prop} {bs : List β} {k : Nat} {f : Addr} {fd : FuncData} {nm : Str} {Γ : Gm} {Kn : KR}
theorem cr_srtKey (hr : Room (k + 2) X.A) (Gf : FnOk X.prog X.w X.K X.mg X.base CX0 k f fd [nm] (spG X.K (Pu β pre (fun b => [.dat (enc b)]) fun b => .dat (key b)))) (hb : Binds X.K fd [nm] []) (hk : PySem.W.keepIn X.K (.ref f) = true)
    (hpre : ∀ b ∈ bs, pre b) (hal : PySem.W.AllAlike (bs.map key)) (hs : PySem.W.Sortable (bs.map key)) (hd : ∀ b ∈ bs, (key b).depth ≤ 100) : CallRK X (.builtin "sorted") [Str.ofString "key"] (rSrtK X.K enc key f bs) := by
  intro pins s σ H vs zs us ws Q I r rz h
  obtain ⟨a, xs, F, rfl, rfl, le, hl, da, q⟩ := h
  rw [Vals.ref1 r, Vals.ref1 rz]
  obtain ⟨its, rv, p, hz⟩ := I.list (.of hl)
  have lz : its.length ≤ sizeLine := by rw [← rv.length]; exact hz
  have sb : Sub X k X.A.in1.in1 := (Sub.in1 (Sub.in1 ⟨hr, rfl⟩))
  have hu : X.A.in1.in1.units + 150 < cLine := by have := sb.room.un; omega
  refine PySem.W.sorted_of_sort p.isList lz (ksk_s1 _ _) (fun _ => ksk_l1 _ _) fun E' => ?_
  show wpAny _ _ (Builtin.«list.sort» ⟨[.ref (s.heap.objs.size + 1)], [(Str.ofString "key", .ref f)]⟩) _ _ _
  rw [ksk_t1]
  have ho := PySem.W.copyHeap_at s.heap its
  have lt : s.heap.objs.size + 1 < (PySem.W.copyHeap s.heap its).objs.size := Heap.lt_size ho
  obtain ⟨e1, ho1⟩ : ∃ e1, ((PySem.W.copyHeap s.heap its).update (s.heap.objs.size + 1) (Obj.mapSeq fun _ => (#[] : Array Value))).get? (s.heap.objs.size + 1) = some (seqObj "list" #[] e1) := ⟨_, get?_update_seq ho fun _ => #[]⟩
  have hkS : (((PySem.W.copyHeap s.heap its).update (s.heap.objs.size + 1) (Obj.mapSeq fun _ => (#[] : Array Value))).push (seqObj "tuple" its.toArray 0)).objs.size = (PySem.W.copyHeap s.heap its).objs.size + 1 := by rw [size_push', Heap.size_update]
  unfold ksk_tree
  refine wpAny_bind (listItems_at (s := { s with heap := PySem.W.copyHeap s.heap its }) ho rfl ?_)
  refine wpAny_bind (listUpdate_at (s := { s with heap := PySem.W.copyHeap s.heap its }) ho rfl ?_ (by rw [List.size_toArray]; exact lz) (Nat.zero_le _))
  refine wpAny_bind (seqEpoch_at ho1 rfl ?_)
  refine wpAny_bind (wpAny_newTuple ?_ (by show its.length ≤ _; exact lz))
  refine wpAny_bind (wpAny_newList ?_ (Nat.zero_le _))
  refine wpAny_holding ?_
  have kp : ∀ b o, s.heap.get? b = some o → ((((PySem.W.copyHeap s.heap its).update (s.heap.objs.size + 1) (Obj.mapSeq fun _ => (#[] : Array Value))).push (seqObj "tuple" its.toArray 0)).push (seqObj "list" #[] 0)).get? b = some o := fun b o e =>
    Heap.get?_push_of_some _ (Heap.get?_push_of_some _ (by rw [Heap.get?_update_ne _ _ _ _ (Nat.ne_of_lt (Nat.lt_succ_of_lt (Heap.lt_size e)))]; exact PySem.W.copyHeap_old e))
  have I1 := I.kept (t' := s.toks) kp
  have fa : FpOk X pins H (s.heap.objs.size + 1) := I.fpOk (Nat.le_succ _) (I.hok.fresh (Nat.le_succ _))
  have l2 : s.heap.objs.size ≤ (((PySem.W.copyHeap s.heap its).update (s.heap.objs.size + 1) (Obj.mapSeq fun _ => (#[] : Array Value))).push (seqObj "tuple" its.toArray 0)).objs.size := by rw [hkS]; omega
  have fk : FpOk X pins H (((PySem.W.copyHeap s.heap its).update (s.heap.objs.size + 1) (Obj.mapSeq fun _ => (#[] : Array Value))).push (seqObj "tuple" its.toArray 0)).objs.size := I.fpOk l2 (I.hok.fresh l2)
  refine key_rest sb Gf hb hk hpre hal hs hd hu I1 le da rv hz fa fk (by rw [hkS]; exact Nat.ne_of_gt (Nat.lt_succ_of_lt lt)) (Heap.get?_push_size _ rfl) (Heap.get?_push_of_some _ (Heap.get?_push_of_some _ ho1)) fun F' H' s' ys I' le' ha fu dy => ⟨rfl, ?_⟩
  exact ⟨.ref _, _, I', rfl, q F' H' ys _ le' fu ha dy⟩
theorem WPe_sortKey {x y : Str} {e : Expr} {p p2 p3 pos : Pos} (hr : Room (k + 2) X.A) (Gf : FnOk X.prog X.w X.K X.mg X.base CX0 k f fd [nm] (spG X.K (Pu β pre (fun b => [.dat (enc b)]) fun b => .dat (key b)))) (hb : Binds X.K fd [nm] []) (hk : PySem.W.keepIn X.K (.ref f) = true) (hf : X.mg y = some (.ref f))
    (c1 : ∀ b ∈ bs, pre b) (c2 : PySem.W.AllAlike (bs.map key)) (c3 : PySem.W.Sortable (bs.map key)) (c4 : ∀ b ∈ bs, (key b).depth ≤ 100) (h : WPe X e Γ fun r Γ1 => Sees Γ1 r (.s false (bs.map enc)) ∧ Kn (.val (.own (((srtD key bs).map enc).map .dat))) Γ1)
    (hm : X.mg x = none) (hv : bootBuiltins x = some (.builtin "sorted")) (hg : Gl X x := by rfl) (hgy : Gl X y := by rfl) (hn : x ≠ "__name__" := by decide) (hdb : (x == ("__debug__" : Str)) = false := by decide) (hdy : (y == ("__debug__" : Str)) = false := by decide)
    (hs : starEach [e] X.env = [(false, eval e X.env)] := by rfl) (he : backTo pos (starEach [e] X.env) = [(false, eval e X.env)] := by rfl) (hpl : (backTo pos (starEach [e] X.env)).any (·.1) = false := by rfl)
    (hall : (backToKw pos (keywordEach [⟨some (Str.ofString "key"), .Name y p2, p3⟩] X.env)).all (·.1.isSome) = true := by rfl) (hnone : (backToKw pos (keywordEach [⟨some (Str.ofString "key"), .Name y p2, p3⟩] X.env)).any (·.1.isNone) = false := by rfl)
    (hks : (backToKw pos (keywordEach [⟨some (Str.ofString "key"), .Name y p2, p3⟩] X.env)).filterMap (·.1) = [Str.ofString "key"] := by rfl) : WPe X (.Call (.Name x p) [e] [⟨some (Str.ofString "key"), .Name y p2, p3⟩] pos) Γ Kn := fun F H σ O g Q q => by
  refine WE_of (pe_callBK (r := rSrtK X.K enc key f bs) (cr_srtKey hr Gf hb hk c1 c2 c3 c4) hg hm hv (pa_cons pe_W pa_nil hs) (pk_cons (pe_glob (v := .ref f) hgy hf rfl hdy) pk_nil) hn hdb he hpl hall hnone hks) ?_
  refine h F H σ O g _ fun r Γ1 F1 H1 O1 v os ⟨e1, k1⟩ g1 h1 nd dj f1 => ?_
  have hv : SeeVs X.K F1 H1 [v] [.s false (bs.map enc)] := ⟨e1.ok g1 h1, trivial⟩
  obtain ⟨v', ev, a, xs, rfl, hr', ha⟩ := see1 hv
  cases ev
  refine ⟨a, xs, F1, rfl, rfl, g1.le, hr', ha, fun F' H' ys p le' fu hp dy => ?_⟩
  exact done_new g1 (fun r Γ' F' H' O' v os k g h nd dj f' => q r Γ' F' H' O' v os k g h nd dj ((f1.post fun a m => .inl m).trans f')) k1 (fresh_lst le' hp dy) (by simp) (same_new le' hp) (fu.trans (fut_new hp))
end
end G
namespace G
open PySem PySem.Spec PyProof.Rows L2
theorem wipe_in {σ : L2.St} {i : Nat} : ∀ {vs : List Nat}, i ∈ vs → i < σ.length → (L2.wipe σ vs)[i]? = some none
  | v :: vs, m, h => by
    unfold L2.wipe
    by_cases hv : v = i
    · subst hv; rw [List.getElem?_set_self (by rw [wipe_length]; exact h)]
    · rw [List.getElem?_set_ne hv]
      rcases List.mem_cons.mp m with z | z
      · exact absurd z.symm hv
      · exact wipe_in z h
theorem wipe_wipe {σ : L2.St} {vs1 vs : List Nat} (hv : ∀ i ∈ vs1, i ∈ vs) : L2.wipe (L2.wipe σ vs1) vs = L2.wipe σ vs := by
  apply List.ext_getElem?
  intro i
  by_cases m : i ∈ vs
  · by_cases h : i < σ.length
    · rw [wipe_in m (by rw [wipe_length]; exact h), wipe_in m h]
    · rw [List.getElem?_eq_none (by rw [wipe_length, wipe_length]; omega), List.getElem?_eq_none (by rw [wipe_length]; omega)]
  · rw [wipe_keep m, wipe_keep m, wipe_keep fun z => m (hv i z)]
/-- a list of data at D beside a frame -/
structure Hd (K : PySem.W.Frag) (F1 H1 : Hp) (O1 : Nat → List Addr) (D : Addr) (F H : Hp) (σ : L2.St) (Γ : Gm) (O : Nat → List Addr) (acc : List PyData) : Prop where
  g : RepG K F H σ Γ O
  r : RepC K F H (.own (acc.map .dat)) (.ref D) [D]
  nd : ¬ Own O D
  fu : Fut (Own O1) F1 H1 (OwnT O [D]) F H
section
variable {K : PySem.W.Frag} {F1 H1 F H F2 H2 : Hp} {O1 O O2 : Nat → List Addr} {D : Addr} {σ σ2 : L2.St} {Γ Γ2 : Gm} {acc : List PyData}
theorem Hd.step (h : Hd K F1 H1 O1 D F H σ Γ O acc) (g2 : RepG K F2 H2 σ2 Γ2 O2) (f : Fut (Own O) F H (Own O2) F2 H2) : Hd K F1 H1 O1 D F2 H2 σ2 Γ2 O2 acc := by
  have dj : ∀ a ∈ [D], ¬ Own O a := fun a m => by rw [List.mem_singleton.mp m]; exact h.nd
  exact ⟨g2, h.r.fut f dj, h.r.apart f dj D (by simp), h.fu.trans (f.wide (T := (· ∈ [D])))⟩
theorem Hd.beside (h : Hd K F1 H1 O1 D F H σ Γ O acc) (le : Same F2 H2) (f : Fut (fun _ => False) F H (fun _ => False) F2 H2) : Hd K F1 H1 O1 D F2 H2 σ Γ O acc :=
  h.step (h.g.beside le f) (((f.wide (T := Own O)).pre fun a m => by rcases m with m | m; exact m.elim; exact m).post fun a m => .inr m)
theorem Hd.wk (h : Hd K F1 H1 O1 D F H σ Γ O acc) (g2 : RepG K F H σ2 Γ2 O2) (s : ∀ a, Own O2 a → Own O a) : Hd K F1 H1 O1 D F H σ2 Γ2 O2 acc :=
  ⟨g2, h.r, fun z => h.nd (s _ z), h.fu.post fun a m => m.imp (s a) id⟩
theorem Hd.lst (h : Hd K F1 H1 O1 D F H σ Γ O acc) : ∃ ys, H D = some (.lst ys) ∧ ys.length = acc.length := by
  cases h.r with
  | own b1 b2 b3 => exact ⟨_, b1, by rw [b3.length, List.length_map]⟩
theorem Hd.push (h : Hd K F1 H1 O1 D F H σ Γ O acc) {y : V} {d : PyData} (hy : Dd K F y d) {ys : List V} (hD : H D = some (.lst ys)) : Hd K F1 H1 O1 D F (upd H D (.lst (ys ++ [y]))) σ Γ O (acc ++ [d]) := by
  have hr := h.r
  generalize e : (acc.map C.dat) = cs at hr
  cases hr with
  | own b1 b2 b3 =>
    subst e
    rw [b1] at hD; cases hD
    have hn : ∀ a o, F a = some o → a ≠ D := fun a o e z => by rw [z, b2] at e; cases e
    refine ⟨h.g.move (.refl _) (fun a o e => by rw [upd_ne (hn a o e)]; exact h.g.le a o e) (fun a m => ⟨by rw [upd_ne (fun z : a = D => h.nd (z ▸ m))], (h.g.there a m).2⟩), ?_, h.nd, h.fu.trans (fut_in (.inr (by simp)) fun a m => m)⟩
    have rcs := repcs_app (K := K) (F := F) (H := upd H D (.lst (ys ++ [y]))) (b3.move (F' := F) (H' := upd H D (.lst (ys ++ [y]))) (.refl _) fun a m => by cases m) (.cons (.dat hy) .nil)
    simp only [List.append_nil] at rcs
    rw [List.map_append]
    exact .own upd_same b2 rcs
theorem Hd.done (h : Hd K F1 H1 O1 D F H σ Γ O acc) : RepR K F H σ (.val (.own (acc.map .dat))) (.ref D) [D] := .val h.r
theorem hd_start (g : RepG K F1 H1 σ Γ O) (hD : H1 D = none) (s : ∀ a, Own O a → Own O1 a) : Hd K F1 H1 O1 D F1 (upd H1 D (.lst [])) σ Γ O [] := by
  have nO : ¬ Own O D := fun z => by obtain ⟨⟨xs, e⟩, _⟩ := g.there D z; rw [hD] at e; cases e
  exact ⟨g.beside (same_new g.le hD) (fut_new hD), .own upd_same (free_F g.le hD) .nil, nO, (((fut_new hD).wide (T := Own O1)).pre fun a m => by rcases m with m | m; exact m.elim; exact m).post fun a m => by
    rcases m with m | m
    · exact .inr (s a m)
    · exact .inl m⟩
end
section
variable {X : Cx} {kp : List Nat} {Γ : Gm} {Kn : KR} {D : Out} {elt tg iter tg1 iter1 e a b c : Expr} {es : List Expr} {scope : Scope} {pos p p2 : Pos}
/-- [elt for tg in iter for tg1 in iter1], of data, the frame kept -/
def LcMap2 (X : Cx) (elt tg tg1 iter1 : Expr) (scope : Scope) (vs vs1 : List Nat) (Γ1 : Gm) {α β : Type} (xs : List α) (en : α → PyData) (ys : α → List β) (en1 : β → PyData) (g : α → β → PyData) : Prop :=
  ((xs.map fun x => (ys x).length).sum ≤ sizeLine) ∧ ∀ x, x ∈ xs → ∀ s H Ca cl fp, WPg (blk X scope s H Ca cl fp) (outside X.N.length vs) tg (en x) (wipeG Γ1 vs) fun Γ2 => ∀ s H Ca cl fp, WPi (blk X scope s H Ca cl fp) tg1 iter1 Γ2 fun ds1 Γ3 => ds1 = (ys x).map en1 ∧ Wk (wipeG (wipeG Γ3 vs1) vs) (wipeG Γ1 vs) ∧
    ∀ y, y ∈ ys x → ∀ s H Ca cl fp, WPg (blk X scope s H Ca cl fp) (outside X.N.length vs1) tg1 (en1 y) (wipeG Γ3 vs1) fun Γ4 => ∀ s H Ca cl fp, WPe (blk X scope s H Ca cl fp) elt Γ4 fun r Γ5 => ∃ Γ6, frz Γ5 r = some (g x y, Γ6) ∧ Wk (wipeG Γ6 vs1) (wipeG Γ3 vs1)
def wi1B (X : Cx) (scope : Scope) (tg1 iter1 : Expr) : TI := fun σ H R => ∀ s H0 Ca cl fp, WI (blk X scope s H0 Ca cl fp) tg1 iter1 σ H R
theorem pi1_lc (s : Shared) (H : Hp) (Ca : Addr) (cl : List (Str × Addr)) (fp : List Addr) : PI (blk X scope s H Ca cl fp) tg1 iter1 (wi1B X scope tg1 iter1) := ⟨fun pins s' σ H' R I h => h s H Ca cl fp pins s' I⟩
theorem ifB_nil {σ : L2.St} {H : Hp} {Q : Bool → Hp → Prop} (h : Q true H) : ifB X scope [] σ H Q := h
theorem WPe_lcMap2 (own : List (Str × Nat)) (vs1 : List Nat) (h : WPi X tg iter Γ fun ds Γ1 => ∃ (α β : Type) (xs : List α) (en : α → PyData) (ys : α → List β) (en1 : β → PyData) (g : α → β → PyData), ds = xs.map en ∧ LcMap2 X elt tg tg1 iter1 scope (own.map (·.2)) vs1 Γ1 xs en ys en1 g ∧
      Kn (.val (.own (((xs.map fun x => (ys x).map (g x)).flatten).map .dat))) (unwipe Γ1 (wipeG Γ1 (own.map (·.2))) (own.map (·.2))))
    (hlen : X.N.length = Γ.length) (hN : X.N.Nodup) (ok : BlkOk X.N X.env.scope scope own) (hv : ∀ i ∈ vs1, i ∈ own.map (·.2) := by decide) (hc : X.calm = true := by rfl) (hs : ∀ x, foldedSetIterable iter X.env x = pure x := by intro _; rfl) (hs1 : ∀ env x, foldedSetIterable iter1 env x = pure x := by intro _ _; rfl) :
    WPe X (.ListComp elt [⟨tg, iter, [], 0⟩, ⟨tg1, iter1, [], 0⟩] scope pos) Γ Kn := fun F H σ O g0 Q q => by
  refine WE_of (pe_lc2 (wi1 := wi1B X scope tg1 iter1) hc hN pi_W ok hv pg_lc (pts_lc (.inl rfl)) pi1_lc pg_lc (pts_lc (.inl rfl)) pe_elt hs hs1) ?_
  refine h F H σ O g0 _ fun ds Γ1 F1 H1 O1 J ⟨α, β, xs, en, ys, en1, gg, ed, ⟨hz, turn⟩, fin⟩ g1 f1 yl D hD => ?_
  subst ed
  have hσ : σ.length = X.N.length := by rw [← g0.len, hlen]
  obtain ⟨Ow, gw, sw⟩ := g1.wipe (own.map (·.2))
  have sumle : ∀ i x, xs[i]? = some x → ∀ j, j < (ys x).length → (((xs.take i).map fun x => (ys x).map (gg x)).flatten).length + j < sizeLine := fun i x ex j hj => by
    have lt : i < xs.length := (List.getElem?_eq_some_iff.mp ex).1
    have e1 : xs = xs.take i ++ (x :: xs.drop (i + 1)) := by
      conv => lhs; rw [← List.take_append_drop i xs]
      congr 1
      rw [List.drop_eq_getElem_cons lt]
      congr 1
      have := (List.getElem?_eq_some_iff.mp ex).2
      exact this
    rw [e1] at hz
    rw [List.map_append, List.sum_append, List.map_cons, List.sum_cons] at hz
    rw [List.length_flatten, List.map_map]
    have e2 : (List.length ∘ fun x => (ys x).map (gg x)) = fun x => (ys x).length := by funext z; simp
    rw [e2]
    omega
  refine ⟨fun i m H' => m = xs.length - i ∧ i ≤ xs.length ∧ ∃ F' O', Hd X.K F1 H1 O1 D F' H' (L2.wipe σ (own.map (·.2))) (wipeG Γ1 (own.map (·.2))) O' (((xs.take i).map fun x => (ys x).map (gg x)).flatten),
    ⟨xs.length, by simp, Nat.zero_le _, F1, Ow, hd_start gw hD sw⟩, ?_⟩
  rintro i m H' ⟨rfl, hi, F', O', hd⟩
  obtain ⟨y1, y2, y3⟩ := yl i F' H' hd.fu.le hd.g.le
  rw [List.length_map] at y1 y2
  by_cases hlt : i < xs.length
  · refine .inr ⟨y1 hlt, fun H'' => ∃ F' O', Hd X.K F1 H1 O1 D F' H'' (L2.wipe σ (own.map (·.2))) (wipeG Γ1 (own.map (·.2))) O' (((xs.take (i + 1)).map fun x => (ys x).map (gg x)).flatten),
      fun H'' z => ⟨xs.length - (i + 1), by omega, rfl, hlt, z⟩, fun x H'' hy => ?_⟩
    obtain ⟨α0, ex⟩ : ∃ x0, xs[i]? = some x0 := ⟨_, List.getElem?_eq_getElem hlt⟩
    obtain ⟨F2, f2, le2, hx⟩ := y3 x H'' (en α0) hy (by rw [List.getElem?_map, ex]; rfl)
    have hd2 := hd.beside le2 f2
    have acc1 : ((xs.take (i + 1)).map fun x => (ys x).map (gg x)).flatten = ((xs.take i).map fun x => (ys x).map (gg x)).flatten ++ (ys α0).map (gg α0) := by
      rw [List.take_succ, ex]; simp
    intro s0 H0 Ca0 cl0 fp0
    refine turn α0 (List.mem_of_getElem? ex) s0 H0 Ca0 cl0 fp0 F2 H'' _ O' hd2.g x hx _ fun Γ2 F3 H3 σ3 O3 kb g3 k3 f3 => ⟨wipe_outside (by rw [hσ]; exact k3), ?_⟩
    have eq3 : L2.wipe σ3 (own.map (·.2)) = L2.wipe σ (own.map (·.2)) := wipe_outside (by rw [hσ]; exact k3)
    have l3 : σ3.length = X.N.length := by rw [← hσ]; have := k3.1; rw [wipe_length] at this; exact this
    have hd3 := hd2.step g3 f3
    refine ifB_nil ?_
    dsimp only
    rw [if_pos rfl]
    intro s1 H01 Ca1 cl1 fp1
    refine kb s1 H01 Ca1 cl1 fp1 F3 H3 σ3 O3 g3 _ fun ds1 Γ3 F4 H4 O4 J1 ⟨ed1, w3, turn1⟩ g4 f4 yl1 => ?_
    subst ed1
    have hd4 := hd3.step g4 f4
    obtain ⟨O5, g5, s5⟩ := g4.wipe vs1
    refine ⟨fun j k H5 => k = (ys α0).length - j ∧ j ≤ (ys α0).length ∧ ∃ F' O', Same F4 F' ∧ Hd X.K F1 H1 O1 D F' H5 (L2.wipe σ3 vs1) (wipeG Γ3 vs1) O' (((xs.take i).map fun x => (ys x).map (gg x)).flatten ++ ((ys α0).take j).map (gg α0)),
      ⟨(ys α0).length, by simp, Nat.zero_le _, F4, O5, .refl _, by simpa using hd4.wk g5 s5⟩, ?_⟩
    rintro j k H5 ⟨rfl, hj, F5, O6, le45, hd5⟩
    obtain ⟨z1, z2, z3⟩ := yl1 j F5 H5 le45 hd5.g.le
    rw [List.length_map] at z1 z2
    by_cases hjt : j < (ys α0).length
    · refine .inr ⟨z1 hjt, fun H6 => ∃ F' O', Same F4 F' ∧ Hd X.K F1 H1 O1 D F' H6 (L2.wipe σ3 vs1) (wipeG Γ3 vs1) O' (((xs.take i).map fun x => (ys x).map (gg x)).flatten ++ ((ys α0).take (j + 1)).map (gg α0)),
        fun H6 z => ⟨(ys α0).length - (j + 1), by omega, rfl, hjt, z⟩, fun y H6 hy6 => ?_⟩
      obtain ⟨β0, ey⟩ : ∃ y0, (ys α0)[j]? = some y0 := ⟨_, List.getElem?_eq_getElem hjt⟩
      obtain ⟨F6, f6, le6, hy⟩ := z3 y H6 (en1 β0) hy6 (by rw [List.getElem?_map, ey]; rfl)
      have hd6 := hd5.beside le6 f6
      intro s2 H02 Ca2 cl2 fp2
      refine turn1 β0 (List.mem_of_getElem? ey) s2 H02 Ca2 cl2 fp2 F6 H6 _ O6 hd6.g y hy _ fun Γ4 F7 H7 σ4 O7 kc g7 k7 f7 => ⟨wipe_outside (by rw [l3]; exact k7), ?_⟩
      have eq7 : L2.wipe σ4 vs1 = L2.wipe σ3 vs1 := wipe_outside (by rw [l3]; exact k7)
      have hd7 := hd6.step g7 f7
      refine ifB_nil ?_
      dsimp only
      rw [if_pos rfl]
      intro s3 H03 Ca3 cl3 fp3
      refine kc s3 H03 Ca3 cl3 fp3 F7 H7 σ4 O7 g7 _ fun r Γ5 F8 H8 O8 yv os8 ⟨Γ6, ef, w6⟩ g8 r8 nd8 dj8 f8 => ?_
      obtain ⟨F9, O9, g9, dy, f9⟩ := frz_ok g8 r8 nd8 dj8 ef
      have hd9 := hd7.step g9 (f8.trans f9)
      obtain ⟨ys9, e9, l9⟩ := hd9.lst
      refine ⟨ys9, e9, ?_, ?_⟩
      · rw [l9, List.length_append, List.length_map, List.length_take, Nat.min_eq_left hj]
        exact sumle i α0 ex j hjt
      · have hdA := hd9.push dy e9
        obtain ⟨OB, gB, sB⟩ := hdA.g.wipe vs1
        rw [eq7] at gB
        obtain ⟨OC, gC, sC⟩ := gB.weak w6
        refine ⟨F9, OC, le45.trans (f6.le.trans (f7.le.trans (f8.le.trans f9.le))), ?_⟩
        have ea : ((xs.take i).map fun x => (ys x).map (gg x)).flatten ++ ((ys α0).take (j + 1)).map (gg α0) = (((xs.take i).map fun x => (ys x).map (gg x)).flatten ++ ((ys α0).take j).map (gg α0)) ++ [gg α0 β0] := by
          rw [List.take_succ, ey]; simp
        rw [ea]
        exact hdA.wk gC fun a z => sB _ (sC _ z)
    · have e : j = (ys α0).length := by omega
      subst e
      refine .inl ⟨z2 (Nat.le_refl _), ?_⟩
      rw [List.take_length] at hd5
      obtain ⟨OB, gB, sB⟩ := hd5.g.wipe (own.map (·.2))
      obtain ⟨OC, gC, sC⟩ := gB.weak w3
      have ew : L2.wipe (L2.wipe σ3 vs1) (own.map (·.2)) = L2.wipe σ (own.map (·.2)) := by
        rw [← eq3]
        exact wipe_wipe hv
      rw [ew] at gC
      rw [acc1]
      exact ⟨F5, OC, hd5.wk gC fun a z => sB _ (sC _ z)⟩
  · have e : i = xs.length := by omega
    subst e
    rw [List.take_length] at hd
    refine .inl ⟨y2 (Nat.le_refl _), ?_⟩
    have gu := unwipe_ok (vs := own.map (·.2)) g1 hd.fu.le hd.g (fun j m c => wipeG_off m c)
    exact q _ _ F' H' O' _ [D] fin gu (.val hd.r) (by simp) (fun a m => by rw [List.mem_singleton.mp m]; exact hd.nd) (f1.trans hd.fu)
end
end G
namespace G
open PySem PySem.Spec PyProof.Rows L2
section
variable {X : Cx} {kp : List Nat} {Γ : Gm} {Kn : KR} {D : Out} {e a b c o : Expr} {es : List Expr} {pos p p2 : Pos}
/-! ### (a, *b, c) -/
theorem WPd_star {Kd : List PyData → Gm → Prop} (h : WPe X e Γ fun r Γ1 => ∃ d ds0 Γ1', frz Γ1 r = some (d, Γ1') ∧ seqD d ds0 ∧ WPd X es Γ1' fun ds Γ2 => Kd (ds0 ++ ds) Γ2) (hs : starEach (.Starred e p :: es) X.env = (true, eval e X.env) :: starEach es X.env := by rfl) : WPd X (.Starred e p :: es) Γ Kd := fun F H σ O g Q q =>
  WA_of (StX.pa_star pe_W pa_W hs) (by
    refine h F H σ O g _ fun x Γ1 F1 H1 O1 v1 os1 ⟨d, ds0, Γ1', fz, sq, k1⟩ g1 r1 nd1 dj1 f1 => ?_
    obtain ⟨F1', O1', g1', hd, f1'⟩ := frz_ok g1 r1 nd1 dj1 fz
    rcases sq with rfl | rfl
    · obtain ⟨pa, xs, rfl, l, da⟩ := hd.lst_inv
      refine ⟨pa, xs, rfl, .inr (.of (g1'.le _ _ l)), k1 F1' H1 σ O1' g1' _ fun ds Γ2 F2 H2 O2 vs k2 g2 hds f2 => ?_⟩
      exact q _ _ _ _ _ _ k2 g2 (ddall_app (DdAll.up f2.le _ _ da) hds) ((f1.trans f1').trans f2)
    · obtain ⟨pa, xs, rfl, l, da⟩ := hd.tup_inv
      refine ⟨pa, xs, rfl, .inl (sqT_up g1'.le l), k1 F1' H1 σ O1' g1' _ fun ds Γ2 F2 H2 O2 vs k2 g2 hds f2 => ?_⟩
      exact q _ _ _ _ _ _ k2 g2 (ddall_app (DdAll.up f2.le _ _ da) hds) ((f1.trans f1').trans f2))

/-! ### x, y, z = a, b, c -/
theorem WPs_par3 (i j l : Nat) {x y z : Str} {px py pz pt : Pos} {kt k2 : Nat} {pt2 : Pos} (h : WPa X [a, b, c] Γ fun rs Γ1 => ∃ c1 c2 c3, cellsOf rs = some [c1, c2, c3] ∧ Nat.blt i Γ1.length = true ∧ Nat.blt j Γ1.length = true ∧ Nat.blt l Γ1.length = true ∧ D.nx (((Γ1.set i (some c1)).set j (some c2)).set l (some c3)))
    (hc : X.calm = true) (hN : X.N.Nodup) (hij : i ≠ j := by decide) (hil : i ≠ l := by decide) (hjl : j ≠ l := by decide) (hki : kp.contains i = false := by rfl) (hkj : kp.contains j = false := by rfl) (hkl : kp.contains l = false := by rfl)
    (hi : X.N[i]? = some x := by rfl) (hj : X.N[j]? = some y := by rfl) (hl : X.N[l]? = some z := by rfl) (hx : X.env.scope.names.lookup x = some .local := by rfl) (hy : X.env.scope.names.lookup y = some .local := by rfl) (hz : X.env.scope.names.lookup z = some .local := by rfl)
    (hw : swappedStores [.Tuple [.Name x px, .Name y py, .Name z pz] kt pt] (.Tuple [a, b, c] k2 pt2) X.env = pure (some [x, y, z]) := by rfl)
    (hs : swapsWithSole [.Tuple [.Name x px, .Name y py, .Name z pz] kt pt] (.Tuple [a, b, c] k2 pt2) pos.line X.env = pure false := by rfl) :
    WPs X kp (.Assign [.Tuple [.Name x px, .Name y py, .Name z pz] kt pt] (.Tuple [a, b, c] k2 pt2) pos) Γ D := fun F H σ O g E q =>
  WS_of (ps_par3 hc hN hi hj hl hij hil hjl hx hy hz pa_W hw hs) (h F H σ O g _ fun rs Γ1 F1 H1 O1 vs os ⟨c1, c2, c3, ec, h1, h2, h3, k⟩ g1 hr nd dj f => by
    have rc := cells_rep hr ec
    cases rc with
    | cons r1 rr =>
      cases rr with
      | cons r2 rr =>
        cases rr with
        | cons r3 rr =>
          cases rr
          rename_i v1 o1 v2 o2 v3 o3
          rw [List.append_nil] at nd dj f
          obtain ⟨n1, n23, n4⟩ := List.nodup_append.mp nd
          obtain ⟨n2, n3, n5⟩ := List.nodup_append.mp n23
          refine ⟨v1, v2, v3, rfl, ?_⟩
          have g2 := g1.put (i := i) (blt_of h1) r1 n1 fun a m k hk m2 => dj a (List.mem_append_left _ m) ⟨k, m2⟩
          have g3 := g2.put (i := j) (by have := blt_of h2; simpa using this) r2 n2 fun a m k hk m2 => by
            by_cases hki : k = i
            · subst hki; rw [Osub_same] at m2; exact n4 a m2 a (List.mem_append_left _ m) rfl
            · rw [Osub_ne hki] at m2; exact dj a (List.mem_append_right _ (List.mem_append_left _ m)) ⟨k, m2⟩
          have g4 := g3.put (i := l) (by have := blt_of h3; simpa using this) r3 n3 fun a m k hk m2 => by
            by_cases hkj : k = j
            · subst hkj; rw [Osub_same] at m2; exact n5 a m2 a m rfl
            · rw [Osub_ne hkj] at m2
              by_cases hki : k = i
              · subst hki; rw [Osub_same] at m2; exact n4 a m2 a (List.mem_append_right _ m) rfl
              · rw [Osub_ne hki] at m2; exact dj a (List.mem_append_right _ (List.mem_append_right _ m)) ⟨k, m2⟩
          refine q.nx _ _ _ _ _ k g4 (((kept.set (nin_of hki)).trans (.set (nin_of hkj))).trans (.set (nin_of hkl))) (f.post fun a m => ?_)
          rcases own_sub m with m | m
          · rcases own_sub m with m | m
            · rcases own_sub m with m | m
              · exact .inl m
              · exact .inr (List.mem_append_left _ m)
            · exact .inr (List.mem_append_right _ (List.mem_append_left _ m))
          · exact .inr (List.mem_append_right _ (List.mem_append_right _ m)))

/-! ### expressions that change nothing -/
def WPq (X : Cx) (e : Expr) (Γ : Gm) (d : PyData) : Prop := ∀ (F H : Hp) (σ : L2.St) (O : Nat → List Addr), RepG X.K F H σ Γ O → ∀ Q : VK, (∀ u, Dd X.K F u d → Q u H) → WE X e σ H Q
def WTq (X : Cx) (e : Expr) (Γ : Gm) (k : Bool) : Prop := ∀ (F H : Hp) (σ : L2.St) (O : Nat → List Addr), RepG X.K F H σ Γ O → ∀ Q : Bool → Hp → Prop, Q k H → WT X e σ H Q
theorem WPq_int {i : Int} {j : Nat} : WPq X (.Constant (.int i) j pos) Γ (.int i) := fun F H σ O g Q q => WE_of pe_int (q _ (.int i))
theorem WPq_name (i : Nat) {x : Str} {d : PyData} (hc : Γ[i]? = some (some (.dat d)) := by rfl) (hN : X.N[i]? = some x := by rfl) (hv : Vis X.env.scope x := by first | exact Or.inl rfl | exact Or.inr (Or.inl rfl) | exact Or.inr (Or.inr rfl))
    (hd : (x == ("__debug__" : Str)) = false := by decide) (hcd : (x == ("__classdict__" : Str)) = false := by decide) : WPq X (.Name x pos) Γ d := fun F H σ O g Q q => by
  refine WE_of (pe_var hN hv hd hcd) ?_
  obtain ⟨v, e1, r⟩ := g.cell i _ hc
  generalize O i = oi at r
  cases r with
  | dat r => exact ⟨v, e1, q _ r⟩
theorem WTq_cmp {op : CmpOp} {i j : Int} {k : Bool} {r : R2} (ho : OpR X (compareOp op) r) (hr : ∀ (H : Hp) (Q : VK), Q (.bl k) H → r (.int i) (.int j) H Q) (ha : WPq X a Γ (.int i)) (hb : WPq X b Γ (.int j)) (hm : behindInMarks op b = false := by first | exact nomark _ | rfl) :
    WTq X (.Compare a [op] [b] pos) Γ k := fun F H σ O g Q q =>
  WT_of (pt_cmpR ho pe_W pe_W hm) (ha F H σ O g _ fun u hu => hb F H σ O g _ fun w hw => by rw [hu.int_inv, hw.int_inv]; exact hr H _ ⟨k, rfl, q⟩)
theorem WTq_gt {i j : Int} (ha : WPq X a Γ (.int i)) (hb : WPq X b Γ (.int j)) : WTq X (.Compare a [.Gt] [b] pos) Γ (decide (j < i)) := WTq_cmp op_gt (fun H Q q => ⟨i, j, rfl, rfl, q⟩) ha hb
theorem WTq_eq {i j : Int} (ha : WPq X a Γ (.int i)) (hb : WPq X b Γ (.int j)) : WTq X (.Compare a [.Eq] [b] pos) Γ (decide (i = j)) := WTq_cmp op_eq (fun H Q q => ⟨rfl, by rw [show decide (V.int i = V.int j) = decide (i = j) by rw [dec_int, Bool.beq_eq_decide_eq]]; exact q⟩) ha hb
theorem WPq_if {k : Bool} {d d' : PyData} (hc : WTq X c Γ k) (ha : WPq X a Γ d) (hb : WPq X b Γ d') : WPq X (.IfExp c a b pos) Γ (if k = true then d else d') := fun F H σ O g Q q =>
  WE_of (pe_ifExp pt_W pe_W pe_W) (hc F H σ O g _ (by
    cases k with
    | true => exact iteT (ha F H σ O g _ q)
    | false => exact iteF (hb F H σ O g _ q)))
theorem pathV_mono {H H' : Hp} (h : ∀ a o, H a = some o → H' a = some o) {v w : V} {ks : List Nat} (p : PathV H v ks w) : PathV H' v ks w := by
  induction p with
  | nil => exact .nil
  | cons e1 e2 _ ih => exact .cons (h _ _ e1) e2 ih
/-- found[..][i] op= e, i and e changing nothing -/
theorem WPs_augS2 {tpos : Pos} {op : Operator} (h : WPe X o Γ fun x Γ1 => ∃ j ks cs i k d0 d1 dv, x = .pth j ks ∧ ownAt Γ1 j ks = some cs ∧ WPq X b Γ1 (.int i) ∧ ixN cs.length i = some k ∧ cs[k]? = some (.dat d0) ∧ WPq X e Γ1 dv ∧ OpD X (inplaceOp op) (.d d0) (.d dv) (.dat d1) ∧ D.nx (Gput Γ1 j ks (.own (cs.set k (.dat d1)))))
    (ha : ∀ ov iv new, augStore b ov iv new = (do holding [new, ov, iv] (setItem ov iv new); release [new, ov, iv] []; pure .next) := by intros; rfl) : WPs X kp (.AugAssign (.Subscript o b tpos) op e pos) Γ D := fun F H σ O g E q =>
  WS_of (ps_augS pe_W pe_W get_list pe_W (OpR_any (f := inplaceOp op)) set_list ha) (by
    refine h F H σ O g _ fun x Γ1 F1 H1 O1 vx osx ⟨j, ks, cs, i, k, d0, d1, dv, ex, eo, hi, ek, ed, he, od, kn⟩ g1 r1 nd1 dj1 f1 => ?_
    subst ex
    refine hi F1 H1 σ O1 g1 _ fun vy hy => ?_
    obtain rfl := hy.int_inv
    obtain ⟨c0, e0, ea⟩ := ownAt_iff eo
    obtain ⟨p, xs, osn, ev, hp, fp, rcs, _⟩ := g1.rew r1 e0 ea
    subst ev
    obtain ⟨w, osw, w1, w2, _⟩ := rcs.get ed
    cases w2 with
    | dat hw =>
      refine ⟨p, xs, i, w, rfl, rfl, .of hp, by unfold atI; rw [rcs.length, ek]; exact w1, ?_⟩
      refine he F1 H1 σ O1 g1 _ fun vr hr => ?_
      refine od F1 H1 w vr _ g1.le (Dd.up g1.le _ _ hw) (Dd.up g1.le _ _ hr) fun F4 H4 v4 os4 rc4 nd4 le4 f4 => ?_
      have g4 := g1.beside le4 f4
      have eo4 : os4 = [] := by cases rc4; rfl
      subst eo4
      have r14 : RepR X.K F4 H4 σ (.pth j ks) (.ref p) osx := by
        cases r1 with
        | pth s1 pv => exact .pth s1 (pathV_mono (fun a o e => f4.frame a o e id) pv)
      obtain ⟨p', ys, ev, hp', hl, O5, g5, f5⟩ := store_item (cn := .dat d1) g4 r14 eo (ix_own ek) rc4 nd4 (fun a m => by cases m)
      cases ev
      have f14 : Fut (Own O1) F1 H1 (Own O1) F4 H4 := ((f4.wide (T := Own O1)).pre fun a m => by rcases m with m | m; exact m.elim; exact m).post fun a m => .inr m
      have ft := (f1.post (P2 := Own O1) fun a m => .inl m).trans f14
      exact ⟨p, ys, i, k, rfl, rfl, hp', by rw [hl]; exact ek, q.nx _ _ _ _ _ kn g5 .refl (ft.trans (f5.pre fun a m => by rcases m with m | m; exact m; cases m))⟩)
end
end G
namespace G
open PySem PySem.Spec PyProof.Rows L2
section
variable {X : Cx} {kp : List Nat} {Γ : Gm} {Kn : KR} {D : Out} {e a b c o : Expr} {es : List Expr} {pos p p2 pos2 : Pos}
/-! ### list(range(n)) -/
theorem dd_rg (K : PySem.W.Frag) (F : Hp) (n : Int) : DdAll K F (rgV 0 n) ((List.range n.toNat).map fun i : Nat => PyData.int i) := by
  have e : rgV 0 n = ((List.range n.toNat).map fun i : Nat => (i : Int)).map V.int := by
    unfold rgV
    rw [List.map_map, Int.sub_zero]
    apply List.map_congr_left
    intro i _
    simp
  have e2 : ((List.range n.toNat).map fun i : Nat => PyData.int i) = ((List.range n.toNat).map fun i : Nat => (i : Int)).map PyData.int := by rw [List.map_map]; rfl
  rw [e, e2]
  exact DdAll.ofInts _
theorem WPe_listRg (h : WPe X a Γ fun r Γ1 => ∃ n : Int, vw Γ1 r = some (.int n) ∧ (0 ≤ n ∧ n ≤ 16777216) ∧ Kn (.val (.own (((List.range n.toNat).map fun i : Nat => PyData.int i).map .dat))) Γ1) (hm : X.mg "range" = none) (hm2 : X.mg "list" = none) (hc : X.calm = true := by rfl) (hg : Gl X "range" := by rfl) (hg2 : Gl X "list" := by rfl)
    (hs : starEach [a] X.env = (false, eval a X.env) :: starEach [] X.env := by rfl) (hs2 : starEach [.Call (.Name "range" p2) [a] [] pos2] X.env = (false, eval (.Call (.Name "range" p2) [a] [] pos2) X.env) :: starEach [] X.env := by rfl) :
    WPe X (.Call (.Name "list" p) [.Call (.Name "range" p2) [a] [] pos2] [] pos) Γ Kn := fun F H σ O g Q q =>
  WE_of (pe_listRg hc hg2 hm2 (prg_1 hg hm pe_W hs) hs2) (h F H σ O g _ fun r Γ1 F1 H1 O1 v os ⟨n, ev, hb, k⟩ g1 h1 nd dj f => by
    refine ⟨n, by rw [Dd.int_inv (vw_ok g1 h1 ev)], .of_le (Int.le_refl 0) hb.2 (by decide) hb.1, fun l hl => ?_⟩
    exact done_new g1 (fun r Γ' F' H' O' v os k g h nd dj f' => q r Γ' F' H' O' v os k g h nd dj ((f.post fun a m => .inl m).trans f')) k (fresh_lst g1.le hl (dd_rg _ _ _)) (by simp) (same_new g1.le hl) (fut_new hl))
end
end G
namespace K65
open PySem PySem.Spec PyProof.Rows L2 G
def top (i : Nat) : Stmt := PySem.Challenge.pw_lasthopes_k65_tables_judged_one_thing_at.main.body.getD i (.Pass ⟨0, 0, 0, 0⟩)
section
variable {P : Program} {w : World} {K : PySem.W.Frag} {mg : Str → Option Value} {base : Heap}
abbrev s_is_integer : Stmt := top 1
theorem sc_is_integer : FnScope ["thing"] ["thing"] (defScope s_is_integer) := ⟨rfl, rfl, rfl, by decide +kernel, rfl, by decide +kernel, by decide +kernel⟩
def isInt : PyData → Bool
  | .int _ => true
  | _ => false
theorem isInt_eq (d : PyData) : isInt d = (isIntT d && !isBoolT d) := by cases d <;> rfl
abbrev t_is_integer : Ctr := Pu PyData (fun _ => True) (fun d => [.dat d]) fun d => .dat (.bool (isInt d))
theorem ok_is_integer {f : Addr} {fd : FuncData} (F : Fun K "is_integer" "is_integer" s_is_integer f fd) (B : Bl mg) :
    FnOk P w K mg base CX0 1 f fd ["thing"] (spG K t_is_integer) := by
  refine fn_pu (fun d => [some (.dat d)]) F sc_is_integer (fun _ => rfl) (fun _ => rfl) fun cdv A0 outer s H E hr d _ => ?_
  refine WPss_one (WPs_ret ?_)
  refine WPe_and (WPe_isi (WPe_name 0 rfl ?_) B.isi B.int boot_int' boot_isi)
  refine ⟨_, _, rfl, kit_int _, _, rfl, fun e1 => ?_, fun e1 => ?_⟩
  · refine WPe_one (WPe_not (WPe_isi (WPe_name 0 rfl ?_) B.isi B.bool boot_bool' boot_isi))
    refine ⟨_, _, rfl, kit_bool _, _, rfl, _, _, rfl, ?_⟩
    show _ = _
    rw [isInt_eq, e1]; rfl
  · refine ⟨_, _, rfl, ?_⟩
    show _ = _
    rw [isInt_eq, e1]; rfl
abbrev s_are_all : Stmt := top 2
theorem sc_are_all : FnScope ["thing", "fits", "member"] ["thing", "fits"] (defScope s_are_all) := ⟨rfl, rfl, rfl, by decide +kernel, rfl, by decide +kernel, by decide +kernel⟩
/-- a test of any value, as a def gives it -/
def items : PyData → List PyData
  | .tuple ds => ds
  | _ => []
def areAll (g : PyData → Bool) : PyData → Bool
  | .tuple ds => ds.all g
  | _ => false
theorem ok_are_all {f : Addr} {fd : FuncData} (F : Fun K "are_all" "are_all" s_are_all f fd) (B : Bl mg) {g : Addr} {gd : FuncData} {j : Nat} {nm : Str} {φ : PyData → Bool} (ψ : PyData → Prop) (Gf : FnOk P w K mg base CX0 j g gd [nm] (spG K (Pu PyData ψ (fun d => [.dat d]) fun d => .dat (.bool (φ d)))))
    (hk : PySem.W.keepIn K (.ref g) = true) (hb : Binds K gd [nm] []) :
    FnOk P w K mg base CX0 (j + 1) f fd ["thing", "fits"] (spG K (Pu PyData (fun d => (items d).length ≤ sizeLine ∧ ∀ x ∈ items d, ψ x) (fun d => [.dat d, .adr g]) fun d => .dat (.bool (areAll φ d)))) := by
  refine fn_pu (fun d => [some (.dat d), some (.adr g), none]) F sc_are_all (fun _ => rfl) (fun _ => rfl) fun cdv A0 outer s H E hr d hd => ?_
  have hr1 : Room j _ := hr
  refine WPss_one (WPs_ret ?_)
  refine WPe_and (WPe_isi (WPe_name 0 rfl ?_) B.isi B.tuple boot_tuple' boot_isi)
  refine ⟨_, _, rfl, kit_tup _, _, rfl, fun e1 => ?_, fun e1 => ?_⟩
  · obtain ⟨ds, rfl⟩ := tup_of e1
    refine WPe_one (WPe_callB ?_ B.all boot_all')
    refine WPa_cons (WPe_lcMap [("member", 2)] (WPi_tup (WPe_name 0 rfl ?_)) rfl sc_are_all.nd (blkOk_by (N := ["thing", "fits", "member"]) (sc := defScope s_are_all) (by decide +kernel)))
    refine ⟨ds, _, rfl, _, ds, id, fun d => .dat (.bool (φ d)), (List.map_id _).symm, ⟨hd.1, fun d hdm s H Ca cl fp => ?_⟩, ?_⟩
    · refine WPg_name 2 ?_ sc_are_all.nd
      intro s H Ca cl fp
      refine WPe_callL 1 rfl Gf hr1 hk hb (WPd_cons (WPe_name 2 rfl ?_))
      exact ⟨_, _, rfl, WPd_nil ⟨d, hd.2 d hdm, rfl, _, rfl, .refl⟩⟩
    · exact ⟨rfl, WPa_nil ⟨[_], _, ⟨seesL, trivial⟩, cd_allM rfl, _, _, rfl, rfl⟩⟩
  · refine ⟨_, _, rfl, ?_⟩
    cases d <;> first | rfl | cases e1
abbrev s_are_integers : Stmt := top 3
theorem sc_are_integers : FnScope ["thing"] ["thing"] (defScope s_are_integers) := ⟨rfl, rfl, rfl, by decide +kernel, rfl, by decide +kernel, by decide +kernel⟩
/-- a def of the text, where it stands -/
structure At (P : Program) (w : World) (K : PySem.W.Frag) (mg : Str → Option Value) (base : Heap) (x : Str) (k : Nat) (ps : List Str) (A : Ctr) (f : Addr) (fd : FuncData) : Prop where
  ok : FnOk P w K mg base CX0 k f fd ps (spG K A)
  mg : mg x = some (.ref f)
  keep : PySem.W.keepIn K (.ref f) = true
  bind : Binds K fd ps []
abbrev c_is_integer : Ctr := t_is_integer
abbrev small (d : PyData) : Prop := (items d).length ≤ sizeLine
abbrev c_are_integers : Ctr := Pu PyData small (fun d => [.dat d]) fun d => .dat (.bool (areAll isInt d))
theorem ok_are_integers {f f1 f2 : Addr} {fd d1 d2 : FuncData} (F : Fun K "are_integers" "are_integers" s_are_integers f fd)
    (A1 : At P w K mg base "is_integer" 1 ["thing"] c_is_integer f1 d1) (A2 : FnOk P w K mg base CX0 2 f2 d2 ["thing", "fits"] (spG K (Pu PyData (fun d => (items d).length ≤ sizeLine ∧ ∀ x ∈ items d, True) (fun d => [.dat d, .adr f1]) fun d => .dat (.bool (areAll isInt d)))))
    (m2 : mg "are_all" = some (.ref f2)) (k2 : PySem.W.keepIn K (.ref f2) = true) (b2 : Binds K d2 ["thing", "fits"] []) :
    FnOk P w K mg base CX0 3 f fd ["thing"] (spG K c_are_integers) := by
  refine fn_pu (fun d => [some (.dat d)]) F sc_are_integers (fun _ => rfl) (fun _ => rfl) fun cdv A0 outer s H E hr d hd => ?_
  refine WPss_one (WPs_ret ?_)
  refine WPe_callC A2 hr m2 k2 b2 (WPa_cons (WPe_name 0 rfl ⟨rfl, WPa_cons (WPe_globF ⟨rfl, WPa_nil ?_⟩ A1.mg)⟩))
  exact ⟨_, rfl, rfl, d, ⟨hd, fun _ _ => trivial⟩, rfl, _, _, rfl, rfl⟩
end
end K65
namespace K65
open PySem PySem.Spec PyProof.Rows L2 G
/-- a row of a table -/
structure Row where
  team : Int
  won : Int
  tied : Int
  lost : Int
  shot : Int
  lets : Int
  points : Int
  deriving DecidableEq
def Row.ints (r : Row) : List Int := [r.team, r.won, r.tied, r.lost, r.shot, r.lets, r.points]
def encR (r : Row) : PyData := .tuple (r.ints.map .int)
def encRs (rs : List Row) : PyData := .tuple (rs.map encR)
def areRows (n : Int) (d : PyData) : Bool := areAll (areAll isInt) d && (items d).all fun r => decide (((items r).length : Int) = n)
theorem ints_of : ∀ {ds : List PyData}, ds.all isInt = true → ∃ ns : List Int, ds = ns.map .int
  | [], _ => ⟨[], rfl⟩
  | d :: ds, h => by
    rw [List.all_cons, Bool.and_eq_true] at h
    obtain ⟨ns, rfl⟩ := ints_of h.2
    cases d with
    | int i => exact ⟨i :: ns, rfl⟩
    | _ => cases h.1
theorem row_of {d : PyData} (h1 : areAll isInt d = true) (h2 : ((items d).length : Int) = 7) : ∃ r : Row, d = encR r := by
  cases d with
  | tuple ds =>
    obtain ⟨ns, rfl⟩ := ints_of h1
    have h2 : ((List.map PyData.int ns).length : Int) = 7 := h2
    rw [List.length_map] at h2
    match ns, h2 with
    | [a, b, c, d, e, f, g], _ => exact ⟨⟨a, b, c, d, e, f, g⟩, rfl⟩
  | _ => cases h1
theorem rows_of : ∀ {ds : List PyData}, ds.all (areAll isInt) = true → (ds.all fun r => decide (((items r).length : Int) = 7)) = true → ∃ rs : List Row, ds = rs.map encR
  | [], _, _ => ⟨[], rfl⟩
  | d :: ds, h1, h2 => by
    rw [List.all_cons, Bool.and_eq_true] at h1 h2
    obtain ⟨r, rfl⟩ := row_of h1.1 (of_decide_eq_true h2.1)
    obtain ⟨rs, rfl⟩ := rows_of h1.2 h2.2
    exact ⟨r :: rs, rfl⟩
theorem rows_of_are {d : PyData} (h : areRows 7 d = true) : ∃ rs, d = encRs rs := by
  rw [areRows, Bool.and_eq_true] at h
  cases d with
  | tuple ds =>
    obtain ⟨rs, rfl⟩ := rows_of h.1 h.2
    exact ⟨rs, rfl⟩
  | _ => cases h.1
theorem are_rows_enc (rs : List Row) : areRows 7 (encRs rs) = true := by
  rw [areRows, Bool.and_eq_true]
  constructor
  · show (rs.map encR).all _ = true
    rw [List.all_eq_true]
    intro d hd
    obtain ⟨r, _, rfl⟩ := List.mem_map.mp hd
    rfl
  · show (rs.map encR).all _ = true
    rw [List.all_eq_true]
    intro d hd
    obtain ⟨r, _, rfl⟩ := List.mem_map.mp hd
    rfl
theorem encR_inj {a b : Row} (h : encR a = encR b) : a = b := by
  cases a; cases b
  simp only [encR, Row.ints, List.map_cons, List.map_nil] at h
  injection h with h
  simp only [List.cons.injEq, PyData.int.injEq, and_true] at h
  obtain ⟨h1, h2, h3, h4, h5, h6, h7⟩ := h
  subst h1 h2 h3 h4 h5 h6 h7
  rfl
theorem encRs_inj : ∀ {as bs : List Row}, encRs as = encRs bs → as = bs := by
  intro as bs h
  have h : as.map encR = bs.map encR := by injection h
  exact List.map_inj_right (fun _ _ => encR_inj) |>.mp h
def rank (r : Row) : List Int := [0 - r.points, r.lets - r.shot, 0 - r.shot, r.team]
def encK (r : Row) : PyData := .tuple ((rank r).map .int)
def pts (way : Int) (r : Row) : Int := way * r.won + (if way > 1 then r.tied else 0)
section
variable {P : Program} {w : World} {K : PySem.W.Frag} {mg : Str → Option Value} {base : Heap}
abbrev s_are_rows : Stmt := top 4
theorem sc_are_rows : FnScope ["thing", "many", "row"] ["thing", "many"] (defScope s_are_rows) := ⟨rfl, rfl, rfl, by decide +kernel, rfl, by decide +kernel, by decide +kernel⟩
abbrev smallRows (d : PyData) : Prop := small d ∧ ∀ x ∈ items d, small x
abbrev c_are_rows : Ctr := Pu (PyData × Int) (fun t => smallRows t.1) (fun t => [.dat t.1, .dat (.int t.2)]) fun t => .dat (.bool (areRows t.2 t.1))
theorem ok_are_rows {f f1 f2 : Addr} {fd d1 d2 : FuncData} (F : Fun K "are_rows" "are_rows" s_are_rows f fd) (B : Bl mg)
    (A1 : At P w K mg base "are_integers" 3 ["thing"] c_are_integers f1 d1) (A2 : FnOk P w K mg base CX0 4 f2 d2 ["thing", "fits"] (spG K (Pu PyData smallRows (fun d => [.dat d, .adr f1]) fun d => .dat (.bool (areAll (areAll isInt) d)))))
    (m2 : mg "are_all" = some (.ref f2)) (k2 : PySem.W.keepIn K (.ref f2) = true) (b2 : Binds K d2 ["thing", "fits"] []) :
    FnOk P w K mg base CX0 5 f fd ["thing", "many"] (spG K c_are_rows) := by
  refine fn_pu (fun t => [some (.dat t.1), some (.dat (.int t.2)), none]) F sc_are_rows (fun _ => rfl) (fun _ => rfl) fun cdv A0 outer s H E hr t ht => ?_
  obtain ⟨d, n⟩ := t
  refine WPss_one (WPs_ret ?_)
  refine WPe_and (WPe_callC A2 hr m2 k2 b2 (WPa_cons (WPe_name 0 rfl ⟨rfl, WPa_cons (WPe_globF ⟨rfl, WPa_nil ?_⟩ A1.mg)⟩)))
  refine ⟨_, rfl, rfl, d, ht, rfl, _, rfl, fun e1 => ?_, fun e1 => ⟨_, _, rfl, ?_⟩⟩
  · cases d with
    | tuple ds =>
      refine WPe_one (WPe_callB ?_ B.all boot_all')
      refine WPa_cons (WPe_lcMap [("row", 2)] (WPi_tup (WPe_name 0 rfl ?_)) rfl sc_are_rows.nd (blkOk_by (N := ["thing", "many", "row"]) (sc := defScope s_are_rows) (by decide +kernel)))
      refine ⟨ds, _, rfl, _, ds, id, fun d => .dat (.bool (decide (((items d).length : Int) = n))), (List.map_id _).symm, ⟨ht.1, fun d hdm s H Ca cl fp => ?_⟩, ?_⟩
      · refine WPg_name 2 ?_ sc_are_rows.nd
        intro s H Ca cl fp
        have hq : areAll isInt d = true := List.all_eq_true.mp e1 d hdm
        cases d with
        | tuple rs =>
          exact WPe_cmp (WPe_callB (WPa_cons (WPe_name 2 rfl ⟨rfl, WPa_nil ⟨[.s true rs], _, ⟨rfl, trivial⟩, cd_len, rfl, WPe_name 1 rfl ⟨.d (.int _), .d (.int _), _, rfl, rfl, od_eqI, _, rfl, .refl⟩⟩⟩)) B.len boot_len')
        | _ => cases hq
      · exact ⟨rfl, WPa_nil ⟨[_], _, ⟨seesL, trivial⟩, cd_allM rfl, _, _, rfl, by show _ = _; rw [areRows, e1]; rfl⟩⟩
    | _ => cases e1
  · show _ = _
    rw [areRows, e1]; rfl
abbrev s_rank : Stmt := top 13
theorem sc_rank : FnScope ["row", "team", "won", "tied", "lost", "shot", "let", "points"] ["row"] (defScope s_rank) := ⟨rfl, rfl, rfl, by decide +kernel, rfl, by decide +kernel, by decide +kernel⟩
abbrev c_rank : Ctr := Pu Row (fun _ => True) (fun r => [.dat (encR r)]) fun r => .dat (encK r)
theorem ok_rank {f : Addr} {fd : FuncData} (F : Fun K "rank" "rank" s_rank f fd) : FnOk P w K mg base CX0 1 f fd ["row"] (spG K c_rank) := by
  refine fn_pu (fun r => [some (.dat (encR r)), none, none, none, none, none, none, none]) F sc_rank (fun _ => rfl) (fun _ => rfl) fun cdv A0 outer s H E hr r _ => ?_
  refine WPss_cons (WPs_asg (WPe_name 0 rfl ⟨_, _, rfl, WPg_tup ?_ rfl⟩))
  refine WPgs_cons (WPg_name 1 (WPgs_cons (WPg_name 2 (WPgs_cons (WPg_name 3 (WPgs_cons (WPg_name 4 (WPgs_cons (WPg_name 5 (WPgs_cons (WPg_name 6 (WPgs_cons (WPg_name 7 (WPgs_nil ?_) sc_rank.nd)) sc_rank.nd)) sc_rank.nd)) sc_rank.nd)) sc_rank.nd)) sc_rank.nd)) sc_rank.nd)
  refine WPss_one (WPs_ret (WPe_tup ?_))
  refine WPd_cons (WPe_bin (WPe_int ⟨rfl, WPe_name 7 rfl ⟨.d (.int 0), .d (.int _), _, rfl, rfl, od_sub, ?_⟩⟩))
  refine ⟨_, _, rfl, WPd_cons (WPe_bin (WPe_name 6 rfl ⟨rfl, WPe_name 5 rfl ⟨.d (.int _), .d (.int _), _, rfl, rfl, od_sub, ?_⟩⟩))⟩
  refine ⟨_, _, rfl, WPd_cons (WPe_bin (WPe_int ⟨rfl, WPe_name 5 rfl ⟨.d (.int 0), .d (.int _), _, rfl, rfl, od_sub, ?_⟩⟩))⟩
  refine ⟨_, _, rfl, WPd_cons (WPe_name 1 rfl ?_)⟩
  exact ⟨_, _, rfl, WPd_nil ⟨(by show 4 ≤ sizeLine; decide), _, _, rfl, rfl⟩⟩
end
end K65
namespace K65
open PySem PySem.Spec PyProof.Rows L2 G
theorem cut_drop1 {α : Type} (xs : List α) : cutP xs (some 1) none = xs.drop 1 := by
  unfold cutP
  have h1 : HT.sIx xs.length 0 (some 1) = min 1 xs.length := by unfold HT.sIx; simp
  have h2 : HT.sIx xs.length xs.length none = xs.length := by unfold HT.sIx; simp
  rw [h1, h2]
  cases xs with
  | nil => rfl
  | cons x xs =>
    have : min 1 (x :: xs).length = 1 := by simp
    rw [this]
    apply List.take_of_length_le
    simp
theorem views_dat : ∀ ds : List PyData, C.views (ds.map .dat) = some ds
  | [] => rfl
  | d :: ds => by rw [List.map_cons, C.views, views_dat ds]; rfl
theorem sees_own {Γ : Gm} {ds : List PyData} : Sees Γ (.val (.own (ds.map .dat))) (.d (.list ds)) := by
  show vw _ _ = _
  simp [vw, C.view, views_dat]
theorem sees_ownM {Γ : Gm} {α : Type} {g : α → PyData} {xs : List α} : Sees Γ (.val (.own (xs.map fun x => .dat (g x)))) (.d (.list (xs.map g))) := by
  show vw _ _ = _
  simp [vw, C.view, views_map]
theorem eqv_intsAll : ∀ (as bs : List Int), PyData.eqvAll (as.map .int) (bs.map .int) = decide (as = bs)
  | [], [] => by simp [PyData.eqvAll]
  | [], _ :: _ => by simp [PyData.eqvAll]
  | _ :: _, [] => by simp [PyData.eqvAll]
  | a :: as, b :: bs => by
    rw [List.map_cons, List.map_cons, PyData.eqvAll, eqv_intsAll as bs]
    simp only [PyData.eqv, List.cons.injEq]
    by_cases h1 : a = b <;> by_cases h2 : as = bs <;> simp [h1, h2]
theorem shaped_ints (as : List Int) : SeqAt.shaped (.list (as.map .int)) = true := by
  have h1 : ∀ as : List Int, PyData.canLayAll0 (as.map .int) = true := by
    intro as; induction as with
    | nil => rfl
    | cons a as ih => rw [List.map_cons, PyData.canLayAll0, ih]; rfl
  have h2 : ∀ as : List Int, PyData.depthAll (as.map .int) = 0 := PySem.W.depth_ints
  unfold SeqAt.shaped
  rw [PyData.canLay0, h1, PyData.depth, h2]
  rfl
theorem flat_all {p : Int → Bool} (rows : List Row) : (rows.map Row.ints).flatten.all p = rows.all fun r => r.ints.all p := by
  rw [List.all_flatten, List.all_map]; rfl
theorem wk_by {Γ Δ : Gm} (h : Wk Γ Δ := by exact .refl) : Wk Γ Δ := h
theorem len_sum : ∀ rows : List Row, (rows.map fun r => r.ints.length).sum = 7 * rows.length
  | [] => rfl
  | r :: rows => by rw [List.map_cons, List.sum_cons, len_sum rows, List.length_cons]; show 7 + _ = _; omega
theorem fz_val {Γ Γ3 : Gm} {d d' : PyData} {vs : List Nat} (e : d = d') (w : Wk (wipeG Γ vs) (wipeG Γ3 vs)) : ∃ Γ6, frz Γ (.val (.dat d)) = some (d', Γ6) ∧ Wk (wipeG Γ6 vs) (wipeG Γ3 vs) := by
  subst e; exact ⟨Γ, rfl, w⟩
theorem eqv_rng (as : List Int) (n : Nat) : PyData.eqv (.list (as.map .int)) (.list ((List.range n).map fun i : Nat => PyData.int i)) = decide (as = (List.range n).map fun i : Nat => (i : Int)) := by
  have e : ((List.range n).map fun i : Nat => PyData.int i) = ((List.range n).map fun i : Nat => (i : Int)).map PyData.int := by rw [List.map_map]; rfl
  rw [e, PyData.eqv, eqv_intsAll]
theorem toNat_len {α : Type} (xs : List α) : ((xs.length : Nat) : Int).toNat = xs.length := rfl
def sumAt (k : Nat) (rows : List Row) : Int := (rows.map fun r => r.ints.getD k 0).sum
def rankLt (a b : Row) : Bool := HT.lexLt (rank a) (rank b)
def tabOk (way : Int) (rows : List Row) : Bool :=
  decide (1 ≤ (rows.length : Int) ∧ (rows.length : Int) ≤ 12) && (decide (srtI (rows.map (·.team)) = (List.range rows.length).map fun i : Nat => (i : Int)) &&
  ((rows.all fun r => r.ints.all fun x => decide (0 ≤ x ∧ x ≤ 19800)) && ((rows.all fun r => decide (pts way r = r.points)) &&
  (!(decide (sumAt 1 rows ≠ sumAt 3 rows) || (decide (sumAt 2 rows % 2 = 1) || decide (sumAt 4 rows ≠ sumAt 5 rows))) && (rows.zip (rows.drop 1)).all fun p => rankLt p.1 p.2))))
def toInt : PyData → Int
  | .int i => i
  | _ => 0
def toRow (d : PyData) : Row := match (items d).map toInt with
  | [a, b, c, d, e, f, g] => ⟨a, b, c, d, e, f, g⟩
  | _ => ⟨0, 0, 0, 0, 0, 0, 0⟩
def isTab (way : Int) (d : PyData) : Bool := areRows 7 d && tabOk way ((items d).map toRow)
theorem toRow_enc (r : Row) : toRow (encR r) = r := by cases r; rfl
theorem isTab_enc (way : Int) (rows : List Row) : isTab way (encRs rows) = tabOk way rows := by
  rw [isTab, are_rows_enc, Bool.true_and]
  show tabOk way ((rows.map encR).map toRow) = _
  rw [List.map_map]
  congr 1
  conv => rhs; rw [← List.map_id rows]
  exact List.map_congr_left fun r _ => toRow_enc r
theorem ixRow (r : Row) : ∀ k : Nat, k < 7 → ixC (0 + (k : Int)) (.dat (encR r)) = some (.dat (.int (r.ints.getD k 0)))
  | 0, _ => rfl
  | 1, _ => rfl
  | 2, _ => rfl
  | 3, _ => rfl
  | 4, _ => rfl
  | 5, _ => rfl
  | 6, _ => rfl
  | k + 7, h => by omega
section
variable {P : Program} {w : World} {K : PySem.W.Frag} {mg : Str → Option Value} {base : Heap}
theorem room64 {k : Nat} {A : Around} (r : Room k A) : A.units + 64 < cLine := by have := r.un; omega
theorem room0 {k : Nat} {A : Around} (r : Room k A) : A.units < cLine := by have := r.un; omega
abbrev s_points_told : Stmt := top 15
theorem sc_points_told : FnScope ["way", "row"] ["way", "row"] (defScope s_points_told) := ⟨rfl, rfl, rfl, by decide +kernel, rfl, by decide +kernel, by decide +kernel⟩
abbrev okPts (t : Int × Row) : Prop := t.1.natAbs < 2 ^ 8 ∧ t.2.won.natAbs < 2 ^ 100
abbrev c_points_told : Ctr := Pu (Int × Row) okPts (fun t => [.dat (.int t.1), .dat (encR t.2)]) fun t => .dat (.int (pts t.1 t.2))
theorem ok_pts_st {st : Stmt} {x : Str} (hst : st = top 15 ∨ st = top 23) (sc : FnScope ["way", "row"] ["way", "row"] (defScope st)) {f : Addr} {fd : FuncData} (F : Fun K x x st f fd) : FnOk P w K mg base CX0 1 f fd ["way", "row"] (spG K c_points_told) := by
  rcases hst with rfl | rfl
  all_goals
    refine fn_pu (fun t => [some (.dat (.int t.1)), some (.dat (encR t.2))]) F sc (fun _ => rfl) (fun _ => rfl) fun cdv A0 outer s H E hr t ht => ?_
    refine WPss_one (WPs_ret (WPe_bin ?_))
    refine WPe_bin (WPe_name 0 rfl ⟨rfl, WPe_ix (WPe_name 1 rfl ⟨rfl, WPe_int ⟨1, _, rfl, rfl, .d (.int _), .d (.int _), _, rfl, rfl, od_mul (wide_mul ht.1 ht.2 (by decide) (by decide) (by decide)), rfl, ?_⟩⟩)⟩)
    refine WPe_if (WPt_cmp (WPe_name 0 rfl ⟨rfl, WPe_int ⟨.d (.int _), .d (.int 1), _, rfl, rfl, od_gt, fun e => ?_, fun e => ?_⟩⟩))
    · have e : 1 < t.1 := of_decide_eq_true e
      refine WPe_ix (WPe_name 1 rfl ⟨rfl, WPe_int ⟨2, _, rfl, rfl, .d (.int _), .d (.int _), _, rfl, rfl, od_add, _, _, rfl, ?_⟩⟩)
      show _ = _
      rw [pts, if_pos (show t.1 > 1 from e)]
    · have e : ¬ 1 < t.1 := of_decide_eq_false e
      refine WPe_int ⟨.d (.int _), .d (.int 0), _, rfl, rfl, od_add, _, _, rfl, ?_⟩
      show _ = _
      rw [pts, if_neg (show ¬ t.1 > 1 from e)]
abbrev s_is_table : Stmt := top 16
abbrev N_is_table : List Str := ["way", "thing", "sums", "row", "one", "other", "at"]
theorem sc_is_table : FnScope N_is_table ["way", "thing"] (defScope s_is_table) := ⟨rfl, rfl, rfl, by decide +kernel, rfl, by decide +kernel, by decide +kernel⟩
abbrev c_is_table : Ctr := Pu (Int × PyData) (fun t => (1 ≤ t.1 ∧ t.1 ≤ 3) ∧ smallRows t.2) (fun t => [.dat (.int t.1), .dat t.2]) fun t => .dat (.bool (isTab t.1 t.2))
set_option maxHeartbeats 0 in
theorem ok_is_table {f f1 f2 f3 : Addr} {fd d1 d2 d3 : FuncData} {tk tk2 : Tok} (F : Fun K "is_table" "is_table" s_is_table f fd) (B : Bl mg) (A1 : At P w K mg base "are_rows" 5 ["thing", "many"] c_are_rows f1 d1) (A2 : At P w K mg base "rank" 1 ["row"] c_rank f2 d2)
    (A3 : At P w K mg base "points_told" 1 ["way", "row"] c_points_told f3 d3) (m1 : mg "MOST_TEAMS" = some (.int 12 tk)) (m2 : mg "MOST_NUMBER" = some (.int 19800 tk2)) :
    FnOk P w K mg base CX0 6 f fd ["way", "thing"] (spG K c_is_table) := by
  refine fn_pu (fun t => [some (.dat (.int t.1)), some (.dat t.2), none, none, none, none, none]) F sc_is_table (fun _ => rfl) (fun _ => rfl) fun cdv A0 outer s H E hr t ht => ?_
  obtain ⟨way, d⟩ := t
  obtain ⟨⟨w1, w3⟩, sm⟩ := ht
  refine WPss_cons (WPs_if (WPt_w (WPw_or (WPt_not (WPt_val (WPe_callD A1.ok hr A1.mg A1.keep A1.bind (WPd_cons (WPe_name 1 rfl ⟨_, _, rfl, WPd_cons (WPe_int ⟨_, _, rfl, WPd_nil ?_⟩)⟩))))))))
  refine ⟨(d, 7), sm, rfl, _, rfl, fun e1 => ?_, fun e1 => ⟨fun _ => ?_, fun z => by cases z⟩⟩
  · have e1 : areRows 7 d = true := by simpa using e1
    obtain ⟨rows, rfl⟩ := rows_of_are e1
    clear e1 sm
    have ls : rows.length ≤ sizeLine ∨ 12 < (rows.length : Int) := by
      by_cases h : (rows.length : Int) ≤ 12
      · exact .inl (by have : 12 ≤ sizeLine := (by decide); omega)
      · exact .inr (by omega)
    show WPw _ _ _ _
    refine WPw_or1 (WPt_not (WPt_chain (WPe_int ⟨rfl, WPe_callB (WPa_cons (WPe_name 1 rfl ⟨rfl, WPa_nil ⟨[.s true _], _, ⟨rfl, trivial⟩, cd_len, rfl, .d (.int 1), .d (.int _), _, rfl, rfl, od_le, fun e2 => ?_, fun e2 => ?_⟩⟩)) B.len boot_len'⟩)))
    · refine WPe_globI ⟨.d (.int _), .d (.int 12), _, rfl, rfl, od_le, fun e3 => ?_, fun e3 => WPss_nil ?_⟩ m1
      · have e3 : ¬ ((List.map encR rows).length : Int) ≤ 12 := by simpa using e3
        rw [List.length_map] at e3
        refine WPss_one (WPs_ret (WPe_bl ⟨_, _, rfl, ?_⟩))
        show _ = C.dat (.bool (isTab way (encRs rows)))
        rw [isTab_enc, tabOk, decide_eq_false (fun z => e3 z.2)]; rfl
      have e3 : ((List.map encR rows).length : Int) ≤ 12 := by simpa using e3
      have e2 : 1 ≤ ((List.map encR rows).length : Int) := by simpa using e2
      rw [List.length_map] at e3 e2
      have ls : rows.length ≤ sizeLine := by
        have : 12 ≤ sizeLine := (by decide)
        omega
      have ee := decide_eq_true (And.intro e2 e3)
      refine WPss_cons (WPs_if (WPt_cmp (WPe_callB ?_ B.sorted boot_sorted')))
      refine WPa_cons (WPe_lcMap [("row", 3)] (WPi_tup (WPe_name 1 rfl ?_)) rfl sc_is_table.nd (blkOk_by (N := N_is_table) (sc := defScope s_is_table) (by decide +kernel)))
      refine ⟨rows.map encR, _, rfl, Row, rows, encR, fun r => .dat (.int r.team), rfl, ⟨ls, fun r hrm s H Ca cl fp => ?_⟩, ?_⟩
      · exact WPg_name 3 (fun s H Ca cl fp => WPe_ix (WPe_name 3 rfl ⟨rfl, WPe_int ⟨0, _, rfl, rfl, _, rfl, .refl⟩⟩)) sc_is_table.nd
      refine ⟨rfl, WPa_nil ⟨[_], _, ⟨seesL, trivial⟩, cd_sortedM, rfl, ?_⟩⟩
      refine WPe_listRg (WPe_callB (WPa_cons (WPe_name 1 rfl ⟨rfl, WPa_nil ⟨[.s true _], _, ⟨rfl, trivial⟩, cd_len, _, rfl, ⟨by rw [List.length_map]; omega, by rw [List.length_map]; omega⟩, ?_⟩⟩)) B.len boot_len') B.range B.list
      refine ⟨.d _, .d _, _, sees_own, sees_own, od_neD (room64 hr) (shaped_ints _) ?_, fun e4 => ?_, fun e4 => WPss_nil ?_⟩
      · rw [List.length_map]
        have := shaped_ints ((List.range rows.length).map fun i : Nat => (i : Int))
        rw [List.map_map] at this
        exact this
      · rw [toNat_len, List.length_map, eqv_rng] at e4
        have e4 : ¬ srtI (rows.map (·.team)) = _ := of_decide_eq_false (by simpa using e4)
        refine WPss_one (WPs_ret (WPe_bl ⟨_, _, rfl, ?_⟩))
        show _ = C.dat (.bool (isTab way (encRs rows)))
        rw [isTab_enc, tabOk, decide_eq_false e4]
        simp
      rw [toNat_len, List.length_map, eqv_rng] at e4
      have e4 : srtI (rows.map (·.team)) = _ := of_decide_eq_true (by simpa using e4)
      have e4 := decide_eq_true e4
      refine WPss_weak (Δ := [some (.dat (.int way)), some (.dat (encRs rows)), none, none, none, none, none]) wk_by ?_
      refine WPss_cons (WPs_if (WPt_not (WPt_val (WPe_callB ?_ B.all boot_all'))))
      refine WPa_cons (WPe_lcMap2 [("row", 3), ("one", 4)] [4] (WPi_tup (WPe_name 1 rfl ?_)) rfl sc_is_table.nd (blkOk_by (N := N_is_table) (sc := defScope s_is_table) (by decide +kernel)))
      refine ⟨rows.map encR, _, rfl, Row, Int, rows, encR, Row.ints, .int, fun r x => .bool (decide (0 ≤ x ∧ x ≤ 19800)), rfl, ⟨?_, fun r hrm s H Ca cl fp => ?_⟩, ?_⟩
      · rw [len_sum]; have : 84 ≤ sizeLine := (by decide); omega
      · refine WPg_name 3 (fun s H Ca cl fp => WPi_tup (WPe_name 3 rfl ⟨_, _, rfl, rfl, .refl, fun x hx s H Ca cl fp => ?_⟩)) sc_is_table.nd
        refine WPg_name 4 (fun s H Ca cl fp => ?_) sc_is_table.nd
        refine WPe_chain (WPe_int ⟨rfl, WPe_name 4 rfl ⟨rfl, .d (.int 0), .d (.int x), _, rfl, rfl, od_le, fun e => ?_, fun e => ?_⟩⟩)
        · refine WPe_globI ⟨.d (.int x), .d (.int 19800), _, rfl, rfl, od_le, fz_val ?_ .refl⟩ m2
          have e : 0 ≤ x := of_decide_eq_true e
          simp [e]
        · refine fz_val ?_ .refl
          have e : ¬ 0 ≤ x := of_decide_eq_false e
          simp [e]
      rw [show (List.map (fun x => List.map ((fun (r : Row) (x : Int) => PyData.bool (decide (0 ≤ x ∧ x ≤ 19800))) x) x.ints) rows).flatten = ((rows.map Row.ints).flatten.map fun x => PyData.bool (decide (0 ≤ x ∧ x ≤ 19800))) from by rw [List.map_flatten, List.map_map]; rfl]
      refine ⟨rfl, WPa_nil ⟨[_], _, ⟨seesLD, trivial⟩, cd_allM rfl, _, rfl, fun e5 => ?_, fun e5 => WPss_nil ?_⟩⟩
      · have e5 : (rows.all fun r => r.ints.all fun x => decide (0 ≤ x ∧ x ≤ 19800)) = false := by
          rw [← flat_all]; simpa using e5
        refine WPss_one (WPs_ret (WPe_bl ⟨_, _, rfl, ?_⟩))
        show _ = C.dat (.bool (isTab way (encRs rows)))
        rw [isTab_enc, tabOk, e5]
        simp
      have e5 : (rows.all fun r => r.ints.all fun x => decide (0 ≤ x ∧ x ≤ 19800)) = true := by
        rw [← flat_all]; simpa using e5
      have b5 : ∀ r ∈ rows, ∀ x ∈ r.ints, 0 ≤ x ∧ x ≤ 19800 := fun r hr x hx => of_decide_eq_true (List.all_eq_true.mp (List.all_eq_true.mp e5 r hr) x hx)
      refine WPss_weak (Δ := [some (.dat (.int way)), some (.dat (encRs rows)), none, none, none, none, none]) wk_by ?_
      refine WPss_cons (WPs_if (WPt_not (WPt_val (WPe_callB ?_ B.all boot_all'))))
      refine WPa_cons (WPe_lcMap [("row", 3)] (WPi_tup (WPe_name 1 rfl ?_)) rfl sc_is_table.nd (blkOk_by (N := N_is_table) (sc := defScope s_is_table) (by decide +kernel)))
      refine ⟨rows.map encR, _, rfl, Row, rows, encR, fun r => .dat (.bool (decide (pts way r = r.points))), rfl, ⟨ls, fun r hrm s H Ca cl fp => ?_⟩, ?_⟩
      · refine WPg_name 3 (fun s H Ca cl fp => WPe_cmp (WPe_callD A3.ok (hr.mono (by decide)) A3.mg A3.keep A3.bind (WPd_cons (WPe_name 0 rfl ⟨_, _, rfl, WPd_cons (WPe_name 3 rfl ⟨_, _, rfl, WPd_nil ?_⟩)⟩)))) sc_is_table.nd
        have bw := b5 r hrm r.won (by simp [Row.ints])
        refine ⟨(way, r), ⟨by show way.natAbs < _; have : way ≤ 3 := w3; have : 1 ≤ way := w1; omega, by show r.won.natAbs < _; omega⟩, rfl, rfl, WPe_ix (WPe_name 3 rfl ⟨rfl, WPe_int ⟨6, _, rfl, rfl, .d (.int _), .d (.int _), _, rfl, rfl, od_eqI, _, rfl, .refl⟩⟩)⟩
      refine ⟨rfl, WPa_nil ⟨[_], _, ⟨seesL, trivial⟩, cd_allM rfl, _, rfl, fun e6 => ?_, fun e6 => WPss_nil ?_⟩⟩
      · have e6 : (rows.all fun r => decide (pts way r = r.points)) = false := by simpa using e6
        refine WPss_one (WPs_ret (WPe_bl ⟨_, _, rfl, ?_⟩))
        show _ = C.dat (.bool (isTab way (encRs rows)))
        rw [isTab_enc, tabOk, e6]
        simp
      have e6 : (rows.all fun r => decide (pts way r = r.points)) = true := by simpa using e6
      refine WPss_weak (Δ := [some (.dat (.int way)), some (.dat (encRs rows)), none, none, none, none, none]) wk_by ?_
      refine WPss_cons (WPs_setLcMap 2 [("at", 6)] (WPi_range1 (WPe_int ⟨_, rfl, (by decide), ?_⟩) B.range) rfl sc_is_table.nd (blkOk_by (N := N_is_table) (sc := defScope s_is_table) (by decide +kernel)) rfl)
      refine ⟨Nat, List.range 7, fun i => .int (0 + i), fun i => .dat (.int (sumAt i rows)), rfl, ⟨(by decide), fun i hi s H Ca cl fp => ?_⟩, rfl, ?_⟩
      · refine WPg_name 6 (fun s H Ca cl fp => WPe_callB ?_ B.sum boot_sum') sc_is_table.nd
        refine WPa_cons (WPe_lcMap [("row", 3)] (WPi_tup (WPe_name 1 rfl ?_)) rfl sc_is_table.nd (blkOk_by (N := N_is_table) (sc := { kind := .function, names := [(".0", .local), ("at", .cell), ("sum", .globalImplicit), ("thing", .cell)], isGenerator := false, isCoroutine := false }) (by decide +kernel)))
        refine ⟨rows.map encR, _, rfl, Row, rows, encR, fun r => .dat (.int (r.ints.getD i 0)), rfl, ⟨ls, fun r hrm s H Ca cl fp => ?_⟩, ?_⟩
        · refine WPg_name 3 (fun s H Ca cl fp => WPe_ix (WPe_name 3 rfl ⟨rfl, WPe_name 6 rfl ⟨_, .val (.dat (.int (r.ints.getD i 0))), rfl, ?_, _, rfl, .refl⟩⟩)) sc_is_table.nd
          show (ixC (0 + (i : Int)) (.dat (encR r))).map R.val = _
          rw [ixRow r i (List.mem_range.mp hi)]; rfl
        · exact ⟨rfl, WPa_nil ⟨[_], _, ⟨seesL, trivial⟩, cd_sumM rfl, _, rfl, .refl⟩⟩
      refine WPss_weak (Δ := [some (.dat (.int way)), some (.dat (encRs rows)), some (.own ((List.range 7).map fun i => C.dat (.int (sumAt i rows)))), none, none, none, none]) wk_by ?_
      have bad : ∀ b : Bool, b = true → (decide (sumAt 1 rows ≠ sumAt 3 rows) || (decide (sumAt 2 rows % 2 = 1) || decide (sumAt 4 rows ≠ sumAt 5 rows))) = b → isTab way (encRs rows) = false := fun b e1 e2 => by
        rw [isTab_enc, tabOk, e2, e1]; simp
      refine WPss_cons (WPs_if (WPt_w (WPw_or (WPt_cmp (WPe_ix (WPe_name 2 rfl ⟨rfl, WPe_int ⟨1, _, rfl, rfl, rfl, WPe_ix (WPe_name 2 rfl ⟨rfl, WPe_int ⟨3, _, rfl, rfl, .d (.int (sumAt 1 rows)), .d (.int (sumAt 3 rows)), _, rfl, rfl, od_neI, fun e7 => ?go7, fun e7 => ⟨fun _ => ?ret7, fun z => by cases z⟩⟩⟩)⟩⟩))))))
      case ret7 =>
        have e7 : ¬ sumAt 1 rows = sumAt 3 rows := of_decide_eq_false (by simpa using e7)
        refine WPss_one (WPs_ret (WPe_bl ⟨_, _, rfl, ?_⟩))
        show _ = C.dat (.bool (isTab way (encRs rows)))
        rw [bad true rfl (by simp [e7])]
      have e7 : sumAt 1 rows = sumAt 3 rows := of_decide_eq_true (by simpa using e7)
      refine WPw_or (WPt_cmp (WPe_bin (WPe_ix (WPe_name 2 rfl ⟨rfl, WPe_int ⟨2, _, rfl, rfl, rfl, WPe_int ⟨.d (.int (sumAt 2 rows)), .d (.int 2), _, rfl, rfl, od_mod (by decide), rfl, WPe_int ⟨.d (.int (sumAt 2 rows % 2)), .d (.int 1), _, rfl, rfl, od_eqI, fun e8 => ?go8, fun e8 => ⟨fun _ => ?ret8, fun z => by cases z⟩⟩⟩⟩⟩))))
      case ret8 =>
        have e8 : sumAt 2 rows % 2 = 1 := of_decide_eq_true e8
        refine WPss_one (WPs_ret (WPe_bl ⟨_, _, rfl, ?_⟩))
        show _ = C.dat (.bool (isTab way (encRs rows)))
        rw [bad true rfl (by simp [e8])]
      have e8 : ¬ sumAt 2 rows % 2 = 1 := of_decide_eq_false e8
      refine WPw_or1 (WPt_cmp (WPe_ix (WPe_name 2 rfl ⟨rfl, WPe_int ⟨4, _, rfl, rfl, rfl, WPe_ix (WPe_name 2 rfl ⟨rfl, WPe_int ⟨5, _, rfl, rfl, .d (.int (sumAt 4 rows)), .d (.int (sumAt 5 rows)), _, rfl, rfl, od_neI, fun e9 => ?_, fun e9 => WPss_nil ?_⟩⟩)⟩⟩)))
      · have e9 : ¬ sumAt 4 rows = sumAt 5 rows := by simpa using e9
        refine WPss_one (WPs_ret (WPe_bl ⟨_, _, rfl, ?_⟩))
        show _ = C.dat (.bool (isTab way (encRs rows)))
        rw [bad true rfl (by simp [e9])]
      have e9 : sumAt 4 rows = sumAt 5 rows := by simpa using e9
      refine WPss_one (WPs_ret (WPe_callB ?_ B.all boot_all'))
      refine WPa_cons (WPe_lcMap [("one", 4), ("other", 5)] (WPi_zip (WPd_cons (WPe_name 1 rfl ⟨_, _, rfl, WPd_cons (WPe_slice (WPe_name 1 rfl ⟨rfl, WPo_some (WPe_int ⟨1, rfl, WPo_none ⟨_, rfl, _, _, rfl, WPd_nil ⟨_, _, .inr rfl, ?_⟩⟩⟩)⟩))⟩)) B.zip) rfl sc_is_table.nd (blkOk_by (N := N_is_table) (sc := defScope s_is_table) (by decide +kernel)))
      refine ⟨Row × Row, rows.zip (rows.drop 1), fun p => .tuple [encR p.1, encR p.2], fun p => .dat (.bool (rankLt p.1 p.2)), ?_, ⟨?_, fun p hp s H Ca cl fp => ?_⟩, ?_⟩
      · rw [cut_drop1, ← List.map_drop, List.zip_map, List.map_map]; rfl
      · rw [List.length_zip]; omega
      · refine WPg_tup (WPgs_cons (WPg_name 4 (WPgs_cons (WPg_name 5 (WPgs_nil fun s H Ca cl fp => ?_) sc_is_table.nd)) sc_is_table.nd)) rfl
        refine WPe_cmp (WPe_callD A2.ok (hr.mono (by decide)) A2.mg A2.keep A2.bind (WPd_cons (WPe_name 4 rfl ⟨_, _, rfl, WPd_nil ⟨p.1, trivial, rfl, rfl, ?_⟩⟩)))
        refine WPe_callD A2.ok (hr.mono (by decide)) A2.mg A2.keep A2.bind (WPd_cons (WPe_name 5 rfl ⟨_, _, rfl, WPd_nil ⟨p.2, trivial, rfl, ?_⟩⟩))
        exact ⟨.s true ((rank p.1).map .int), .s true ((rank p.2).map .int), _, rfl, rfl, od_ltT (room0 hr), _, rfl, .refl⟩
      · refine ⟨rfl, WPa_nil ⟨[_], _, ⟨seesL, trivial⟩, cd_allM rfl, _, _, rfl, ?_⟩⟩
        show _ = C.dat (.bool (isTab way (encRs rows)))
        rw [isTab_enc, tabOk, ee, e4, e5, e6]
        simp [e7, e8, e9]
    · refine ⟨fun _ => ?_, fun z => by cases z⟩
      refine WPss_one (WPs_ret (WPe_bl ⟨_, _, rfl, ?_⟩))
      show _ = C.dat (.bool (isTab way (encRs rows)))
      have e2 : ¬ 1 ≤ ((List.map encR rows).length : Int) := by simpa using e2
      rw [List.length_map] at e2
      rw [isTab_enc, tabOk, decide_eq_false (fun z => e2 z.1)]; rfl
  · have e1 : areRows 7 d = false := by simpa using e1
    refine WPss_one (WPs_ret (WPe_bl ⟨_, _, rfl, ?_⟩))
    show _ = _
    rw [isTab, e1]; rfl
end
end K65
namespace K65
open PySem PySem.Spec PyProof.Rows L2 G
/-- a result -/
structure Mt where
  a : Nat
  b : Nat
  x : Int
  y : Int
def encM (m : Mt) : PyData := .tuple [.int m.a, .int m.b, .int m.x, .int m.y]
def gp (way : Int) (m : Mt) : Int × Int := if m.x = m.y then (if way = 1 then (0, 0) else (1, 1)) else if m.y < m.x then (way, 0) else (0, way)
def enc2 (p : Int × Int) : PyData := .tuple [.int p.1, .int p.2]
section
variable {P : Program} {w : World} {K : PySem.W.Frag} {mg : Str → Option Value} {base : Heap}
theorem seesP {Γ : Gm} {ds : List PyData} (i : Nat) (h : Γ[i]? = some (some (.own (ds.map .dat)))) : Sees Γ (.pth i []) (.s false ds) := by
  show iv _ _ = _
  simp only [iv, h, C.at, C.items, dats_dat]
  rfl
theorem wk_eq {Γ Δ : Gm} (h : Γ = Δ) : Wk Γ Δ := h ▸ .refl
theorem wk_to {Γ Δ : Gm} (Θ : Gm) (h : Γ = Θ) (w : Wk Θ Δ) : Wk Γ Δ := h ▸ w
theorem wk_none {Γ Δ : Gm} (i : Nat) (w : Wk Γ Δ) : Wk Γ (Δ.set i none) := by
  refine ⟨by rw [List.length_set]; exact w.1, fun j c e => ?_⟩
  by_cases h : i = j
  · subst h
    rw [List.getElem?_set] at e
    simp only [if_true] at e
    split at e <;> cases e
  · rw [List.getElem?_set_ne h] at e; exact w.2 j c e
abbrev s_got_points : Stmt := top 6
theorem sc_got_points : FnScope ["way", "match", "a", "b", "x", "y"] ["way", "match"] (defScope s_got_points) := ⟨rfl, rfl, rfl, by decide +kernel, rfl, by decide +kernel, by decide +kernel⟩
abbrev c_got_points : Ctr := Pu (Int × Mt) (fun _ => True) (fun t => [.dat (.int t.1), .dat (encM t.2)]) fun t => .dat (enc2 (gp t.1 t.2))
theorem ok_got_points {f : Addr} {fd : FuncData} (F : Fun K "got_points" "got_points" s_got_points f fd) : FnOk P w K mg base CX0 1 f fd ["way", "match"] (spG K c_got_points) := by
  refine fn_pu (fun t => [some (.dat (.int t.1)), some (.dat (encM t.2)), none, none, none, none]) F sc_got_points (fun _ => rfl) (fun _ => rfl) fun cdv A0 outer s H E hr t _ => ?_
  obtain ⟨way, m⟩ := t
  have N := sc_got_points.nd
  refine WPss_cons (WPs_asg (WPe_name 1 rfl ⟨_, _, rfl, WPg_tup (WPgs_cons (WPg_name 2 (WPgs_cons (WPg_name 3 (WPgs_cons (WPg_name 4 (WPgs_cons (WPg_name 5 (WPgs_nil ?_) N)) N)) N)) N)) rfl⟩))
  refine WPss_cons (WPs_if (WPt_cmp (WPe_name 4 rfl ⟨rfl, WPe_name 5 rfl ⟨.d (.int m.x), .d (.int m.y), _, rfl, rfl, od_eqI, fun e => ?_, fun e => WPss_nil ?_⟩⟩)))
  · have e : m.x = m.y := of_decide_eq_true e
    refine WPss_one (WPs_ret (WPe_if (WPt_cmp (WPe_name 0 rfl ⟨rfl, WPe_int ⟨.d (.int way), .d (.int 1), _, rfl, rfl, od_eqI, fun e2 => ?_, fun e2 => ?_⟩⟩))))
    · have e2 : way = 1 := of_decide_eq_true e2
      refine WPe_tup (WPd_cons (WPe_int ⟨_, _, rfl, WPd_cons (WPe_int ⟨_, _, rfl, WPd_nil ⟨(by show 2 ≤ sizeLine; decide), _, _, rfl, ?_⟩⟩)⟩))
      show _ = C.dat (enc2 (gp way m)); rw [gp, if_pos e, if_pos e2]; rfl
    · have e2 : ¬ way = 1 := of_decide_eq_false e2
      refine WPe_tup (WPd_cons (WPe_int ⟨_, _, rfl, WPd_cons (WPe_int ⟨_, _, rfl, WPd_nil ⟨(by show 2 ≤ sizeLine; decide), _, _, rfl, ?_⟩⟩)⟩))
      show _ = C.dat (enc2 (gp way m)); rw [gp, if_pos e, if_neg e2]; rfl
  · have e : ¬ m.x = m.y := of_decide_eq_false e
    refine WPss_one (WPs_ret (WPe_if (WPt_cmp (WPe_name 4 rfl ⟨rfl, WPe_name 5 rfl ⟨.d (.int m.x), .d (.int m.y), _, rfl, rfl, od_gt, fun e2 => ?_, fun e2 => ?_⟩⟩))))
    · have e2 : m.y < m.x := of_decide_eq_true e2
      refine WPe_tup (WPd_cons (WPe_name 0 rfl ⟨_, _, rfl, WPd_cons (WPe_int ⟨_, _, rfl, WPd_nil ⟨(by show 2 ≤ sizeLine; decide), _, _, rfl, ?_⟩⟩)⟩))
      show _ = C.dat (enc2 (gp way m)); rw [gp, if_neg e, if_pos e2]; rfl
    · have e2 : ¬ m.y < m.x := of_decide_eq_false e2
      refine WPe_tup (WPd_cons (WPe_int ⟨_, _, rfl, WPd_cons (WPe_name 0 rfl ⟨_, _, rfl, WPd_nil ⟨(by show 2 ≤ sizeLine; decide), _, _, rfl, ?_⟩⟩)⟩))
      show _ = C.dat (enc2 (gp way m)); rw [gp, if_neg e, if_neg e2]; rfl
/-- counted at a place -/
def bump (l : List Int) (i : Nat) (d : Int) : List Int := l.set i (l.getD i 0 + d)
theorem bump_len (l : List Int) (i : Nat) (d : Int) : (bump l i d).length = l.length := by simp [bump]
def pStep (way : Int) (l : List Int) (m : Mt) : List Int := bump (bump l m.a (gp way m).1) m.b (gp way m).2
def pBy (way : Int) (n : Nat) (ms : List Mt) : List Int := ms.foldl (pStep way) (List.replicate n 0)
theorem foldl_len {α : Type} {f : List Int → α → List Int} (h : ∀ l a, (f l a).length = l.length) : ∀ (ms : List α) (l : List Int), (ms.foldl f l).length = l.length
  | [], _ => rfl
  | m :: ms, l => by rw [List.foldl_cons, foldl_len h ms, h]
theorem pBy_len (way : Int) (n : Nat) (ms : List Mt) : (pBy way n ms).length = n := by
  rw [pBy, foldl_len (fun l m => by rw [pStep, bump_len, bump_len]), List.length_replicate]
theorem foldl_take {α β : Type} (f : β → α → β) (b : β) {ms : List α} {i : Nat} {m : α} (e : ms[i]? = some m) : (ms.take (i + 1)).foldl f b = f ((ms.take i).foldl f b) m := by
  rw [List.take_succ, e]; simp
theorem ixN_ok {n i : Nat} (h : i < n) : ixN n (i : Int) = some i := by
  unfold ixN
  have h2 : (0 : Int) ≤ (i : Int) := by omega
  simp [h, h2]
/-- a list of ints of the frame -/
abbrev lI (l : List Int) : C := .own ((l.map PyData.int).map .dat)
theorem lI_at {l : List Int} {i : Nat} (h : i < l.length) : ((l.map PyData.int).map C.dat)[i]? = some (.dat (.int (l.getD i 0))) := by
  simp [List.getElem?_map, List.getElem?_eq_getElem h, List.getD]
theorem lI_set {l : List Int} {i : Nat} {d : Int} : ((l.map PyData.int).map C.dat).set i (.dat (.int d)) = ((l.set i d).map PyData.int).map C.dat := by
  simp [List.map_set]
abbrev s_points_by : Stmt := top 7
theorem sc_points_by : FnScope ["way", "many", "results", "found", "match", "one", "other"] ["way", "many", "results"] (defScope s_points_by) := ⟨rfl, rfl, rfl, by decide +kernel, rfl, by decide +kernel, by decide +kernel⟩
structure TB where
  way : Int
  n : Nat
  ms : List Mt
def okB (t : TB) : Prop := t.n ≤ 1000 ∧ t.ms.length ≤ 1000 ∧ ∀ m ∈ t.ms, m.a < t.n ∧ m.b < t.n
abbrev c_points_by : Ctr := Pu TB okB (fun t => [.dat (.int t.way), .dat (.int t.n), .dat (.tuple (t.ms.map encM))]) fun t => .dat (.tuple ((pBy t.way t.n t.ms).map .int))
theorem rep1 (n : Nat) : (List.replicate n [PyData.int 0]).flatten = (List.replicate n (0 : Int)).map .int := by
  induction n with
  | zero => rfl
  | succ n ih => rw [List.replicate_succ, List.flatten_cons, ih, List.replicate_succ]; rfl
theorem ok_points_by {f f1 : Addr} {fd d1 : FuncData} (F : Fun K "points_by" "points_by" s_points_by f fd) (B : Bl mg) (A1 : At P w K mg base "got_points" 1 ["way", "match"] c_got_points f1 d1) : FnOk P w K mg base CX0 2 f fd ["way", "many", "results"] (spG K c_points_by) := by
  refine fn_pu (fun t => [some (.dat (.int t.way)), some (.dat (.int t.n)), some (.dat (.tuple (t.ms.map encM))), none, none, none, none]) F sc_points_by (fun _ => rfl) (fun _ => rfl) fun cdv A0 outer s H E hr t ht => ?_
  obtain ⟨way, n, ms⟩ := t
  obtain ⟨h1, h2, h3⟩ := ht
  have N := sc_points_by.nd
  have hz : n ≤ sizeLine ∧ ms.length ≤ sizeLine := by
    have : 1000 ≤ sizeLine := (by decide)
    have : n ≤ 1000 := h1
    have : ms.length ≤ 1000 := h2
    omega
  have hn : n ≤ 1000 := h1
  refine WPss_cons (WPs_set 3 (WPe_bin (WPe_lst (WPd_cons (WPe_int ⟨_, _, rfl, WPd_nil ⟨(by show 1 ≤ sizeLine; decide), rfl, WPe_name 1 rfl ⟨.s false [.int 0], .d (.int n), _, rfl, rfl, od_repL (by omega) (by omega) (by show 1 * n ≤ _; omega), _, _, rfl, rfl, ?_⟩⟩⟩)))) N)
  refine WPss_weak (Δ := [some (.dat (.int way)), some (.dat (.int n)), some (.dat (.tuple (ms.map encM))), some (lI (List.replicate n 0)), none, none, none]) (wk_eq ?_) ?_
  · show [_, _, _, some (C.own ((List.replicate n [PyData.int 0]).flatten.map .dat)), _, _, _] = _
    rw [rep1]
  refine WPss_cons (WPs_for .never rfl (WPi_tup (WPe_name 2 rfl ⟨_, _, rfl, fun i => [some (.dat (.int way)), some (.dat (.int n)), some (.dat (.tuple (ms.map encM))), some (lI ((ms.take i).foldl (pStep way) (List.replicate n 0))), none, none, none], .refl, fun i d ed => ?_, ?_⟩)))
  · rw [List.getElem?_map] at ed
    obtain ⟨m, em, rfl⟩ := Option.map_eq_some_iff.mp ed
    obtain ⟨ha, hb⟩ := h3 m (List.mem_of_getElem? em)
    have ha : m.a < n := ha
    have hb : m.b < n := hb
    dsimp only
    rw [foldl_take _ _ em]
    generalize hl : (ms.take i).foldl (pStep way) (List.replicate n 0) = l
    have ll : l.length = n := by rw [← hl, foldl_len (fun l m => by rw [pStep, bump_len, bump_len]), List.length_replicate]
    refine WPg_name 4 ?_ N
    refine WPss_cons (WPs_asg (WPe_callD A1.ok (hr.mono (by decide)) A1.mg A1.keep A1.bind (WPd_cons (WPe_name 0 rfl ⟨_, _, rfl, WPd_cons (WPe_name 4 rfl ⟨_, _, rfl, WPd_nil ⟨(way, m), trivial, rfl, ?_⟩⟩)⟩))))
    refine ⟨_, _, rfl, WPg_tup (WPgs_cons (WPg_name 5 (WPgs_cons (WPg_name 6 (WPgs_nil ?_) N)) N)) rfl⟩
    refine WPss_cons (WPs_augS (WPe_name 3 rfl ⟨rfl, 3, [], rfl, WPe_ix (WPe_name 4 rfl ⟨rfl, WPe_int ⟨0, _, rfl, rfl, m.a, _, m.a, _, rfl, rfl, ixN_ok (by simpa [ll] using ha), lI_at (by rw [ll]; exact ha), WPe_name 5 rfl ⟨.int (gp way m).1, _, _, rfl, od_iadd, rfl, rfl, ?_⟩⟩⟩)⟩))
    refine WPss_weak (Δ := [some (.dat (.int way)), some (.dat (.int n)), some (.dat (.tuple (ms.map encM))), some (lI (bump l m.a (gp way m).1)), some (.dat (encM m)), some (.dat (.int (gp way m).1)), some (.dat (.int (gp way m).2))]) (wk_eq ?_) ?_
    · show [_, _, _, some (C.own (((l.map PyData.int).map C.dat).set m.a _)), _, _, _] = _
      rw [lI_set]; rfl
    have ll2 : (bump l m.a (gp way m).1).length = n := by rw [bump_len, ll]
    refine WPss_one (WPs_augS (WPe_name 3 rfl ⟨rfl, 3, [], rfl, WPe_ix (WPe_name 4 rfl ⟨rfl, WPe_int ⟨1, _, rfl, rfl, m.b, _, m.b, _, rfl, rfl, ixN_ok (by simpa [ll2] using hb), lI_at (by rw [ll2]; exact hb), WPe_name 6 rfl ⟨.int (gp way m).2, _, _, rfl, od_iadd, rfl, rfl, ?_⟩⟩⟩)⟩))
    refine wk_to [some (.dat (.int way)), some (.dat (.int n)), some (.dat (.tuple (ms.map encM))), some (lI (pStep way l m)), some (.dat (encM m)), some (.dat (.int (gp way m).1)), some (.dat (.int (gp way m).2))] ?_ (wk_none 4 (wk_none 5 (wk_none 6 .refl)))
    show [_, _, _, some (C.own ((((bump l m.a (gp way m).1).map PyData.int).map C.dat).set m.b _)), _, _, _] = _
    rw [lI_set]; rfl
  · dsimp only
    rw [List.length_map, List.take_length]
    refine WPss_one (WPs_ret (WPe_callTy (WPa_cons (WPe_name 3 rfl ⟨rfl, WPa_nil ⟨[.s false ((pBy way n ms).map .int)], _, ⟨seesP 3 rfl, trivial⟩, cd_tuple, _, _, rfl, rfl⟩⟩)) B.tuple boot_tuple'))
end
end K65
namespace K65
open PySem PySem.Spec PyProof.Rows L2 G
theorem frzP {Γ : Gm} {ds : List PyData} (i : Nat) (h : Γ[i]? = some (some (.own (ds.map .dat)))) : frz Γ (.pth i []) = some (.list ds, Γ.set i (some (.dat (.list ds)))) := by
  simp only [frz, h, C.view, views_dat]; rfl
theorem frzV {Γ : Gm} {ds : List PyData} : frz Γ (.val (.own (ds.map .dat))) = some (.list ds, Γ) := by
  simp only [frz, C.view, views_dat]; rfl
theorem frzVM {Γ : Gm} {α : Type} {g : α → PyData} {xs : List α} : frz Γ (.val (.own (xs.map fun x => .dat (g x)))) = some (.list (xs.map g), Γ) := by
  simp only [frz, C.view, views_map]; rfl
theorem views_lI : ∀ ls : List (List Int), C.views (ls.map lI) = some (ls.map fun l => .list (l.map .int))
  | [] => rfl
  | l :: ls => by
    rw [List.map_cons, C.views, views_lI ls]
    simp only [C.view, views_dat]; rfl
theorem frzPL {Γ : Gm} {ls : List (List Int)} (i : Nat) (h : Γ[i]? = some (some (.own (ls.map lI)))) : frz Γ (.pth i []) = some (.list (ls.map fun l => .list (l.map .int)), Γ.set i (some (.dat (.list (ls.map fun l => .list (l.map .int)))))) := by
  simp only [frz, h, C.view, views_lI]; rfl
def gStep (p : List Int × List Int) (m : Mt) : List Int × List Int := (bump (bump p.1 m.a m.x) m.b m.y, bump (bump p.2 m.a m.y) m.b m.x)
def gBy (n : Nat) (ms : List Mt) : List Int × List Int := ms.foldl gStep (List.replicate n 0, List.replicate n 0)
theorem gStep_len {p : List Int × List Int} {m : Mt} {n : Nat} (h : p.1.length = n ∧ p.2.length = n) : (gStep p m).1.length = n ∧ (gStep p m).2.length = n := by
  simp only [gStep, bump_len]; exact h
theorem gFold_len {n : Nat} : ∀ (ms : List Mt) (p : List Int × List Int), p.1.length = n ∧ p.2.length = n → (ms.foldl gStep p).1.length = n ∧ (ms.foldl gStep p).2.length = n
  | [], _, h => h
  | m :: ms, p, h => gFold_len ms _ (gStep_len h)
def encGoals (p : List Int × List Int) : PyData := .tuple (zipD (p.1.map .int) (p.2.map .int))
section
variable {P : Program} {w : World} {K : PySem.W.Frag} {mg : Str → Option Value} {base : Heap}
abbrev s_goals_by : Stmt := top 8
theorem sc_goals_by : FnScope ["many", "results", "shot", "let", "a", "b", "x", "y"] ["many", "results"] (defScope s_goals_by) := ⟨rfl, rfl, rfl, by decide +kernel, rfl, by decide +kernel, by decide +kernel⟩
abbrev c_goals_by : Ctr := Pu TB okB (fun t => [.dat (.int t.n), .dat (.tuple (t.ms.map encM))]) fun t => .dat (encGoals (gBy t.n t.ms))
theorem nat_sz {n : Nat} (h : n ≤ 1000) : n ≤ sizeLine := Nat.le_trans h (by decide)
set_option maxHeartbeats 0 in
theorem ok_goals_by {f : Addr} {fd : FuncData} (F : Fun K "goals_by" "goals_by" s_goals_by f fd) (B : Bl mg) : FnOk P w K mg base CX0 1 f fd ["many", "results"] (spG K c_goals_by) := by
  refine fn_pu (fun t => [some (.dat (.int t.n)), some (.dat (.tuple (t.ms.map encM))), none, none, none, none, none, none]) F sc_goals_by (fun _ => rfl) (fun _ => rfl) fun cdv A0 outer s H E hr t ht => ?_
  obtain ⟨way, n, ms⟩ := t
  obtain ⟨h1, h2, h3⟩ := ht
  have N := sc_goals_by.nd
  have hn : n ≤ 1000 := h1
  have hz := nat_sz hn
  refine WPss_cons (WPs_par 2 3 (WPa_cons (WPe_bin (WPe_lst (WPd_cons (WPe_int ⟨_, _, rfl, WPd_nil ⟨(by show 1 ≤ sizeLine; decide), rfl, WPe_name 0 rfl ⟨.s false [.int 0], .d (.int n), _, rfl, rfl, od_repL (by omega) (by omega) (by show 1 * n ≤ _; omega), rfl, WPa_cons ?_⟩⟩⟩)))) ) rfl N)
  refine WPe_bin (WPe_lst (WPd_cons (WPe_int ⟨_, _, rfl, WPd_nil ⟨(by show 1 ≤ sizeLine; decide), rfl, WPe_name 0 rfl ⟨.s false [.int 0], .d (.int n), _, rfl, rfl, od_repL (by omega) (by omega) (by show 1 * n ≤ _; omega), rfl, WPa_nil ⟨_, _, rfl, rfl, rfl, ?_⟩⟩⟩⟩)))
  refine WPss_weak (Δ := [some (.dat (.int n)), some (.dat (.tuple (ms.map encM))), some (lI (List.replicate n 0)), some (lI (List.replicate n 0)), none, none, none, none]) (wk_eq ?_) ?_
  · show [_, _, some (C.own ((List.replicate n [PyData.int 0]).flatten.map .dat)), some (C.own ((List.replicate n [PyData.int 0]).flatten.map .dat)), _, _, _, _] = _
    rw [rep1]
  refine WPss_cons (WPs_for .never rfl (WPi_tup (WPe_name 1 rfl ⟨_, _, rfl, fun i => [some (.dat (.int n)), some (.dat (.tuple (ms.map encM))), some (lI ((ms.take i).foldl gStep (List.replicate n 0, List.replicate n 0)).1), some (lI ((ms.take i).foldl gStep (List.replicate n 0, List.replicate n 0)).2), none, none, none, none], .refl, fun i d ed => ?_, ?_⟩)))
  · rw [List.getElem?_map] at ed
    obtain ⟨m, em, rfl⟩ := Option.map_eq_some_iff.mp ed
    obtain ⟨ha, hb⟩ := h3 m (List.mem_of_getElem? em)
    have ha : m.a < n := ha
    have hb : m.b < n := hb
    dsimp only
    rw [foldl_take _ _ em]
    have ll := gFold_len (n := n) (ms.take i) (List.replicate n 0, List.replicate n 0) ⟨List.length_replicate .., List.length_replicate ..⟩
    generalize (ms.take i).foldl gStep (List.replicate n 0, List.replicate n 0) = p at ll
    obtain ⟨sh, lt⟩ := p
    obtain ⟨l1, l2⟩ := ll
    have l1 : sh.length = n := l1
    have l2 : lt.length = n := l2
    refine WPg_tup (WPgs_cons (WPg_name 4 (WPgs_cons (WPg_name 5 (WPgs_cons (WPg_name 6 (WPgs_cons (WPg_name 7 (WPgs_nil ?_) N)) N)) N)) N)) rfl
    refine WPss_cons (WPs_augS (WPe_name 2 rfl ⟨rfl, 2, [], rfl, WPe_name 4 rfl ⟨m.a, _, m.a, _, rfl, rfl, ixN_ok (by simpa [l1] using ha), lI_at (by rw [l1]; exact ha), WPe_name 6 rfl ⟨.int m.x, _, _, rfl, od_iadd, rfl, rfl, ?_⟩⟩⟩))
    refine WPss_weak (Δ := [some (.dat (.int n)), some (.dat (.tuple (ms.map encM))), some (lI (bump sh m.a m.x)), some (lI lt), some (.dat (.int m.a)), some (.dat (.int m.b)), some (.dat (.int m.x)), some (.dat (.int m.y))]) (wk_eq ?_) ?_
    · show [_, _, some (C.own (((sh.map PyData.int).map C.dat).set m.a _)), _, _, _, _, _] = _
      rw [lI_set]; rfl
    refine WPss_cons (WPs_augS (WPe_name 3 rfl ⟨rfl, 3, [], rfl, WPe_name 4 rfl ⟨m.a, _, m.a, _, rfl, rfl, ixN_ok (by simpa [l2] using ha), lI_at (by rw [l2]; exact ha), WPe_name 7 rfl ⟨.int m.y, _, _, rfl, od_iadd, rfl, rfl, ?_⟩⟩⟩))
    refine WPss_weak (Δ := [some (.dat (.int n)), some (.dat (.tuple (ms.map encM))), some (lI (bump sh m.a m.x)), some (lI (bump lt m.a m.y)), some (.dat (.int m.a)), some (.dat (.int m.b)), some (.dat (.int m.x)), some (.dat (.int m.y))]) (wk_eq ?_) ?_
    · show [_, _, _, some (C.own (((lt.map PyData.int).map C.dat).set m.a _)), _, _, _, _] = _
      rw [lI_set]; rfl
    refine WPss_cons (WPs_augS (WPe_name 2 rfl ⟨rfl, 2, [], rfl, WPe_name 5 rfl ⟨m.b, _, m.b, _, rfl, rfl, ixN_ok (by simpa [bump_len, l1] using hb), lI_at (by rw [bump_len, l1]; exact hb), WPe_name 7 rfl ⟨.int m.y, _, _, rfl, od_iadd, rfl, rfl, ?_⟩⟩⟩))
    refine WPss_weak (Δ := [some (.dat (.int n)), some (.dat (.tuple (ms.map encM))), some (lI (bump (bump sh m.a m.x) m.b m.y)), some (lI (bump lt m.a m.y)), some (.dat (.int m.a)), some (.dat (.int m.b)), some (.dat (.int m.x)), some (.dat (.int m.y))]) (wk_eq ?_) ?_
    · show [_, _, some (C.own ((((bump sh m.a m.x).map PyData.int).map C.dat).set m.b _)), _, _, _, _, _] = _
      rw [lI_set]; rfl
    refine WPss_one (WPs_augS (WPe_name 3 rfl ⟨rfl, 3, [], rfl, WPe_name 5 rfl ⟨m.b, _, m.b, _, rfl, rfl, ixN_ok (by simpa [bump_len, l2] using hb), lI_at (by rw [bump_len, l2]; exact hb), WPe_name 6 rfl ⟨.int m.x, _, _, rfl, od_iadd, rfl, rfl, ?_⟩⟩⟩))
    refine wk_to [some (.dat (.int n)), some (.dat (.tuple (ms.map encM))), some (lI (gStep (sh, lt) m).1), some (lI (gStep (sh, lt) m).2), some (.dat (.int m.a)), some (.dat (.int m.b)), some (.dat (.int m.x)), some (.dat (.int m.y))] ?_ (wk_none 4 (wk_none 5 (wk_none 6 (wk_none 7 .refl))))
    show [_, _, _, some (C.own ((((bump lt m.a m.y).map PyData.int).map C.dat).set m.b _)), _, _, _, _] = _
    rw [lI_set]; rfl
  · dsimp only
    rw [List.length_map, List.take_length]
    refine WPss_one (WPs_ret (WPe_zip "tuple" (.inr rfl) (WPd_cons (WPe_name 2 rfl ⟨_, _, frzP 2 rfl, WPd_cons (WPe_name 3 rfl ⟨_, _, frzP 3 rfl, WPd_nil ⟨_, _, _, _, rfl, .inl rfl, .inl rfl, ?_⟩⟩)⟩)) B.zip B.tuple boot_tuple'))
    exact ⟨_, _, rfl, rfl⟩
end
end K65
namespace K65
open PySem PySem.Spec PyProof.Rows L2 G
theorem ixrP {Γ : Gm} {ls : List (List Int)} {j i : Nat} (h : Γ[j]? = some (some (.own (ls.map lI)))) (hi : i < ls.length) : ixr Γ (.pth j []) (i : Int) = some (.pth j [i]) := by
  have e : (ls.map lI)[i]? = some (lI ls[i]) := by rw [List.getElem?_map, List.getElem?_eq_getElem hi]; rfl
  have e2 : ixN (ls.map lI).length (i : Int) = some i := ixN_ok (by simpa using hi)
  simp only [ixr, h, C.at, e2, e]
  rfl
theorem ownAtP {Γ : Gm} {ls : List (List Int)} {j i : Nat} (h : Γ[j]? = some (some (.own (ls.map lI)))) (hi : i < ls.length) : ownAt Γ j [i] = some (((ls.getD i []).map PyData.int).map .dat) := by
  have e : (ls.map lI)[i]? = some (lI (ls.getD i [])) := by rw [List.getElem?_map, List.getElem?_eq_getElem hi]; simp [List.getD, List.getElem?_eq_getElem hi]
  simp only [ownAt, h, C.at, e]
theorem puts_map {ls : List (List Int)} {l : List Int} : ∀ {i : Nat}, i < ls.length → C.puts (ls.map lI) i [] (lI l) = (ls.set i l).map lI := by
  induction ls with
  | nil => intro i h; simp at h
  | cons a ls ih =>
    intro i h
    cases i with
    | zero => rw [List.map_cons, C.puts, C.put, List.set_cons_zero, List.map_cons]
    | succ i => rw [List.map_cons, C.puts, List.set_cons_succ, List.map_cons, ih (by simpa using h)]
theorem GputP {Γ : Gm} {ls : List (List Int)} {l : List Int} {j i : Nat} (h : Γ[j]? = some (some (.own (ls.map lI)))) (hi : i < ls.length) : Gput Γ j [i] (lI l) = Γ.set j (some (.own ((ls.set i l).map lI))) := by
  simp only [Gput, h, C.put, puts_map hi]
def bump2 (ls : List (List Int)) (i k : Nat) : List (List Int) := ls.set i (bump (ls.getD i []) k 1)
def slot (x y : Int) : Nat := if y < x then 0 else if x = y then 1 else 2
theorem slot_lt (x y : Int) : slot x y < 3 := by unfold slot; split; omega; split <;> omega
def cStep (ls : List (List Int)) (m : Mt) : List (List Int) := bump2 (bump2 ls m.a (slot m.x m.y)) m.b (slot m.y m.x)
def cBy (n : Nat) (ms : List Mt) : List (List Int) := ms.foldl cStep (List.replicate n [0, 0, 0])
def ok3 (n : Nat) (ls : List (List Int)) : Prop := ls.length = n ∧ ∀ l ∈ ls, l.length = 3
theorem getD_mem {ls : List (List Int)} {i : Nat} (h : i < ls.length) : ls.getD i [] ∈ ls := by
  simp [List.getD, List.getElem?_eq_getElem h]
theorem ok3_bump {n : Nat} {ls : List (List Int)} (h : ok3 n ls) {i k : Nat} (hi : i < n) : ok3 n (bump2 ls i k) := by
  refine ⟨by rw [bump2, List.length_set]; exact h.1, fun l hl => ?_⟩
  rcases List.mem_or_eq_of_mem_set hl with hl | rfl
  · exact h.2 l hl
  · rw [bump_len]; exact h.2 _ (getD_mem (by rw [h.1]; exact hi))
theorem ok3_fold {n : Nat} : ∀ (ms : List Mt) (ls : List (List Int)), ok3 n ls → (∀ m ∈ ms, m.a < n ∧ m.b < n) → ok3 n (ms.foldl cStep ls)
  | [], _, h, _ => h
  | m :: ms, ls, h, hm => ok3_fold ms _ (ok3_bump (ok3_bump h (hm m (List.mem_cons_self ..)).1) (hm m (List.mem_cons_self ..)).2) fun m' h' => hm m' (List.mem_cons_of_mem _ h')
theorem ok3_start (n : Nat) : ok3 n (List.replicate n [0, 0, 0]) := ⟨List.length_replicate .., fun l hl => by rw [(List.mem_replicate.mp hl).2]; rfl⟩
def encCounts (ls : List (List Int)) : PyData := .tuple (ls.map fun l => .tuple (l.map .int))
theorem map_range_const {α : Type} (c : α) (n : Nat) : ((List.range n).map fun _ => c) = List.replicate n c := by
  apply List.ext_getElem
  · simp
  · intro i h1 h2; simp
theorem lI3 (n : Nat) : (List.range n).map (fun (_ : Nat) => C.own [.dat (.int 0), .dat (.int 0), .dat (.int 0)]) = (List.replicate n [0, 0, 0]).map lI := by
  rw [map_range_const, List.map_replicate]; rfl
section
variable {P : Program} {w : World} {K : PySem.W.Frag} {mg : Str → Option Value} {base : Heap}
abbrev s_counts_by : Stmt := top 9
abbrev N_counts_by : List Str := ["many", "results", "found", "a", "b", "x", "y", "team", "one"]
theorem sc_counts_by : FnScope N_counts_by ["many", "results"] (defScope s_counts_by) := ⟨rfl, rfl, rfl, by decide +kernel, rfl, by decide +kernel, by decide +kernel⟩
abbrev c_counts_by : Ctr := Pu TB okB (fun t => [.dat (.int t.n), .dat (.tuple (t.ms.map encM))]) fun t => .dat (encCounts (cBy t.n t.ms))
theorem WPq_slot {X : Cx} {Γ : Gm} {c1 c2 e0 e1 e2 : Expr} {p1 p2 : Pos} {x y : Int} (h1 : WTq X c1 Γ (decide (y < x))) {k2 : Bool} (hk : k2 = decide (x = y)) (h2 : WTq X c2 Γ k2) (a0 : WPq X e0 Γ (.int 0)) (a1 : WPq X e1 Γ (.int 1)) (a2 : WPq X e2 Γ (.int 2)) : WPq X (.IfExp c1 e0 (.IfExp c2 e1 e2 p1) p2) Γ (.int (slot x y : Nat)) := by
  subst hk
  have h := WPq_if (pos := p2) h1 a0 (WPq_if (pos := p1) h2 a1 a2)
  have e : (if decide (y < x) = true then PyData.int 0 else if decide (x = y) = true then PyData.int 1 else PyData.int 2) = PyData.int (slot x y : Nat) := by
    unfold slot
    by_cases q1 : y < x
    · simp [q1]
    · by_cases q2 : x = y
      · subst q2; simp
      · simp [q1, q2]
  rw [e] at h
  exact h
set_option maxHeartbeats 0 in
theorem ok_counts_by {f : Addr} {fd : FuncData} (F : Fun K "counts_by" "counts_by" s_counts_by f fd) (B : Bl mg) : FnOk P w K mg base CX0 1 f fd ["many", "results"] (spG K c_counts_by) := by
  refine fn_pu (fun t => [some (.dat (.int t.n)), some (.dat (.tuple (t.ms.map encM))), none, none, none, none, none, none, none]) F sc_counts_by (fun _ => rfl) (fun _ => rfl) fun cdv A0 outer s H E hr t ht => ?_
  obtain ⟨way, n, ms⟩ := t
  obtain ⟨h1, h2, h3⟩ := ht
  have N := sc_counts_by.nd
  have hn : n ≤ 1000 := h1
  have hz := nat_sz hn
  refine WPss_cons (WPs_setLcMap 2 [("team", 7)] (WPi_range1 (WPe_name 0 rfl ⟨n, rfl, ⟨by omega, by omega⟩, ?_⟩) B.range) rfl N (blkOk_by (N := N_counts_by) (sc := defScope s_counts_by) (by decide +kernel)) rfl)
  refine ⟨Nat, List.range n, fun i => .int (0 + i), fun _ => .own [.dat (.int 0), .dat (.int 0), .dat (.int 0)], rfl, ⟨by rw [List.length_range]; exact hz, fun i hi s H Ca cl fp => ?_⟩, rfl, ?_⟩
  · exact WPg_name 7 (fun s H Ca cl fp => WPe_lst (WPd_cons (WPe_int ⟨_, _, rfl, WPd_cons (WPe_int ⟨_, _, rfl, WPd_cons (WPe_int ⟨_, _, rfl, WPd_nil ⟨(by show 3 ≤ sizeLine; decide), _, rfl, .refl⟩⟩)⟩)⟩))) N
  rw [lI3]
  refine WPss_weak (Δ := [some (.dat (.int n)), some (.dat (.tuple (ms.map encM))), some (.own ((List.replicate n [0, 0, 0]).map lI)), none, none, none, none, none, none]) (wk_eq rfl) ?_
  refine WPss_cons (WPs_for .never rfl (WPi_tup (WPe_name 1 rfl ⟨_, _, rfl, fun i => [some (.dat (.int n)), some (.dat (.tuple (ms.map encM))), some (.own (((ms.take i).foldl cStep (List.replicate n [0, 0, 0])).map lI)), none, none, none, none, none, none], .refl, fun i d ed => ?_, ?_⟩)))
  · rw [List.getElem?_map] at ed
    obtain ⟨m, em, rfl⟩ := Option.map_eq_some_iff.mp ed
    obtain ⟨ha, hb⟩ := h3 m (List.mem_of_getElem? em)
    have ha : m.a < n := ha
    have hb : m.b < n := hb
    dsimp only
    rw [foldl_take _ _ em]
    have ll := ok3_fold (n := n) (ms.take i) _ (ok3_start n) fun m' hm => h3 m' (List.mem_of_mem_take hm)
    generalize (ms.take i).foldl cStep (List.replicate n [0, 0, 0]) = ls at ll
    refine WPg_tup (WPgs_cons (WPg_name 3 (WPgs_cons (WPg_name 4 (WPgs_cons (WPg_name 5 (WPgs_cons (WPg_name 6 (WPgs_nil ?_) N)) N)) N)) N)) rfl
    have la : m.a < ls.length := by rw [ll.1]; exact ha
    have l3 : (ls.getD m.a []).length = 3 := ll.2 _ (getD_mem la)
    have ll2 := ok3_bump (k := slot m.x m.y) ll ha
    have lb : m.b < (bump2 ls m.a (slot m.x m.y)).length := by rw [ll2.1]; exact hb
    have l32 : ((bump2 ls m.a (slot m.x m.y)).getD m.b []).length = 3 := ll2.2 _ (getD_mem lb)
    refine WPss_cons (WPs_augS2 (WPe_ix (WPe_name 2 rfl ⟨rfl, WPe_name 3 rfl ⟨m.a, _, rfl, ixrP rfl la, 2, [m.a], _, slot m.x m.y, slot m.x m.y, _, _, _, rfl, ownAtP rfl la, WPq_slot (WTq_gt (WPq_name 5) (WPq_name 6)) rfl (WTq_eq (WPq_name 5) (WPq_name 6)) WPq_int WPq_int WPq_int, ixN_ok (by rw [List.length_map, List.length_map, l3]; exact slot_lt m.x m.y), lI_at (by rw [l3]; exact slot_lt m.x m.y), WPq_int, od_iadd, ?_⟩⟩)))
    rw [lI_set]
    refine WPss_weak (Δ := [some (.dat (.int n)), some (.dat (.tuple (ms.map encM))), some (.own ((bump2 ls m.a (slot m.x m.y)).map lI)), some (.dat (.int m.a)), some (.dat (.int m.b)), some (.dat (.int m.x)), some (.dat (.int m.y)), none, none]) (wk_eq (GputP rfl la)) ?_
    refine WPss_one (WPs_augS2 (WPe_ix (WPe_name 2 rfl ⟨rfl, WPe_name 4 rfl ⟨m.b, _, rfl, ixrP rfl lb, 2, [m.b], _, slot m.y m.x, slot m.y m.x, _, _, _, rfl, ownAtP rfl lb, ?_, ixN_ok (by rw [List.length_map, List.length_map, l32]; exact slot_lt m.y m.x), lI_at (by rw [l32]; exact slot_lt m.y m.x), WPq_int, od_iadd, ?_⟩⟩)))
    · exact WPq_slot (k2 := decide (m.x = m.y)) (WTq_gt (WPq_name 6) (WPq_name 5)) (decide_eq_decide.mpr eq_comm) (WTq_eq (WPq_name 5) (WPq_name 6)) WPq_int WPq_int WPq_int
    rw [lI_set]
    exact wk_to [some (.dat (.int n)), some (.dat (.tuple (ms.map encM))), some (.own ((cStep ls m).map lI)), some (.dat (.int m.a)), some (.dat (.int m.b)), some (.dat (.int m.x)), some (.dat (.int m.y)), none, none] (GputP rfl lb) (wk_none 3 (wk_none 4 (wk_none 5 (wk_none 6 .refl))))
  · dsimp only
    rw [List.length_map, List.take_length]
    have ll := ok3_fold (n := n) ms _ (ok3_start n) h3
    change ok3 n (cBy n ms) at ll
    change WPss _ _ _ [some (.dat (.int n)), some (.dat (.tuple (ms.map encM))), some (.own ((cBy n ms).map lI)), none, none, none, none, none, none] _
    refine WPss_one (WPs_ret (WPe_callTy ?_ B.tuple boot_tuple'))
    refine WPa_cons (WPe_lcMap [("one", 8)] (WPi_list (WPe_name 2 rfl ⟨_, _, frzPL 2 rfl, ?_⟩)) rfl N (blkOk_by (N := N_counts_by) (sc := defScope s_counts_by) (by decide +kernel)))
    refine ⟨List Int, cBy n ms, fun l => .list (l.map .int), fun l => .dat (.tuple (l.map .int)), rfl, ⟨by rw [ll.1]; exact hz, fun l hl s H Ca cl fp => ?_⟩, ?_⟩
    · exact WPg_name 8 (fun s H Ca cl fp => WPe_callTy (WPa_cons (WPe_name 8 rfl ⟨rfl, WPa_nil ⟨[.s false (l.map .int)], _, ⟨rfl, trivial⟩, cd_tuple, _, rfl, .refl⟩⟩)) B.tuple boot_tuple') N
    · exact ⟨rfl, WPa_nil ⟨[_], _, ⟨seesL, trivial⟩, cd_tuple, _, _, rfl, rfl⟩⟩
end
end K65
namespace K65
open PySem PySem.Spec PyProof.Rows L2 G
theorem ixT {ds : List PyData} {i : Nat} {d : PyData} (h : ds[i]? = some d) : ixC (i : Int) (.dat (.tuple ds)) = some (.dat d) := by
  have hi : i < ds.length := (List.getElem?_eq_some_iff.mp h).1
  have e : atI ds (i : Int) = some d := by unfold atI; rw [ixN_ok hi]; exact h
  simp only [ixC, e]; rfl
def encKR (r : Row) : PyData := .tuple [encK r, encR r]
theorem alike_KR (a b : Row) : PySem.W.alike (encKR a) (encKR b) = true := by
  simp [encKR, encK, encR, rank, Row.ints, PySem.W.alike, PySem.W.alikeAll]
theorem alike_K (a b : Row) : PySem.W.alike (encK a) (encK b) = true := by
  simp [encK, rank, PySem.W.alike, PySem.W.alikeAll]
theorem depth_KR (a : Row) : (encKR a).depth ≤ 100 := by
  simp [encKR, encK, encR, rank, Row.ints, PyData.depth, PyData.depthAll]
theorem depth_K (a : Row) : (encK a).depth ≤ 100 := by
  simp [encK, rank, PyData.depth, PyData.depthAll]
def rowAt (way : Int) (n : Nat) (ms : List Mt) (i : Nat) : Row :=
  ⟨i, ((cBy n ms).getD i []).getD 0 0, ((cBy n ms).getD i []).getD 1 0, ((cBy n ms).getD i []).getD 2 0, (gBy n ms).1.getD i 0, (gBy n ms).2.getD i 0, (pBy way n ms).getD i 0⟩
def tab (way : Int) (n : Nat) (ms : List Mt) : List Row := srtD encKR ((List.range n).map (rowAt way n ms))
theorem three {l : List Int} (h : l.length = 3) : l = [l.getD 0 0, l.getD 1 0, l.getD 2 0] := by
  match l, h with
  | [a, b, c], _ => rfl
section
variable {P : Program} {w : World} {K : PySem.W.Frag} {mg : Str → Option Value} {base : Heap}
abbrev s_table : Stmt := top 14
abbrev N_table : List Str := ["way", "many", "results", "points", "goals", "counts", "rows", "team", "row", "mark"]
theorem sc_table : FnScope N_table ["way", "many", "results"] (defScope s_table) := ⟨rfl, rfl, rfl, by decide +kernel, rfl, by decide +kernel, by decide +kernel⟩
abbrev c_table : Ctr := Pu TB okB (fun t => [.dat (.int t.way), .dat (.int t.n), .dat (.tuple (t.ms.map encM))]) fun t => .dat (encRs (tab t.way t.n t.ms))
theorem room200 {k : Nat} {A : Around} (r : Room k A) : A.units + 200 < cLine := by have := r.un; omega
set_option maxHeartbeats 0 in
theorem ok_table {f f1 f2 f3 f4 : Addr} {fd d1 d2 d3 d4 : FuncData} (F : Fun K "table" "table" s_table f fd) (B : Bl mg) (A1 : At P w K mg base "points_by" 2 ["way", "many", "results"] c_points_by f1 d1) (A2 : At P w K mg base "goals_by" 1 ["many", "results"] c_goals_by f2 d2)
    (A3 : At P w K mg base "counts_by" 1 ["many", "results"] c_counts_by f3 d3) (A4 : At P w K mg base "rank" 1 ["row"] c_rank f4 d4) : FnOk P w K mg base CX0 3 f fd ["way", "many", "results"] (spG K c_table) := by
  refine fn_pu (fun t => [some (.dat (.int t.way)), some (.dat (.int t.n)), some (.dat (.tuple (t.ms.map encM))), none, none, none, none, none, none, none]) F sc_table (fun _ => rfl) (fun _ => rfl) fun cdv A0 outer s H E hr t ht => ?_
  obtain ⟨way, n, ms⟩ := t
  have N := sc_table.nd
  have hn : n ≤ 1000 := ht.1
  have hz := nat_sz hn
  have h3 : ∀ m ∈ ms, m.a < n ∧ m.b < n := ht.2.2
  refine WPss_cons (WPs_asg (WPe_tup (WPd_cons (WPe_callD A1.ok hr A1.mg A1.keep A1.bind (WPd_cons (WPe_name 0 rfl ⟨_, _, rfl, WPd_cons (WPe_name 1 rfl ⟨_, _, rfl, WPd_cons (WPe_name 2 rfl ⟨_, _, rfl, WPd_nil ⟨⟨way, n, ms⟩, ht, rfl, _, _, rfl, ?_⟩⟩)⟩)⟩))))))
  refine WPd_cons (WPe_callD A2.ok (hr.mono (by decide)) A2.mg A2.keep A2.bind (WPd_cons (WPe_name 1 rfl ⟨_, _, rfl, WPd_cons (WPe_name 2 rfl ⟨_, _, rfl, WPd_nil ⟨⟨way, n, ms⟩, ht, rfl, _, _, rfl, ?_⟩⟩)⟩)))
  refine WPd_cons (WPe_callD A3.ok (hr.mono (by decide)) A3.mg A3.keep A3.bind (WPd_cons (WPe_name 1 rfl ⟨_, _, rfl, WPd_cons (WPe_name 2 rfl ⟨_, _, rfl, WPd_nil ⟨⟨way, n, ms⟩, ht, rfl, _, _, rfl, WPd_nil ⟨by show 3 ≤ sizeLine; decide, _, _, rfl, ?_⟩⟩⟩)⟩)))
  refine WPg_tup (WPgs_cons (WPg_name 3 (WPgs_cons (WPg_name 4 (WPgs_cons (WPg_name 5 (WPgs_nil ?_) N)) N)) N)) rfl
  refine WPss_cons (WPs_setLcMap 6 [("team", 7)] (WPi_range1 (WPe_name 1 rfl ⟨n, rfl, ⟨by omega, by omega⟩, ?_⟩) B.range) rfl N (blkOk_by (N := N_table) (sc := defScope s_table) (by decide +kernel)) rfl)
  have lc := ok3_fold (n := n) ms _ (ok3_start n) h3
  change ok3 n (cBy n ms) at lc
  have lg := gFold_len (n := n) ms (List.replicate n 0, List.replicate n 0) ⟨List.length_replicate .., List.length_replicate ..⟩
  change (gBy n ms).1.length = n ∧ (gBy n ms).2.length = n at lg
  have lp := pBy_len way n ms
  refine ⟨Nat, List.range n, fun i => .int (0 + i), fun i => .dat (encR (rowAt way n ms i)), rfl, ⟨by rw [List.length_range]; exact hz, fun i hi s H Ca cl fp => ?_⟩, rfl, ?_⟩
  · have hi : i < n := List.mem_range.mp hi
    have e0 : (0 + (i : Int)) = (i : Int) := by omega
    refine WPg_name 7 (fun s H Ca cl fp => WPe_tup (WPd_cons (WPe_name 7 rfl ⟨_, _, rfl, WPd_star (WPe_ix (WPe_name 5 rfl ⟨rfl, WPe_name 7 rfl ⟨i, .val (.dat (.tuple (((cBy n ms).getD i []).map .int))), by rw [← e0]; rfl, ?_, _, _, _, rfl, .inr rfl, ?_⟩⟩))⟩))) N
    · show (ixC (i : Int) (.dat (.tuple ((cBy n ms).map fun l => PyData.tuple (l.map .int))))).map R.val = _
      rw [ixT (d := .tuple (((cBy n ms).getD i []).map .int)) (by rw [List.getElem?_map, List.getElem?_eq_getElem (by rw [lc.1]; exact hi)]; simp [List.getD, List.getElem?_eq_getElem (show i < (cBy n ms).length by rw [lc.1]; exact hi)])]; rfl
    refine WPd_star (WPe_ix (WPe_name 4 rfl ⟨rfl, WPe_name 7 rfl ⟨i, .val (.dat (.tuple [.int ((gBy n ms).1.getD i 0), .int ((gBy n ms).2.getD i 0)])), by rw [← e0]; rfl, ?_, _, _, _, rfl, .inr rfl, ?_⟩⟩))
    · show (ixC (i : Int) (.dat (.tuple (zipD ((gBy n ms).1.map .int) ((gBy n ms).2.map .int))))).map R.val = _
      rw [ixT (d := .tuple [.int ((gBy n ms).1.getD i 0), .int ((gBy n ms).2.getD i 0)]) (by
        rw [zipD, List.getElem?_map, List.zip_map, List.getElem?_map, List.getElem?_eq_getElem (l := (gBy n ms).1.zip (gBy n ms).2) (by rw [List.length_zip]; omega)]
        simp [List.getElem_zip, List.getD, List.getElem?_eq_getElem (show i < (gBy n ms).1.length by omega), List.getElem?_eq_getElem (show i < (gBy n ms).2.length by omega)])]; rfl
    refine WPd_cons (WPe_ix (WPe_name 3 rfl ⟨rfl, WPe_name 7 rfl ⟨i, .val (.dat (.int ((pBy way n ms).getD i 0))), by rw [← e0]; rfl, ?_, _, _, rfl, WPd_nil ?_⟩⟩))
    · show (ixC (i : Int) (.dat (.tuple ((pBy way n ms).map .int)))).map R.val = _
      rw [ixT (d := .int ((pBy way n ms).getD i 0)) (by rw [List.getElem?_map, List.getElem?_eq_getElem (by omega)]; simp [List.getD, List.getElem?_eq_getElem (show i < (pBy way n ms).length by omega)])]; rfl
    have l3 : ((cBy n ms).getD i []).length = 3 := lc.2 _ (getD_mem (by rw [lc.1]; exact hi))
    have e : (PyData.int (0 + (i : Int)) :: (((cBy n ms).getD i []).map PyData.int ++ ([.int ((gBy n ms).1.getD i 0), .int ((gBy n ms).2.getD i 0)] ++ [.int ((pBy way n ms).getD i 0)]))) = (rowAt way n ms i).ints.map .int := by
      rw [three l3, e0]; rfl
    rw [e]
    exact ⟨by show 7 ≤ sizeLine; decide, _, rfl, .refl⟩
  refine WPss_one (WPs_ret (WPe_callTy ?_ B.tuple boot_tuple'))
  refine WPa_cons (WPe_lcMap [("mark", 9), ("row", 8)] (WPi_list (WPe_callB ?_ B.sorted boot_sorted')) rfl N (blkOk_by (N := N_table) (sc := defScope s_table) (by decide +kernel)))
  refine WPa_cons (WPe_lcMap [("row", 8)] (WPi_list (WPe_name 6 rfl ⟨_, _, frzP (ds := (List.range n).map fun i => encR (rowAt way n ms i)) 6 ?_, ?_⟩)) rfl N (blkOk_by (N := N_table) (sc := defScope s_table) (by decide +kernel)))
  · rw [List.map_map]; rfl
  refine ⟨Row, (List.range n).map (rowAt way n ms), encR, fun r => .dat (encKR r), by rw [List.map_map]; rfl, ⟨by rw [List.length_map, List.length_range]; exact hz, fun r hrm s H Ca cl fp => ?_⟩, ?_⟩
  · refine WPg_name 8 (fun s H Ca cl fp => WPe_tup (WPd_cons (WPe_callD A4.ok (hr.mono (by decide)) A4.mg A4.keep A4.bind (WPd_cons (WPe_name 8 rfl ⟨_, _, rfl, WPd_nil ⟨r, trivial, rfl, ?_⟩⟩))))) N
    exact ⟨_, _, rfl, WPd_cons (WPe_name 8 rfl ⟨_, _, rfl, WPd_nil ⟨by show 2 ≤ sizeLine; decide, _, rfl, .refl⟩⟩)⟩
  refine ⟨rfl, WPa_nil ⟨[_], _, ⟨seesL, trivial⟩, cd_sortedD (enc := encKR) (room200 hr) (PySem.W.AllAlike.of alike_KR) (PySem.W.Sortable.tuples fun r => ⟨_, _, rfl⟩) (fun r _ => depth_KR r), ?_⟩⟩
  refine ⟨_, _, frzV, Row, tab way n ms, encKR, fun r => .dat (encR r), rfl, ⟨?_, fun r hrm s H Ca cl fp => ?_⟩, ?_⟩
  · rw [tab, srtD, List.length_mergeSort, List.length_map, List.length_range]; exact hz
  · exact WPg_tup (WPgs_cons (WPg_name 9 (WPgs_cons (WPg_name 8 (WPgs_nil fun s H Ca cl fp => WPe_name 8 rfl ⟨_, rfl, .refl⟩) N)) N)) rfl
  · exact ⟨rfl, WPa_nil ⟨[_], _, ⟨seesL, trivial⟩, cd_tuple, _, _, rfl, rfl⟩⟩
end
end K65
namespace G
open PySem PySem.Spec PyProof.Rows L2
section
variable {X : Cx} {kp : List Nat} {Γ : Gm} {Kn : KR} {D : Out} {e a b c o lo : Expr} {es : List Expr} {pos p p2 p3 : Pos}
/-- xs[k], xs a list of the frame, k written out -/
theorem WPq_ixOwn (i : Nat) {x : Str} {cs : List C} {k j : Nat} {d : PyData} (hc : Γ[i]? = some (some (.own cs)) := by rfl) (hd : cs[k]? = some (.dat d) := by rfl) (hN : X.N[i]? = some x := by rfl) (hv : Vis X.env.scope x := by first | exact Or.inl rfl | exact Or.inr (Or.inl rfl) | exact Or.inr (Or.inr rfl))
    (hdb : (x == ("__debug__" : Str)) = false := by decide) (hcd : (x == ("__classdict__" : Str)) = false := by decide) (hs : PlainIx (.Constant (.int k) j p3) := by exact fun _ _ => rfl) : WPq X (.Subscript (.Name x p) (.Constant (.int k) j p3) pos) Γ d := fun F H σ O g Q q => by
  refine WE_of (pe_ix (ix_list (X := X)) (pe_var hN hv hdb hcd) pe_int hs) ?_
  obtain ⟨v, e1, r⟩ := g.cell i _ hc
  generalize O i = oi at r
  cases r with
  | own h1 h2 h3 =>
    obtain ⟨w, osw, w1, w2, _⟩ := h3.get hd
    cases w2 with
    | dat hw =>
      have lt : k < cs.length := (List.getElem?_eq_some_iff.mp hd).1
      refine ⟨_, e1, _, _, k, w, rfl, rfl, .of h1, ?_, q _ hw⟩
      unfold atI
      rw [h3.length]
      have e2 : ixN cs.length (k : Int) = some k := by
        unfold ixN
        have h0 : (0 : Int) ≤ (k : Int) := by omega
        simp [lt, h0]
      rw [e2]; exact w1
/-- xs[i:], xs a list kept in a list -/
theorem WPe_sliceQ (h : WPe X a Γ fun x Γ1 => ∃ i ds, WPq X lo Γ1 (.int i) ∧ iv Γ1 x = some (false, ds) ∧ Kn (.val (.own ((cutP ds (some i) none).map .dat))) Γ1) : WPe X (.Subscript a (.Slice (some lo) none none p2) pos) Γ Kn := fun F H σ O g Q q =>
  WE_of (pe_slice SlR_any pe_W (po_some pe_W) po_none) (by
    refine h F H σ O g _ fun x Γ1 F1 H1 O1 v1 os1 ⟨i, ds, hl, ei, k1⟩ g1 r1 nd1 dj1 f1 => ?_
    refine hl F1 H1 σ O1 g1 _ fun vy hy => ?_
    obtain rfl := hy.int_inv
    obtain ⟨p0, xs, rfl, hr, ha⟩ := Sees.ok (w := .s false ds) g1 r1 ei
    have hr : H1 p0 = some (.lst xs) := hr
    have hd := cut_dd ha (some i) none
    have q' := fun r Γ' F' H' O' v os k g h nd dj f' => q r Γ' F' H' O' v os k g h nd dj ((f1.post fun a m => .inl m).trans f')
    exact ⟨i, rfl, _, sl_list, _, _, rfl, .of hr, fun p hp => done_new g1 q' k1 (fresh_lst g1.le hp hd) (by simp) (same_new g1.le hp) (fut_new hp)⟩)
/-- both ways through a statement meet in one frame -/
theorem WPss_join {st : Stmt} {rest : List Stmt} (Δ : Gm) (h : WPs X kp st Γ { D with nx := fun Γ1 => Wk Γ1 Δ }) (r : WPss X kp rest Δ D) : WPss X kp (st :: rest) Γ D :=
  WPss_cons fun F H σ O g E q => h F H σ O g E ⟨fun Γ' F' H' σ' O' w g' k' f' => q.nx Γ' F' H' σ' O' (WPss_weak w r) g' k' f', q.rt, q.bk, q.ct⟩
end
end G
namespace K65
open PySem PySem.Spec PyProof.Rows L2 G
structure Bag where
  held : Int
  seed : Int
  at_ : Nat
  cells : List Int
def encB (b : Bag) : C := .own [.dat (.int b.held), .dat (.int b.seed), .dat (.int b.at_), lI b.cells]
def cellAt (b : Bag) : Int := b.cells.getD b.at_ 0
def stir (b : Bag) : Bag := ⟨if 10 ^ 18 ≤ cellAt b then cellAt b else b.held, (b.seed * 48271 + cellAt b % 2147483647 + 7919 * ((b.at_ + 1 : Nat) : Int)) % 2147483647, b.at_ + 1, b.cells⟩
def pre1 (b : Bag) : Bag := if b.held = 0 then stir b else b
def begin_ (b : Bag) : Int := (b.seed + 1) * 39373 % 1000000007
def rnd (b : Bag) : Int := begin_ b * begin_ b % 998244353 * 30011 % 998244353 / 7
def take (b : Bag) (many : Int) : Int × Bag := if 0 < (pre1 b).held then ((pre1 b).held % many, { pre1 b with held := (pre1 b).held / many }) else (rnd (pre1 b) % many, pre1 b)
def okBag (n : Nat) (b : Bag) : Prop := b.at_ ≤ n ∧ 0 ≤ b.seed ∧ b.seed < 2147483647
theorem okBag_pre {n : Nat} {b : Bag} (h : okBag n b) : okBag (n + 1) (pre1 b) := by
  obtain ⟨h1, h2, h3⟩ := h
  unfold pre1
  split
  · refine ⟨by show b.at_ + 1 ≤ _; omega, ?_, ?_⟩
    · exact Int.emod_nonneg _ (by decide)
    · exact Int.emod_lt_of_pos _ (by decide)
  · exact ⟨by omega, h2, h3⟩
theorem okBag_take {n : Nat} {b : Bag} (h : okBag n b) (m : Int) : okBag (n + 1) (take b m).2 := by
  have := okBag_pre h
  unfold take
  split <;> exact this
theorem take_lt {b : Bag} {m : Int} (h : 1 ≤ m) : 0 ≤ (take b m).1 ∧ (take b m).1 < m := by
  unfold take
  split
  · exact ⟨Int.emod_nonneg _ (by omega), Int.emod_lt_of_pos _ (by omega)⟩
  · exact ⟨Int.emod_nonneg _ (by omega), Int.emod_lt_of_pos _ (by omega)⟩
theorem cut_from {α : Type} (xs : List α) (k : Nat) : cutP xs (some (k : Int)) none = xs.drop k := by
  unfold cutP
  have h1 : HT.sIx xs.length 0 (some (k : Int)) = min k xs.length := by unfold HT.sIx; simp; omega
  have h2 : HT.sIx xs.length xs.length none = xs.length := by unfold HT.sIx; simp
  rw [h1, h2]
  rcases Nat.le_total k xs.length with h | h
  · rw [Nat.min_eq_left h]
    apply List.take_of_length_le
    simp
  · rw [Nat.min_eq_right h, List.drop_eq_nil_of_le h, List.drop_eq_nil_of_le (Nat.le_refl _), List.take_nil]
theorem cell_head (cs : List Int) (k : Nat) : ∃ r, (cs.drop k).map PyData.int ++ [PyData.int 0] = PyData.int (cs.getD k 0) :: r := by
  cases h : cs.drop k with
  | nil =>
    have : cs.length ≤ k := by simpa using h
    exact ⟨[], by simp [List.getD, List.getElem?_eq_none this]⟩
  | cons c r =>
    have lt : k < cs.length := by
      have := congrArg List.length h
      simp at this; omega
    have e := List.drop_eq_getElem_cons lt
    rw [h] at e
    injection e with e1 e2
    exact ⟨r.map .int ++ [.int 0], by simp [List.getD, List.getElem?_eq_getElem lt, e1]⟩
theorem ixOwnV {cs : List C} {k : Nat} {d : PyData} (h : cs[k]? = some (.dat d)) : ixC (k : Int) (.own cs) = some (.dat d) := by
  have hi : k < cs.length := (List.getElem?_eq_some_iff.mp h).1
  have e : atI cs (k : Int) = some (.dat d) := by unfold atI; rw [ixN_ok hi]; exact h
  simp only [ixC, e]
section
variable {P : Program} {w : World} {K : PySem.W.Frag} {mg : Str → Option Value} {base : Heap}
abbrev s_take : Stmt := top 19
abbrev N_take : List Str := ["bag", "many", "cell", "stirred", "value", "begin", "second"]
theorem sc_take : FnScope N_take ["bag", "many"] (defScope s_take) := ⟨rfl, rfl, rfl, by decide +kernel, rfl, by decide +kernel, by decide +kernel⟩
abbrev okTake (t : Bag × Int) : Prop := okBag (2 ^ 40) t.1 ∧ 1 ≤ t.2 ∧ t.2 < 2 ^ 60 ∧ t.1.cells.length ≤ 63
abbrev c_take : Ctr := Fn (Bag × Int) okTake (fun t => [encB t.1, .dat (.int t.2)]) (fun t => [encB (take t.1 t.2).2, .dat (.int t.2)]) fun t => .dat (.int (take t.1 t.2).1)
theorem nat_lt {i : Int} {n : Nat} (h0 : 0 ≤ i) (h : i < 2 ^ n) : i.natAbs < 2 ^ n := by
  have : ((2 ^ n : Nat) : Int) = (2 : Int) ^ n := by simp
  omega
set_option maxHeartbeats 0 in
theorem ok_take {f : Addr} {fd : FuncData} (F : Fun K "_law_take" "_law_take" s_take f fd) (B : Bl mg) : FnOk P w K mg base CX0 1 f fd ["bag", "many"] (spG K c_take) := by
  refine fn_mu (fun t => [some (encB t.1), some (.dat (.int t.2)), none, none, none, none, none]) F sc_take (fun _ => rfl) (fun t => ⟨_, _, _, rfl, rfl, rfl⟩) fun cdv A0 outer s H E hr t ht => ?_
  obtain ⟨b, many⟩ := t
  obtain ⟨ob, m1, m2, hl⟩ := ht
  have m1 : 1 ≤ many := m1
  have ob : okBag (2 ^ 40) b := ob
  have m2 : many < 2 ^ 60 := m2
  have hl : b.cells.length ≤ 63 := hl
  have N := sc_take.nd
  have op := okBag_pre ob
  refine WPss_join [some (encB (pre1 b)), some (.dat (.int many)), none, none, none, none, none] (WPs_if (WPt_cmp (WPe_ix (WPe_name 0 rfl ⟨rfl, WPe_int ⟨0, _, rfl, rfl, rfl, WPe_int ⟨.d (.int b.held), .d (.int 0), _, rfl, rfl, od_eqI, fun e => ?_, fun e => WPss_nil ?_⟩⟩⟩)))) ?_
  · have e : b.held = 0 := of_decide_eq_true e
    obtain ⟨r, er⟩ := cell_head b.cells b.at_
    refine WPss_cons (WPs_set 2 (WPe_ix (WPe_bin (WPe_sliceQ (WPe_ix (WPe_name 0 rfl ⟨rfl, WPe_int ⟨3, _, rfl, rfl, b.at_, b.cells.map .int, WPq_ixOwn 0, ?_, rfl, ?_⟩⟩))))) N)
    · show C.items (lI b.cells) = _
      simp only [C.items, dats_dat]; rfl
    refine WPe_lst (WPd_cons (WPe_int ⟨_, _, rfl, WPd_nil ⟨(by show 1 ≤ sizeLine; decide), .s false (cutP (b.cells.map .int) (some (b.at_ : Int)) none), .s false [.int 0], _, seesLD, rfl, od_catL ?_, rfl, WPe_int ⟨0, .val (.dat (.int (cellAt b))), rfl, ?_, _, _, rfl, rfl, ?_⟩⟩⟩))
    · rw [cut_from, List.length_drop, List.length_map]
      have : 64 ≤ sizeLine := by decide
      show _ + 1 ≤ _
      omega
    · rw [cut_from, ← List.map_drop, er]
      exact congrArg (Option.map R.val) (ixOwnV (k := 0) rfl)
    refine WPss_cons (WPs_augS (WPe_name 0 rfl ⟨rfl, 0, [], rfl, WPe_int ⟨2, _, 2, _, rfl, rfl, rfl, rfl, WPe_int ⟨.int 1, _, _, rfl, od_iadd, rfl, rfl, ?_⟩⟩⟩))
    refine WPss_weak (Δ := [some (encB ⟨b.held, b.seed, b.at_ + 1, b.cells⟩), some (.dat (.int many)), some (.dat (.int (cellAt b))), none, none, none, none]) (wk_eq rfl) ?_
    refine WPss_join [some (encB ⟨if 10 ^ 18 ≤ cellAt b then cellAt b else b.held, b.seed, b.at_ + 1, b.cells⟩), some (.dat (.int many)), some (.dat (.int (cellAt b))), none, none, none, none] (WPs_if (WPt_cmp (WPe_name 2 rfl ⟨rfl, WPe_bin (WPe_int ⟨rfl, WPe_int ⟨.d (.int 10), .d (.int 18), _, rfl, rfl, od_pow (by unfold CPow; decide), .d (.int (cellAt b)), .d (.int (10 ^ 18)), _, rfl, rfl, od_ge, fun e2 => ?_, fun e2 => WPss_nil ?_⟩⟩)⟩))) ?_
    · have e2 : 10 ^ 18 ≤ cellAt b := of_decide_eq_true e2
      rw [if_pos e2]
      exact WPss_one (WPs_setS (WPe_name 2 rfl ⟨_, _, rfl, WPe_name 0 rfl ⟨rfl, 0, [], rfl, WPe_int ⟨0, _, 0, rfl, rfl, rfl, .refl⟩⟩⟩))
    · have e2 : ¬ 10 ^ 18 ≤ cellAt b := of_decide_eq_false e2
      rw [if_neg e2]; exact .refl
    have sd : b.seed.natAbs < 2 ^ 31 := by have := ob.2; omega
    have ad : ((b.at_ + 1 : Nat) : Int).natAbs < 2 ^ 60 := by have : b.at_ ≤ 2 ^ 40 := ob.1; omega
    refine WPss_cons (WPs_set 3 (WPe_bin (WPe_bin (WPe_bin (WPe_ix (WPe_name 0 rfl ⟨rfl, WPe_int ⟨1, _, rfl, rfl, rfl, WPe_int ⟨.d (.int b.seed), .d (.int 48271), _, rfl, rfl, od_mul (wide_mul (a := 31) (b := 16) sd (by decide) (by decide) (by decide) (by decide)), rfl, ?_⟩⟩⟩))))) N)
    refine WPe_bin (WPe_callTy (WPa_cons (WPe_name 2 rfl ⟨rfl, WPa_nil ⟨[.d (.int (cellAt b))], _, ⟨rfl, trivial⟩, cd_int, rfl, WPe_int ⟨.d (.int (cellAt b)), .d (.int 2147483647), _, rfl, rfl, od_mod (by decide), .d (.int _), .d (.int _), _, rfl, rfl, od_add, rfl, ?_⟩⟩⟩)) B.int boot_int')
    refine WPe_bin (WPe_int ⟨rfl, WPe_ix (WPe_name 0 rfl ⟨rfl, WPe_int ⟨2, _, rfl, rfl, .d (.int 7919), .d (.int ((b.at_ + 1 : Nat) : Int)), _, rfl, rfl, od_mul (wide_mul (a := 13) (b := 60) (by decide) ad (by decide) (by decide) (by decide)), .d (.int _), .d (.int _), _, rfl, rfl, od_add, _, _, rfl, rfl, ?_⟩⟩)⟩)
    refine WPss_one (WPs_setS (WPe_bin (WPe_callTy (WPa_cons (WPe_name 3 rfl ⟨rfl, WPa_nil ⟨[.d (.int _)], _, ⟨rfl, trivial⟩, cd_int, rfl, WPe_int ⟨.d (.int _), .d (.int 2147483647), _, rfl, rfl, od_mod (by decide), _, _, rfl, WPe_name 0 rfl ⟨rfl, 0, [], rfl, WPe_int ⟨1, _, 1, rfl, rfl, rfl, ?_⟩⟩⟩⟩⟩)) B.int boot_int')))
    refine wk_to [some (encB (pre1 b)), some (.dat (.int many)), some (.dat (.int (cellAt b))), some (.dat (.int (b.seed * 48271 + cellAt b % 2147483647 + 7919 * ((b.at_ + 1 : Nat) : Int)))), none, none, none] ?_ (wk_none 2 (wk_none 3 .refl))
    rw [pre1, if_pos e]
    rfl
  · have e : ¬ b.held = 0 := of_decide_eq_false e
    rw [pre1, if_neg e]; exact .refl
  generalize hb1 : pre1 b = b1 at op
  have ht : take b many = if 0 < b1.held then (b1.held % many, { b1 with held := b1.held / many }) else (rnd b1 % many, b1) := by rw [take, hb1]
  refine WPss_cons (WPs_if (WPt_cmp (WPe_ix (WPe_name 0 rfl ⟨rfl, WPe_int ⟨0, _, rfl, rfl, rfl, WPe_int ⟨.d (.int b1.held), .d (.int 0), _, rfl, rfl, od_gt, fun e => ?_, fun e => WPss_nil ?_⟩⟩⟩))))
  · have e : 0 < b1.held := of_decide_eq_true e
    rw [if_pos e] at ht
    refine WPss_cons (WPs_set 4 (WPe_bin (WPe_callTy (WPa_cons (WPe_ix (WPe_name 0 rfl ⟨rfl, WPe_int ⟨0, _, rfl, rfl, rfl, WPa_nil ⟨[.d (.int b1.held)], _, ⟨rfl, trivial⟩, cd_int, rfl, WPe_name 1 rfl ⟨.d (.int _), .d (.int many), _, rfl, rfl, od_mod (by omega), _, _, rfl, rfl, ?_⟩⟩⟩⟩))) B.int boot_int')) N)
    refine WPss_cons (WPs_setS (WPe_bin (WPe_callTy (WPa_cons (WPe_ix (WPe_name 0 rfl ⟨rfl, WPe_int ⟨0, _, rfl, rfl, rfl, WPa_nil ⟨[.d (.int b1.held)], _, ⟨rfl, trivial⟩, cd_int, rfl, WPe_name 1 rfl ⟨.d (.int _), .d (.int many), _, rfl, rfl, od_div (wide_div (b := 60) (by omega) (nat_lt (by omega) m2) (by decide) (by decide)), _, _, rfl, WPe_name 0 rfl ⟨rfl, 0, [], rfl, WPe_int ⟨0, _, 0, rfl, rfl, rfl, ?_⟩⟩⟩⟩⟩⟩))) B.int boot_int')))
    refine WPss_one (WPs_ret (WPe_name 4 rfl ⟨_, _, rfl, ?_, ?_⟩))
    · show _ = C.dat (.int (take b many).1); rw [ht]
    · show _ = some (some (encB (take b many).2)); rw [ht]; rfl
  · have e : ¬ 0 < b1.held := of_decide_eq_false e
    rw [if_neg e] at ht
    have sd : (b1.seed + 1).natAbs < 2 ^ 32 := by have := op.2; omega
    have h1 := Int.emod_nonneg ((b1.seed + 1) * 39373) (b := 1000000007) (by decide)
    have h2 := Int.emod_lt_of_pos ((b1.seed + 1) * 39373) (b := 1000000007) (by decide)
    have bd : (begin_ b1).natAbs < 2 ^ 30 := by unfold begin_; omega
    have h3 := Int.emod_nonneg (begin_ b1 * begin_ b1) (b := 998244353) (by decide)
    have h4 := Int.emod_lt_of_pos (begin_ b1 * begin_ b1) (b := 998244353) (by decide)
    have bd2 : (begin_ b1 * begin_ b1 % 998244353).natAbs < 2 ^ 30 := by omega
    refine WPss_cons (WPs_set 5 (WPe_bin (WPe_callTy (WPa_cons (WPe_bin (WPe_bin (WPe_ix (WPe_name 0 rfl ⟨rfl, WPe_int ⟨1, _, rfl, rfl, rfl, WPe_int ⟨.d (.int b1.seed), .d (.int 1), _, rfl, rfl, od_add, rfl, ?_⟩⟩⟩))))) B.int boot_int')) N)
    refine WPe_int ⟨.d (.int (b1.seed + 1)), .d (.int 39373), _, rfl, rfl, od_mul (wide_mul (a := 32) (b := 16) sd (by decide) (by decide) (by decide) (by decide)), rfl, WPa_nil ⟨[.d (.int _)], _, ⟨rfl, trivial⟩, cd_int, rfl, WPe_int ⟨.d (.int _), .d (.int 1000000007), _, rfl, rfl, od_mod (by decide), _, _, rfl, rfl, ?_⟩⟩⟩
    refine WPss_weak (Δ := [some (encB b1), some (.dat (.int many)), none, none, none, some (.dat (.int (begin_ b1))), none]) (wk_eq rfl) ?_
    refine WPss_cons (WPs_set 6 (WPe_bin (WPe_callTy (WPa_cons (WPe_bin (WPe_bin (WPe_callTy (WPa_cons (WPe_bin (WPe_name 5 rfl ⟨rfl, WPe_name 5 rfl ⟨.d (.int (begin_ b1)), .d (.int (begin_ b1)), _, rfl, rfl, od_mul (wide_mul (a := 30) (b := 30) bd bd (by decide) (by decide) (by decide)), rfl, ?_⟩⟩))) B.int boot_int')))) B.int boot_int')) N)
    refine WPa_nil ⟨[.d (.int _)], _, ⟨rfl, trivial⟩, cd_int, rfl, WPe_int ⟨.d (.int _), .d (.int 998244353), _, rfl, rfl, od_mod (by decide), rfl, ?_⟩⟩
    refine WPe_int ⟨.d (.int (begin_ b1 * begin_ b1 % 998244353)), .d (.int 30011), _, rfl, rfl, od_mul (wide_mul (a := 30) (b := 16) bd2 (by decide) (by decide) (by decide) (by decide)), rfl, WPa_nil ⟨[.d (.int _)], _, ⟨rfl, trivial⟩, cd_int, rfl, WPe_int ⟨.d (.int _), .d (.int 998244353), _, rfl, rfl, od_mod (by decide), _, _, rfl, rfl, ?_⟩⟩⟩
    refine WPss_one (WPs_ret (WPe_bin (WPe_callTy (WPa_cons (WPe_bin (WPe_name 6 rfl ⟨rfl, WPe_int ⟨.d (.int _), .d (.int 7), _, rfl, rfl, od_div ⟨by decide, by decide⟩, rfl, ?_⟩⟩))) B.int boot_int')))
    refine WPa_nil ⟨[.d (.int _)], _, ⟨rfl, trivial⟩, cd_int, rfl, WPe_name 1 rfl ⟨.d (.int _), .d (.int many), _, rfl, rfl, od_mod (by omega), _, _, rfl, ?_, ?_⟩⟩
    · show _ = C.dat (.int (take b many).1); rw [ht]; rfl
    · show _ = some (some (encB (take b many).2)); rw [ht]; rfl
end
end K65
namespace K65
open PySem PySem.Spec PyProof.Rows L2 G
theorem cut_to {α : Type} (xs : List α) (k : Nat) : cutP xs none (some (k : Int)) = xs.take k := by
  unfold cutP
  have h1 : HT.sIx xs.length 0 none = 0 := by unfold HT.sIx; simp
  have h2 : HT.sIx xs.length xs.length (some (k : Int)) = min k xs.length := by unfold HT.sIx; simp; omega
  rw [h1, h2, List.drop_zero, Nat.sub_zero]
  rcases Nat.le_total k xs.length with h | h
  · rw [Nat.min_eq_left h]
  · rw [Nat.min_eq_right h, List.take_length, List.take_of_length_le h]
def bag0 (ns : List Int) : Bag := ⟨0, 1234567891, 0, ns.map fun n => (n.natAbs : Int)⟩
section
variable {P : Program} {w : World} {K : PySem.W.Frag} {mg : Str → Option Value} {base : Heap}
abbrev s_bag : Stmt := top 18
theorem sc_bag : FnScope ["script", "cell"] ["script"] (defScope s_bag) := ⟨rfl, rfl, rfl, by decide +kernel, rfl, by decide +kernel, by decide +kernel⟩
abbrev c_bag : Ctr := Pu (List Int) (fun ns => ns.length ≤ 63) (fun ns => [.seq ns]) fun ns => encB (bag0 ns)
theorem ok_bag {f : Addr} {fd : FuncData} (F : Fun K "_law_bag" "_law_bag" s_bag f fd) (B : Bl mg) : FnOk P w K mg base CX0 1 f fd ["script"] (spG K c_bag) := by
  refine fn_pu (fun ns => [some (.seq ns), none]) F sc_bag (fun _ => rfl) (fun _ => rfl) fun cdv A0 outer s H E hr ns hn => ?_
  have hn : ns.length ≤ 63 := hn
  refine WPss_one (WPs_ret (WPe_lstC (WPa_cons (WPe_int ⟨rfl, WPa_cons (WPe_int ⟨rfl, WPa_cons (WPe_int ⟨rfl, WPa_cons ?_⟩)⟩)⟩))))
  refine WPe_lcMap [("cell", 1)] (WPi_list (WPe_slice (WPe_name 0 rfl ⟨rfl, WPo_none (WPo_some (WPe_int ⟨63, rfl, .seq ns, rfl, _, _, frzV, ?_⟩))⟩))) rfl sc_bag.nd (blkOk_by (N := ["script", "cell"]) (sc := defScope s_bag) (by decide +kernel))
  refine ⟨Int, ns, .int, fun n => .dat (.int (n.natAbs : Int)), ?_, ⟨Nat.le_trans hn (by decide), fun n _ s H Ca cl fp => ?_⟩, ?_⟩
  · rw [show (63 : Int) = ((63 : Nat) : Int) from rfl, cut_to, List.take_of_length_le hn]
  · exact WPg_name 1 (fun s H Ca cl fp => WPe_callB (WPa_cons (WPe_name 1 rfl ⟨rfl, WPa_nil ⟨[.d (.int n)], _, ⟨rfl, trivial⟩, cd_abs, _, rfl, .refl⟩⟩)) B.abs boot_abs') sc_bag.nd
  · refine ⟨rfl, WPa_nil ⟨_, rfl, (by show 4 ≤ sizeLine; decide), _, _, rfl, ?_⟩⟩
    show C.own [_, _, _, C.own (ns.map fun n => .dat (.int (n.natAbs : Int)))] = encB (bag0 ns)
    have e : lI (ns.map fun n => (n.natAbs : Int)) = C.own (ns.map fun n => .dat (.int (n.natAbs : Int))) := by
      show C.own _ = C.own _
      rw [List.map_map, List.map_map]; rfl
    rw [encB, bag0, e]; rfl
abbrev s_some : Stmt := top 20
theorem sc_some : FnScope ["bag", "things"] ["bag", "things"] (defScope s_some) := ⟨rfl, rfl, rfl, by decide +kernel, rfl, by decide +kernel, by decide +kernel⟩
def some1 (b : Bag) (ds : List PyData) : PyData := ds.getD (take b ds.length).1.toNat .none
abbrev okSome (t : Bag × List PyData) : Prop := okBag (2 ^ 40) t.1 ∧ 1 ≤ t.2.length ∧ t.2.length ≤ 1000 ∧ t.1.cells.length ≤ 63
abbrev c_some : Ctr := Fn (Bag × List PyData) okSome (fun t => [encB t.1, .dat (.list t.2)]) (fun t => [encB (take t.1 t.2.length).2, .dat (.list t.2)]) fun t => .dat (some1 t.1 t.2)
theorem ixL {ds : List PyData} {i : Nat} {d : PyData} (h : ds[i]? = some d) : ixC (i : Int) (.dat (.list ds)) = some (.dat d) := by
  have hi : i < ds.length := (List.getElem?_eq_some_iff.mp h).1
  have e : atI ds (i : Int) = some d := by unfold atI; rw [ixN_ok hi]; exact h
  simp only [ixC, e]; rfl
theorem ok_some {f f1 : Addr} {fd d1 : FuncData} (F : Fun K "_law_some" "_law_some" s_some f fd) (B : Bl mg) (A1 : At P w K mg base "_law_take" 1 ["bag", "many"] c_take f1 d1) : FnOk P w K mg base CX0 2 f fd ["bag", "things"] (spG K c_some) := by
  refine fn_mu (fun t => [some (encB t.1), some (.dat (.list t.2))]) F sc_some (fun _ => rfl) (fun t => ⟨_, _, _, rfl, rfl, rfl⟩) fun cdv A0 outer s H E hr t ht => ?_
  obtain ⟨b, ds⟩ := t
  obtain ⟨ob, l1, l2, hl⟩ := ht
  have l1 : 1 ≤ ds.length := l1
  have l2 : ds.length ≤ 1000 := l2
  have tl := take_lt (b := b) (m := (ds.length : Int)) (by omega)
  refine WPss_one (WPs_ret (WPe_ix (WPe_name 1 rfl ⟨rfl, WPe_callM A1.ok hr A1.mg A1.keep A1.bind (WPe_name 0 rfl ⟨0, rfl, WPd_cons (WPe_callB (WPa_cons (WPe_name 1 rfl ⟨rfl, WPa_nil ⟨[.s false ds], _, ⟨rfl, trivial⟩, cd_len, _, _, rfl, WPd_nil ⟨_, rfl, (b, (ds.length : Int)), ⟨ob, by show 1 ≤ (ds.length : Int); omega, by show (ds.length : Int) < _; omega, hl⟩, rfl, _, _, rfl, ?_⟩⟩⟩)) B.len boot_len')⟩)⟩)))
  refine ⟨(((take b ds.length).1.toNat : Nat) : Int), .val (.dat (some1 b ds)), ?_, ?_, _, _, rfl, rfl, rfl⟩
  · show some (PyData.int (take b ds.length).1) = _
    rw [Int.toNat_of_nonneg tl.1]
  · show (ixC _ (.dat (.list ds))).map R.val = _
    have lt : (take b ds.length).1.toNat < ds.length := by omega
    rw [ixL (d := some1 b ds) (by rw [some1, List.getElem?_eq_getElem lt]; simp [List.getD, List.getElem?_eq_getElem lt])]; rfl
abbrev s_lrank : Stmt := top 22
theorem sc_lrank : FnScope ["row"] ["row"] (defScope s_lrank) := ⟨rfl, rfl, rfl, by decide +kernel, rfl, by decide +kernel, by decide +kernel⟩
theorem ok_lrank {f : Addr} {fd : FuncData} (F : Fun K "_law_rank" "_law_rank" s_lrank f fd) : FnOk P w K mg base CX0 1 f fd ["row"] (spG K c_rank) := by
  refine fn_pu (fun r => [some (.dat (encR r))]) F sc_lrank (fun _ => rfl) (fun _ => rfl) fun cdv A0 outer s H E hr r _ => ?_
  refine WPss_one (WPs_ret (WPe_tup ?_))
  refine WPd_cons (WPe_bin (WPe_int ⟨rfl, WPe_ix (WPe_name 0 rfl ⟨rfl, WPe_int ⟨6, _, rfl, rfl, .d (.int 0), .d (.int r.points), _, rfl, rfl, od_sub, _, _, rfl, ?_⟩⟩)⟩))
  refine WPd_cons (WPe_bin (WPe_ix (WPe_name 0 rfl ⟨rfl, WPe_int ⟨5, _, rfl, rfl, rfl, WPe_ix (WPe_name 0 rfl ⟨rfl, WPe_int ⟨4, _, rfl, rfl, .d (.int r.lets), .d (.int r.shot), _, rfl, rfl, od_sub, _, _, rfl, ?_⟩⟩)⟩⟩)))
  refine WPd_cons (WPe_bin (WPe_int ⟨rfl, WPe_ix (WPe_name 0 rfl ⟨rfl, WPe_int ⟨4, _, rfl, rfl, .d (.int 0), .d (.int r.shot), _, rfl, rfl, od_sub, _, _, rfl, ?_⟩⟩)⟩))
  exact WPd_cons (WPe_ix (WPe_name 0 rfl ⟨rfl, WPe_int ⟨0, _, rfl, rfl, _, _, rfl, WPd_nil ⟨by show 4 ≤ sizeLine; decide, _, _, rfl, rfl⟩⟩⟩))
theorem ok_lpoints {f : Addr} {fd : FuncData} (F : Fun K "_law_points" "_law_points" (top 23) f fd) : FnOk P w K mg base CX0 1 f fd ["way", "row"] (spG K c_points_told) :=
  ok_pts_st (.inr rfl) ⟨rfl, rfl, rfl, by decide +kernel, rfl, by decide +kernel, by decide +kernel⟩ F
structure TW where
  ds : List PyData
  at_ : Nat
  v : PyData
abbrev c_with : Ctr := Pu TW (fun t => t.at_ < t.ds.length ∧ t.ds.length ≤ 1000) (fun t => [.dat (.tuple t.ds), .dat (.int t.at_), .dat t.v]) fun t => .dat (.tuple (t.ds.set t.at_ t.v))
abbrev s_with : Stmt := top 25
theorem sc_with : FnScope ["row", "at", "value"] ["row", "at", "value"] (defScope s_with) := ⟨rfl, rfl, rfl, by decide +kernel, rfl, by decide +kernel, by decide +kernel⟩
theorem ok_with {f : Addr} {fd : FuncData} (F : Fun K "_law_with" "_law_with" s_with f fd) : FnOk P w K mg base CX0 1 f fd ["row", "at", "value"] (spG K c_with) := by
  refine fn_pu (fun t => [some (.dat (.tuple t.ds)), some (.dat (.int t.at_)), some (.dat t.v)]) F sc_with (fun _ => rfl) (fun _ => rfl) fun cdv A0 outer s H E hr t ht => ?_
  obtain ⟨ds, k, v⟩ := t
  obtain ⟨l1, l2⟩ := ht
  have l1 : k < ds.length := l1
  have l2 : ds.length ≤ 1000 := l2
  have big : 2100 ≤ sizeLine := by decide
  refine WPss_one (WPs_ret (WPe_bin (WPe_bin (WPe_slice (WPe_name 0 rfl ⟨rfl, WPo_none (WPo_some (WPe_name 1 rfl ⟨k, rfl, .tup ds, rfl, rfl, WPe_tup (WPd_cons (WPe_name 2 rfl ⟨_, _, rfl, WPd_nil ⟨by show 1 ≤ sizeLine; decide, .s true (cutP ds none (some (k : Int))), .s true [v], _, rfl, rfl, od_catT ?_, rfl, ?_⟩⟩))⟩))⟩)))))
  · rw [cut_to, List.length_take]; show _ + 1 ≤ _; omega
  refine WPe_slice (WPe_name 0 rfl ⟨rfl, WPo_some (WPe_bin (WPe_name 1 rfl ⟨rfl, WPe_int ⟨.d (.int k), .d (.int 1), _, rfl, rfl, od_add, (k + 1 : Nat), rfl, WPo_none ⟨.tup ds, rfl, .s true (cutP ds none (some (k : Int)) ++ [v]), .s true (cutP ds (some ((k + 1 : Nat) : Int)) none), _, rfl, rfl, od_catT ?_, _, _, rfl, ?_⟩⟩⟩))⟩)
  · rw [cut_to, cut_from, List.length_append, List.length_take, List.length_drop]; show _ + 1 + _ ≤ _; omega
  · show _ = C.dat (.tuple (ds.set k v))
    rw [cut_to, cut_from, List.set_eq_take_append_cons_drop, if_pos l1, List.append_assoc]; rfl
end
end K65
namespace G
open PySem PySem.Spec PyProof.Rows L2
/-- a contract that tells of its result only so much: post -/
def FnR (T U : Type) (pre : T → Prop) (post : T → U → Prop) (enc : T → List C) (enc' : T → U → List C) (res : U → C) : Ctr := fun cs Rz => ∃ t, pre t ∧ cs = enc t ∧ ∀ u, post t u → Rz (res u) (enc' t u)
section
variable {P : Program} {w : World} {K : PySem.W.Frag} {mg : Str → Option Value} {base : Heap} {f : Addr} {fd : FuncData} {x qual : Str} {st : Stmt} {N ps : List Str} {k : Nat} {T U : Type} {pre : T → Prop} {post : T → U → Prop} {enc : T → List C} {enc' : T → U → List C} {res : U → C}
theorem fn_mr (Γ0 : T → Gm) (F : Fun K x qual st f fd) (S : FnScope N ps (defScope st)) (hl : ∀ t, (enc t).length = ps.length) (hl' : ∀ t, ∃ c r, enc t = c :: r ∧ (∀ u, ∃ c', enc' t u = c' :: r) ∧ r.all plainC = true)
    (hbody : ∀ (cdv : Value) (A0 : Around) (outer : List Env) (s : Shared) (H : Hp) (E : XK), Room k (A0.deeper (envOfC qual (defScope st) s.heap.objs.size f cdv)) → ∀ t, pre t →
      WPss (cxOf CX0 P w K mg base N qual (defScope st) f cdv A0 outer s H E).nox [0] (defBody st) (Γ0 t)
        { nx := fun Γ' => ∃ u, post t u ∧ res u = .dat .none ∧ Γ'[0]? = ((enc' t u)[0]?).map some, rt := fun c Γ' => ∃ u, post t u ∧ c = res u ∧ Γ'[0]? = ((enc' t u)[0]?).map some }) (h0 : ∀ t, (enc t).map some ++ List.replicate (N.length - (enc t).length) none = Γ0 t := by intro _; rfl) : FnOk P w K mg base CX0 (k + 1) f fd ps (spG K (FnR T U pre post enc enc' res)) := by
  refine fn_ok (kp := [0]) F S (fun cs Rz ⟨t, _, e, _⟩ => by rw [e]; exact hl t) fun cdv A0 outer s H E hr cs Rz ⟨t, ht, e, r⟩ => ?_
  subst e
  obtain ⟨c0, rest, e1, e2, pr⟩ := hl' t
  have bk : ∀ (u : U) (Γ' : Gm), Γ'[0]? = ((enc' t u)[0]?).map some → Back [0] (enc t) Γ' (enc' t u) := fun u Γ' h => by
    obtain ⟨c1, e3⟩ := e2 u
    refine ⟨by rw [e1, e3]; rfl, fun i c e => ?_⟩
    cases i with
    | zero => exact .inl ⟨List.mem_cons_self, by rw [h, e]; rfl⟩
    | succ i =>
      rw [e3] at e
      exact .inr ⟨by rw [e1]; exact e, List.all_eq_true.mp pr c (List.mem_of_getElem? (by simpa using e))⟩
  rw [h0]
  intro F H O O' g E q
  exact hbody cdv A0 outer s _ _ hr t ht F H O O' g E ⟨fun Γ' F' H' σ' O2 ⟨u, pu, d1, d2⟩ => q.nx Γ' F' H' σ' O2 ⟨_, d1 ▸ r u pu, bk u Γ' d2⟩, fun c Γ' F' H' σ' O2 v os ⟨u, pu, d1, d2⟩ => q.rt c Γ' F' H' σ' O2 v os ⟨_, d1 ▸ r u pu, bk u Γ' d2⟩, q.bk, q.ct⟩
end
section
variable {X : Cx} {kp : List Nat} {Γ : Gm} {a b : Expr} {pos : Pos}
/-- xs[i] as a target, xs a list of the frame, i changing nothing -/
theorem WPg_sub (j : Nat) {x : Str} {p : Pos} {cs : List C} {i : Int} {k : Nat} {d : PyData} {Kg : Gm → Prop} (hc : Γ[j]? = some (some (.own cs))) (hi : WPq X b Γ (.int i)) (hk : ixN cs.length i = some k) (h : Kg (Γ.set j (some (.own (cs.set k (.dat d)))))) (hN : X.N[j]? = some x := by rfl)
    (hv : Vis X.env.scope x := by first | exact Or.inl rfl | exact Or.inr (Or.inl rfl) | exact Or.inr (Or.inr rfl)) (hdb : (x == ("__debug__" : Str)) = false := by decide) (hcd : (x == ("__classdict__" : Str)) = false := by decide)
    (ha : ∀ v, assign (.Subscript (.Name x p) b pos) X.env v = (do
      let ov ← holding [v] (eval (.Name x p) X.env)
      let iv ← holding [v, ov] (eval b X.env)
      standAt pos
      holding [v, ov, iv] (setItem ov iv v)
      release [v, ov, iv] []) := by intro _; rfl) : WPg X kp (.Subscript (.Name x p) b pos) d Γ Kg := fun F H σ O g v hd Q q =>
  WG_of (pg_sub (pe_var hN hv hdb hcd) pe_W set_list ha) (by
    obtain ⟨v0, e1, r⟩ := g.cell j _ hc
    refine ⟨v0, e1, ?_⟩
    refine hi F H σ O g _ fun vy hy => ?_
    obtain rfl := hy.int_inv
    have rp : RepR X.K F H σ (.pth j []) v0 [] := .pth e1 .nil
    have eo : ownAt Γ j [] = some cs := by simp only [ownAt, hc, C.at]
    obtain ⟨p0, xs, ev, hp, hl, O5, g5, f5⟩ := store_item (cn := .dat d) g rp eo (ix_own hk) (.dat hd) .nil (fun a m => by cases m)
    subst ev
    have eg : Gput Γ j [] (.own (cs.set k (.dat d))) = Γ.set j (some (.own (cs.set k (.dat d)))) := by simp only [Gput, hc, C.put]
    rw [eg] at g5
    exact ⟨p0, xs, i, k, rfl, rfl, hp, by rw [hl]; exact hk, q _ _ _ _ _ h g5 .refl (f5.pre fun a m => by rcases m with m | m; exact m; cases m)⟩)
end
end G
namespace K65
open PySem PySem.Spec PyProof.Rows L2 G
def fix (way : Int) (r : Row) : Row := { r with points := pts way r }
def again (way : Int) (rows : List Row) : List Row := srtD encK (rows.map (fix way))
structure TA where
  way : Int
  tup : Bool
  rows : List Row
def seqOf (t : Bool) (ds : List PyData) : PyData := if t then .tuple ds else .list ds
section
variable {P : Program} {w : World} {K : PySem.W.Frag} {mg : Str → Option Value} {base : Heap}
abbrev s_again : Stmt := top 26
abbrev N_again : List Str := ["way", "rows", "row"]
theorem sc_again : FnScope N_again ["way", "rows"] (defScope s_again) := ⟨rfl, rfl, rfl, by decide +kernel, rfl, by decide +kernel, by decide +kernel⟩
abbrev c_again : Ctr := Pu TA (fun t => t.rows.length ≤ 1000 ∧ ∀ r ∈ t.rows, okPts (t.way, r)) (fun t => [.dat (.int t.way), .dat (seqOf t.tup (t.rows.map encR))]) fun t => .dat (encRs (again t.way t.rows))
set_option maxHeartbeats 0 in
theorem ok_again {f f1 f2 f3 : Addr} {fd d1 d2 d3 : FuncData} (F : Fun K "_law_again" "_law_again" s_again f fd) (B : Bl mg) (A1 : At P w K mg base "_law_with" 1 ["row", "at", "value"] c_with f1 d1) (A2 : At P w K mg base "_law_points" 1 ["way", "row"] c_points_told f2 d2) (A3 : At P w K mg base "_law_rank" 1 ["row"] c_rank f3 d3) :
    FnOk P w K mg base CX0 4 f fd ["way", "rows"] (spG K c_again) := by
  refine fn_pu (fun t => [some (.dat (.int t.way)), some (.dat (seqOf t.tup (t.rows.map encR))), none]) F sc_again (fun _ => rfl) (fun _ => rfl) fun cdv A0 outer s H E hr t ht => ?_
  obtain ⟨way, tup, rows⟩ := t
  obtain ⟨h1, h2⟩ := ht
  have N := sc_again.nd
  have hz : rows.length ≤ sizeLine := nat_sz h1
  cases tup
  all_goals
    refine WPss_one (WPs_ret (WPe_callTy (WPa_cons (WPe_sortKey (bs := rows.map (fix way)) (enc := encR) (key := encK) (pre := fun _ => True) hr A3.ok A3.bind A3.keep A3.mg (fun _ _ => trivial) (PySem.W.AllAlike.of alike_K) (PySem.W.Sortable.tuples fun r => ⟨_, _, rfl⟩) (fun r _ => depth_K r) ?_ B.sorted boot_sorted')) B.tuple boot_tuple'))
    first
      | refine WPe_lcMap [("row", 2)] (WPi_list (WPe_name 1 rfl ⟨rows.map encR, _, rfl, ?_⟩)) rfl N (blkOk_by (N := N_again) (sc := defScope s_again) (by decide +kernel))
      | refine WPe_lcMap [("row", 2)] (WPi_tup (WPe_name 1 rfl ⟨rows.map encR, _, rfl, ?_⟩)) rfl N (blkOk_by (N := N_again) (sc := defScope s_again) (by decide +kernel))
    refine ⟨Row, rows, encR, fun r => .dat (encR (fix way r)), rfl, ⟨hz, fun r hrm s H Ca cl fp => ?_⟩, ?_⟩
    · refine WPg_name 2 (fun s H Ca cl fp => WPe_callD A1.ok (hr.mono (by decide)) A1.mg A1.keep A1.bind (WPd_cons (WPe_name 2 rfl ⟨_, _, rfl, WPd_cons (WPe_int ⟨_, _, rfl, WPd_cons (WPe_callD A2.ok (hr.mono (by decide)) A2.mg A2.keep A2.bind (WPd_cons (WPe_name 0 rfl ⟨_, _, rfl, WPd_cons (WPe_name 2 rfl ⟨_, _, rfl, WPd_nil ⟨(way, r), h2 r hrm, rfl, _, _, rfl, WPd_nil ?_⟩⟩)⟩)))⟩)⟩))) N
      exact ⟨⟨r.ints.map .int, 6, .int (pts way r)⟩, ⟨by show 6 < 7; decide, by show 7 ≤ 1000; decide⟩, rfl, _, rfl, .refl⟩
    · refine ⟨?_, rfl, WPa_nil ⟨[.s false ((again way rows).map encR)], _, ⟨seesLD, trivial⟩, cd_tuple, _, _, rfl, rfl⟩⟩
      show iv _ _ = _
      simp only [iv, C.items, dats_map, List.map_map]
      rfl
abbrev s_alike : Stmt := top 21
abbrev N_alike : List Str := ["found", "due", "pairs", "at", "one", "other"]
theorem sc_alike : FnScope N_alike ["found", "due"] (defScope s_alike) := ⟨rfl, rfl, rfl, by decide +kernel, rfl, by decide +kernel, by decide +kernel⟩
abbrev c_alikeB : Ctr := Pu (Bool × Bool) (fun _ => True) (fun t => [.dat (.bool t.1), .dat (.bool t.2)]) fun t => .dat (.bool (t.1 == t.2))
set_option maxHeartbeats 0 in
theorem ok_alikeB {f : Addr} {fd : FuncData} (F : Fun K "_law_alike" "_law_alike" s_alike f fd) (B : Bl mg) : FnOk P w K mg base CX0 1 f fd ["found", "due"] (spG K c_alikeB) := by
  refine fn_pu (fun t => [some (.dat (.bool t.1)), some (.dat (.bool t.2)), none, none, none, none]) F sc_alike (fun _ => rfl) (fun _ => rfl) fun cdv A0 outer s H E hr t _ => ?_
  obtain ⟨b1, b2⟩ := t
  have N := sc_alike.nd
  refine WPss_cons (WPs_par 2 3 (WPa_cons (WPe_lst (WPd_cons (WPe_tup (WPd_cons (WPe_name 0 rfl ⟨_, _, rfl, WPd_cons (WPe_name 1 rfl ⟨_, _, rfl, WPd_nil ⟨(by show 2 ≤ sizeLine; decide), _, _, rfl, WPd_nil ⟨(by show 1 ≤ sizeLine; decide), rfl, WPa_cons (WPe_int ⟨rfl, WPa_nil ⟨_, _, rfl, rfl, rfl, ?_⟩⟩)⟩⟩⟩)⟩)))))) rfl N)
  let mk : Nat → Gm := fun i => [some (.dat (.bool b1)), some (.dat (.bool b2)), some (.own [.dat (.tuple [.bool b1, .bool b2])]), some (.dat (.int i)), none, none]
  refine WPss_cons (WPs_while (S := Nat) (fun i => (i = 0) ∨ (i = 1 ∧ b1 = b2)) mk (fun i => 2 - i) 0 (wk_eq rfl) (.inl rfl) .never fun i hi => ?_)
  refine WPt_cmp (WPe_name 3 rfl ⟨rfl, WPe_callB (WPa_cons (WPe_name 2 rfl ⟨rfl, WPa_nil ⟨[.s false [.tuple [.bool b1, .bool b2]]], _, ⟨rfl, trivial⟩, cd_len, .d (.int i), .d (.int 1), _, rfl, rfl, od_lt, fun e => ?_, fun e => ?_⟩⟩)) B.len boot_len'⟩)
  · have e : (i : Int) < 1 := of_decide_eq_true e
    have i0 : i = 0 := by omega
    subst i0
    refine WPss_cons (WPs_asg (WPe_ix (WPe_name 2 rfl ⟨rfl, WPe_name 3 rfl ⟨0, _, rfl, rfl, _, _, rfl, WPg_tup (WPgs_cons (WPg_name 4 (WPgs_cons (WPg_name 5 (WPgs_nil ?_) N)) N)) rfl⟩⟩)))
    refine WPss_cons (WPs_aug 3 rfl (WPe_int ⟨.int 1, .int 1, rfl, od_iadd, rfl, ?_⟩) N)
    refine WPss_cons (WPs_if (WPt_w (WPw_or (WPt_cmp (WPe_isi (WPe_name 4 rfl ⟨_, _, rfl, kit_bool _, rfl, WPe_isi (WPe_name 5 rfl ⟨_, _, rfl, kit_bool _, .d (.bool true), .d (.bool true), _, rfl, rfl, od_neB, fun _ => ?_, fun e => by cases e⟩) B.isi B.bool boot_bool' boot_isi⟩) B.isi B.bool boot_bool' boot_isi)))))
    refine WPw_or1 (WPt_cmp (WPe_isi (WPe_name 4 rfl ⟨_, _, rfl, kit_str _, rfl, WPe_isi (WPe_name 5 rfl ⟨_, _, rfl, kit_str _, .d (.bool false), .d (.bool false), _, rfl, rfl, od_neB, (fun e => by cases e), fun _ => WPss_nil ?_⟩) B.isi B.str boot_str' boot_isi⟩) B.isi B.str boot_str' boot_isi))
    refine WPss_cons (WPs_if (WPt_cmp (WPe_isi2 (WPe_name 4 rfl ⟨_, _, rfl, ⟨_, _, kit_tup _, kit_lst _, rfl⟩, rfl, WPe_isi2 (WPe_name 5 rfl ⟨_, _, rfl, ⟨_, _, kit_tup _, kit_lst _, rfl⟩, .d (.bool false), .d (.bool false), _, rfl, rfl, od_neB, (fun e => by cases e), fun _ => WPss_nil ?_⟩) B.isi B.tuple boot_tuple' B.list boot_list' boot_isi⟩) B.isi B.tuple boot_tuple' B.list boot_list' boot_isi)))
    refine WPss_one (WPs_if (WPt_val (WPe_isi2 (WPe_name 4 rfl ⟨_, _, rfl, ⟨_, _, kit_tup _, kit_lst _, rfl⟩, _, rfl, (fun e => by cases e), fun _ => WPss_one (WPs_if (WPt_cmp (WPe_name 4 rfl ⟨rfl, WPe_name 5 rfl ⟨.d (.bool b1), .d (.bool b2), _, rfl, rfl, od_neB, fun e => ?_, fun e => WPss_nil ?_⟩⟩)))⟩) B.isi B.tuple boot_tuple' B.list boot_list' boot_isi)))
    · refine WPss_one (WPs_ret (WPe_bl ⟨_, _, rfl, ?_⟩))
      show _ = C.dat (.bool (b1 == b2))
      cases b1 <;> cases b2 <;> first | rfl | cases e
    · have eb : b1 = b2 := by cases b1 <;> cases b2 <;> first | rfl | cases e
      exact ⟨1, .inr ⟨rfl, eb⟩, by decide, wk_to [some (.dat (.bool b1)), some (.dat (.bool b2)), some (.own [.dat (.tuple [.bool b1, .bool b2])]), some (.dat (.int (1 : Nat))), some (.dat (.bool b1)), some (.dat (.bool b2))] rfl (wk_none 4 (wk_none 5 .refl))⟩
  · have e : ¬ (i : Int) < 1 := of_decide_eq_false e
    have eb : b1 = b2 := by
      rcases hi with h | h
      · omega
      · exact h.2
    refine WPss_one (WPs_ret (WPe_bl ⟨_, _, rfl, ?_⟩))
    show _ = C.dat (.bool (b1 == b2))
    rw [eb]; simp
end
end K65
namespace K65
open PySem PySem.Spec PyProof.Rows L2 G
theorem lex_lt : ∀ xs ys : List Int, HT.lexLt xs ys = decide (xs < ys)
  | [], [] => by simp [HT.lexLt_nil_nil]
  | [], y :: ys => by simp [HT.lexLt_nil_cons]
  | x :: xs, [] => by simp [HT.lexLt_cons_nil]
  | x :: xs, y :: ys => by
    rw [HT.lexLt_cons, lex_lt xs ys]
    by_cases h : x = y
    · subst h; simp [List.cons_lt_cons_iff]
    · simp [List.cons_lt_cons_iff, h]
theorem dataLt_tints (xs ys : List Int) : PySem.W.dataLt (.tuple (xs.map .int)) (.tuple (ys.map .int)) = HT.lexLt xs ys := by
  rw [PySem.W.dataLt_tuple, lex_lt]
  exact PySem.W.dataLt_ints xs ys
theorem rankLt_iff (a b : Row) : rankLt a b = true ↔ (0 - a.points < 0 - b.points ∨ (0 - a.points = 0 - b.points ∧ (a.lets - a.shot < b.lets - b.shot ∨ (a.lets - a.shot = b.lets - b.shot ∧ (0 - a.shot < 0 - b.shot ∨ (0 - a.shot = 0 - b.shot ∧ a.team < b.team)))))) := by
  unfold rankLt rank
  simp only [HT.lexLt_cons, HT.lexLt_nil_nil]
  split
  · split
    · split
      · split
        · simp; omega
        · simp; omega
      · simp; omega
    · simp; omega
  · simp; omega
theorem le_K (a b : Row) : PySem.W.dataLe false encK a b = !rankLt b a := by
  rw [PySem.W.dataLe_eq]
  show (!PySem.W.dataLt (encK b) (encK a)) = _
  rw [encK, encK, dataLt_tints]; rfl
theorem rank_trans {a b c : Row} (h1 : rankLt a b = true) (h2 : rankLt b c = true) : rankLt a c = true := by
  rw [rankLt_iff] at *; omega
theorem rank_irrefl (a : Row) : rankLt a a = false := by
  cases h : rankLt a a
  · rfl
  · rw [rankLt_iff] at h; omega
theorem rank_asymm {a b : Row} (h : rankLt a b = true) : rankLt b a = false := by
  cases h2 : rankLt b a
  · rfl
  · have := rank_trans h h2; rw [rank_irrefl] at this; cases this
theorem rank_tri {a b : Row} (h1 : rankLt a b = false) (h2 : rankLt b a = false) : a.team = b.team := by
  have n1 : ¬ rankLt a b = true := by rw [h1]; simp
  have n2 : ¬ rankLt b a = true := by rw [h2]; simp
  rw [rankLt_iff] at n1 n2; omega
theorem nle_trans {a b c : Row} (h1 : rankLt b a = false) (h2 : rankLt c b = false) : rankLt c a = false := by
  have n1 : ¬ rankLt b a = true := by rw [h1]; simp
  have n2 : ¬ rankLt c b = true := by rw [h2]; simp
  cases h : rankLt c a
  · rfl
  · rw [rankLt_iff] at *; omega
theorem srtK_perm (rows : List Row) : (srtD encK rows).Perm rows := List.mergeSort_perm _ _
theorem srtK_pw (rows : List Row) : (srtD encK rows).Pairwise fun a b => rankLt b a = false := by
  have h := List.pairwise_mergeSort (le := PySem.W.dataLe false encK) (fun a b c h1 h2 => by
    rw [le_K] at *
    have h1 : rankLt b a = false := by simpa using h1
    have h2 : rankLt c b = false := by simpa using h2
    simp [nle_trans h1 h2]) (fun a b => by
    rw [le_K, le_K]
    cases h : rankLt b a
    · simp
    · simp [rank_asymm h]) rows
  exact h.imp fun h => by rw [le_K] at h; simpa using h
/-- all the conditions but the order -/
def core (way : Int) (rows : List Row) : Bool :=
  decide (1 ≤ (rows.length : Int) ∧ (rows.length : Int) ≤ 12) && (decide (srtI (rows.map (·.team)) = (List.range rows.length).map fun i : Nat => (i : Int)) &&
  ((rows.all fun r => r.ints.all fun x => decide (0 ≤ x ∧ x ≤ 19800)) && ((rows.all fun r => decide (pts way r = r.points)) &&
  !(decide (sumAt 1 rows ≠ sumAt 3 rows) || (decide (sumAt 2 rows % 2 = 1) || decide (sumAt 4 rows ≠ sumAt 5 rows))))))
def chain (rows : List Row) : Bool := (rows.zip (rows.drop 1)).all fun p => rankLt p.1 p.2
theorem tab_split (way : Int) (rows : List Row) : tabOk way rows = (core way rows && chain rows) := by
  unfold tabOk core chain
  simp only [Bool.and_assoc]
theorem srtI_congr {as bs : List Int} (h : as.Perm bs) : srtI as = srtI bs := srt_uniq (((srtI_perm as).trans h).trans (srtI_perm bs).symm) (srtI_pw as) (srtI_pw bs)
theorem sum_perm {as bs : List Int} (h : as.Perm bs) : as.sum = bs.sum := by
  induction h with
  | nil => rfl
  | cons x _ ih => simp [ih]
  | swap x y l => simp; omega
  | trans _ _ h1 h2 => exact h1.trans h2
theorem all_perm {α : Type} {p : α → Bool} {as bs : List α} (h : as.Perm bs) : as.all p = bs.all p := by
  induction h with
  | nil => rfl
  | cons x _ ih => simp [ih]
  | swap x y l => simp [Bool.and_left_comm]
  | trans _ _ h1 h2 => exact h1.trans h2
theorem sumAt_perm {as bs : List Row} (h : as.Perm bs) (k : Nat) : sumAt k as = sumAt k bs := sum_perm (h.map _)
theorem core_perm {way : Int} {as bs : List Row} (h : as.Perm bs) : core way as = core way bs := by
  unfold core
  rw [h.length_eq, srtI_congr (h.map _), all_perm h, all_perm h, sumAt_perm h, sumAt_perm h, sumAt_perm h, sumAt_perm h, sumAt_perm h]
theorem chain_of : ∀ {rows : List Row}, rows.Pairwise (fun a b => rankLt a b = true) → chain rows = true
  | [], _ => rfl
  | [a], _ => rfl
  | a :: b :: rows, h => by
    have h1 := (List.pairwise_cons.mp h).1 b (by simp)
    have h2 := chain_of (List.pairwise_cons.mp h).2
    unfold chain at *
    simp only [List.drop_one, List.tail_cons, List.zip_cons_cons, List.all_cons] at *
    rw [h1, h2]; rfl
theorem chain_pw : ∀ {rows : List Row}, chain rows = true → rows.Pairwise fun a b => rankLt a b = true
  | [], _ => .nil
  | [a], _ => List.pairwise_singleton _ _
  | a :: b :: rows, h => by
    unfold chain at h
    simp only [List.drop_one, List.tail_cons, List.zip_cons_cons, List.all_cons, Bool.and_eq_true] at h
    have h2 := chain_pw (rows := b :: rows) (by unfold chain; simpa using h.2)
    refine List.pairwise_cons.mpr ⟨fun c hc => ?_, h2⟩
    rcases List.mem_cons.mp hc with rfl | hc
    · exact h.1
    · exact rank_trans h.1 ((List.pairwise_cons.mp h2).1 c hc)
theorem strict_of {rows : List Row} (h : rows.Pairwise fun a b => rankLt b a = false) (nd : (rows.map (·.team)).Nodup) : rows.Pairwise fun a b => rankLt a b = true := by
  have nd' : rows.Pairwise fun a b => a.team ≠ b.team := List.pairwise_map.mp nd
  refine (h.and nd').imp ?_
  intro a b ⟨h1, h2⟩
  cases e : rankLt a b
  · exact absurd (rank_tri e h1) h2
  · rfl
theorem core_teams {way : Int} {rows : List Row} (h : core way rows = true) : (rows.map (·.team)).Perm ((List.range rows.length).map fun i : Nat => (i : Int)) := by
  unfold core at h
  simp only [Bool.and_eq_true, decide_eq_true_eq] at h
  exact (srtI_perm _).symm.trans (by rw [h.2.1])
theorem rng_nodup (n : Nat) : ((List.range n).map fun i : Nat => (i : Int)).Nodup := List.pairwise_map.mpr ((List.nodup_range (n := n)).imp fun h e => h (by omega))
theorem core_nodup {way : Int} {rows : List Row} (h : core way rows = true) : (rows.map (·.team)).Nodup := (core_teams h).nodup_iff.mpr (rng_nodup _)
theorem core_of {way : Int} {rows : List Row} (h : tabOk way rows = true) : core way rows = true := by
  rw [tab_split, Bool.and_eq_true] at h; exact h.1
/-- sorted again: a table if the rows are right -/
theorem tab_srt {way : Int} {rows : List Row} : tabOk way (srtD encK rows) = core way rows := by
  rw [tab_split, core_perm (srtK_perm rows)]
  cases h : core way rows
  · rfl
  · have nd : ((srtD encK rows).map (·.team)).Nodup := (((srtK_perm rows).map _).nodup_iff).mpr (core_nodup h)
    rw [chain_of (strict_of (srtK_pw rows) nd)]; rfl
theorem tab_false {way : Int} {rows : List Row} (h : core way rows = false) : tabOk way rows = false := by rw [tab_split, h]; rfl
end K65
namespace K65
open PySem PySem.Spec PyProof.Rows L2 G
theorem core_parts {way : Int} {rows : List Row} (h : core way rows = true) : (1 ≤ (rows.length : Int) ∧ (rows.length : Int) ≤ 12) ∧ (srtI (rows.map (·.team)) = (List.range rows.length).map fun i : Nat => (i : Int)) ∧ (∀ r ∈ rows, ∀ x ∈ r.ints, 0 ≤ x ∧ x ≤ 19800) ∧ (∀ r ∈ rows, pts way r = r.points) ∧
    sumAt 1 rows = sumAt 3 rows ∧ ¬ sumAt 2 rows % 2 = 1 ∧ sumAt 4 rows = sumAt 5 rows := by
  unfold core at h
  simp only [Bool.and_eq_true, decide_eq_true_eq, List.all_eq_true, Bool.not_eq_true', Bool.or_eq_false_iff, decide_eq_false_iff_not, Decidable.not_not] at h
  obtain ⟨h1, h2, h3, h4, h5, h6, h7⟩ := h
  exact ⟨h1, h2, h3, h4, h5, h6, h7⟩
theorem core_mk {way : Int} {rows : List Row} (h1 : 1 ≤ (rows.length : Int) ∧ (rows.length : Int) ≤ 12) (h2 : srtI (rows.map (·.team)) = (List.range rows.length).map fun i : Nat => (i : Int)) (h3 : ∀ r ∈ rows, ∀ x ∈ r.ints, 0 ≤ x ∧ x ≤ 19800) (h4 : ∀ r ∈ rows, pts way r = r.points)
    (h5 : sumAt 1 rows = sumAt 3 rows) (h6 : ¬ sumAt 2 rows % 2 = 1) (h7 : sumAt 4 rows = sumAt 5 rows) : core way rows = true := by
  unfold core
  simp only [Bool.and_eq_true, decide_eq_true_eq, List.all_eq_true, Bool.not_eq_true', Bool.or_eq_false_iff, decide_eq_false_iff_not, Decidable.not_not]
  exact ⟨h1, h2, h3, h4, h5, h6, h7⟩
theorem core_no {way : Int} {rows : List Row} (h : core way rows = true → False) : core way rows = false := by
  cases e : core way rows
  · rfl
  · exact (h e).elim
theorem getD_at {α : Type} {l : List α} {i : Nat} {d : α} (h : i < l.length) : l.getD i d = l[i] := by simp [List.getD, List.getElem?_eq_getElem h]
theorem sum_set : ∀ (l : List Int) (i : Nat) (x : Int), i < l.length → (l.set i x).sum = l.sum - l.getD i 0 + x
  | [], _, _, h => by simp at h
  | a :: l, 0, x, _ => by simp; omega
  | a :: l, i + 1, x, h => by
    have ih := sum_set l i x (by simpa using h)
    rw [List.set_cons_succ, List.sum_cons, ih, List.sum_cons]
    have : (a :: l).getD (i + 1) 0 = l.getD i 0 := rfl
    rw [this]; omega
def r0 : Row := ⟨0, 0, 0, 0, 0, 0, 0⟩
theorem sumAt_set {rows : List Row} {i : Nat} {r : Row} (h : i < rows.length) (k : Nat) : sumAt k (rows.set i r) = sumAt k rows - (rows.getD i r0).ints.getD k 0 + r.ints.getD k 0 := by
  unfold sumAt
  rw [List.map_set, sum_set _ _ _ (by simpa using h)]
  congr 2
  rw [getD_at (by simpa using h), getD_at h, List.getElem_map]
theorem sumAt_fix {way : Int} {rows : List Row} {k : Nat} (h : k < 6) : sumAt k (rows.map (fix way)) = sumAt k rows := by
  unfold sumAt
  rw [List.map_map]
  congr 1
  apply List.map_congr_left
  intro r _
  match k, h with
  | 0, _ => rfl
  | 1, _ => rfl
  | 2, _ => rfl
  | 3, _ => rfl
  | 4, _ => rfl
  | 5, _ => rfl
theorem bad_points {way : Int} {rows : List Row} {r : Row} (hr : r ∈ rows) (h : ¬ pts way r = r.points) : core way rows = false := core_no fun e => h ((core_parts e).2.2.2.1 r hr)
theorem bad_bound {way : Int} {rows : List Row} {r : Row} {x : Int} (hr : r ∈ rows) (hx : x ∈ r.ints) (h : ¬ (0 ≤ x ∧ x ≤ 19800)) : core way rows = false := core_no fun e => h ((core_parts e).2.2.1 r hr x hx)
section
variable {way : Int} {rows : List Row} {i : Nat} {r : Row}
theorem set_mem (h : i < rows.length) : r ∈ rows.set i r := List.mem_set h r
theorem bad_sums (h : core way rows = true) (hi : i < rows.length) (hs : r.won - (rows.getD i r0).won ≠ r.lost - (rows.getD i r0).lost ∨ (r.tied - (rows.getD i r0).tied) % 2 = 1 ∨ r.shot - (rows.getD i r0).shot ≠ r.lets - (rows.getD i r0).lets) : core way ((rows.set i r).map (fix way)) = false := core_no fun e => by
  obtain ⟨_, _, _, _, a1, a2, a3⟩ := core_parts h
  obtain ⟨_, _, _, _, b1, b2, b3⟩ := core_parts e
  rw [sumAt_fix (by decide), sumAt_fix (by decide), sumAt_set hi, sumAt_set hi] at b1 b3
  rw [sumAt_fix (by decide), sumAt_set hi] at b2
  have e1 : (rows.getD i r0).ints.getD 1 0 = (rows.getD i r0).won := rfl
  have e2 : (rows.getD i r0).ints.getD 2 0 = (rows.getD i r0).tied := rfl
  have e3 : (rows.getD i r0).ints.getD 3 0 = (rows.getD i r0).lost := rfl
  have e4 : (rows.getD i r0).ints.getD 4 0 = (rows.getD i r0).shot := rfl
  have e5 : (rows.getD i r0).ints.getD 5 0 = (rows.getD i r0).lets := rfl
  have f1 : r.ints.getD 1 0 = r.won := rfl
  have f2 : r.ints.getD 2 0 = r.tied := rfl
  have f3 : r.ints.getD 3 0 = r.lost := rfl
  have f4 : r.ints.getD 4 0 = r.shot := rfl
  have f5 : r.ints.getD 5 0 = r.lets := rfl
  rw [e1, f1, e3, f3] at b1
  rw [e2, f2] at b2
  rw [e4, f4, e5, f5] at b3
  rcases hs with z | z | z
  · omega
  · omega
  · omega
theorem bad_team (h : core way (rows.set i r) = true) (hi : i < rows.length) : 0 ≤ r.team ∧ r.team < rows.length := by
  have p := core_teams h
  have m : r.team ∈ (rows.set i r).map (·.team) := List.mem_map_of_mem (set_mem hi)
  have m2 := p.mem_iff.mp m
  rw [List.length_set] at m2
  obtain ⟨k, hk, e⟩ := List.mem_map.mp m2
  have := List.mem_range.mp hk
  omega
theorem bad_dup {j : Nat} (h : core way (rows.set i r) = true) (hi : i < rows.length) (hj : j < rows.length) (hne : j ≠ i) : ¬ r.team = (rows.getD j r0).team := fun e => by
  have nd := core_nodup h
  rw [List.nodup_iff_pairwise_ne, List.pairwise_map, List.pairwise_iff_getElem] at nd
  rw [getD_at hj] at e
  rcases Nat.lt_or_gt_of_ne hne with l | l
  · have := nd j i (by simpa using hj) (by simpa using hi) l
    rw [List.getElem_set_self, List.getElem_set_ne (by omega)] at this
    exact this e.symm
  · have := nd i j (by simpa using hi) (by simpa using hj) l
    rw [List.getElem_set_self, List.getElem_set_ne (by omega)] at this
    exact this e
theorem strict_at {a b : Nat} (h : tabOk way rows = true) (l : a < b) (hb : b < rows.length) : rankLt (rows.getD a r0) (rows.getD b r0) = true := by
  rw [tab_split, Bool.and_eq_true] at h
  have p := chain_pw h.2
  rw [List.pairwise_iff_getElem] at p
  have := p a b (by omega) hb l
  rw [getD_at (by omega), getD_at hb]; exact this
theorem swap_tab {a b : Nat} (h : tabOk way rows = true) (ha : a < rows.length) (hb : b < rows.length) : tabOk way ((rows.set a (rows.getD b r0)).set b (rows.getD a r0)) = decide (a = b) := by
  by_cases e : a = b
  · subst e
    rw [getD_at ha, List.set_getElem_self, List.set_getElem_self, h]; simp
  · rw [decide_eq_false e]
    cases e2 : tabOk way ((rows.set a (rows.getD b r0)).set b (rows.getD a r0))
    · rfl
    · exfalso
      have ga : ((rows.set a (rows.getD b r0)).set b (rows.getD a r0)).getD a r0 = rows.getD b r0 := by
        rw [getD_at (by simpa using ha), List.getElem_set_ne (by omega), List.getElem_set_self]
      have gb : ((rows.set a (rows.getD b r0)).set b (rows.getD a r0)).getD b r0 = rows.getD a r0 := by
        rw [getD_at (by simpa using hb), List.getElem_set_self]
      rcases Nat.lt_or_gt_of_ne e with l | l
      · have h1 := strict_at h l hb
        have h2 := strict_at e2 l (by simpa using hb)
        rw [ga, gb, rank_asymm h1] at h2; cases h2
      · have h1 := strict_at h l ha
        have h2 := strict_at e2 l (by simpa using ha)
        rw [ga, gb, rank_asymm h1] at h2; cases h2
theorem good_seven (h : core way rows = true) (hi : i < rows.length) (hr : r = { rows.getD i r0 with shot := (rows.getD i r0).shot + 7, lets := (rows.getD i r0).lets + 7 }) (hb : (rows.getD i r0).shot + 7 ≤ 19800 ∧ (rows.getD i r0).lets + 7 ≤ 19800) : core way ((rows.set i r).map (fix way)) = true := by
  obtain ⟨a1, a2, a3, a4, a5, a6, a7⟩ := core_parts h
  have hm : rows.getD i r0 ∈ rows := by rw [getD_at hi]; exact List.getElem_mem hi
  have old := a3 _ hm
  have oldp := a4 _ hm
  have key : ∀ s ∈ rows.set i r, s ∈ rows ∨ s = r := fun s hs => List.mem_or_eq_of_mem_set hs
  have t1 : ((rows.set i r).map (fix way)).map (·.team) = rows.map (·.team) := by
    rw [List.map_map, List.map_set]
    have : ((fun x : Row => x.team) ∘ fix way) = fun x : Row => x.team := rfl
    rw [this, hr]
    show (rows.map fun x => x.team).set i (rows.getD i r0).team = _
    rw [getD_at hi]
    have h2 : rows[i].team = (rows.map fun x => x.team)[i]'(by simpa using hi) := by rw [List.getElem_map]
    rw [h2, List.set_getElem_self]
  refine core_mk (by simpa using a1) (by rw [t1]; simpa using a2) (fun s hs x hx => ?_) (fun s hs => ?_) ?_ ?_ ?_
  · obtain ⟨s0, hs0, rfl⟩ := List.mem_map.mp hs
    rcases key s0 hs0 with m | m
    · have e : fix way s0 = s0 := by
        unfold fix; rw [a4 s0 m]
      rw [e] at hx; exact a3 s0 m x hx
    · subst m
      have p7 : pts way s0 = (rows.getD i r0).points := by rw [hr]; exact oldp
      have o := old
      simp only [Row.ints, List.mem_cons, List.not_mem_nil, or_false, forall_eq_or_imp, forall_eq] at o
      simp only [fix, Row.ints, List.mem_cons, List.not_mem_nil, or_false] at hx
      rw [p7] at hx
      rw [hr] at hx
      simp only at hx
      rcases hx with rfl | rfl | rfl | rfl | rfl | rfl | rfl <;> omega
  · obtain ⟨s0, _, rfl⟩ := List.mem_map.mp hs
    rfl
  · rw [sumAt_fix (by decide), sumAt_fix (by decide), sumAt_set hi, sumAt_set hi, hr, a5]
    simp [Row.ints] <;> omega
  · rw [sumAt_fix (by decide), sumAt_set hi, hr]
    simp [Row.ints] <;> omega
  · rw [sumAt_fix (by decide), sumAt_fix (by decide), sumAt_set hi, sumAt_set hi, hr, a7]
    simp [Row.ints] <;> omega
end
end K65
namespace K65
open PySem PySem.Spec PyProof.Rows L2 G
structure TBt where
  b : Bag
  n : Nat
  way : Int
  rows : List Row
def low7 (rows : List Row) : Prop := ∀ r ∈ rows, r.shot + 7 ≤ 19800 ∧ r.lets + 7 ≤ 19800
def okBt (t : TBt) : Prop := okBag t.n t.b ∧ t.n + 10 ≤ 2 ^ 40 ∧ t.b.cells.length ≤ 63 ∧ (1 ≤ t.way ∧ t.way ≤ 3) ∧ tabOk t.way t.rows = true ∧ low7 t.rows
def postBt (t : TBt) (u : Bag × PyData × Bool) : Prop := okBag (t.n + 3) u.1 ∧ u.1.cells.length ≤ 63 ∧ smallRows u.2.1 ∧ isTab t.way u.2.1 = u.2.2
abbrev c_bent : Ctr := FnR TBt (Bag × PyData × Bool) okBt postBt (fun t => [encB t.b, .dat (.int t.way), .dat (encRs t.rows)]) (fun t u => [encB u.1, .dat (.int t.way), .dat (encRs t.rows)]) fun u => .dat (.tuple [u.2.1, .bool u.2.2])
theorem pre1_cells (b : Bag) : (pre1 b).cells = b.cells := by unfold pre1; split <;> rfl
theorem take_cells (b : Bag) (m : Int) : (take b m).2.cells = b.cells := by unfold take; split <;> exact pre1_cells b
abbrev lR (rows : List Row) : C := .own ((rows.map encR).map .dat)
theorem ixRs {rows : List Row} {a : Nat} (h : a < rows.length) : ixC (a : Int) (.dat (encRs rows)) = some (.dat (encR (rows.getD a r0))) :=
  ixT (by rw [List.getElem?_map, List.getElem?_eq_getElem h, getD_at h]; rfl)
theorem lR_set {rows : List Row} {a : Nat} {r : Row} : ((rows.map encR).map C.dat).set a (.dat (encR r)) = ((rows.set a r).map encR).map C.dat := by simp [List.map_set]
theorem small_enc {rows : List Row} (h : rows.length ≤ 1000) : smallRows (encRs rows) := by
  refine ⟨by show (rows.map encR).length ≤ _; rw [List.length_map]; exact nat_sz h, fun x hx => ?_⟩
  obtain ⟨r, _, rfl⟩ := List.mem_map.mp hx
  show 7 ≤ sizeLine
  decide
theorem srtK_len (rows : List Row) : (srtD encK rows).length = rows.length := (srtK_perm rows).length_eq
theorem WPe_frz {X : Cx} {e : Expr} {Γ : Gm} {Kn : KR} (h : WPe X e Γ fun r Γ1 => ∃ d Γ2, frz Γ1 r = some (d, Γ2) ∧ Kn (.val (.dat d)) Γ2) : WPe X e Γ Kn := fun F H σ O g Q q => h F H σ O g Q fun r Γ1 F1 H1 O1 v os ⟨d, Γ2, ef, k⟩ g1 r1 nd dj f1 => by
  obtain ⟨F2, O2, g2, hd, f2⟩ := frz_ok g1 r1 nd dj ef
  exact q _ _ F2 H1 O2 v [] k g2 (.val (.dat hd)) .nil (fun a m => by cases m) ((f1.trans f2).post fun a m => by
    rcases m with m | m
    · exact m
    · cases m)
def five (rows : List Row) : List PyData := [.list (rows.map encR), .none, .tuple [], .tuple (rows.map fun r => .list (r.ints.map .int)), .tuple (rows.map encR ++ (rows.map encR).take 1)]
theorem five_ok {rows : List Row} (way : Int) : ∀ k : Nat, k < 5 → 1 ≤ (rows.length : Int) → rows.length ≤ 900 → smallRows ((five rows).getD k .none) ∧ isTab way ((five rows).getD k .none) = false
  | 0, _, _, _ => ⟨⟨by show 0 ≤ sizeLine; decide, fun x h => by cases h⟩, rfl⟩
  | 1, _, _, _ => ⟨⟨by show 0 ≤ sizeLine; decide, fun x h => by cases h⟩, rfl⟩
  | 2, _, _, _ => ⟨⟨by show 0 ≤ sizeLine; decide, fun x h => by cases h⟩, rfl⟩
  | 3, _, h1, h2 => by
    refine ⟨⟨by show (rows.map _).length ≤ _; rw [List.length_map]; exact nat_sz (by omega), fun x h => ?_⟩, ?_⟩
    · obtain ⟨r, _, rfl⟩ := List.mem_map.mp h
      show 0 ≤ sizeLine; decide
    · cases rows with
      | nil => simp at h1
      | cons r rows => rfl
  | 4, _, h1, h2 => by
    have e : (five rows).getD 4 .none = encRs (rows ++ rows.take 1) := by
      show PyData.tuple _ = PyData.tuple _
      rw [List.map_append, List.map_take]
    rw [e]
    refine ⟨small_enc (by rw [List.length_append, List.length_take]; omega), ?_⟩
    rw [isTab_enc]
    refine tab_false (core_no fun z => ?_)
    have nd := core_nodup z
    cases rows with
    | nil => simp at h1
    | cons r rows =>
      rw [List.map_append, List.nodup_append] at nd
      exact nd.2.2 r.team (by simp) r.team (by simp) rfl
theorem frzLL {Γ : Gm} {rows : List Row} : frz Γ (.val (.own (rows.map fun r => C.own ((r.ints.map PyData.int).map .dat)))) = some (.list (rows.map fun r => .list (r.ints.map .int)), Γ) := by
  have := views_lI (rows.map Row.ints)
  rw [List.map_map, List.map_map] at this
  have e : C.views (rows.map fun r => C.own ((r.ints.map PyData.int).map .dat)) = some (rows.map fun r => .list (r.ints.map .int)) := this
  simp only [frz, C.view, e]; rfl
def short (r : Row) : List PyData := [.int r.team, .int r.won, .int r.tied, .int r.lost, .int r.shot, .int r.lets]
theorem short_bad {ds : List PyData} {a : Nat} {r : Row} (h : a < ds.length) : areRows 7 (.tuple (ds.set a (.tuple (short r)))) = false := by
  unfold areRows
  have : ((ds.set a (.tuple (short r))).all fun r => decide (((items r).length : Int) = 7)) = false := by
    rw [List.all_eq_false]
    exact ⟨_, List.mem_set h _, by show ¬ decide ((6 : Int) = 7) = true; decide⟩
  show (_ && (ds.set a (.tuple (short r))).all _) = false
  rw [this, Bool.and_false]
theorem fz_eq {Γ : Gm} {d d' : PyData} (e : d = d') : frz Γ (.val (.dat d)) = some (d', Γ) := by subst e; rfl
theorem WPe_to {X : Cx} {e : Expr} {Γ : Gm} {Kn : KR} (r0 : R) (Γ0 : Gm) (h : WPe X e Γ fun r Γ1 => r = r0 ∧ Γ1 = Γ0) (k : Kn r0 Γ0) : WPe X e Γ Kn := h.mono fun r Γ1 ⟨e1, e2⟩ => by subst e1 e2; exact k
def prev (n a : Nat) : Nat := if a = 0 then n - 1 else a - 1
theorem prev_lt {n a : Nat} (h : a < n) : prev n a < n := by unfold prev; split <;> omega
theorem prev_ne {n a : Nat} (h : a < n) (h1 : 1 < n) : prev n a ≠ a := by unfold prev; split <;> omega
theorem ixPrev {rows : List Row} {a : Nat} (h : a < rows.length) : ixC ((a : Int) - 1) (.dat (encRs rows)) = some (.dat (encR (rows.getD (prev rows.length a) r0))) := by
  have hp := prev_lt h
  have e : atI (rows.map encR) ((a : Int) - 1) = some (encR (rows.getD (prev rows.length a) r0)) := by
    unfold atI
    have e2 : ixN (rows.map encR).length ((a : Int) - 1) = some (prev rows.length a) := by
      rw [List.length_map]
      by_cases h0 : a = 0
      · subst h0
        unfold ixN prev
        simp; omega
      · have e3 : (a : Int) - 1 = ((a - 1 : Nat) : Int) := by omega
        have e4 : prev rows.length a = a - 1 := by unfold prev; rw [if_neg h0]
        rw [e3, e4]
        exact ixN_ok (by omega)
    rw [e2]
    show (rows.map encR)[prev rows.length a]? = _
    rw [List.getElem?_map, List.getElem?_eq_getElem hp, getD_at hp]; rfl
  show (atI (rows.map encR) ((a : Int) - 1)).map C.dat = _
  rw [e]; rfl
theorem mem_in4 (kd : Int) : inD (.int kd) [.int 2, .int 3, .int 4, .int 5] = decide (kd = 2 ∨ kd = 3 ∨ kd = 4 ∨ kd = 5) := by
  have := inD_int (i := kd) (ns := [2, 3, 4, 5])
  simp only [List.map_cons, List.map_nil] at this
  rw [this]
  simp only [List.any_cons, List.any_nil, Bool.or_false]
  by_cases h2 : kd = 2
  · subst h2; decide
  by_cases h3 : kd = 3
  · subst h3; decide
  by_cases h4 : kd = 4
  · subst h4; decide
  by_cases h5 : kd = 5
  · subst h5; decide
  simp [h2, h3, h4, h5]; omega
section
variable {P : Program} {w : World} {K : PySem.W.Frag} {mg : Str → Option Value} {base : Heap}
abbrev s_bent : Stmt := top 27
abbrev N_bent : List Str := ["bag", "way", "rows", "many", "kind", "at", "row", "line", "by", "one"]
theorem sc_bent : FnScope N_bent ["bag", "way", "rows"] (defScope s_bent) := ⟨rfl, rfl, rfl, by decide +kernel, rfl, by decide +kernel, by decide +kernel⟩
set_option maxHeartbeats 0 in
theorem ok_bent {f f1 f2 f3 f4 f5 : Addr} {fd d1 d2 d3 d4 d5 : FuncData} (F : Fun K "_law_bent" "_law_bent" s_bent f fd) (B : Bl mg) (A1 : At P w K mg base "_law_take" 1 ["bag", "many"] c_take f1 d1) (A2 : At P w K mg base "_law_with" 1 ["row", "at", "value"] c_with f2 d2)
    (A3 : At P w K mg base "_law_rank" 1 ["row"] c_rank f3 d3) (A4 : At P w K mg base "_law_again" 4 ["way", "rows"] c_again f4 d4) (A5 : At P w K mg base "_law_some" 2 ["bag", "things"] c_some f5 d5) :
    FnOk P w K mg base CX0 5 f fd ["bag", "way", "rows"] (spG K c_bent) := by
  refine fn_mr (fun t => [some (encB t.b), some (.dat (.int t.way)), some (.dat (encRs t.rows)), none, none, none, none, none, none, none]) F sc_bent (fun _ => rfl) (fun t => ⟨_, _, rfl, fun u => ⟨_, rfl⟩, rfl⟩) fun cdv A0 outer s H E hr t ht => ?_
  obtain ⟨b, bn, way, rows⟩ := t
  obtain ⟨ob, bn2, bl, ⟨w1, w3⟩, tk, l7⟩ := ht
  have ob : okBag bn b := ob
  have bn2 : bn + 10 ≤ 2 ^ 40 := bn2
  have bl : b.cells.length ≤ 63 := bl
  have w1 : 1 ≤ way := w1
  have w3 : way ≤ 3 := w3
  have tk : tabOk way rows = true := tk
  have co := core_of tk
  obtain ⟨⟨c1, c2⟩, c3, c4, c5, c6, c7, c8⟩ := core_parts co
  have N := sc_bent.nd
  have ob0 : okBag (2 ^ 40) b := ⟨by have := ob.1; omega, ob.2⟩
  have t11 := take_lt (b := b) (m := 11) (by decide)
  have o11 := okBag_take ob 11
  have l11 := take_cells b 11
  refine WPss_cons (WPs_par3 3 4 5 (WPa_cons (WPe_callB (WPa_cons (WPe_name 2 rfl ⟨rfl, WPa_nil ⟨[.s true (rows.map encR)], _, ⟨rfl, trivial⟩, cd_len, rfl, WPa_cons (WPe_callM A1.ok (hr.mono (by decide)) A1.mg A1.keep A1.bind (WPe_name 0 rfl ⟨0, rfl, WPd_cons (WPe_int ⟨_, _, rfl, WPd_nil ⟨_, rfl, (b, 11), ⟨ob0, (by show (1 : Int) ≤ 11; decide), (by show (11 : Int) < 2 ^ 60; decide), bl⟩, rfl, _, _, rfl, ?_⟩⟩)⟩))⟩⟩)) B.len boot_len')) rfl N)
  dsimp only
  rw [List.length_map]
  generalize take b 11 = p1 at t11 o11 l11
  obtain ⟨kd, b1⟩ := p1
  have o11 : okBag (bn + 1) b1 := o11
  have l11 : b1.cells = b.cells := l11
  have ob1 : okBag (2 ^ 40) b1 := ⟨by have := o11.1; omega, o11.2⟩
  have ta := take_lt (b := b1) (m := (rows.length : Int)) c1
  have oa := okBag_take o11 (rows.length : Int)
  have la := take_cells b1 (rows.length : Int)
  refine ⟨rfl, WPa_cons (WPe_callM A1.ok (hr.mono (by decide)) A1.mg A1.keep A1.bind (WPe_name 0 rfl ⟨0, rfl, WPd_cons (WPe_callB (WPa_cons (WPe_name 2 rfl ⟨rfl, WPa_nil ⟨[.s true (rows.map encR)], _, ⟨rfl, trivial⟩, cd_len, _, _, rfl, WPd_nil ⟨_, rfl, (b1, (rows.length : Int)), ⟨ob1, c1, by show (rows.length : Int) < _; omega, by rw [l11]; exact bl⟩, ?_, _, _, rfl, rfl, WPa_nil ⟨_, _, _, rfl, rfl, rfl, rfl, ?_⟩⟩⟩⟩)) B.len boot_len')⟩))⟩
  · rw [List.length_map]; rfl
  dsimp only
  generalize take b1 (rows.length : Int) = p2 at ta oa la
  obtain ⟨av, b2⟩ := p2
  obtain ⟨a, rfl⟩ := Int.eq_ofNat_of_zero_le (show 0 ≤ av from ta.1)
  have ha : a < rows.length := by have : ((a : Nat) : Int) < rows.length := ta.2; omega
  have o2 : okBag (bn + 2) b2 := oa
  have l2 : b2.cells.length ≤ 63 := by rw [show b2.cells = b1.cells from la, l11]; exact bl
  have o3 : okBag (bn + 3) b2 := ⟨by have := o2.1; omega, o2.2⟩
  have ob2 : okBag (2 ^ 40) b2 := ⟨by have := o2.1; omega, o2.2⟩
  have hm : rows.getD a r0 ∈ rows := by rw [getD_at ha]; exact List.getElem_mem ha
  refine WPss_cons (WPs_par 6 7 (WPa_cons (WPe_ix (WPe_name 2 rfl ⟨rfl, WPe_name 5 rfl ⟨a, .val (.dat (encR (rows.getD a r0))), rfl, congrArg (Option.map R.val) (ixRs ha), rfl, WPa_cons (WPe_callTy (WPa_cons (WPe_name 2 rfl ⟨rfl, WPa_nil ⟨[.s true (rows.map encR)], _, ⟨rfl, trivial⟩, cd_list, rfl, WPa_nil ⟨_, _, rfl, rfl, rfl, ?_⟩⟩⟩)) B.list boot_list')⟩⟩))) rfl N)
  generalize hrow : rows.getD a r0 = row at hm
  refine WPss_weak (Δ := [some (encB b2), some (.dat (.int way)), some (.dat (encRs rows)), some (.dat (.int rows.length)), some (.dat (.int kd)), some (.dat (.int a)), some (.dat (encR row)), some (lR rows), none, none]) (wk_eq rfl) ?_
  have bnd := c4 row hm
  have oldp := c5 row hm
  have nz : rows.length ≤ 1000 := by omega
  have srt : ∀ r : Row, core way (rows.set a r) = false → isTab way (encRs (srtD encK (rows.set a r))) = false := fun r h => by rw [isTab_enc, tab_srt, h]
  have sml : ∀ r : Row, smallRows (encRs (srtD encK (rows.set a r))) := fun r => small_enc (by rw [srtK_len, List.length_set]; exact nz)
  refine WPss_cons (WPs_if (WPt_cmp (WPe_name 4 rfl ⟨rfl, WPe_int ⟨.d (.int kd), .d (.int 0), _, rfl, rfl, od_eqI, fun e => ?_, fun e => WPss_nil ?_⟩⟩)))
  · refine WPss_cons (WPs_setS (WPe_callD A2.ok (hr.mono (by decide)) A2.mg A2.keep A2.bind (WPd_cons (WPe_name 6 rfl ⟨_, _, rfl, WPd_cons (WPe_int ⟨_, _, rfl, WPd_cons (WPe_bin (WPe_ix (WPe_name 6 rfl ⟨rfl, WPe_int ⟨6, _, rfl, rfl, rfl, WPe_int ⟨.d (.int row.points), .d (.int 1), _, rfl, rfl, od_add, _, _, rfl, WPd_nil ⟨⟨row.ints.map .int, 6, .int (row.points + 1)⟩, ⟨by show 6 < 7; decide, by show 7 ≤ 1000; decide⟩, rfl, _, _, rfl, ?_⟩⟩⟩⟩)))⟩)⟩))))
    refine WPe_name 7 rfl ⟨rfl, 7, [], rfl, WPe_name 5 rfl ⟨a, _, a, rfl, rfl, ixN_ok (by simpa using ha), ?_⟩⟩
    refine WPss_weak (Δ := [some (encB b2), some (.dat (.int way)), some (.dat (encRs rows)), some (.dat (.int rows.length)), some (.dat (.int kd)), some (.dat (.int a)), some (.dat (encR row)), some (lR (rows.set a { row with points := row.points + 1 })), none, none]) (wk_eq ?_) ?_
    · show [_, _, _, _, _, _, _, some (C.own (((rows.map encR).map C.dat).set a (.dat (encR { row with points := row.points + 1 })))), _, _] = _
      rw [lR_set]
    refine WPss_one (WPs_ret (WPe_tup (WPd_cons (WPe_callTy (WPa_cons (WPe_sortKey (bs := rows.set a { row with points := row.points + 1 }) (enc := encR) (key := encK) (pre := fun _ => True) (hr.mono (by decide)) A3.ok A3.bind A3.keep A3.mg (fun _ _ => trivial) (PySem.W.AllAlike.of alike_K) (PySem.W.Sortable.tuples fun r => ⟨_, _, rfl⟩) (fun r _ => depth_K r) (WPe_name 7 rfl ⟨seesP 7 rfl, ?_⟩) B.sorted boot_sorted')) B.tuple boot_tuple'))))
    refine ⟨rfl, WPa_nil ⟨[.s false _], _, ⟨seesLD, trivial⟩, cd_tuple, _, _, rfl, WPd_cons (WPe_bl ⟨_, _, rfl, WPd_nil ⟨(by show 2 ≤ sizeLine; decide), _, _, rfl, (b2, encRs (srtD encK (rows.set a { row with points := row.points + 1 })), false), ⟨o3, l2, sml _, srt _ ?_⟩, rfl, rfl⟩⟩)⟩⟩
    refine bad_points (set_mem ha) ?_
    show ¬ pts way row = row.points + 1
    rw [oldp]; omega
  refine WPss_cons (WPs_if (WPt_cmp (WPe_name 4 rfl ⟨rfl, WPe_int ⟨.d (.int kd), .d (.int 1), _, rfl, rfl, od_eqI, fun e => ?_, fun e => WPss_nil ?_⟩⟩)))
  · have tb := take_lt (b := b2) (m := (rows.length : Int)) c1
    have oc := okBag_take o2 (rows.length : Int)
    have lc := take_cells b2 (rows.length : Int)
    refine WPss_cons (WPs_set 8 (WPe_callM A1.ok (hr.mono (by decide)) A1.mg A1.keep A1.bind (WPe_name 0 rfl ⟨0, rfl, WPd_cons (WPe_name 3 rfl ⟨_, _, rfl, WPd_nil ⟨_, rfl, (b2, (rows.length : Int)), ⟨ob2, c1, by show (rows.length : Int) < _; omega, l2⟩, rfl, _, _, rfl, _, _, rfl, rfl, ?_⟩⟩)⟩)) N)
    dsimp only
    generalize take b2 (rows.length : Int) = p3 at tb oc lc
    obtain ⟨cv, b3⟩ := p3
    obtain ⟨c, rfl⟩ := Int.eq_ofNat_of_zero_le (show 0 ≤ cv from tb.1)
    have hc : c < rows.length := by have : ((c : Nat) : Int) < rows.length := tb.2; omega
    have o3' : okBag (bn + 3) b3 := oc
    have l3 : b3.cells.length ≤ 63 := by rw [show b3.cells = b2.cells from lc]; exact l2
    refine WPss_weak (Δ := [some (encB b3), some (.dat (.int way)), some (.dat (encRs rows)), some (.dat (.int rows.length)), some (.dat (.int kd)), some (.dat (.int a)), some (.dat (encR row)), some (lR rows), some (.dat (.int c)), none]) (wk_eq rfl) ?_
    refine WPss_cons (WPs_asg (WPe_tup (WPd_cons (WPe_ix (WPe_name 2 rfl ⟨rfl, WPe_name 8 rfl ⟨c, .val (.dat (encR (rows.getD c r0))), rfl, congrArg (Option.map R.val) (ixRs hc), _, _, rfl, WPd_cons (WPe_ix (WPe_name 2 rfl ⟨rfl, WPe_name 5 rfl ⟨a, .val (.dat (encR (rows.getD a r0))), rfl, congrArg (Option.map R.val) (ixRs ha), _, _, rfl, WPd_nil ⟨(by show 2 ≤ sizeLine; decide), _, _, rfl, ?_⟩⟩⟩))⟩⟩)))))
    refine WPg_tup (WPgs_cons (WPg_sub 7 rfl (WPq_name 5) (ixN_ok (by simpa using ha)) (WPgs_cons (WPg_sub 7 rfl (WPq_name 8) (ixN_ok (by simpa using hc)) (WPgs_nil ?_))))) rfl
    refine WPss_weak (Δ := [some (encB b3), some (.dat (.int way)), some (.dat (encRs rows)), some (.dat (.int rows.length)), some (.dat (.int kd)), some (.dat (.int a)), some (.dat (encR row)), some (lR ((rows.set a (rows.getD c r0)).set c (rows.getD a r0))), some (.dat (.int c)), none]) (wk_eq ?_) ?_
    · show [_, _, _, _, _, _, _, some (C.own ((((rows.map encR).map C.dat).set a (.dat (encR (rows.getD c r0)))).set c (.dat (encR (rows.getD a r0))))), _, _] = _
      rw [lR_set, lR_set]
    refine WPss_one (WPs_ret (WPe_tup (WPd_cons (WPe_callTy (WPa_cons (WPe_name 7 rfl ⟨rfl, WPa_nil ⟨[.s false _], _, ⟨seesP 7 rfl, trivial⟩, cd_tuple, _, _, rfl, WPd_cons (WPe_cmp (WPe_name 5 rfl ⟨rfl, WPe_name 8 rfl ⟨.d (.int a), .d (.int c), _, rfl, rfl, od_eqI, _, _, rfl, WPd_nil ⟨(by show 2 ≤ sizeLine; decide), _, _, rfl, (b3, encRs ((rows.set a (rows.getD c r0)).set c (rows.getD a r0)), decide ((a : Int) = c)), ⟨o3', l3, small_enc (by simpa using nz), ?_⟩, rfl, rfl⟩⟩⟩))⟩⟩)) B.tuple boot_tuple'))))
    show isTab way _ = _
    rw [isTab_enc, swap_tab tk ha hc, decide_eq_decide]
    omega
  have oks : ∀ r' : Row, r'.won.natAbs < 2 ^ 100 → ∀ r ∈ rows.set a r', okPts (way, r) := fun r' h r hr => by
    refine ⟨by show way.natAbs < _; omega, ?_⟩
    show r.won.natAbs < _
    rcases List.mem_or_eq_of_mem_set hr with m | rfl
    · have := c4 r m r.won (by simp [Row.ints]); omega
    · exact h
  have sma : ∀ r : Row, smallRows (encRs (again way (rows.set a r))) := fun r => small_enc (by rw [again, srtK_len, List.length_map, List.length_set]; exact nz)
  have tag : ∀ r : Row, isTab way (encRs (again way (rows.set a r))) = core way ((rows.set a r).map (fix way)) := fun r => by rw [isTab_enc, again, tab_srt]
  simp only [Row.ints, List.mem_cons, List.not_mem_nil, or_false, forall_eq_or_imp, forall_eq] at bnd
  obtain ⟨n0, n1, n2, n3, n4, n5, n6⟩ := bnd
  refine WPss_cons (WPs_if (WPt_cmp (WPe_name 4 rfl ⟨rfl, WPe_tup (WPd_cons (WPe_int ⟨_, _, rfl, WPd_cons (WPe_int ⟨_, _, rfl, WPd_cons (WPe_int ⟨_, _, rfl, WPd_cons (WPe_int ⟨_, _, rfl, WPd_nil ⟨(by show 4 ≤ sizeLine; decide), .d (.int kd), .s true [.int 2, .int 3, .int 4, .int 5], _, rfl, rfl, od_in rfl rfl, fun e => ?_, fun e => WPss_nil ?_⟩⟩)⟩)⟩)⟩))⟩)))
  · rw [mem_in4] at e
    have e := of_decide_eq_true e
    rcases e with rfl | rfl | rfl | rfl
    · refine WPss_cons (WPs_set 8 (WPe_ix (WPe_lst (WPd_cons (WPe_int ⟨_, _, rfl, WPd_cons (WPe_int ⟨_, _, rfl, WPd_cons (WPe_int ⟨_, _, rfl, WPd_cons (WPe_int ⟨_, _, rfl, WPd_nil ⟨(by show 4 ≤ sizeLine; decide), rfl, WPe_bin (WPe_name 4 rfl ⟨rfl, WPe_int ⟨.d (.int 2), .d (.int 2), _, rfl, rfl, od_sub, 0, .val (.dat (.int 1)), rfl, rfl, _, _, rfl, rfl, ?_⟩⟩)⟩⟩)⟩)⟩)⟩)))) N)
      refine WPss_cons (WPs_setS (WPe_callD A2.ok (hr.mono (by decide)) A2.mg A2.keep A2.bind (WPd_cons (WPe_name 6 rfl ⟨_, _, rfl, WPd_cons (WPe_name 8 rfl ⟨_, _, rfl, WPd_cons (WPe_bin (WPe_ix (WPe_name 6 rfl ⟨rfl, WPe_name 8 rfl ⟨1, _, rfl, rfl, rfl, WPe_int ⟨.d (.int row.won), .d (.int 1), _, rfl, rfl, od_add, _, _, rfl, WPd_nil ⟨⟨row.ints.map .int, 1, .int (row.won + 1)⟩, ⟨(by show 1 < 7; decide), (by show 7 ≤ 1000; decide)⟩, rfl, _, _, rfl, ?_⟩⟩⟩⟩)))⟩)⟩))))
      refine WPe_name 7 rfl ⟨rfl, 7, [], rfl, WPe_name 5 rfl ⟨a, _, a, rfl, rfl, ixN_ok (by simpa using ha), ?_⟩⟩
      refine WPss_weak (Δ := [some (encB b2), some (.dat (.int way)), some (.dat (encRs rows)), some (.dat (.int rows.length)), some (.dat (.int 2)), some (.dat (.int a)), some (.dat (encR row)), some (lR (rows.set a { row with won := row.won + 1 })), some (.dat (.int 1)), none]) (wk_eq ?_) ?_
      · show [_, _, _, _, _, _, _, some (C.own (((rows.map encR).map C.dat).set a (.dat (encR { row with won := row.won + 1 })))), _, _] = _
        rw [lR_set]
      refine WPss_one (WPs_ret (WPe_tup (WPd_cons (WPe_callD A4.ok hr A4.mg A4.keep A4.bind (WPd_cons (WPe_name 1 rfl ⟨_, _, rfl, WPd_cons (WPe_name 7 rfl ⟨_, _, frzP 7 rfl, WPd_nil ⟨⟨way, false, rows.set a { row with won := row.won + 1 }⟩, ⟨by simpa using nz, oks _ ?_⟩, rfl, _, _, rfl, WPd_cons (WPe_bl ⟨_, _, rfl, WPd_nil ⟨(by show 2 ≤ sizeLine; decide), _, _, rfl, (b2, encRs (again way (rows.set a { row with won := row.won + 1 })), false), ⟨o3, l2, sma _, ?_⟩, rfl, rfl⟩⟩)⟩⟩)⟩))))))
      · show (row.won + 1).natAbs < _; omega
      · show isTab way _ = _
        rw [tag, bad_sums co ha]
        rw [hrow]
        left; show row.won + 1 - row.won ≠ row.lost - row.lost; omega
    · refine WPss_cons (WPs_set 8 (WPe_ix (WPe_lst (WPd_cons (WPe_int ⟨_, _, rfl, WPd_cons (WPe_int ⟨_, _, rfl, WPd_cons (WPe_int ⟨_, _, rfl, WPd_cons (WPe_int ⟨_, _, rfl, WPd_nil ⟨(by show 4 ≤ sizeLine; decide), rfl, WPe_bin (WPe_name 4 rfl ⟨rfl, WPe_int ⟨.d (.int 3), .d (.int 2), _, rfl, rfl, od_sub, 1, .val (.dat (.int 2)), rfl, rfl, _, _, rfl, rfl, ?_⟩⟩)⟩⟩)⟩)⟩)⟩)))) N)
      refine WPss_cons (WPs_setS (WPe_callD A2.ok (hr.mono (by decide)) A2.mg A2.keep A2.bind (WPd_cons (WPe_name 6 rfl ⟨_, _, rfl, WPd_cons (WPe_name 8 rfl ⟨_, _, rfl, WPd_cons (WPe_bin (WPe_ix (WPe_name 6 rfl ⟨rfl, WPe_name 8 rfl ⟨2, _, rfl, rfl, rfl, WPe_int ⟨.d (.int row.tied), .d (.int 1), _, rfl, rfl, od_add, _, _, rfl, WPd_nil ⟨⟨row.ints.map .int, 2, .int (row.tied + 1)⟩, ⟨(by show 2 < 7; decide), (by show 7 ≤ 1000; decide)⟩, rfl, _, _, rfl, ?_⟩⟩⟩⟩)))⟩)⟩))))
      refine WPe_name 7 rfl ⟨rfl, 7, [], rfl, WPe_name 5 rfl ⟨a, _, a, rfl, rfl, ixN_ok (by simpa using ha), ?_⟩⟩
      refine WPss_weak (Δ := [some (encB b2), some (.dat (.int way)), some (.dat (encRs rows)), some (.dat (.int rows.length)), some (.dat (.int 3)), some (.dat (.int a)), some (.dat (encR row)), some (lR (rows.set a { row with tied := row.tied + 1 })), some (.dat (.int 2)), none]) (wk_eq ?_) ?_
      · show [_, _, _, _, _, _, _, some (C.own (((rows.map encR).map C.dat).set a (.dat (encR { row with tied := row.tied + 1 })))), _, _] = _
        rw [lR_set]
      refine WPss_one (WPs_ret (WPe_tup (WPd_cons (WPe_callD A4.ok hr A4.mg A4.keep A4.bind (WPd_cons (WPe_name 1 rfl ⟨_, _, rfl, WPd_cons (WPe_name 7 rfl ⟨_, _, frzP 7 rfl, WPd_nil ⟨⟨way, false, rows.set a { row with tied := row.tied + 1 }⟩, ⟨by simpa using nz, oks _ ?_⟩, rfl, _, _, rfl, WPd_cons (WPe_bl ⟨_, _, rfl, WPd_nil ⟨(by show 2 ≤ sizeLine; decide), _, _, rfl, (b2, encRs (again way (rows.set a { row with tied := row.tied + 1 })), false), ⟨o3, l2, sma _, ?_⟩, rfl, rfl⟩⟩)⟩⟩)⟩))))))
      · show row.won.natAbs < _; omega
      · show isTab way _ = _
        rw [tag, bad_sums co ha]
        rw [hrow]
        right; left; show (row.tied + 1 - row.tied) % 2 = 1; omega
    · refine WPss_cons (WPs_set 8 (WPe_ix (WPe_lst (WPd_cons (WPe_int ⟨_, _, rfl, WPd_cons (WPe_int ⟨_, _, rfl, WPd_cons (WPe_int ⟨_, _, rfl, WPd_cons (WPe_int ⟨_, _, rfl, WPd_nil ⟨(by show 4 ≤ sizeLine; decide), rfl, WPe_bin (WPe_name 4 rfl ⟨rfl, WPe_int ⟨.d (.int 4), .d (.int 2), _, rfl, rfl, od_sub, 2, .val (.dat (.int 3)), rfl, rfl, _, _, rfl, rfl, ?_⟩⟩)⟩⟩)⟩)⟩)⟩)))) N)
      refine WPss_cons (WPs_setS (WPe_callD A2.ok (hr.mono (by decide)) A2.mg A2.keep A2.bind (WPd_cons (WPe_name 6 rfl ⟨_, _, rfl, WPd_cons (WPe_name 8 rfl ⟨_, _, rfl, WPd_cons (WPe_bin (WPe_ix (WPe_name 6 rfl ⟨rfl, WPe_name 8 rfl ⟨3, _, rfl, rfl, rfl, WPe_int ⟨.d (.int row.lost), .d (.int 1), _, rfl, rfl, od_add, _, _, rfl, WPd_nil ⟨⟨row.ints.map .int, 3, .int (row.lost + 1)⟩, ⟨(by show 3 < 7; decide), (by show 7 ≤ 1000; decide)⟩, rfl, _, _, rfl, ?_⟩⟩⟩⟩)))⟩)⟩))))
      refine WPe_name 7 rfl ⟨rfl, 7, [], rfl, WPe_name 5 rfl ⟨a, _, a, rfl, rfl, ixN_ok (by simpa using ha), ?_⟩⟩
      refine WPss_weak (Δ := [some (encB b2), some (.dat (.int way)), some (.dat (encRs rows)), some (.dat (.int rows.length)), some (.dat (.int 4)), some (.dat (.int a)), some (.dat (encR row)), some (lR (rows.set a { row with lost := row.lost + 1 })), some (.dat (.int 3)), none]) (wk_eq ?_) ?_
      · show [_, _, _, _, _, _, _, some (C.own (((rows.map encR).map C.dat).set a (.dat (encR { row with lost := row.lost + 1 })))), _, _] = _
        rw [lR_set]
      refine WPss_one (WPs_ret (WPe_tup (WPd_cons (WPe_callD A4.ok hr A4.mg A4.keep A4.bind (WPd_cons (WPe_name 1 rfl ⟨_, _, rfl, WPd_cons (WPe_name 7 rfl ⟨_, _, frzP 7 rfl, WPd_nil ⟨⟨way, false, rows.set a { row with lost := row.lost + 1 }⟩, ⟨by simpa using nz, oks _ ?_⟩, rfl, _, _, rfl, WPd_cons (WPe_bl ⟨_, _, rfl, WPd_nil ⟨(by show 2 ≤ sizeLine; decide), _, _, rfl, (b2, encRs (again way (rows.set a { row with lost := row.lost + 1 })), false), ⟨o3, l2, sma _, ?_⟩, rfl, rfl⟩⟩)⟩⟩)⟩))))))
      · show row.won.natAbs < _; omega
      · show isTab way _ = _
        rw [tag, bad_sums co ha]
        rw [hrow]
        left; show row.won - row.won ≠ row.lost + 1 - row.lost; omega
    · refine WPss_cons (WPs_set 8 (WPe_ix (WPe_lst (WPd_cons (WPe_int ⟨_, _, rfl, WPd_cons (WPe_int ⟨_, _, rfl, WPd_cons (WPe_int ⟨_, _, rfl, WPd_cons (WPe_int ⟨_, _, rfl, WPd_nil ⟨(by show 4 ≤ sizeLine; decide), rfl, WPe_bin (WPe_name 4 rfl ⟨rfl, WPe_int ⟨.d (.int 5), .d (.int 2), _, rfl, rfl, od_sub, 3, .val (.dat (.int 4)), rfl, rfl, _, _, rfl, rfl, ?_⟩⟩)⟩⟩)⟩)⟩)⟩)))) N)
      refine WPss_cons (WPs_setS (WPe_callD A2.ok (hr.mono (by decide)) A2.mg A2.keep A2.bind (WPd_cons (WPe_name 6 rfl ⟨_, _, rfl, WPd_cons (WPe_name 8 rfl ⟨_, _, rfl, WPd_cons (WPe_bin (WPe_ix (WPe_name 6 rfl ⟨rfl, WPe_name 8 rfl ⟨4, _, rfl, rfl, rfl, WPe_int ⟨.d (.int row.shot), .d (.int 1), _, rfl, rfl, od_add, _, _, rfl, WPd_nil ⟨⟨row.ints.map .int, 4, .int (row.shot + 1)⟩, ⟨(by show 4 < 7; decide), (by show 7 ≤ 1000; decide)⟩, rfl, _, _, rfl, ?_⟩⟩⟩⟩)))⟩)⟩))))
      refine WPe_name 7 rfl ⟨rfl, 7, [], rfl, WPe_name 5 rfl ⟨a, _, a, rfl, rfl, ixN_ok (by simpa using ha), ?_⟩⟩
      refine WPss_weak (Δ := [some (encB b2), some (.dat (.int way)), some (.dat (encRs rows)), some (.dat (.int rows.length)), some (.dat (.int 5)), some (.dat (.int a)), some (.dat (encR row)), some (lR (rows.set a { row with shot := row.shot + 1 })), some (.dat (.int 4)), none]) (wk_eq ?_) ?_
      · show [_, _, _, _, _, _, _, some (C.own (((rows.map encR).map C.dat).set a (.dat (encR { row with shot := row.shot + 1 })))), _, _] = _
        rw [lR_set]
      refine WPss_one (WPs_ret (WPe_tup (WPd_cons (WPe_callD A4.ok hr A4.mg A4.keep A4.bind (WPd_cons (WPe_name 1 rfl ⟨_, _, rfl, WPd_cons (WPe_name 7 rfl ⟨_, _, frzP 7 rfl, WPd_nil ⟨⟨way, false, rows.set a { row with shot := row.shot + 1 }⟩, ⟨by simpa using nz, oks _ ?_⟩, rfl, _, _, rfl, WPd_cons (WPe_bl ⟨_, _, rfl, WPd_nil ⟨(by show 2 ≤ sizeLine; decide), _, _, rfl, (b2, encRs (again way (rows.set a { row with shot := row.shot + 1 })), false), ⟨o3, l2, sma _, ?_⟩, rfl, rfl⟩⟩)⟩⟩)⟩))))))
      · show row.won.natAbs < _; omega
      · show isTab way _ = _
        rw [tag, bad_sums co ha]
        rw [hrow]
        right; right; show row.shot + 1 - row.shot ≠ row.lets - row.lets; omega
  refine WPss_cons (WPs_if (WPt_cmp (WPe_name 4 rfl ⟨rfl, WPe_int ⟨.d (.int kd), .d (.int 6), _, rfl, rfl, od_eqI, fun e => ?_, fun e => WPss_nil ?_⟩⟩)))
  · have hp := prev_lt ha
    obtain ⟨x, hx1, hx2⟩ : ∃ x : Int, (1 < rows.length → x = (rows.getD (prev rows.length a) r0).team) ∧ (¬ 1 < rows.length → x = 1) := by
      by_cases h : 1 < rows.length
      · exact ⟨_, fun _ => rfl, fun z => absurd h z⟩
      · exact ⟨1, fun z => absurd z h, fun _ => rfl⟩
    have ts := take_lt (b := b2) (m := 3) (by decide)
    have os := okBag_take o2 3
    have lc := take_cells b2 3
    have sv : ∃ v : Int, some1 b2 [.int rows.length, .int (-1), .int x] = .int v ∧ (v = rows.length ∨ v = -1 ∨ v = x) := by
      unfold some1
      show ∃ v : Int, [PyData.int rows.length, .int (-1), .int x].getD (take b2 3).1.toNat .none = .int v ∧ _
      obtain ⟨k, hk⟩ := Int.eq_ofNat_of_zero_le ts.1
      rw [hk]
      have : k < 3 := by have := ts.2; omega
      match k, this with
      | 0, _ => exact ⟨_, rfl, .inl rfl⟩
      | 1, _ => exact ⟨_, rfl, .inr (.inl rfl)⟩
      | 2, _ => exact ⟨_, rfl, .inr (.inr rfl)⟩
    obtain ⟨v, ev, hv⟩ := sv
    have o3' : okBag (bn + 3) (take b2 3).2 := os
    have l3 : (take b2 3).2.cells.length ≤ 63 := by rw [lc]; exact l2
    refine WPss_cons (WPs_setS (WPe_callD A2.ok (hr.mono (by decide)) A2.mg A2.keep A2.bind (WPd_cons (WPe_name 6 rfl ⟨_, _, rfl, WPd_cons (WPe_int ⟨_, _, rfl, WPd_cons (WPe_callM A5.ok (hr.mono (by decide)) A5.mg A5.keep A5.bind (WPe_name 0 rfl ⟨0, rfl, WPd_cons (WPe_lst (WPd_cons (WPe_name 3 rfl ⟨_, _, rfl, WPd_cons (WPe_neg (WPe_int ⟨1, rfl, _, _, rfl, WPd_cons (WPe_to (.val (.dat (.int x))) [some (encB b2), some (.dat (.int way)), some (.dat (encRs rows)), some (.dat (.int rows.length)), some (.dat (.int kd)), some (.dat (.int a)), some (.dat (encR row)), some (lR rows), none, none] ?_ ?_)⟩))⟩)))⟩))⟩)⟩))))
    · refine WPe_if (WPt_cmp (WPe_name 3 rfl ⟨rfl, WPe_int ⟨.d (.int rows.length), .d (.int 1), _, rfl, rfl, od_gt, fun e2 => ?_, fun e2 => ?_⟩⟩))
      · have e2 : (1 : Int) < rows.length := of_decide_eq_true e2
        refine WPe_ix (WPe_ix (WPe_name 2 rfl ⟨rfl, WPe_bin (WPe_name 5 rfl ⟨rfl, WPe_int ⟨.d (.int a), .d (.int 1), _, rfl, rfl, od_sub, (a : Int) - 1, .val (.dat (encR (rows.getD (prev rows.length a) r0))), rfl, congrArg (Option.map R.val) (ixPrev ha), rfl, WPe_int ⟨0, _, rfl, rfl, ?_, rfl⟩⟩⟩)⟩))
        show R.val (.dat (.int (rows.getD (prev rows.length a) r0).team)) = _
        rw [hx1 (by omega)]
      · have e2 : ¬ (1 : Int) < rows.length := of_decide_eq_false e2
        refine WPe_int ⟨?_, rfl⟩
        rw [hx2 (by omega)]
    refine ⟨_, _, rfl, WPd_nil ⟨(by show 3 ≤ sizeLine; decide), _, _, frzV (ds := [.int rows.length, .int (-1), .int x]), WPd_nil ⟨_, rfl, (b2, [.int rows.length, .int (-1), .int x]), ⟨ob2, (by show 1 ≤ 3; decide), (by show 3 ≤ 1000; decide), l2⟩, rfl, _, _, rfl, .int v, _, fz_eq ev, WPd_nil ⟨⟨row.ints.map .int, 0, .int v⟩, ⟨(by show 0 < 7; decide), (by show 7 ≤ 1000; decide)⟩, rfl, _, _, rfl, ?_⟩⟩⟩⟩
    refine WPe_name 7 rfl ⟨rfl, 7, [], rfl, WPe_name 5 rfl ⟨a, _, a, rfl, rfl, ixN_ok (by simpa using ha), ?_⟩⟩
    refine WPss_weak (Δ := [some (encB (take b2 3).2), some (.dat (.int way)), some (.dat (encRs rows)), some (.dat (.int rows.length)), some (.dat (.int kd)), some (.dat (.int a)), some (.dat (encR row)), some (lR (rows.set a { row with team := v })), none, none]) (wk_eq ?_) ?_
    · show [_, _, _, _, _, _, _, some (C.own (((rows.map encR).map C.dat).set a (.dat (encR { row with team := v })))), _, _] = _
      rw [lR_set]; rfl
    refine WPss_one (WPs_ret (WPe_tup (WPd_cons (WPe_callTy (WPa_cons (WPe_sortKey (bs := rows.set a { row with team := v }) (enc := encR) (key := encK) (pre := fun _ => True) (hr.mono (by decide)) A3.ok A3.bind A3.keep A3.mg (fun _ _ => trivial) (PySem.W.AllAlike.of alike_K) (PySem.W.Sortable.tuples fun r => ⟨_, _, rfl⟩) (fun r _ => depth_K r) (WPe_name 7 rfl ⟨seesP 7 rfl, ?_⟩) B.sorted boot_sorted')) B.tuple boot_tuple'))))
    refine ⟨rfl, WPa_nil ⟨[.s false _], _, ⟨seesLD, trivial⟩, cd_tuple, _, _, rfl, WPd_cons (WPe_bl ⟨_, _, rfl, WPd_nil ⟨(by show 2 ≤ sizeLine; decide), _, _, rfl, ((take b2 3).2, encRs (srtD encK (rows.set a { row with team := v })), false), ⟨o3', l3, sml _, srt _ (core_no fun z => ?_)⟩, rfl, rfl⟩⟩)⟩⟩
    have bt := bad_team z ha
    have bt1 : 0 ≤ v := bt.1
    have bt2 : v < rows.length := bt.2
    rcases hv with rfl | rfl | rfl
    · omega
    · omega
    · by_cases h : 1 < rows.length
      · exact bad_dup z ha hp (prev_ne ha h) (hx1 h)
      · have := hx2 h; omega
  refine WPss_cons (WPs_if (WPt_cmp (WPe_name 4 rfl ⟨rfl, WPe_int ⟨.d (.int kd), .d (.int 7), _, rfl, rfl, od_eqI, fun e => ?_, fun e => WPss_nil ?_⟩⟩)))
  · refine WPss_cons (WPs_setS (WPe_slice (WPe_name 6 rfl ⟨rfl, WPo_none (WPo_some (WPe_neg (WPe_int ⟨1, rfl, -1, rfl, .tup (row.ints.map .int), rfl, .tuple (short row), _, rfl, ?_⟩)))⟩)))
    refine WPe_name 7 rfl ⟨rfl, 7, [], rfl, WPe_name 5 rfl ⟨a, _, a, rfl, rfl, ixN_ok (by simpa using ha), ?_⟩⟩
    refine WPss_weak (Δ := [some (encB b2), some (.dat (.int way)), some (.dat (encRs rows)), some (.dat (.int rows.length)), some (.dat (.int kd)), some (.dat (.int a)), some (.dat (encR row)), some (.own (((rows.map encR).set a (.tuple (short row))).map .dat)), none, none]) (wk_eq ?_) ?_
    · show [_, _, _, _, _, _, _, some (C.own (((rows.map encR).map C.dat).set a (.dat (.tuple (short row))))), _, _] = _
      rw [List.map_set]
    refine WPss_one (WPs_ret (WPe_tup (WPd_cons (WPe_callTy (WPa_cons (WPe_name 7 rfl ⟨rfl, WPa_nil ⟨[.s false ((rows.map encR).set a (.tuple (short row)))], _, ⟨seesP 7 rfl, trivial⟩, cd_tuple, _, _, rfl, WPd_cons (WPe_bl ⟨_, _, rfl, WPd_nil ⟨(by show 2 ≤ sizeLine; decide), _, _, rfl, (b2, .tuple ((rows.map encR).set a (.tuple (short row))), false), ⟨o3, l2, ?_, ?_⟩, rfl, rfl⟩⟩)⟩⟩)) B.tuple boot_tuple'))))
    · refine ⟨by show ((rows.map encR).set a _).length ≤ _; rw [List.length_set, List.length_map]; exact nat_sz nz, fun x hx => ?_⟩
      rcases List.mem_or_eq_of_mem_set hx with m | rfl
      · exact (small_enc nz).2 x m
      · show 6 ≤ sizeLine; decide
    · show (areRows 7 _ && _) = false
      rw [short_bad (by rw [List.length_map]; exact ha)]; rfl
  refine WPss_cons (WPs_if (WPt_cmp (WPe_name 4 rfl ⟨rfl, WPe_int ⟨.d (.int kd), .d (.int 8), _, rfl, rfl, od_eqI, fun e => ?_, fun e => WPss_nil ?_⟩⟩)))
  · have ts := take_lt (b := b2) (m := 5) (by decide)
    have os := okBag_take o2 5
    have lc := take_cells b2 5
    have o3' : okBag (bn + 3) (take b2 5).2 := os
    have l3 : (take b2 5).2.cells.length ≤ 63 := by rw [lc]; exact l2
    have hz : rows.length ≤ sizeLine := nat_sz nz
    have big : 2000 ≤ sizeLine := by decide
    refine WPss_one (WPs_ret (WPe_tup (WPd_cons (WPe_callM A5.ok (hr.mono (by decide)) A5.mg A5.keep A5.bind (WPe_name 0 rfl ⟨0, rfl, WPd_cons (WPe_lst ?_)⟩)))))
    refine WPd_cons (WPe_callTy (WPa_cons (WPe_name 2 rfl ⟨rfl, WPa_nil ⟨[.s true (rows.map encR)], _, ⟨rfl, trivial⟩, cd_list, _, _, frzV, ?_⟩⟩)) B.list boot_list')
    refine WPd_cons (WPe_non ⟨_, _, rfl, ?_⟩)
    refine WPd_cons (WPe_tup (WPd_nil ⟨(by show 0 ≤ sizeLine; decide), _, _, rfl, ?_⟩))
    refine WPd_cons (WPe_callTy ?_ B.tuple boot_tuple')
    refine WPa_cons (WPe_frz (WPe_lcMap [("one", 9)] (WPi_tup (WPe_name 2 rfl ⟨rows.map encR, _, rfl, ?_⟩)) rfl N (blkOk_by (N := N_bent) (sc := defScope s_bent) (by decide +kernel))))
    refine ⟨Row, rows, encR, fun r => .own ((r.ints.map PyData.int).map .dat), rfl, ⟨hz, fun r hrm s H Ca cl fp => ?_⟩, ?_⟩
    · exact WPg_name 9 (fun s H Ca cl fp => WPe_callTy (WPa_cons (WPe_name 9 rfl ⟨rfl, WPa_nil ⟨[.s true (r.ints.map .int)], _, ⟨rfl, trivial⟩, cd_list, _, rfl, .refl⟩⟩)) B.list boot_list') N
    refine ⟨PyData.list (rows.map fun r : Row => PyData.list (r.ints.map PyData.int)), _, frzLL, rfl, WPa_nil ⟨[W.s false (rows.map fun r : Row => PyData.list (r.ints.map PyData.int))], _, ⟨rfl, trivial⟩, cd_tuple, _, _, rfl, ?_⟩⟩
    refine WPd_cons (WPe_bin (WPe_name 2 rfl ⟨rfl, WPe_slice (WPe_name 2 rfl ⟨rfl, WPo_none (WPo_some (WPe_int ⟨1, rfl, .tup (rows.map encR), rfl, .s true (rows.map encR), .s true (cutP (rows.map encR) none (some ((1 : Nat) : Int))), _, rfl, rfl, od_catT ?_, _, _, rfl, WPd_nil ⟨(by show 5 ≤ sizeLine; decide), _, _, frzV, WPd_nil ⟨_, rfl, (b2, five rows), ⟨ob2, (by show 1 ≤ 5; decide), (by show 5 ≤ 1000; decide), l2⟩, ?_, _, _, rfl, _, _, rfl, WPd_cons (WPe_bl ⟨_, _, rfl, WPd_nil ⟨(by show 2 ≤ sizeLine; decide), _, _, rfl, ((take b2 5).2, some1 b2 (five rows), false), ⟨o3', l3, ?_, ?_⟩, rfl, rfl⟩⟩)⟩⟩⟩))⟩)⟩))
    · rw [cut_to, List.length_take, List.length_map]; omega
    · rw [cut_to]; rfl
    · obtain ⟨k, hk⟩ := Int.eq_ofNat_of_zero_le ts.1
      have : k < 5 := by have := ts.2; omega
      unfold some1
      show smallRows ((five rows).getD (take b2 5).1.toNat .none)
      rw [hk]
      exact (five_ok way k this c1 (by omega)).1
    · obtain ⟨k, hk⟩ := Int.eq_ofNat_of_zero_le ts.1
      have : k < 5 := by have := ts.2; omega
      unfold some1
      show isTab way ((five rows).getD (take b2 5).1.toNat .none) = false
      rw [hk]
      exact (five_ok way k this c1 (by omega)).2
  refine WPss_cons (WPs_if (WPt_cmp (WPe_name 4 rfl ⟨rfl, WPe_int ⟨.d (.int kd), .d (.int 9), _, rfl, rfl, od_eqI, fun e => ?_, fun e => WPss_nil ?_⟩⟩)))
  · refine WPss_cons (WPs_setS (WPe_callD A2.ok (hr.mono (by decide)) A2.mg A2.keep A2.bind (WPd_cons (WPe_callD A2.ok (hr.mono (by decide)) A2.mg A2.keep A2.bind (WPd_cons (WPe_name 6 rfl ⟨_, _, rfl, WPd_cons (WPe_int ⟨_, _, rfl, WPd_cons (WPe_bin (WPe_ix (WPe_name 6 rfl ⟨rfl, WPe_int ⟨4, _, rfl, rfl, rfl, WPe_int ⟨.d (.int row.shot), .d (.int 19801), _, rfl, rfl, od_add, _, _, rfl, WPd_nil ⟨⟨row.ints.map .int, 4, .int (row.shot + 19801)⟩, ⟨(by show 4 < 7; decide), (by show 7 ≤ 1000; decide)⟩, rfl, _, _, rfl, ?_⟩⟩⟩⟩)))⟩)⟩))))))
    refine WPd_cons (WPe_int ⟨_, _, rfl, WPd_cons (WPe_bin (WPe_ix (WPe_name 6 rfl ⟨rfl, WPe_int ⟨5, _, rfl, rfl, rfl, WPe_int ⟨.d (.int row.lets), .d (.int 19801), _, rfl, rfl, od_add, _, _, rfl, WPd_nil ⟨⟨({ row with shot := row.shot + 19801 } : Row).ints.map .int, 5, .int (row.lets + 19801)⟩, ⟨(by show 5 < 7; decide), (by show 7 ≤ 1000; decide)⟩, rfl, _, _, rfl, ?_⟩⟩⟩⟩)))⟩)
    refine WPe_name 7 rfl ⟨rfl, 7, [], rfl, WPe_name 5 rfl ⟨a, _, a, rfl, rfl, ixN_ok (by simpa using ha), ?_⟩⟩
    refine WPss_weak (Δ := [some (encB b2), some (.dat (.int way)), some (.dat (encRs rows)), some (.dat (.int rows.length)), some (.dat (.int kd)), some (.dat (.int a)), some (.dat (encR row)), some (lR (rows.set a { row with shot := row.shot + 19801, lets := row.lets + 19801 })), none, none]) (wk_eq ?_) ?_
    · show [_, _, _, _, _, _, _, some (C.own (((rows.map encR).map C.dat).set a (.dat (encR { row with shot := row.shot + 19801, lets := row.lets + 19801 })))), _, _] = _
      rw [lR_set]
    refine WPss_one (WPs_ret (WPe_tup (WPd_cons (WPe_callD A4.ok hr A4.mg A4.keep A4.bind (WPd_cons (WPe_name 1 rfl ⟨_, _, rfl, WPd_cons (WPe_name 7 rfl ⟨_, _, frzP 7 rfl, WPd_nil ⟨⟨way, false, rows.set a { row with shot := row.shot + 19801, lets := row.lets + 19801 }⟩, ⟨by simpa using nz, oks _ ?_⟩, rfl, _, _, rfl, WPd_cons (WPe_bl ⟨_, _, rfl, WPd_nil ⟨(by show 2 ≤ sizeLine; decide), _, _, rfl, (b2, encRs (again way (rows.set a { row with shot := row.shot + 19801, lets := row.lets + 19801 })), false), ⟨o3, l2, sma _, ?_⟩, rfl, rfl⟩⟩)⟩⟩)⟩))))))
    · show row.won.natAbs < _; omega
    · show isTab way _ = _
      rw [tag]
      refine bad_bound (r := fix way { row with shot := row.shot + 19801, lets := row.lets + 19801 }) (x := row.shot + 19801) (List.mem_map_of_mem (set_mem ha)) (by simp [fix, Row.ints]) (by omega)
  refine WPss_cons (WPs_setS (WPe_callD A2.ok (hr.mono (by decide)) A2.mg A2.keep A2.bind (WPd_cons (WPe_callD A2.ok (hr.mono (by decide)) A2.mg A2.keep A2.bind (WPd_cons (WPe_name 6 rfl ⟨_, _, rfl, WPd_cons (WPe_int ⟨_, _, rfl, WPd_cons (WPe_bin (WPe_ix (WPe_name 6 rfl ⟨rfl, WPe_int ⟨4, _, rfl, rfl, rfl, WPe_int ⟨.d (.int row.shot), .d (.int 7), _, rfl, rfl, od_add, _, _, rfl, WPd_nil ⟨⟨row.ints.map .int, 4, .int (row.shot + 7)⟩, ⟨(by show 4 < 7; decide), (by show 7 ≤ 1000; decide)⟩, rfl, _, _, rfl, ?_⟩⟩⟩⟩)))⟩)⟩))))))
  refine WPd_cons (WPe_int ⟨_, _, rfl, WPd_cons (WPe_bin (WPe_ix (WPe_name 6 rfl ⟨rfl, WPe_int ⟨5, _, rfl, rfl, rfl, WPe_int ⟨.d (.int row.lets), .d (.int 7), _, rfl, rfl, od_add, _, _, rfl, WPd_nil ⟨⟨({ row with shot := row.shot + 7 } : Row).ints.map .int, 5, .int (row.lets + 7)⟩, ⟨(by show 5 < 7; decide), (by show 7 ≤ 1000; decide)⟩, rfl, _, _, rfl, ?_⟩⟩⟩⟩)))⟩)
  refine WPe_name 7 rfl ⟨rfl, 7, [], rfl, WPe_name 5 rfl ⟨a, _, a, rfl, rfl, ixN_ok (by simpa using ha), ?_⟩⟩
  refine WPss_weak (Δ := [some (encB b2), some (.dat (.int way)), some (.dat (encRs rows)), some (.dat (.int rows.length)), some (.dat (.int kd)), some (.dat (.int a)), some (.dat (encR row)), some (lR (rows.set a { row with shot := row.shot + 7, lets := row.lets + 7 })), none, none]) (wk_eq ?_) ?_
  · show [_, _, _, _, _, _, _, some (C.own (((rows.map encR).map C.dat).set a (.dat (encR { row with shot := row.shot + 7, lets := row.lets + 7 })))), _, _] = _
    rw [lR_set]
  refine WPss_one (WPs_ret (WPe_tup (WPd_cons (WPe_callD A4.ok hr A4.mg A4.keep A4.bind (WPd_cons (WPe_name 1 rfl ⟨_, _, rfl, WPd_cons (WPe_name 7 rfl ⟨_, _, frzP 7 rfl, WPd_nil ⟨⟨way, false, rows.set a { row with shot := row.shot + 7, lets := row.lets + 7 }⟩, ⟨by simpa using nz, oks _ ?_⟩, rfl, _, _, rfl, WPd_cons (WPe_bl ⟨_, _, rfl, WPd_nil ⟨(by show 2 ≤ sizeLine; decide), _, _, rfl, (b2, encRs (again way (rows.set a { row with shot := row.shot + 7, lets := row.lets + 7 })), true), ⟨o3, l2, sma _, ?_⟩, rfl, rfl⟩⟩)⟩⟩)⟩))))))
  · show row.won.natAbs < _; omega
  · show isTab way _ = _
    rw [tag]
    exact good_seven co ha (by rw [hrow]) (by rw [hrow]; exact l7 row hm)
end
end K65
namespace K65
open PySem PySem.Spec PyProof.Rows L2 G
theorem le_KR {a b : Row} (h : PySem.W.dataLe false encKR a b = true) : rankLt b a = false := by
  rw [PySem.W.dataLe_eq] at h
  have h : (!PySem.W.dataLt (encKR b) (encKR a)) = true := h
  rw [encKR, encKR, PySem.W.dataLt_pair (alike_K b a) (by simp [encR, Row.ints, PySem.W.alike, PySem.W.alikeAll])] at h
  cases e : rankLt b a
  · rfl
  · exfalso
    have e1 : PyData.eqv (encK b) (encK a) = false := by
      cases e2 : PyData.eqv (encK b) (encK a)
      · rfl
      · have : rank b = rank a := by
          have e3 : PyData.eqvAll ((rank b).map .int) ((rank a).map .int) = true := e2
          rw [eqv_intsAll] at e3
          exact of_decide_eq_true e3
        unfold rankLt at e
        rw [this] at e
        have := rank_irrefl a
        unfold rankLt at this
        rw [this] at e; cases e
    rw [e1] at h
    have e2 : PySem.W.dataLt (encK b) (encK a) = true := by rw [encK, encK, dataLt_tints]; exact e
    simp [e2] at h
theorem srtKR_perm (rows : List Row) : (srtD encKR rows).Perm rows := List.mergeSort_perm _ _
theorem srtKR_pw (rows : List Row) : (srtD encKR rows).Pairwise fun a b => rankLt b a = false :=
  (PySem.W.sort_pairwise (PySem.W.sortLe_total _ _ _) rows).imp fun h => le_KR h
theorem tab_srtKR {way : Int} {rows : List Row} : tabOk way (srtD encKR rows) = core way rows := by
  rw [tab_split, core_perm (srtKR_perm rows)]
  cases h : core way rows
  · rfl
  · have nd : ((srtD encKR rows).map (·.team)).Nodup := (((srtKR_perm rows).map _).nodup_iff).mpr (core_nodup h)
    rw [chain_of (strict_of (srtKR_pw rows) nd)]; rfl
def pt (way w t : Int) : Int := way * w + (if way > 1 then t else 0)
def okM (m : Mt) : Prop := m.a = 0 ∧ m.b = 1 ∧ 0 ≤ m.x ∧ m.x ≤ 3 ∧ 0 ≤ m.y ∧ m.y ≤ 3
theorem two_fold {way : Int} (hw : 1 ≤ way ∧ way ≤ 3) : ∀ (ms : List Mt), (∀ m ∈ ms, okM m) → ∀ w t l s g : Int, ∃ w' t' l' s' g' : Int,
    ms.foldl (pStep way) [pt way w t, pt way l t] = [pt way w' t', pt way l' t'] ∧ ms.foldl gStep ([s, g], [g, s]) = ([s', g'], [g', s']) ∧ ms.foldl cStep [[w, t, l], [l, t, w]] = [[w', t', l'], [l', t', w']] ∧
    (w ≤ w' ∧ t ≤ t' ∧ l ≤ l' ∧ s ≤ s' ∧ g ≤ g') ∧ (w' + t' + l' ≤ w + t + l + ms.length ∧ s' ≤ s + 3 * ms.length ∧ g' ≤ g + 3 * ms.length)
  | [], _, w, t, l, s, g => ⟨w, t, l, s, g, rfl, rfl, rfl, by omega, by simp⟩
  | m :: ms, hm, w, t, l, s, g => by
    obtain ⟨ha, hb, x0, x3, y0, y3⟩ := hm m (List.mem_cons_self ..)
    obtain ⟨a, b, x, y⟩ := m
    simp only at ha hb x0 x3 y0 y3
    subst ha hb
    have rest := two_fold hw ms fun m h => hm m (List.mem_cons_of_mem _ h)
    have eg : gStep ([s, g], [g, s]) ⟨0, 1, x, y⟩ = ([s + x, g + y], [g + y, s + x]) := rfl
    have ep : ∀ A B : Int, pStep way [A, B] ⟨0, 1, x, y⟩ = [A + (gp way ⟨0, 1, x, y⟩).1, B + (gp way ⟨0, 1, x, y⟩).2] := fun A B => rfl
    have hl : ((Mt.mk 0 1 x y :: ms).length : Int) = ms.length + 1 := by simp
    simp only [List.foldl_cons]
    rw [eg, ep, hl]
    by_cases e : x = y
    · subst e
      have ec : cStep [[w, t, l], [l, t, w]] ⟨0, 1, x, x⟩ = [[w, t + 1, l], [l, t + 1, w]] := by simp [cStep, bump2, bump, slot]
      obtain ⟨w', t', l', s', g', h1, h2, h3, h4, h5⟩ := rest w (t + 1) l (s + x) (g + x)
      have e1 : pt way w t + (gp way ⟨0, 1, x, x⟩).1 = pt way w (t + 1) ∧ pt way l t + (gp way ⟨0, 1, x, x⟩).2 = pt way l (t + 1) := by
        unfold pt gp
        by_cases q : way = 1
        · subst q; simp
        · have q2 : way > 1 := by omega
          simp [q, q2]; omega
      rw [ec, e1.1, e1.2]
      exact ⟨w', t', l', s', g', h1, h2, h3, by omega, by omega⟩
    · by_cases e2 : y < x
      · have ec : cStep [[w, t, l], [l, t, w]] ⟨0, 1, x, y⟩ = [[w + 1, t, l], [l, t, w + 1]] := by
          have n1 : ¬ x < y := by omega
          have n2 : ¬ y = x := by omega
          simp [cStep, bump2, bump, slot, e2, n1, n2]
        obtain ⟨w', t', l', s', g', h1, h2, h3, h4, h5⟩ := rest (w + 1) t l (s + x) (g + y)
        have e1 : pt way w t + (gp way ⟨0, 1, x, y⟩).1 = pt way (w + 1) t ∧ pt way l t + (gp way ⟨0, 1, x, y⟩).2 = pt way l t := by
          unfold pt gp
          simp only [e, e2, if_true, if_false]
          rw [Int.mul_add]
          split <;> omega
        rw [ec, e1.1, e1.2]
        exact ⟨w', t', l', s', g', h1, h2, h3, by omega, by omega⟩
      · have ec : cStep [[w, t, l], [l, t, w]] ⟨0, 1, x, y⟩ = [[w, t, l + 1], [l + 1, t, w]] := by
          have n1 : x < y := by omega
          have n2 : ¬ y = x := by omega
          simp [cStep, bump2, bump, slot, e, e2, n1, n2]
        obtain ⟨w', t', l', s', g', h1, h2, h3, h4, h5⟩ := rest w t (l + 1) (s + x) (g + y)
        have e1 : pt way w t + (gp way ⟨0, 1, x, y⟩).1 = pt way w t ∧ pt way l t + (gp way ⟨0, 1, x, y⟩).2 = pt way (l + 1) t := by
          unfold pt gp
          simp only [e, e2, if_false]
          rw [Int.mul_add]
          split <;> omega
        rw [ec, e1.1, e1.2]
        exact ⟨w', t', l', s', g', h1, h2, h3, by omega, by omega⟩
theorem tab_two {way : Int} (hw : 1 ≤ way ∧ way ≤ 3) {ms : List Mt} (hm : ∀ m ∈ ms, okM m) (hl : ms.length ≤ 10) : tabOk way (tab way 2 ms) = true ∧ low7 (tab way 2 ms) := by
  obtain ⟨w, t, l, s, g, h1, h2, h3, h4, h5⟩ := two_fold hw ms hm 0 0 0 0 0
  have p0 : pt way 0 0 = 0 := by unfold pt; split <;> simp
  rw [p0] at h1
  have hp : pBy way 2 ms = [pt way w t, pt way l t] := h1
  have hg : gBy 2 ms = ([s, g], [g, s]) := h2
  have hc : cBy 2 ms = [[w, t, l], [l, t, w]] := h3
  have er : (List.range 2).map (rowAt way 2 ms) = [⟨0, w, t, l, s, g, pt way w t⟩, ⟨1, l, t, w, g, s, pt way l t⟩] := by
    show [rowAt way 2 ms 0, rowAt way 2 ms 1] = _
    unfold rowAt
    rw [hp, hg, hc]
    rfl
  have bw : 0 ≤ pt way w t ∧ pt way w t ≤ 100 ∧ 0 ≤ pt way l t ∧ pt way l t ≤ 100 := by
    have hlen : (ms.length : Int) ≤ 10 := by omega
    have : way = 1 ∨ way = 2 ∨ way = 3 := by omega
    unfold pt
    rcases this with rfl | rfl | rfl <;> simp <;> omega
  have hlen : (ms.length : Int) ≤ 10 := by omega
  have co : core way ((List.range 2).map (rowAt way 2 ms)) = true := by
    rw [er]
    refine core_mk (by simp) ?_ (fun r hr x hx => ?_) (fun r hr => ?_) ?_ ?_ ?_
    · show srtI [0, 1] = [0, 1]
      exact srt_uniq (srtI_perm _) (srtI_pw _) (by simp)
    · simp only [List.mem_cons, List.not_mem_nil, or_false] at hr
      rcases hr with rfl | rfl <;> simp only [Row.ints, List.mem_cons, List.not_mem_nil, or_false] at hx <;> rcases hx with rfl | rfl | rfl | rfl | rfl | rfl | rfl <;> omega
    · simp only [List.mem_cons, List.not_mem_nil, or_false] at hr
      rcases hr with rfl | rfl <;> rfl
    · simp [sumAt, Row.ints]; omega
    · simp [sumAt, Row.ints]; omega
    · simp [sumAt, Row.ints]; omega
  refine ⟨by rw [tab, tab_srtKR]; exact co, fun r hr => ?_⟩
  have hr : r ∈ (List.range 2).map (rowAt way 2 ms) := (srtKR_perm _).mem_iff.mp hr
  rw [er] at hr
  simp only [List.mem_cons, List.not_mem_nil, or_false] at hr
  rcases hr with rfl | rfl
  · show s + 7 ≤ 19800 ∧ g + 7 ≤ 19800; omega
  · show g + 7 ≤ 19800 ∧ s + 7 ≤ 19800; omega
end K65
namespace G
open PySem PySem.Spec PyProof.Rows L2
section
variable {X : Cx} {kp : List Nat} {Γ : Gm} {D : Out} {body : List Stmt} {tg iter : Expr} {pos : Pos}
/-- a for loop with a state that is not told by the turn alone: V i s holds ahead of turn i -/
theorem WPs_forS {S : Type} (hp : PassesOwn (model X.prog X.w) X.A X.env X.xe) (hc : X.calm = true) (h : WPi X tg iter Γ fun ds Γ1 => ∃ (V : Nat → S → Prop) (mk : Nat → S → Gm), (∃ s, V 0 s ∧ Wk Γ1 (mk 0 s)) ∧
      (∀ i d s, ds[i]? = some d → V i s → WPg X kp tg d (mk i s) fun Γ2 => WPss X kp body Γ2 { nx := fun Γ3 => ∃ s', V (i + 1) s' ∧ Wk Γ3 (mk (i + 1) s'), ct := fun Γ3 => ∃ s', V (i + 1) s' ∧ Wk Γ3 (mk (i + 1) s'), bk := D.nx, rt := D.rt }) ∧ ∀ s, V ds.length s → D.nx (mk ds.length s))
    (hs : ∀ x, foldedSetIterable iter X.env x = pure x := by intro _; rfl) : WPs X kp (.For tg iter body [] pos) Γ D := fun F H σ O g E q =>
  WS_of (ps_for hp hc pi_W pg_W pss_W hs) (h F H σ O g _ fun ds Γ1 F1 H1 O1 J ⟨V, mk, ⟨s0, v0, w0⟩, turn, fin⟩ g1 f1 yl => by
    have q1 := q.step f1 .refl
    obtain ⟨O2, g2, s2⟩ := g1.weak w0
    have q2 := q1.own s2
    refine ⟨fun i m τ Hh => m = ds.length - i ∧ i ≤ ds.length ∧ ∃ s Ff Oo, V i s ∧ RepG X.K Ff Hh τ (mk i s) Oo ∧ kept kp σ τ ∧ Fut (Own O2) F1 H1 (Own Oo) Ff Hh, ⟨ds.length, by simp, Nat.zero_le _, s0, F1, O2, v0, g2, .refl, .refl fun a m => m⟩, ?_⟩
    rintro i m τ Hh ⟨rfl, hi, s, Ff, Oo, vs, gg, kk, ff⟩
    obtain ⟨y1, y2, y3⟩ := yl i Ff Hh ff.le gg.le
    by_cases lt : i < ds.length
    · refine .inr ⟨y1 lt, fun τ' Hh' => ∃ s Ff Oo, V (i + 1) s ∧ RepG X.K Ff Hh' τ' (mk (i + 1) s) Oo ∧ kept kp σ τ' ∧ Fut (Own O2) F1 H1 (Own Oo) Ff Hh', fun τ' Hh' z => ⟨ds.length - (i + 1), by omega, rfl, lt, z⟩, fun x Hx hy => ?_⟩
      obtain ⟨Fx, fx, lx, hx⟩ := y3 x Hx _ hy (List.getElem?_eq_getElem lt)
      have gx := gg.beside lx fx
      have fa : Fut (Own Oo) Ff Hh (Own Oo) Fx Hx := ((fx.wide (T := Own Oo)).pre fun a m => by rcases m with m | m; exact m.elim; exact m).post fun a m => .inr m
      refine turn i _ s (List.getElem?_eq_getElem lt) vs Fx Hx τ Oo gx x hx _ fun Γ2 F3 H3 σ3 O3 kb g3 k3 f4 => ?_
      have ft := (ff.trans fa).trans f4
      have kt := kk.trans k3
      have qq := q2.step ft kt
      have again : ∀ Γ4 F4 H4 σ4 O4, (∃ s', V (i + 1) s' ∧ Wk Γ4 (mk (i + 1) s')) → RepG X.K F4 H4 σ4 Γ4 O4 → kept kp σ3 σ4 → Fut (Own O3) F3 H3 (Own O4) F4 H4 → ∃ s Ff Oo, V (i + 1) s ∧ RepG X.K Ff H4 σ4 (mk (i + 1) s) Oo ∧ kept kp σ σ4 ∧ Fut (Own O2) F1 H1 (Own Oo) Ff H4 := fun Γ4 F4 H4 σ4 O4 ⟨s', v', d⟩ g4 k4 f5 => by
        obtain ⟨O5, g5, s5⟩ := g4.weak d
        exact ⟨s', F4, O5, v', g5, kt.trans k4, (ft.trans f5).post s5⟩
      exact kb F3 H3 σ3 O3 g3 _ ⟨fun Γ4 F4 H4 σ4 O4 d g4 k4 f5 => again Γ4 F4 H4 σ4 O4 d g4 k4 f5, qq.rt, qq.nx, fun Γ4 F4 H4 σ4 O4 d g4 k4 f5 => again Γ4 F4 H4 σ4 O4 d g4 k4 f5⟩
    · have e : i = ds.length := by omega
      subst e
      exact .inl ⟨y2 (Nat.le_refl _), q2.nx _ _ _ _ _ (fin s vs) gg kk ff⟩)
end
end G
namespace K65
open PySem PySem.Spec PyProof.Rows L2 G
structure TR where
  b : Bag
  n : Nat
  way : Int
  many : Int
def okR (t : TR) : Prop := okBag t.n t.b ∧ t.n + 1000 ≤ 2 ^ 40 ∧ t.b.cells.length ≤ 63 ∧ (1 ≤ t.way ∧ t.way ≤ 3) ∧ 1 ≤ t.many ∧ t.many ≤ 12
def low2 (rows : List Row) : Prop := ∀ r ∈ rows, r.tied + 2 ≤ 19800 ∧ r.points + 2 ≤ 19800
theorem good_two {way : Int} {rows : List Row} {i : Nat} {r : Row} (h : core way rows = true) (hi : i < rows.length) (hr : r = { rows.getD i r0 with tied := (rows.getD i r0).tied + 2 }) (hb : (rows.getD i r0).tied + 2 ≤ 19800 ∧ (rows.getD i r0).points + 2 ≤ 19800) : core way ((rows.set i r).map (fix way)) = true := by
  obtain ⟨a1, a2, a3, a4, a5, a6, a7⟩ := core_parts h
  have hm : rows.getD i r0 ∈ rows := by rw [getD_at hi]; exact List.getElem_mem hi
  have old := a3 _ hm
  have oldp := a4 _ hm
  have key : ∀ s ∈ rows.set i r, s ∈ rows ∨ s = r := fun s hs => List.mem_or_eq_of_mem_set hs
  have t1 : ((rows.set i r).map (fix way)).map (·.team) = rows.map (·.team) := by
    rw [List.map_map, List.map_set]
    have : ((fun x : Row => x.team) ∘ fix way) = fun x : Row => x.team := rfl
    rw [this, hr]
    show (rows.map fun x => x.team).set i (rows.getD i r0).team = _
    rw [getD_at hi]
    have h2 : rows[i].team = (rows.map fun x => x.team)[i]'(by simpa using hi) := by rw [List.getElem_map]
    rw [h2, List.set_getElem_self]
  refine core_mk (by simpa using a1) (by rw [t1]; simpa using a2) (fun s hs x hx => ?_) (fun s hs => ?_) ?_ ?_ ?_
  · obtain ⟨s0, hs0, rfl⟩ := List.mem_map.mp hs
    rcases key s0 hs0 with m | m
    · have e : fix way s0 = s0 := by
        unfold fix; rw [a4 s0 m]
      rw [e] at hx; exact a3 s0 m x hx
    · subst m
      have p7 : (rows.getD i r0).points ≤ pts way s0 ∧ pts way s0 ≤ (rows.getD i r0).points + 2 := by
        rw [hr, ← oldp]
        unfold pts
        show _ ∧ way * (rows.getD i r0).won + (if way > 1 then (rows.getD i r0).tied + 2 else 0) ≤ _
        constructor
        · show _ ≤ way * (rows.getD i r0).won + (if way > 1 then (rows.getD i r0).tied + 2 else 0)
          split <;> omega
        · split <;> omega
      have o := old
      simp only [Row.ints, List.mem_cons, List.not_mem_nil, or_false, forall_eq_or_imp, forall_eq] at o
      simp only [fix, Row.ints, List.mem_cons, List.not_mem_nil, or_false] at hx
      generalize pts way s0 = q at hx p7
      rw [hr] at hx
      simp only at hx
      rcases hx with rfl | rfl | rfl | rfl | rfl | rfl | rfl <;> omega
  · obtain ⟨s0, _, rfl⟩ := List.mem_map.mp hs
    rfl
  · rw [sumAt_fix (by decide), sumAt_fix (by decide), sumAt_set hi, sumAt_set hi, hr, a5]
    simp [Row.ints] <;> omega
  · rw [sumAt_fix (by decide), sumAt_set hi, hr]
    simp [Row.ints] <;> omega
  · rw [sumAt_fix (by decide), sumAt_fix (by decide), sumAt_set hi, sumAt_set hi, hr, a7]
    simp [Row.ints] <;> omega
def postR (t : TR) (u : Bag × List Row) : Prop := okBag (t.n + 1000) u.1 ∧ u.1.cells.length ≤ 63 ∧ tabOk t.way u.2 = true ∧ low7 u.2 ∧ low2 u.2
abbrev c_rows : Ctr := FnR TR (Bag × List Row) okR postR (fun t => [encB t.b, .dat (.int t.way), .dat (.int t.many)]) (fun t u => [encB u.1, .dat (.int t.way), .dat (.int t.many)]) fun u => lR u.2
def bagI (b : Bag) : Nat → Bag
  | 0 => b
  | i + 1 => (take (take (bagI b i) 4).2 4).2
def mtI (b : Bag) (i : Nat) : Mt := ⟨0, 1, (take (bagI b i) 4).1, (take (take (bagI b i) 4).2 4).1⟩
theorem bagI_ok {n : Nat} {b : Bag} (h : okBag n b) : ∀ i, okBag (n + 2 * i) (bagI b i)
  | 0 => h
  | i + 1 => okBag_take (okBag_take (bagI_ok h i) 4) 4
theorem bagI_cells (b : Bag) : ∀ i, (bagI b i).cells = b.cells
  | 0 => rfl
  | i + 1 => by rw [bagI, take_cells, take_cells, bagI_cells b i]
theorem mtI_ok (b : Bag) (i : Nat) : okM (mtI b i) := by
  have h1 := take_lt (b := bagI b i) (m := 4) (by decide)
  have h2 := take_lt (b := (take (bagI b i) 4).2) (m := 4) (by decide)
  refine ⟨rfl, rfl, h1.1, ?_, h2.1, ?_⟩
  · show (take (bagI b i) 4).1 ≤ 3; omega
  · show (take (take (bagI b i) 4).2 4).1 ≤ 3; omega
section
variable {P : Program} {w : World} {K : PySem.W.Frag} {mg : Str → Option Value} {base : Heap}
abbrev s_law : Stmt := top 28
abbrev N_law : List Str := ["script", "bag", "way", "many", "rows", "turn", "bent", "due", "twice", "results", "made_there"]
theorem sc_law : FnScope N_law ["script"] (defScope s_law) := ⟨rfl, rfl, rfl, by decide +kernel, rfl, by decide +kernel, by decide +kernel⟩
abbrev c_law : Ctr := Pu (List Int) (fun ns => ns.length ≤ 63) (fun ns => [.seq ns]) fun _ => .dat (.bool true)
set_option maxHeartbeats 0 in
theorem ok_law {f f1 f2 f3 f4 f5 f6 f7 f8 f9 f10 : Addr} {fd d1 d2 d3 d4 d5 d6 d7 d8 d9 d10 : FuncData} (F : Fun K "law" "law" s_law f fd) (B : Bl mg) (A1 : At P w K mg base "_law_bag" 1 ["script"] c_bag f1 d1) (A2 : At P w K mg base "_law_take" 1 ["bag", "many"] c_take f2 d2)
    (A3 : At P w K mg base "_law_some" 2 ["bag", "things"] c_some f3 d3) (A4 : At P w K mg base "_law_rows" 6 ["bag", "way", "many"] c_rows f4 d4) (A5 : At P w K mg base "is_table" 6 ["way", "thing"] c_is_table f5 d5) (A6 : At P w K mg base "_law_bent" 5 ["bag", "way", "rows"] c_bent f6 d6)
    (A7 : At P w K mg base "_law_alike" 1 ["found", "due"] c_alikeB f7 d7) (A8 : At P w K mg base "_law_with" 1 ["row", "at", "value"] c_with f8 d8) (A9 : At P w K mg base "_law_again" 4 ["way", "rows"] c_again f9 d9) (A10 : At P w K mg base "table" 3 ["way", "many", "results"] c_table f10 d10) :
    FnOk P w K mg base CX0 9 f fd ["script"] (spG K c_law) := by
  refine fn_pu (fun ns => [some (.seq ns), none, none, none, none, none, none, none, none, none, none]) F sc_law (fun _ => rfl) (fun _ => rfl) fun cdv A0 outer s H E hr ns hn => ?_
  have hn : ns.length ≤ 63 := hn
  have N := sc_law.nd
  refine WPss_cons (WPs_set 1 (WPe_callC A1.ok (hr.mono (by decide)) A1.mg A1.keep A1.bind (WPa_cons (WPe_name 0 rfl ⟨rfl, WPa_nil ⟨_, rfl, rfl, ns, hn, rfl, _, _, rfl, rfl, ?_⟩⟩))) N)
  have ob0 : okBag 0 (bag0 ns) := ⟨Nat.le_refl _, by show (0 : Int) ≤ 1234567891; decide, by show (1234567891 : Int) < 2147483647; decide⟩
  have cl0 : (bag0 ns).cells.length ≤ 63 := by show (ns.map _).length ≤ 63; rw [List.length_map]; exact hn
  dsimp only
  generalize bag0 ns = b0 at ob0 cl0
  have up : ∀ {n m : Nat} {b : Bag}, okBag n b → n ≤ m → okBag m b := fun h l => ⟨Nat.le_trans h.1 l, h.2⟩
  refine WPss_weak (Δ := [some (.seq ns), some (encB b0), none, none, none, none, none, none, none, none, none]) (wk_eq rfl) ?_
  have t1 := take_lt (b := b0) (m := 3) (by decide)
  have o1 := okBag_take ob0 3
  have l1 := take_cells b0 3
  refine WPss_cons (WPs_par 2 3 (WPa_cons (WPe_bin (WPe_int ⟨rfl, WPe_callM A2.ok (hr.mono (by decide)) A2.mg A2.keep A2.bind (WPe_name 1 rfl ⟨1, rfl, WPd_cons (WPe_int ⟨_, _, rfl, WPd_nil ⟨_, rfl, (b0, 3), ⟨up ob0 (by decide), (by show (1 : Int) ≤ 3; decide), (by show (3 : Int) < 2 ^ 60; decide), cl0⟩, rfl, _, _, rfl, .d (.int 1), .d (.int _), _, rfl, rfl, od_add, ?_⟩⟩)⟩)⟩))) rfl N)
  dsimp only
  generalize take b0 3 = p1 at t1 o1 l1
  obtain ⟨v1, b1⟩ := p1
  have o1 : okBag 1 b1 := o1
  have cl1 : b1.cells.length ≤ 63 := by rw [show b1.cells = b0.cells from l1]; exact cl0
  have w1 : 1 ≤ 1 + v1 := by have : 0 ≤ v1 := t1.1; omega
  have w3 : 1 + v1 ≤ 3 := by have : v1 < 3 := t1.2; omega
  have t2 := take_lt (b := b1) (m := 12) (by decide)
  have o2 := okBag_take o1 12
  have l2 := take_cells b1 12
  refine ⟨rfl, WPa_cons (WPe_callM A3.ok (hr.mono (by decide)) A3.mg A3.keep A3.bind (WPe_name 1 rfl ⟨1, rfl, WPd_cons (WPe_lst (WPd_cons (WPe_int ⟨_, _, rfl, WPd_cons (WPe_int ⟨_, _, rfl, WPd_cons (WPe_bin (WPe_int ⟨rfl, ?_⟩))⟩)⟩)))⟩))⟩
  refine WPe_callM A2.ok (hr.mono (by decide)) A2.mg A2.keep A2.bind (WPe_name 1 rfl ⟨1, rfl, WPd_cons (WPe_int ⟨_, _, rfl, WPd_nil ⟨_, rfl, (b1, 12), ⟨up o1 (by decide), (by show (1 : Int) ≤ 12; decide), (by show (12 : Int) < 2 ^ 60; decide), cl1⟩, rfl, _, _, rfl, .d (.int 1), .d (.int _), _, rfl, rfl, od_add, ?_⟩⟩)⟩)
  dsimp only
  generalize take b1 12 = p2 at t2 o2 l2
  obtain ⟨v2, b2⟩ := p2
  have o2 : okBag 2 b2 := o2
  have cl2 : b2.cells.length ≤ 63 := by rw [show b2.cells = b1.cells from l2]; exact cl1
  have v2a : 0 ≤ v2 := t2.1
  have v2b : v2 < 12 := t2.2
  have t3 := take_lt (b := b2) (m := 3) (by decide)
  have o3 := okBag_take o2 3
  have l3 := take_cells b2 3
  have sv : ∃ v : Int, some1 b2 [.int 12, .int 5, .int (1 + v2)] = .int v ∧ 1 ≤ v ∧ v ≤ 12 := by
    unfold some1
    show ∃ v : Int, [PyData.int 12, .int 5, .int (1 + v2)].getD (take b2 3).1.toNat .none = .int v ∧ _
    obtain ⟨k, hk⟩ := Int.eq_ofNat_of_zero_le t3.1
    rw [hk]
    have : k < 3 := by have := t3.2; omega
    match k, this with
    | 0, _ => exact ⟨_, rfl, by decide, by decide⟩
    | 1, _ => exact ⟨_, rfl, by decide, by decide⟩
    | 2, _ => exact ⟨_, rfl, by omega, by omega⟩
  obtain ⟨many, em, m1, m12⟩ := sv
  refine ⟨_, _, rfl, WPd_nil ⟨(by show 3 ≤ sizeLine; decide), _, _, frzV (ds := [.int 12, .int 5, .int (1 + v2)]), WPd_nil ⟨_, rfl, (b2, [.int 12, .int 5, .int (1 + v2)]), ⟨up o2 (by decide), (by show 1 ≤ 3; decide), (by show 3 ≤ 1000; decide), cl2⟩, rfl, _, _, rfl, rfl, WPa_nil ⟨_, _, rfl, rfl, rfl, ?_⟩⟩⟩⟩
  have o3 : okBag 3 (take b2 3).2 := o3
  have cl3 : (take b2 3).2.cells.length ≤ 63 := by rw [l3]; exact cl2
  refine WPss_weak (Δ := [some (.seq ns), some (encB (take b2 3).2), some (.dat (.int (1 + v1))), some (.dat (.int many)), none, none, none, none, none, none, none]) (wk_eq ?_) ?_
  · show [_, _, _, some (C.dat (some1 b2 [.int 12, .int 5, .int (1 + v2)])), _, _, _, _, _, _, _] = _
    rw [em]; rfl
  generalize (take b2 3).2 = b3 at o3 cl3
  generalize 1 + v1 = way at w1 w3
  refine WPss_cons (WPs_set 4 (WPe_callTy (WPa_cons (WPe_callM A4.ok (hr.mono (by decide)) A4.mg A4.keep A4.bind (WPe_name 1 rfl ⟨1, rfl, WPd_cons (WPe_name 2 rfl ⟨_, _, rfl, WPd_cons (WPe_name 3 rfl ⟨_, _, rfl, WPd_nil ⟨_, rfl, ⟨b3, 3, way, many⟩, ⟨o3, (by show 1003 ≤ 2 ^ 40; decide), cl3, ⟨w1, w3⟩, m1, m12⟩, rfl, fun u hu => ?_⟩⟩)⟩)⟩))) B.tuple boot_tuple') N)
  obtain ⟨b4, rows⟩ := u
  obtain ⟨o4, cl4, tk, l7, lw2⟩ := hu
  have o4 : okBag 1003 b4 := o4
  have cl4 : b4.cells.length ≤ 63 := cl4
  have tk : tabOk way rows = true := tk
  have l7 : low7 rows := l7
  refine ⟨_, _, rfl, rfl, WPa_nil ⟨[.s false (rows.map encR)], _, ⟨seesLD, trivial⟩, cd_tuple, _, _, rfl, rfl, ?_⟩⟩
  refine WPss_weak (Δ := [some (.seq ns), some (encB b4), some (.dat (.int way)), some (.dat (.int many)), some (.dat (encRs rows)), none, none, none, none, none, none]) (wk_eq rfl) ?_
  have co := core_of tk
  obtain ⟨⟨c1, c2⟩, c3, c4, c5, c6, c7, c8⟩ := core_parts co
  have nz : rows.length ≤ 1000 := by omega
  have it : isTab way (encRs rows) = true := by rw [isTab_enc]; exact tk
  refine WPss_cons (WPs_if (WPt_cmp (WPe_callD A5.ok (hr.mono (by decide)) A5.mg A5.keep A5.bind (WPd_cons (WPe_name 2 rfl ⟨_, _, rfl, WPd_cons (WPe_name 4 rfl ⟨_, _, rfl, WPd_nil ⟨(way, encRs rows), ⟨⟨w1, w3⟩, small_enc nz⟩, rfl, rfl, WPe_bl ⟨.d (.bool (isTab way (encRs rows))), .d (.bool true), _, rfl, rfl, od_notB, fun e => ?_, fun e => WPss_nil ?_⟩⟩⟩)⟩)))))
  · rw [it] at e; cases e
  refine WPss_cons (WPs_forS (S := Bag × PyData × Bool × Bool) .never rfl (WPi_range1 (WPe_int ⟨8, rfl, ⟨by decide, by decide⟩, fun i s => okBag (1003 + 3 * i) s.1 ∧ s.1.cells.length ≤ 63, fun i s => [some (.seq ns), some (encB s.1), some (.dat (.int way)), some (.dat (.int many)), some (.dat (encRs rows)), none, none, none, none, none, none], ⟨(b4, .none, true, true), ⟨o4, cl4⟩, .refl⟩, ?_, ?_⟩) B.range))
  · intro i d s ed ⟨ob, cb⟩
    have hi : i < 8 := by
      have := (List.getElem?_eq_some_iff.mp ed).1
      simpa using this
    obtain ⟨b, s2⟩ := s
    have ob : okBag (1003 + 3 * i) b := ob
    have cb : b.cells.length ≤ 63 := cb
    refine WPg_name 5 ?_ N
    refine WPss_cons (WPs_asg (WPe_callM A6.ok (hr.mono (by decide)) A6.mg A6.keep A6.bind (WPe_name 1 rfl ⟨1, rfl, WPd_cons (WPe_name 2 rfl ⟨_, _, rfl, WPd_cons (WPe_name 4 rfl ⟨_, _, rfl, WPd_nil ⟨_, rfl, ⟨b, 1003 + 3 * i, way, rows⟩, ⟨ob, (by show 1003 + 3 * i + 10 ≤ 2 ^ 40; omega), cb, ⟨w1, w3⟩, tk, l7⟩, rfl, fun u hu => ?_⟩⟩)⟩)⟩)))
    obtain ⟨b', d', due⟩ := u
    obtain ⟨p1, p2, p3, p4⟩ := hu
    refine ⟨_, _, rfl, _, _, rfl, WPg_tup (WPgs_cons (WPg_name 6 (WPgs_cons (WPg_name 7 (WPgs_nil ?_) N)) N)) rfl⟩
    refine WPss_one (WPs_if (WPt_not (WPt_val (WPe_callD A7.ok (hr.mono (by decide)) A7.mg A7.keep A7.bind (WPd_cons (WPe_callD A5.ok (hr.mono (by decide)) A5.mg A5.keep A5.bind (WPd_cons (WPe_name 2 rfl ⟨_, _, rfl, WPd_cons (WPe_name 6 rfl ⟨_, _, rfl, WPd_nil ⟨(way, d'), ⟨⟨w1, w3⟩, p3⟩, rfl, _, _, rfl, WPd_cons (WPe_name 7 rfl ⟨_, _, rfl, WPd_nil ⟨(isTab way d', due), trivial, rfl, _, rfl, fun e => ?_, fun e => WPss_nil ?_⟩⟩)⟩⟩)⟩))))))))
    · have p4 : isTab way d' = due := p4
      rw [p4] at e; simp at e
    · exact ⟨(b', .none, true, true), ⟨p1, p2⟩, wk_to [some (.seq ns), some (encB b'), some (.dat (.int way)), some (.dat (.int many)), some (.dat (encRs rows)), some (.dat (.int (0 + (i : Int)))), some (.dat d'), some (.dat (.bool due)), none, none, none] (by
        have : d = .int (0 + (i : Int)) := by
          rw [List.getElem?_map] at ed
          obtain ⟨j, ej, e2⟩ := Option.map_eq_some_iff.mp ed
          have : j = i := by
            have := (List.getElem?_eq_some_iff.mp ej).2
            simpa using this.symm
          rw [← e2, this]
        subst this; rfl) (wk_none 5 (wk_none 6 (wk_none 7 .refl)))⟩
  intro s ⟨ob, cb⟩
  obtain ⟨b5, s2⟩ := s
  have o5 : okBag 1100 b5 := up ob (by decide)
  have cl5 : b5.cells.length ≤ 63 := cb
  have p0 : 0 < rows.length := by omega
  have hm : rows.getD 0 r0 ∈ rows := by rw [getD_at p0]; exact List.getElem_mem p0
  have c2t := good_two (r := { rows.getD 0 r0 with tied := (rows.getD 0 r0).tied + 2 }) co p0 rfl (lw2 _ hm)
  have ok0 : ∀ r ∈ rows.set 0 { rows.getD 0 r0 with tied := (rows.getD 0 r0).tied + 2 }, okPts (way, r) := fun r hr => by
    refine ⟨by show way.natAbs < _; omega, ?_⟩
    show r.won.natAbs < _
    rcases List.mem_or_eq_of_mem_set hr with m | rfl
    · have := c4 r m r.won (by simp [Row.ints]); omega
    · have := c4 _ hm (rows.getD 0 r0).won (by simp [Row.ints])
      show (rows.getD 0 r0).won.natAbs < _
      omega
  generalize hrow : rows.getD 0 r0 = row at hm c2t ok0
  have h0 : (ixC ((0 : Nat) : Int) (.dat (encRs rows))).map R.val = some (.val (.dat (encR row))) := by rw [← hrow]; exact congrArg (Option.map R.val) (ixRs p0)
  refine WPss_cons (WPs_set 8 (WPe_callD A8.ok (hr.mono (by decide)) A8.mg A8.keep A8.bind (WPd_cons (WPe_ix (WPe_name 4 rfl ⟨rfl, WPe_int ⟨((0 : Nat) : Int), .val (.dat (encR row)), rfl, h0, _, _, rfl, ?_⟩⟩)))) N)
  refine WPd_cons (WPe_int ⟨_, _, rfl, ?_⟩)
  refine WPd_cons (WPe_bin (WPe_ix (WPe_ix (WPe_name 4 rfl ⟨rfl, WPe_int ⟨((0 : Nat) : Int), .val (.dat (encR row)), rfl, h0, rfl, WPe_int ⟨2, _, rfl, rfl, rfl, ?_⟩⟩⟩))))
  refine WPe_int ⟨.d (.int row.tied), .d (.int 2), _, rfl, rfl, od_add, _, _, rfl, WPd_nil ⟨⟨row.ints.map .int, 2, .int (row.tied + 2)⟩, ⟨(by show 2 < 7; decide), (by show 7 ≤ 1000; decide)⟩, rfl, _, _, rfl, rfl, ?_⟩⟩
  refine WPss_weak (Δ := [some (.seq ns), some (encB b5), some (.dat (.int way)), some (.dat (.int many)), some (.dat (encRs rows)), none, none, none, some (.dat (encR { row with tied := row.tied + 2 })), none, none]) (wk_eq rfl) ?_
  have eq0 : encR { row with tied := row.tied + 2 } :: (rows.map encR).drop 1 = (rows.set 0 { row with tied := row.tied + 2 }).map encR := by
    cases rows with
    | nil => simp at p0
    | cons a rs => rfl
  refine WPss_cons (WPs_if (WPt_not (WPt_val (WPe_callD A7.ok (hr.mono (by decide)) A7.mg A7.keep A7.bind (WPd_cons (WPe_callD A5.ok (hr.mono (by decide)) A5.mg A5.keep A5.bind (WPd_cons (WPe_name 2 rfl ⟨_, _, rfl, ?_⟩))))))))
  refine WPd_cons (WPe_callD A9.ok (hr.mono (by decide)) A9.mg A9.keep A9.bind (WPd_cons (WPe_name 2 rfl ⟨_, _, rfl, WPd_cons (WPe_bin (WPe_tup ?_))⟩)))
  refine WPd_cons (WPe_name 8 rfl ⟨_, _, rfl, WPd_nil ⟨(by show 1 ≤ sizeLine; decide), rfl, ?_⟩⟩)
  refine WPe_slice (WPe_name 4 rfl ⟨rfl, WPo_some (WPe_int ⟨1, rfl, WPo_none ⟨.tup (rows.map encR), rfl, .s true [encR { row with tied := row.tied + 2 }], .s true (cutP (rows.map encR) (some ((1 : Nat) : Int)) none), _, rfl, rfl, od_catT ?_, _, _, rfl, WPd_nil ⟨⟨way, true, rows.set 0 { row with tied := row.tied + 2 }⟩, ⟨by simpa using nz, ok0⟩, ?_, _, _, rfl, ?_⟩⟩⟩)⟩)
  · rw [cut_from, List.length_drop, List.length_map]; have : 2000 ≤ sizeLine := by decide
    show 1 + _ ≤ _; omega
  · rw [cut_from]
    show [C.dat (.int way), C.dat (.tuple (encR { row with tied := row.tied + 2 } :: (rows.map encR).drop 1))] = _
    rw [eq0]; rfl
  have ia : isTab way (encRs (again way (rows.set 0 { row with tied := row.tied + 2 }))) = true := by rw [isTab_enc, again, tab_srt]; exact c2t
  refine WPd_nil ⟨(way, encRs (again way (rows.set 0 { row with tied := row.tied + 2 }))), ⟨⟨w1, w3⟩, small_enc (by rw [again, srtK_len, List.length_map, List.length_set]; exact nz)⟩, rfl, _, _, rfl, WPd_cons (WPe_bl ⟨_, _, rfl, WPd_nil ⟨(isTab way (encRs (again way (rows.set 0 { row with tied := row.tied + 2 }))), true), trivial, rfl, _, rfl, fun e => ?_, fun e => WPss_nil ?_⟩⟩)⟩
  · rw [ia] at e; cases e
  refine WPss_weak (Δ := [some (.seq ns), some (encB b5), some (.dat (.int way)), some (.dat (.int many)), some (.dat (encRs rows)), none, none, none, none, none, none]) (wk_to [some (.seq ns), some (encB b5), some (.dat (.int way)), some (.dat (.int many)), some (.dat (encRs rows)), none, none, none, some (.dat (encR { row with tied := row.tied + 2 })), none, none] rfl (wk_none 8 .refl)) ?_
  have t6 := take_lt (b := b5) (m := 5) (by decide)
  have o6 := okBag_take o5 5
  have l6 := take_cells b5 5
  refine WPss_cons (WPs_set 9 (WPe_callTy (WPa_cons (WPe_lc [("turn", 5)] (WPi_range1 (WPe_callM A2.ok (hr.mono (by decide)) A2.mg A2.keep A2.bind (WPe_name 1 rfl ⟨1, rfl, WPd_cons (WPe_int ⟨_, _, rfl, WPd_nil ⟨_, rfl, (b5, 5), ⟨up o5 (by decide), (by show (1 : Int) ≤ 5; decide), (by show (5 : Int) < 2 ^ 60; decide), cl5⟩, rfl, _, _, rfl, ?_⟩⟩)⟩)) B.range) rfl N (blkOk_by (N := N_law) (sc := defScope s_law) (by decide +kernel)))) B.tuple boot_tuple') N)
  dsimp only
  generalize take b5 5 = p6 at t6 o6 l6
  obtain ⟨nv, b6⟩ := p6
  obtain ⟨nr, rfl⟩ := Int.eq_ofNat_of_zero_le (show 0 ≤ nv from t6.1)
  have hnr : nr < 5 := by have : ((nr : Nat) : Int) < 5 := t6.2; omega
  have o6 : okBag 1101 b6 := o6
  have cl6 : b6.cells.length ≤ 63 := by rw [show b6.cells = b5.cells from l6]; exact cl5
  refine ⟨nr, rfl, ⟨by omega, by omega⟩, fun i => [some (.seq ns), some (encB (bagI b6 i)), some (.dat (.int way)), some (.dat (.int many)), some (.dat (encRs rows)), none, none, none, none, none, none], fun i => (List.range i).map fun j => C.dat (encM (mtI b6 j)), ⟨?_, .refl, rfl, fun i j hj c => ?_, fun i d ed s H Ca cl fp => ?_⟩, ?_⟩
  · rw [List.length_map, List.length_range]; show nr ≤ _; have : 10 ≤ sizeLine := by decide
    omega
  · simp at hj; subst hj; intro z; cases z
  · have hi : i < nr := by
      have := (List.getElem?_eq_some_iff.mp ed).1
      simpa using this
    refine WPg_name 5 (fun s H Ca cl fp => ⟨fun _ s H Ca cl fp => ?_, fun z => by cases z⟩) N
    have oi := bagI_ok o6 i
    have ci : (bagI b6 i).cells.length ≤ 63 := by rw [bagI_cells]; exact cl6
    have oi2 := okBag_take oi 4
    have ci2 : (take (bagI b6 i) 4).2.cells.length ≤ 63 := by rw [take_cells]; exact ci
    refine WPe_tup (WPd_cons (WPe_int ⟨_, _, rfl, WPd_cons (WPe_int ⟨_, _, rfl, ?_⟩)⟩))
    refine WPd_cons (WPe_callM A2.ok (hr.mono (by decide)) A2.mg A2.keep A2.bind (WPe_name 1 rfl ⟨1, rfl, WPd_cons (WPe_int ⟨_, _, rfl, WPd_nil ⟨_, rfl, (bagI b6 i, 4), ⟨up oi (by omega), (by show (1 : Int) ≤ 4; decide), (by show (4 : Int) < 2 ^ 60; decide), ci⟩, rfl, _, _, rfl, _, _, rfl, ?_⟩⟩)⟩))
    refine WPd_cons (WPe_callM A2.ok (hr.mono (by decide)) A2.mg A2.keep A2.bind (WPe_name 1 rfl ⟨1, rfl, WPd_cons (WPe_int ⟨_, _, rfl, WPd_nil ⟨_, rfl, ((take (bagI b6 i) 4).2, 4), ⟨up oi2 (by omega), (by show (1 : Int) ≤ 4; decide), (by show (4 : Int) < 2 ^ 60; decide), ci2⟩, rfl, _, _, rfl, _, _, rfl, WPd_nil ⟨(by show 4 ≤ sizeLine; decide), _, _, rfl, .refl, ?_⟩⟩⟩)⟩))
    show ((List.range (i + 1)).map fun j => C.dat (encM (mtI b6 j))) = _
    rw [List.range_succ, List.map_append]; rfl
  dsimp only
  rw [List.length_map, List.length_range, Int.toNat_natCast]
  refine ⟨rfl, WPa_nil ⟨[.s false ((List.range nr).map fun j => encM (mtI b6 j))], _, ⟨seesL, trivial⟩, cd_tuple, _, _, rfl, rfl, ?_⟩⟩
  have em2 : ((List.range nr).map fun j => encM (mtI b6 j)) = ((List.range nr).map (mtI b6)).map encM := by rw [List.map_map]; rfl
  rw [em2]
  have hms : ∀ m ∈ (List.range nr).map (mtI b6), okM m := fun m hm => by
    obtain ⟨j, _, rfl⟩ := List.mem_map.mp hm
    exact mtI_ok b6 j
  have hml : ((List.range nr).map (mtI b6)).length ≤ 10 := by rw [List.length_map, List.length_range]; omega
  generalize (List.range nr).map (mtI b6) = ms at hms hml
  have o7 : okBag 1120 (bagI b6 nr) := up (bagI_ok o6 nr) (by omega)
  have cl7 : (bagI b6 nr).cells.length ≤ 63 := by rw [bagI_cells]; exact cl6
  generalize bagI b6 nr = b7 at o7 cl7
  refine WPss_weak (Δ := [some (.seq ns), some (encB b7), some (.dat (.int way)), some (.dat (.int many)), some (.dat (encRs rows)), none, none, none, none, some (.dat (.tuple (ms.map encM))), none]) (wk_eq rfl) ?_
  obtain ⟨tt, tl⟩ := tab_two (way := way) ⟨w1, w3⟩ hms hml
  have tlen : (tab way 2 ms).length ≤ 1000 := by
    rw [tab, (srtKR_perm _).length_eq, List.length_map, List.length_range]; decide
  have it2 : isTab way (encRs (tab way 2 ms)) = true := by rw [isTab_enc]; exact tt
  refine WPss_cons (WPs_set 10 (WPe_callD A10.ok (hr.mono (by decide)) A10.mg A10.keep A10.bind (WPd_cons (WPe_name 2 rfl ⟨_, _, rfl, WPd_cons (WPe_int ⟨_, _, rfl, WPd_cons (WPe_name 9 rfl ⟨_, _, rfl, WPd_nil ⟨⟨way, 2, ms⟩, ⟨by show 2 ≤ 1000; decide, by show ms.length ≤ 1000; omega, fun m hm => ?_⟩, rfl, _, _, rfl, rfl, ?_⟩⟩)⟩)⟩))) N)
  · obtain ⟨e1, e2, _⟩ := hms m hm
    show m.a < 2 ∧ m.b < 2
    rw [e1, e2]; decide
  refine WPss_weak (Δ := [some (.seq ns), some (encB b7), some (.dat (.int way)), some (.dat (.int many)), some (.dat (encRs rows)), none, none, none, none, some (.dat (.tuple (ms.map encM))), some (.dat (encRs (tab way 2 ms)))]) (wk_eq rfl) ?_
  generalize tab way 2 ms = rows2 at tt tl tlen it2
  refine WPss_cons (WPs_if (WPt_cmp (WPe_callD A5.ok (hr.mono (by decide)) A5.mg A5.keep A5.bind (WPd_cons (WPe_name 2 rfl ⟨_, _, rfl, WPd_cons (WPe_name 10 rfl ⟨_, _, rfl, WPd_nil ⟨(way, encRs rows2), ⟨⟨w1, w3⟩, small_enc tlen⟩, rfl, rfl, WPe_bl ⟨.d (.bool (isTab way (encRs rows2))), .d (.bool true), _, rfl, rfl, od_notB, fun e => ?_, fun e => WPss_nil ?_⟩⟩⟩)⟩)))))
  · rw [it2] at e; cases e
  refine WPss_cons (WPs_asg (WPe_callM A6.ok (hr.mono (by decide)) A6.mg A6.keep A6.bind (WPe_name 1 rfl ⟨1, rfl, WPd_cons (WPe_name 2 rfl ⟨_, _, rfl, WPd_cons (WPe_name 10 rfl ⟨_, _, rfl, WPd_nil ⟨_, rfl, ⟨b7, 1120, way, rows2⟩, ⟨o7, (by show 1130 ≤ 2 ^ 40; decide), cl7, ⟨w1, w3⟩, tt, tl⟩, rfl, fun u hu => ?_⟩⟩)⟩)⟩)))
  obtain ⟨b8, d8, due⟩ := u
  obtain ⟨p1, p2, p3, p4⟩ := hu
  have p4 : isTab way d8 = due := p4
  refine ⟨_, _, rfl, _, _, rfl, WPg_tup (WPgs_cons (WPg_name 6 (WPgs_cons (WPg_name 7 (WPgs_nil ?_) N)) N)) rfl⟩
  refine WPss_one (WPs_ret (WPe_callD A7.ok (hr.mono (by decide)) A7.mg A7.keep A7.bind (WPd_cons (WPe_callD A5.ok (hr.mono (by decide)) A5.mg A5.keep A5.bind (WPd_cons (WPe_name 2 rfl ⟨_, _, rfl, WPd_cons (WPe_name 6 rfl ⟨_, _, rfl, WPd_nil ⟨(way, d8), ⟨⟨w1, w3⟩, p3⟩, rfl, _, _, rfl, WPd_cons (WPe_name 7 rfl ⟨_, _, rfl, WPd_nil ⟨(isTab way d8, due), trivial, rfl, _, _, rfl, ?_⟩⟩)⟩⟩)⟩))))))
  show C.dat (.bool (isTab way d8 == due)) = C.dat (.bool true)
  rw [p4]; simp
end
end K65
namespace K65
open PySem PySem.Spec PyProof.Rows L2 G
/-! ### the plain law of _law_rows: rows grow by right steps -/
def bmp (f : Row → Row) (a : Nat) (rows : List Row) : List Row := rows.set a (f (rows.getD a r0))
theorem bmp_len (f : Row → Row) (a : Nat) (rows : List Row) : (bmp f a rows).length = rows.length := by simp [bmp]
structure InvRw (c : Int → Int) (n : Nat) (i : Int) (rows : List Row) : Prop where
  len : rows.length = n
  team : rows.map (·.team) = (List.range n).map fun i : Nat => (i : Int)
  bnd : ∀ r ∈ rows, (0 ≤ r.won ∧ r.won ≤ 29 * i) ∧ (0 ≤ r.tied ∧ r.tied ≤ 58 * i) ∧ (0 ≤ r.lost ∧ r.lost ≤ 29 * i) ∧ (0 ≤ r.shot ∧ r.shot ≤ 299 * i) ∧ (0 ≤ r.lets ∧ r.lets ≤ 299 * i) ∧ r.points = 0
  s13 : sumAt 1 rows = sumAt 3 rows
  s2 : sumAt 2 rows % 2 = 0
  s45 : sumAt 4 rows = sumAt 5 rows
abbrev InvRs (n : Nat) (i : Int) (rows : List Row) : Prop := InvRw id n i rows
theorem sumAt_bump {f : Row → Row} {a : Nat} {rows : List Row} (h : a < rows.length) (k : Nat) : sumAt k (bmp f a rows) = sumAt k rows - (rows.getD a r0).ints.getD k 0 + (f (rows.getD a r0)).ints.getD k 0 := sumAt_set h k
theorem team_bump {f : Row → Row} {a : Nat} {rows : List Row} (hf : ∀ r, (f r).team = r.team) (h : a < rows.length) : (bmp f a rows).map (·.team) = rows.map (·.team) := by
  rw [bmp, List.map_set, hf, getD_at h]
  have h2 : rows[a].team = (rows.map fun x => x.team)[a]'(by simpa using h) := by rw [List.getElem_map]
  rw [h2, List.set_getElem_self]
theorem mem_bump {f : Row → Row} {a : Nat} {rows : List Row} {r : Row} (h : a < rows.length) (hr : r ∈ bmp f a rows) : r ∈ rows ∨ ∃ r' ∈ rows, r = f r' := by
  rcases List.mem_or_eq_of_mem_set hr with m | e
  · exact .inl m
  · refine .inr ⟨rows.getD a r0, ?_, e⟩
    rw [getD_at h]; exact List.getElem_mem h
def addWon (q : Int) (r : Row) : Row := { r with won := r.won + q }
def addTied (q : Int) (r : Row) : Row := { r with tied := r.tied + q }
def addLost (q : Int) (r : Row) : Row := { r with lost := r.lost + q }
def addShot (q : Int) (r : Row) : Row := { r with shot := r.shot + q }
def addLets (q : Int) (r : Row) : Row := { r with lets := r.lets + q }
def step0 (a b : Nat) (q : Int) (rows : List Row) : List Row := bmp (addLost q) b (bmp (addWon q) a rows)
def step1 (a b : Nat) (q : Int) (rows : List Row) : List Row := bmp (addTied q) b (bmp (addTied q) a rows)
def step2 (a b : Nat) (q : Int) (rows : List Row) : List Row := bmp (addLets q) b (bmp (addShot q) a rows)
section
variable {n : Nat} {i : Int} {rows : List Row} {a b : Nat} {q : Int}
theorem inv_step0 (h : InvRs n i rows) (hi : 0 ≤ i) (ha : a < n) (hb : b < n) (hq : 0 ≤ q ∧ q ≤ 29) : InvRs n (i + 1) (step0 a b q rows) := by
  have la : a < rows.length := by rw [h.len]; exact ha
  have lb : b < (bmp (addWon q) a rows).length := by rw [bmp_len, h.len]; exact hb
  refine ⟨by rw [step0, bmp_len, bmp_len, h.len], by rw [step0, team_bump (f := addLost q) (fun _ => rfl) lb, team_bump (f := addWon q) (fun _ => rfl) la, h.team], fun r hr => ?_, ?_, ?_, ?_⟩
  · have key : ∀ r' ∈ bmp (addWon q) a rows, (0 ≤ r'.won ∧ r'.won ≤ 29 * i + 29) ∧ (0 ≤ r'.tied ∧ r'.tied ≤ 58 * i) ∧ (0 ≤ r'.lost ∧ r'.lost ≤ 29 * i) ∧ (0 ≤ r'.shot ∧ r'.shot ≤ 299 * i) ∧ (0 ≤ r'.lets ∧ r'.lets ≤ 299 * i) ∧ r'.points = 0 := fun r' hr' => by
      rcases mem_bump la hr' with m | ⟨r'', m, rfl⟩
      · have := h.bnd r' m; omega
      · have := h.bnd r'' m
        simp only [addWon]; omega
    rcases mem_bump lb hr with m | ⟨r', m, rfl⟩
    · have := key r m; omega
    · have := key r' m
      simp only [addLost]; omega
  · rw [step0, sumAt_bump lb, sumAt_bump lb, sumAt_bump la, sumAt_bump la, h.s13]
    simp [addWon, addLost, Row.ints] <;> omega
  · rw [step0, sumAt_bump lb, sumAt_bump la]
    have := h.s2
    simp only [addWon, addLost, Row.ints, List.getD_cons_succ, List.getD_cons_zero]; omega
  · rw [step0, sumAt_bump lb, sumAt_bump lb, sumAt_bump la, sumAt_bump la, h.s45]
    simp [addWon, addLost, Row.ints] <;> omega
theorem inv_step1 (h : InvRs n i rows) (hi : 0 ≤ i) (ha : a < n) (hb : b < n) (hq : 0 ≤ q ∧ q ≤ 29) : InvRs n (i + 1) (step1 a b q rows) := by
  have la : a < rows.length := by rw [h.len]; exact ha
  have lb : b < (bmp (addTied q) a rows).length := by rw [bmp_len, h.len]; exact hb
  refine ⟨by rw [step1, bmp_len, bmp_len, h.len], by rw [step1, team_bump (f := addTied q) (fun _ => rfl) lb, team_bump (f := addTied q) (fun _ => rfl) la, h.team], fun r hr => ?_, ?_, ?_, ?_⟩
  · have key : ∀ r' ∈ bmp (addTied q) a rows, (0 ≤ r'.won ∧ r'.won ≤ 29 * i) ∧ (0 ≤ r'.tied ∧ r'.tied ≤ 58 * i + 29) ∧ (0 ≤ r'.lost ∧ r'.lost ≤ 29 * i) ∧ (0 ≤ r'.shot ∧ r'.shot ≤ 299 * i) ∧ (0 ≤ r'.lets ∧ r'.lets ≤ 299 * i) ∧ r'.points = 0 := fun r' hr' => by
      rcases mem_bump la hr' with m | ⟨r'', m, rfl⟩
      · have := h.bnd r' m; omega
      · have := h.bnd r'' m
        simp only [addTied]; omega
    rcases mem_bump lb hr with m | ⟨r', m, rfl⟩
    · have := key r m; omega
    · have := key r' m
      simp only [addTied]; omega
  · rw [step1, sumAt_bump lb, sumAt_bump lb, sumAt_bump la, sumAt_bump la, h.s13]
    simp [addTied, Row.ints]
  · rw [step1, sumAt_bump lb, sumAt_bump la]
    have := h.s2
    simp only [addTied, Row.ints, List.getD_cons_succ, List.getD_cons_zero]; omega
  · rw [step1, sumAt_bump lb, sumAt_bump lb, sumAt_bump la, sumAt_bump la, h.s45]
    simp [addTied, Row.ints]
theorem inv_step2 (h : InvRs n i rows) (hi : 0 ≤ i) (ha : a < n) (hb : b < n) (hq : 0 ≤ q ∧ q ≤ 299) : InvRs n (i + 1) (step2 a b q rows) := by
  have la : a < rows.length := by rw [h.len]; exact ha
  have lb : b < (bmp (addShot q) a rows).length := by rw [bmp_len, h.len]; exact hb
  refine ⟨by rw [step2, bmp_len, bmp_len, h.len], by rw [step2, team_bump (f := addLets q) (fun _ => rfl) lb, team_bump (f := addShot q) (fun _ => rfl) la, h.team], fun r hr => ?_, ?_, ?_, ?_⟩
  · have key : ∀ r' ∈ bmp (addShot q) a rows, (0 ≤ r'.won ∧ r'.won ≤ 29 * i) ∧ (0 ≤ r'.tied ∧ r'.tied ≤ 58 * i) ∧ (0 ≤ r'.lost ∧ r'.lost ≤ 29 * i) ∧ (0 ≤ r'.shot ∧ r'.shot ≤ 299 * i + 299) ∧ (0 ≤ r'.lets ∧ r'.lets ≤ 299 * i) ∧ r'.points = 0 := fun r' hr' => by
      rcases mem_bump la hr' with m | ⟨r'', m, rfl⟩
      · have := h.bnd r' m; omega
      · have := h.bnd r'' m
        simp only [addShot]; omega
    rcases mem_bump lb hr with m | ⟨r', m, rfl⟩
    · have := key r m; omega
    · have := key r' m
      simp only [addLets]; omega
  · rw [step2, sumAt_bump lb, sumAt_bump lb, sumAt_bump la, sumAt_bump la, h.s13]
    simp [addShot, addLets, Row.ints] <;> omega
  · rw [step2, sumAt_bump lb, sumAt_bump la]
    have := h.s2
    simp only [addShot, addLets, Row.ints, List.getD_cons_succ, List.getD_cons_zero]; omega
  · rw [step2, sumAt_bump lb, sumAt_bump lb, sumAt_bump la, sumAt_bump la, h.s45]
    simp [addShot, addLets, Row.ints] <;> omega
def rows0 (n : Nat) : List Row := (List.range n).map fun i : Nat => ⟨(i : Int), 0, 0, 0, 0, 0, 0⟩
theorem sumAt_start (n k : Nat) (hk : 1 ≤ k) : sumAt k (rows0 n) = 0 := by
  have : ((rows0 n).map fun r => r.ints.getD k 0) = List.replicate n 0 := by
    rw [rows0, List.map_map, List.eq_replicate_iff]
    refine ⟨by simp, fun b hb => ?_⟩
    obtain ⟨j, _, rfl⟩ := List.mem_map.mp hb
    match k, hk with
    | 1, _ => rfl
    | 2, _ => rfl
    | 3, _ => rfl
    | 4, _ => rfl
    | 5, _ => rfl
    | 6, _ => rfl
    | k + 7, _ => simp [Row.ints]
  rw [sumAt, this]
  have z : ∀ n : Nat, (List.replicate n (0 : Int)).sum = 0 := fun n => by
    induction n with
    | zero => rfl
    | succ n ih => rw [List.replicate_succ, List.sum_cons, ih]; rfl
  exact z n
theorem inv_start (n : Nat) : InvRs n 0 (rows0 n) := by
  refine ⟨by simp [rows0], by rw [rows0, List.map_map]; rfl, fun r hr => ?_, by rw [sumAt_start _ _ (by decide), sumAt_start _ _ (by decide)], by rw [sumAt_start _ _ (by decide)]; rfl, by rw [sumAt_start _ _ (by decide), sumAt_start _ _ (by decide)]⟩
  obtain ⟨j, _, rfl⟩ := List.mem_map.mp hr
  simp
theorem inv_end {way : Int} {m : Nat} (h : InvRs n m rows) (hm : m ≤ 60) (hw : 1 ≤ way ∧ way ≤ 3) (h1 : 1 ≤ n) (h12 : n ≤ 12) : tabOk way (again way rows) = true ∧ low7 (again way rows) ∧ low2 (again way rows) := by
  have pb : ∀ r ∈ rows, 0 ≤ pts way r ∧ pts way r + 2 ≤ 19800 := fun r hr => by
    have := h.bnd r hr
    have p1 : 0 ≤ way * r.won := Int.mul_nonneg (by omega) this.1.1
    have p2 : way * r.won ≤ 3 * (29 * 60) := by
      have e1 : way * r.won ≤ 3 * r.won := Int.mul_le_mul_of_nonneg_right hw.2 this.1.1
      omega
    unfold pts
    split <;> omega
  have pm : (again way rows).Perm (rows.map (fix way)) := srtK_perm _
  refine ⟨?_, fun r hr => ?_, fun r hr => ?_⟩
  · rw [again, tab_srt]
    refine core_mk (by rw [List.length_map, h.len]; omega) ?_ (fun r hr x hx => ?_) (fun r hr => ?_) ?_ ?_ ?_
    · have e : ((rows.map (fix way)).map (·.team)) = rows.map (·.team) := by rw [List.map_map]; rfl
      rw [e, h.team, List.length_map, h.len]
      refine srt_uniq (srtI_perm _) (srtI_pw _) ?_
      rw [List.pairwise_map]
      exact List.Pairwise.imp (fun h => by omega) (List.pairwise_lt_range (n := n))
    · obtain ⟨r', m, rfl⟩ := List.mem_map.mp hr
      have := h.bnd r' m
      have := pb r' m
      have tm : 0 ≤ r'.team ∧ r'.team ≤ 11 := by
        have : r'.team ∈ (List.range n).map fun i : Nat => (i : Int) := by rw [← h.team]; exact List.mem_map_of_mem m
        obtain ⟨j, hj, e⟩ := List.mem_map.mp this
        have := List.mem_range.mp hj
        omega
      simp only [fix, Row.ints, List.mem_cons, List.not_mem_nil, or_false] at hx
      rcases hx with rfl | rfl | rfl | rfl | rfl | rfl | rfl <;> omega
    · obtain ⟨r', m, rfl⟩ := List.mem_map.mp hr
      rfl
    · rw [sumAt_fix (by decide), sumAt_fix (by decide)]; exact h.s13
    · rw [sumAt_fix (by decide)]; have := h.s2; omega
    · rw [sumAt_fix (by decide), sumAt_fix (by decide)]; exact h.s45
  · obtain ⟨r', m, rfl⟩ := List.mem_map.mp (pm.mem_iff.mp hr)
    have := h.bnd r' m
    simp only [fix]; omega
  · obtain ⟨r', m, rfl⟩ := List.mem_map.mp (pm.mem_iff.mp hr)
    have := h.bnd r' m
    have := pb r' m
    simp only [fix]; omega
end
end K65
namespace G
open PySem PySem.Spec PyProof.Rows L2
/-! ### a region of the heap beside the frame: objects that names of the frame refer to (adr), owned by no slot, not frozen -/
def Reg (F H : Hp) (O : Nat → List Addr) (m : List (Addr × HO)) : Prop := ∀ p ∈ m, H p.1 = some p.2 ∧ F p.1 = none ∧ ¬ Own O p.1
theorem Reg.fut {F H F' H' : Hp} {O O' : Nat → List Addr} {m : List (Addr × HO)} (r : Reg F H O m) (f : Fut (Own O) F H (Own O') F' H') : Reg F' H' O' m := fun p hp => by
  obtain ⟨h1, h2, h3⟩ := r p hp
  refine ⟨f.frame _ _ h1 h3, ?_, fun z => ?_⟩
  · cases q : F' p.1 with
    | none => rfl
    | some o =>
      rcases f.newF p.1 h2 (by rw [q]; simp) with z | z
      · rw [h1] at z; cases z
      · exact absurd z h3
  · rcases f.newO p.1 z with z | z
    · exact h3 z
    · rw [h1] at z; cases z
/-- what a statement wants of its ends, the region too -/
structure OutM where
  nx : Gm → List (Addr × HO) → Prop
  rt : C → Gm → List (Addr × HO) → Prop := fun _ _ _ => False
def OwnM (O : Nat → List Addr) (m : List (Addr × HO)) (a : Addr) : Prop := Own O a ∨ a ∈ m.map (·.1)
structure EOkM (X : Cx) (kp : List Nat) (F H : Hp) (σ : L2.St) (P : Addr → Prop) (D : OutM) (E : Ends) : Prop where
  nx : ∀ Γ' m' F' H' σ' O', D.nx Γ' m' → RepG X.K F' H' σ' Γ' O' → Reg F' H' O' m' → kept kp σ σ' → Fut P F H (OwnM O' m') F' H' → E.nx σ' H'
  rt : ∀ c Γ' m' F' H' σ' O' v os, D.rt c Γ' m' → RepG X.K F' H' σ' Γ' O' → Reg F' H' O' m' → kept kp σ σ' → RepC X.K F' H' c v os → os.Nodup → (∀ a ∈ os, ¬ OwnM O' m' a) → Fut P F H (fun a => OwnM O' m' a ∨ a ∈ os) F' H' → E.rt v H'
def WMss (X : Cx) (kp : List Nat) (sts : List Stmt) (Γ : Gm) (m : List (Addr × HO)) (D : OutM) : Prop := ∀ (F H : Hp) (σ : L2.St) (O : Nat → List Addr), RepG X.K F H σ Γ O → Reg F H O m → ∀ E : Ends, EOkM X kp F H σ (OwnM O m) D E → WSs X sts E σ H
def WMs (X : Cx) (kp : List Nat) (st : Stmt) (Γ : Gm) (m : List (Addr × HO)) (D : OutM) : Prop := ∀ (F H : Hp) (σ : L2.St) (O : Nat → List Addr), RepG X.K F H σ Γ O → Reg F H O m → ∀ E : Ends, EOkM X kp F H σ (OwnM O m) D E → WS X st E σ H
section
variable {X : Cx} {kp : List Nat} {Γ : Gm} {m : List (Addr × HO)} {D : OutM} {st : Stmt} {rest : List Stmt} {F H F1 H1 : Hp} {σ σ1 : L2.St} {P P1 : Addr → Prop} {E : Ends}
theorem EOkM.step (q : EOkM X kp F H σ P D E) (f : Fut P F H P1 F1 H1) (k : kept kp σ σ1) : EOkM X kp F1 H1 σ1 P1 D E :=
  ⟨fun Γ' m' F' H' σ' O' d g r k' f' => q.nx Γ' m' F' H' σ' O' d g r (k.trans k') (f.trans f'), fun c Γ' m' F' H' σ' O' v os d g r k' rc nd dj f' => q.rt c Γ' m' F' H' σ' O' v os d g r (k.trans k') rc nd dj (f.trans f')⟩
theorem WMss_cons (h : WMs X kp st Γ m { D with nx := fun Γ1 m1 => WMss X kp rest Γ1 m1 D }) : WMss X kp (st :: rest) Γ m D := fun F H σ O g r E q =>
  WSs_of (pss_cons ps_W pss_W) (h F H σ O g r _ ⟨fun Γ' m' F' H' σ' O' d g' r' k' f' => d F' H' σ' O' g' r' E (q.step f' k'), q.rt⟩)
/-- a statement that does not touch the region -/
theorem WMs_of {Nx : Gm → Prop} {Rt : C → Gm → Prop} (h : WPs X kp st Γ { nx := Nx, rt := Rt }) (hn : ∀ Γ', Nx Γ' → D.nx Γ' m) (hr : ∀ c Γ', Rt c Γ' → D.rt c Γ' m) : WMs X kp st Γ m D := fun F H σ O g r E q =>
  h F H σ O g E ⟨fun Γ' F' H' σ' O' d g' k' f' => q.nx Γ' m F' H' σ' O' (hn _ d) g' (r.fut f') k' (f'.wide (T := fun a => a ∈ m.map fun p : Addr × HO => p.1)),
    fun c Γ' F' H' σ' O' v os d g' k' rc nd dj f' => by
      have r' : Reg F' H' O' m ∧ ∀ a ∈ os, a ∉ m.map (·.1) := by
        refine ⟨fun p hp => ?_, fun a ha hm => ?_⟩
        · obtain ⟨h1, h2, h3⟩ := r p hp
          refine ⟨f'.frame _ _ h1 h3, ?_, fun z => ?_⟩
          · cases e : F' p.1 with
            | none => rfl
            | some o =>
              rcases f'.newF p.1 h2 (by rw [e]; simp) with z | z
              · rw [h1] at z; cases z
              · exact absurd z h3
          · rcases f'.newO p.1 (.inl z) with z | z
            · exact h3 z
            · rw [h1] at z; cases z
        · obtain ⟨p, hp, rfl⟩ := List.mem_map.mp hm
          obtain ⟨h1, h2, h3⟩ := r p hp
          rcases f'.newO p.1 (.inr ha) with z | z
          · exact h3 z
          · rw [h1] at z; cases z
      refine q.rt c Γ' m F' H' σ' O' v os (hr _ _ d) g' r'.1 k' rc nd (fun a ha z => z.elim (dj a ha) (r'.2 a ha)) ((f'.wide (T := fun a => a ∈ m.map fun p : Addr × HO => p.1)).post fun a z => ?_)
      rcases z with (z | z) | z
      · exact .inl (.inl z)
      · exact .inr z
      · exact .inl (.inr z), fun _ _ _ _ _ z => z.elim, fun _ _ _ _ _ z => z.elim⟩
end
end G
namespace G
open PySem PySem.Spec PyProof.Rows L2
abbrev MM := List (Addr × HO)
section
variable {X : Cx} {kp : List Nat} {Γ : Gm} {m : MM} {e a b : Expr} {es : List Expr} {pos p p2 : Pos}
/-- an expression beside a region; its value is data or a reference -/
def WMe (X : Cx) (e : Expr) (Γ : Gm) (m : MM) (Kn : C → Gm → MM → Prop) : Prop := ∀ (F H : Hp) (σ : L2.St) (O : Nat → List Addr), RepG X.K F H σ Γ O → Reg F H O m → ∀ Q : VK,
  (∀ c Γ' m' F' H' O' v, Kn c Γ' m' → plainC c = true → RepG X.K F' H' σ Γ' O' → Reg F' H' O' m' → RepC X.K F' H' c v [] → Fut (OwnM O m) F H (OwnM O' m') F' H' → Q v H') → WE X e σ H Q
theorem Fut.widM {F H F' H' : Hp} {O O' : Nat → List Addr} (f : Fut (Own O) F H (Own O') F' H') : Fut (OwnM O m) F H (OwnM O' m) F' H' := f.wide (T := fun a => a ∈ m.map fun p : Addr × HO => p.1)
theorem WMe_of {Kn : C → Gm → MM → Prop} (h : WPe X e Γ fun r Γ1 => ∃ d Γ2, frz Γ1 r = some (d, Γ2) ∧ Kn (.dat d) Γ2 m) : WMe X e Γ m Kn := fun F H σ O g r Q q =>
  h F H σ O g Q fun x Γ1 F1 H1 O1 v os ⟨d, Γ2, ef, k⟩ g1 r1 nd dj f1 => by
    obtain ⟨F2, O2, g2, hd, f2⟩ := frz_ok g1 r1 nd dj ef
    have f := f1.trans f2
    exact q _ _ _ F2 H1 O2 v k rfl g2 (r.fut f) (.dat hd) f.widM
/-- found[e], found a list of references in the region -/
theorem WMe_ix (j : Nat) {x : Str} {l : Addr} {as : List Addr} {Kn : C → Gm → MM → Prop} (hl : (l, HO.lst (as.map V.ref)) ∈ m) (hc : Γ[j]? = some (some (.adr l))) (h : WPe X b Γ fun y Γ1 => ∃ i k a, vw Γ1 y = some (.int i) ∧ ixN as.length i = some k ∧ as[k]? = some a ∧ Kn (.adr a) Γ1 m)
    (hN : X.N[j]? = some x := by rfl) (hv : Vis X.env.scope x := by first | exact Or.inl rfl | exact Or.inr (Or.inl rfl) | exact Or.inr (Or.inr rfl)) (hdb : (x == ("__debug__" : Str)) = false := by decide) (hcd : (x == ("__classdict__" : Str)) = false := by decide) (hs : PlainIx b := by exact fun _ _ => rfl) :
    WMe X (.Subscript (.Name x p) b pos) Γ m Kn := fun F H σ O g r Q q => by
  refine WE_of (pe_ix (ix_list (X := X)) (pe_var hN hv hdb hcd) pe_W hs) ?_
  obtain ⟨v, e1, rc⟩ := g.cell j _ hc
  generalize O j = oj at rc
  cases rc with
  | adr =>
    refine ⟨_, e1, h F H σ O g _ fun y Γ1 F1 H1 O1 vy os ⟨i, k, a, ei, ek, ea, kn⟩ g1 r1 nd dj f1 => ?_⟩
    obtain rfl := Dd.int_inv (vw_ok g1 r1 ei)
    have f : Fut (Own O) F H (Own O1) F1 H1 := f1.post fun a z => .inl z
    have r' := r.fut f
    refine ⟨l, as.map V.ref, i, .ref a, rfl, rfl, .of (r' _ hl).1, ?_, q _ _ _ F1 H1 O1 _ kn rfl g1 r' .adr f.widM⟩
    unfold atI
    rw [List.length_map, ek]
    show (as.map V.ref)[k]? = _
    rw [List.getElem?_map, ea]; rfl
/-- argument lists -/
def WMa (X : Cx) (es : List Expr) (Γ : Gm) (m : MM) (Ka : List C → Gm → MM → Prop) : Prop := ∀ (F H : Hp) (σ : L2.St) (O : Nat → List Addr), RepG X.K F H σ Γ O → Reg F H O m → ∀ Q : List V → Hp → Prop,
  (∀ cs Γ' m' F' H' O' vs, Ka cs Γ' m' → cs.all plainC = true → RepG X.K F' H' σ Γ' O' → Reg F' H' O' m' → RepCs X.K F' H' cs vs [] → Fut (OwnM O m) F H (OwnM O' m') F' H' → Q vs H') → WA X es σ H Q
theorem WMa_nil {Ka : List C → Gm → MM → Prop} (h : Ka [] Γ m) : WMa X [] Γ m Ka := fun F H σ O g r Q q => WA_of pa_nil (q _ _ _ F H O _ h rfl g r .nil (.refl fun a z => z))
theorem WMa_cons {Ka : List C → Gm → MM → Prop} (h : WMe X e Γ m fun c Γ1 m1 => WMa X es Γ1 m1 fun cs Γ2 m2 => Ka (c :: cs) Γ2 m2) (hs : starEach (e :: es) X.env = (false, eval e X.env) :: starEach es X.env := by rfl) : WMa X (e :: es) Γ m Ka := fun F H σ O g r Q q =>
  WA_of (pa_cons pe_W pa_W hs) (by
    refine h F H σ O g r _ fun c Γ1 m1 F1 H1 O1 v k1 pc g1 r1 rc f1 => ?_
    refine k1 F1 H1 σ O1 g1 r1 _ fun cs Γ2 m2 F2 H2 O2 vs k2 pcs g2 r2 rcs f2 => ?_
    exact q _ _ _ F2 H2 O2 _ k2 (by rw [List.all_cons, pc, pcs]; rfl) g2 r2 (.cons (rc.plain f2.le pc) rcs) (f1.trans f2))
end
end G
namespace G
open PySem PySem.Spec PyProof.Rows L2
section
variable {X : Cx} {kp : List Nat} {Γ : Gm} {m : MM} {D : OutM} {e a b c : Expr} {es : List Expr} {pos p p2 p3 : Pos}
/-- one[k], one a row of ints in the region, k written out -/
theorem WMe_row (j : Nat) {x : Str} {a : Addr} {ns : List Int} {k : Nat} {i : Nat} {Kn : C → Gm → MM → Prop} (hl : (a, HO.lst (ns.map V.int)) ∈ m) (hc : Γ[j]? = some (some (.adr a))) (hk : k < ns.length) (h : Kn (.dat (.int (ns.getD k 0))) Γ m)
    (hN : X.N[j]? = some x := by rfl) (hv : Vis X.env.scope x := by first | exact Or.inl rfl | exact Or.inr (Or.inl rfl) | exact Or.inr (Or.inr rfl)) (hdb : (x == ("__debug__" : Str)) = false := by decide) (hcd : (x == ("__classdict__" : Str)) = false := by decide) (hs : PlainIx (.Constant (.int k) i p3) := by exact fun _ _ => rfl) :
    WMe X (.Subscript (.Name x p) (.Constant (.int k) i p3) pos) Γ m Kn := fun F H σ O g r Q q => by
  refine WE_of (pe_ix (ix_list (X := X)) (pe_var hN hv hdb hcd) pe_int hs) ?_
  obtain ⟨v, e1, rc⟩ := g.cell j _ hc
  generalize O j = oj at rc
  cases rc with
  | adr =>
    refine ⟨_, e1, a, ns.map V.int, k, .int (ns.getD k 0), rfl, rfl, .of (r _ hl).1, ?_, q _ _ _ F H O _ h rfl g r (.dat (.int _)) (.refl fun a z => z)⟩
    unfold atI
    have e2 : ixN (ns.map V.int).length (k : Int) = some k := by
      unfold ixN
      have h0 : (0 : Int) ≤ (k : Int) := by omega
      simp [hk, h0]
    rw [e2]
    show (ns.map V.int)[k]? = _
    rw [List.getElem?_map, List.getElem?_eq_getElem hk]
    simp [List.getD, List.getElem?_eq_getElem hk]
/-- x, y, z = a, b, c beside a region -/
theorem WMs_par3 (i j l : Nat) {x y z : Str} {px py pz pt : Pos} {kt k2 : Nat} {pt2 : Pos} (h : WMa X [a, b, c] Γ m fun cs Γ1 m1 => ∃ c1 c2 c3, cs = [c1, c2, c3] ∧ Nat.blt i Γ1.length = true ∧ Nat.blt j Γ1.length = true ∧ Nat.blt l Γ1.length = true ∧ D.nx (((Γ1.set i (some c1)).set j (some c2)).set l (some c3)) m1)
    (hc : X.calm = true) (hN : X.N.Nodup) (hij : i ≠ j := by decide) (hil : i ≠ l := by decide) (hjl : j ≠ l := by decide) (hki : kp.contains i = false := by rfl) (hkj : kp.contains j = false := by rfl) (hkl : kp.contains l = false := by rfl)
    (hi : X.N[i]? = some x := by rfl) (hj : X.N[j]? = some y := by rfl) (hl : X.N[l]? = some z := by rfl) (hx : X.env.scope.names.lookup x = some .local := by rfl) (hy : X.env.scope.names.lookup y = some .local := by rfl) (hz : X.env.scope.names.lookup z = some .local := by rfl)
    (hw : swappedStores [.Tuple [.Name x px, .Name y py, .Name z pz] kt pt] (.Tuple [a, b, c] k2 pt2) X.env = pure (some [x, y, z]) := by rfl)
    (hs : swapsWithSole [.Tuple [.Name x px, .Name y py, .Name z pz] kt pt] (.Tuple [a, b, c] k2 pt2) pos.line X.env = pure false := by rfl) :
    WMs X kp (.Assign [.Tuple [.Name x px, .Name y py, .Name z pz] kt pt] (.Tuple [a, b, c] k2 pt2) pos) Γ m D := fun F H σ O g r E q =>
  WS_of (ps_par3 hc hN hi hj hl hij hil hjl hx hy hz pa_W hw hs) (h F H σ O g r _ fun cs Γ1 m1 F1 H1 O1 vs ⟨c1, c2, c3, ec, h1, h2, h3, k⟩ pcs g1 r1 rc f => by
    subst ec
    generalize eo : ([] : List Addr) = os0 at rc
    cases rc with
    | cons q1 rr =>
      cases rr with
      | cons q2 rr =>
        cases rr with
        | cons q3 rr =>
          cases rr
          rename_i v1 o1 v2 o2 v3 o3
          obtain ⟨e1, eo⟩ := List.append_eq_nil_iff.mp eo.symm
          obtain ⟨e2, eo⟩ := List.append_eq_nil_iff.mp eo
          obtain ⟨e3, _⟩ := List.append_eq_nil_iff.mp eo
          subst e1 e2 e3
          refine ⟨v1, v2, v3, rfl, ?_⟩
          have g2 := g1.put (i := i) (blt_of h1) q1 .nil fun a m => by cases m
          have g3 := g2.put (i := j) (by have := blt_of h2; simpa using this) q2 .nil fun a m => by cases m
          have g4 := g3.put (i := l) (by have := blt_of h3; simpa using this) q3 .nil fun a m => by cases m
          have sub : ∀ a, Own (Osub (Osub (Osub O1 i []) j []) l []) a → Own O1 a := fun a z => by
            rcases own_sub z with z | z
            · rcases own_sub z with z | z
              · rcases own_sub z with z | z
                · exact z
                · cases z
              · cases z
            · cases z
          refine q.nx _ _ _ _ _ _ k g4 (fun p hp => ⟨(r1 p hp).1, (r1 p hp).2.1, fun z => (r1 p hp).2.2 (sub _ z)⟩) (((kept.set (nin_of hki)).trans (.set (nin_of hkj))).trans (.set (nin_of hkl))) (f.post fun a z => z.imp (sub a) id))
end
end G
namespace G
open PySem PySem.Spec PyProof.Rows L2
/-- the region with another object at a -/
def mset (m : MM) (a : Addr) (o : HO) : MM := m.map fun p => if p.1 = a then (a, o) else p
theorem mset_fst (m : MM) (a : Addr) (o : HO) : (mset m a o).map (·.1) = m.map (·.1) := by
  unfold mset
  rw [List.map_map]
  apply List.map_congr_left
  intro p _
  by_cases h : p.1 = a
  · simp [h]
  · simp [h]
theorem reg_set {K : PySem.W.Frag} {F H : Hp} {σ : L2.St} {Γ : Gm} {O : Nat → List Addr} {m : MM} {a : Addr} {o o2 : HO} (g : RepG K F H σ Γ O) (r : Reg F H O m) (ha : (a, o) ∈ m) :
    RepG K F (upd H a o2) σ Γ O ∧ Reg F (upd H a o2) O (mset m a o2) ∧ Fut (OwnM O m) F H (OwnM O (mset m a o2)) F (upd H a o2) := by
  obtain ⟨h1, h2, h3⟩ := r _ ha
  have hn : ∀ b u, F b = some u → b ≠ a := fun b u e z => by rw [z, h2] at e; cases e
  refine ⟨g.move (.refl _) (fun b u e => by rw [upd_ne (hn b u e)]; exact g.le b u e) (fun b hb => ⟨by rw [upd_ne fun z : b = a => h3 (z ▸ hb)], (g.there b hb).2⟩), fun p hp => ?_, fut_in (.inr (List.mem_map_of_mem (f := fun p : Addr × HO => p.1) ha)) fun b z => ?_⟩
  · unfold mset at hp
    obtain ⟨p0, hp0, e⟩ := List.mem_map.mp hp
    by_cases q : p0.1 = a
    · rw [if_pos q] at e
      subst e
      exact ⟨upd_same, h2, h3⟩
    · rw [if_neg q] at e
      subst e
      obtain ⟨k1, k2, k3⟩ := r _ hp0
      exact ⟨by rw [upd_ne q]; exact k1, k2, k3⟩
  · rcases z with z | z
    · exact .inl z
    · rw [mset_fst] at z; exact .inr z
end G
namespace G
open PySem PySem.Spec PyProof.Rows L2
section
variable {X : Cx} {kp : List Nat} {m : MM} {e : Expr} {Γ : Gm} {D : OutM} {pos p p3 tpos : Pos}
/-- one[k] = e, one a row of ints in the region -/
theorem WMs_setRow (j : Nat) {x : Str} {a : Addr} {ns : List Int} {k i : Nat} (h : WMe X e Γ m fun c Γ1 m1 => ∃ v : Int, c = .dat (.int v) ∧ Γ1[j]? = some (some (.adr a)) ∧ (a, HO.lst (ns.map V.int)) ∈ m1 ∧ k < ns.length ∧ D.nx Γ1 (mset m1 a (.lst ((ns.set k v).map V.int))))
    (hN : X.N[j]? = some x := by rfl) (hv : Vis X.env.scope x := by first | exact Or.inl rfl | exact Or.inr (Or.inl rfl) | exact Or.inr (Or.inr rfl)) (hdb : (x == ("__debug__" : Str)) = false := by decide) (hcd : (x == ("__classdict__" : Str)) = false := by decide)
    (hs : swapsWithSole [.Subscript (.Name x p) (.Constant (.int k) i p3) tpos] e pos.line X.env = pure false := by rfl) (hw : swappedStores [.Subscript (.Name x p) (.Constant (.int k) i p3) tpos] e X.env = pure none := by rfl) (h1 : (assignEach [.Subscript (.Name x p) (.Constant (.int k) i p3) tpos] X.env).map (·.2) = [assign (.Subscript (.Name x p) (.Constant (.int k) i p3) tpos) X.env] := by rfl)
    (ha : ∀ v, assign (.Subscript (.Name x p) (.Constant (.int k) i p3) tpos) X.env v = (do
      let ov ← holding [v] (eval (.Name x p) X.env)
      let iv ← holding [v, ov] (eval (.Constant (.int k) i p3) X.env)
      standAt tpos
      holding [v, ov, iv] (setItem ov iv v)
      release [v, ov, iv] []) := by intro _; rfl) : WMs X kp (.Assign [.Subscript (.Name x p) (.Constant (.int k) i p3) tpos] e pos) Γ m D := fun F H σ O g r E q =>
  WS_of (ps_asg pe_W (pg_sub (pe_var hN hv hdb hcd) pe_int set_list ha) hs hw h1) (by
    refine h F H σ O g r _ fun c Γ1 m1 F1 H1 O1 v ⟨vi, ec, ej, em, hk, kn⟩ pc g1 r1 rc f1 => ?_
    subst ec
    obtain ⟨v0, e0, rj⟩ := g1.cell j _ ej
    generalize O1 j = oj at rj
    cases rj with
    | adr =>
      cases rc with
      | dat hd =>
        obtain rfl := hd.int_inv
        obtain ⟨g2, r2, f2⟩ := reg_set (o2 := .lst ((ns.set k vi).map V.int)) g1 r1 em
        refine ⟨.ref a, e0, a, ns.map V.int, (k : Int), k, rfl, rfl, (r1 _ em).1, ?_, ?_⟩
        · rw [List.length_map]
          unfold ixN
          have h0 : (0 : Int) ≤ (k : Int) := by omega
          simp [hk, h0]
        · have e2 : (ns.map V.int).set k (.int vi) = (ns.set k vi).map V.int := by rw [List.map_set]
          rw [e2]
          exact q.nx _ _ _ _ _ _ kn g2 r2 .refl (f1.trans f2))
end
end G
namespace G
open PySem PySem.Spec PyProof.Rows L2
abbrev cI (l : List Int) : C := .own ((l.map PyData.int).map .dat)
theorem repcs_ints {K : PySem.W.Frag} {F H : Hp} : ∀ {l : List Int} {xs : List V} {os : List Addr}, RepCs K F H ((l.map PyData.int).map .dat) xs os → xs = l.map V.int ∧ os = []
  | [], _, _, .nil => ⟨rfl, rfl⟩
  | i :: l, _, _, .cons (.dat h) t => by
    obtain ⟨e1, e2⟩ := repcs_ints t
    subst e1 e2
    rw [h.int_inv]
    exact ⟨rfl, rfl⟩
/-- a list of lists of ints: its rows, one by one -/
theorem repcs_rows {K : PySem.W.Frag} {F H : Hp} : ∀ {ls : List (List Int)} {xs : List V} {os : List Addr}, RepCs K F H (ls.map cI) xs os → ∃ as : List Addr, xs = as.map V.ref ∧ os = as ∧ as.length = ls.length ∧ ∀ p ∈ as.zip ls, H p.1 = some (.lst (p.2.map V.int)) ∧ F p.1 = none
  | [], _, _, .nil => ⟨[], rfl, rfl, rfl, fun p h => by cases h⟩
  | l :: ls, _, _, .cons (.own h1 h2 h3) t => by
    obtain ⟨as, e1, e2, e3, e4⟩ := repcs_rows t
    obtain ⟨e5, e6⟩ := repcs_ints h3
    subst e1 e2 e5 e6
    refine ⟨_ :: _, rfl, rfl, by rw [List.length_cons, List.length_cons, e3], fun p hp => ?_⟩
    rw [List.zip_cons_cons] at hp
    rcases List.mem_cons.mp hp with rfl | hp
    · exact ⟨h1, h2⟩
    · exact e4 p hp
end G
namespace G
open PySem PySem.Spec PyProof.Rows L2
def rowsM (as : List Addr) (ls : List (List Int)) : MM := (as.zip ls).map fun p => (p.1, HO.lst (p.2.map V.int))
/-- a slot's list of rows becomes a region -/
theorem open_reg {K : PySem.W.Frag} {F H : Hp} {σ : L2.St} {Γ : Gm} {O : Nat → List Addr} {i : Nat} {ls : List (List Int)} (g : RepG K F H σ Γ O) (hc : Γ[i]? = some (some (.own (ls.map cI)))) :
    ∃ (l : Addr) (as : List Addr), RepG K F H σ (Γ.set i (some (.adr l))) (Osub O i []) ∧ Reg F H (Osub O i []) ((l, HO.lst (as.map V.ref)) :: rowsM as ls) ∧ as.length = ls.length ∧ (l :: as).Nodup ∧ ∀ a, a = l ∨ a ∈ as → Own O a := by
  obtain ⟨v, ev, r⟩ := g.cell i _ hc
  have nd := g.nd i
  have hi : i < Γ.length := (List.getElem?_eq_some_iff.mp hc).1
  generalize eo : O i = oi at r nd
  cases r with
  | own h1 h2 h3 =>
    rename_i l xs os
    obtain ⟨as, e1, e2, e3, e4⟩ := repcs_rows h3
    subst e1 e2
    have own : ∀ a, a = l ∨ a ∈ os → a ∈ O i := fun a h => by rw [eo]; rcases h with rfl | h; exact List.mem_cons_self; exact List.mem_cons_of_mem _ h
    have g2 := g.put (c := .adr l) (v := .ref l) (os := []) hi .adr .nil fun a m => by cases m
    have es : σ.set i (some (V.ref l)) = σ := by
      obtain ⟨hs, e⟩ := List.getElem?_eq_some_iff.mp ev
      rw [← e, List.set_getElem_self]
    rw [es] at g2
    have off : ∀ a, a ∈ O i → ¬ Own (Osub O i []) a := fun a m ⟨j, z⟩ => by
      by_cases hj : j = i
      · subst hj; rw [Osub_same] at z; cases z
      · rw [Osub_ne hj] at z; exact hj (g.dj j i a z m)
    refine ⟨l, os, g2, fun p hp => ?_, e3, nd, fun a h => ⟨i, own a h⟩⟩
    rcases List.mem_cons.mp hp with rfl | hp
    · exact ⟨h1, h2, off _ (own _ (.inl rfl))⟩
    · obtain ⟨q, hq, rfl⟩ := List.mem_map.mp hp
      obtain ⟨k1, k2⟩ := e4 q hq
      exact ⟨k1, k2, off _ (own _ (.inr (List.of_mem_zip hq).1))⟩
end G
namespace G
open PySem PySem.Spec PyProof.Rows L2
open Classical in
/-- the heap frozen at the places too -/
noncomputable def iceAt (F H : Hp) (as : List Addr) : Hp := fun a => if a ∈ as then H a else F a
theorem dd_rows {K : PySem.W.Frag} {F : Hp} : ∀ {as : List Addr} {ls : List (List Int)}, as.length = ls.length → (∀ p ∈ as.zip ls, F p.1 = some (.lst (p.2.map V.int))) → DdAll K F (as.map V.ref) (ls.map fun l => PyData.list (l.map .int))
  | [], [], _, _ => .nil
  | a :: as, l :: ls, h, f => .cons (.lst (f (a, l) (by rw [List.zip_cons_cons]; exact List.mem_cons_self)) (DdAll.ofInts l)) (dd_rows (by simpa using h) fun p hp => f p (by rw [List.zip_cons_cons]; exact List.mem_cons_of_mem _ hp))
/-- the region becomes data again -/
theorem close_reg {K : PySem.W.Frag} {F H : Hp} {σ : L2.St} {Γ : Gm} {O : Nat → List Addr} {i : Nat} {l : Addr} {as : List Addr} {ls : List (List Int)} (g : RepG K F H σ Γ O) (r : Reg F H O ((l, HO.lst (as.map V.ref)) :: rowsM as ls)) (e : as.length = ls.length) (hc : Γ[i]? = some (some (.adr l))) :
    ∃ F' O', RepG K F' H σ (Γ.set i (some (.dat (.list (ls.map fun l => PyData.list (l.map .int)))))) O' ∧ Fut (OwnM O ((l, HO.lst (as.map V.ref)) :: rowsM as ls)) F H (Own O') F' H := by
  obtain ⟨v, ev, rv⟩ := g.cell i _ hc
  have hi : i < Γ.length := (List.getElem?_eq_some_iff.mp hc).1
  obtain ⟨k1, k2, k3⟩ := r _ List.mem_cons_self
  have mem : ∀ a, a ∈ l :: as → ∃ o, (a, o) ∈ ((l, HO.lst (as.map V.ref)) :: rowsM as ls) := fun a h => by
    rcases List.mem_cons.mp h with rfl | h
    · exact ⟨_, List.mem_cons_self⟩
    · obtain ⟨j, ej⟩ := List.mem_iff_getElem?.mp h
      have lt : j < as.length := (List.getElem?_eq_some_iff.mp ej).1
      have ez : (as.zip ls)[j]? = some (a, ls[j]'(by omega)) := List.getElem?_zip_eq_some.mpr ⟨ej, List.getElem?_eq_getElem (by omega)⟩
      exact ⟨_, List.mem_cons_of_mem _ (List.mem_map_of_mem (f := fun p : Addr × List Int => (p.1, HO.lst (p.2.map V.int))) (List.mem_of_getElem? ez))⟩
  have at_ : ∀ a, a ∈ l :: as → F a = none ∧ ¬ Own O a ∧ H a ≠ none := fun a h => by
    obtain ⟨o, ho⟩ := mem a h
    obtain ⟨q1, q2, q3⟩ := r _ ho
    exact ⟨q2, q3, by rw [q1]; simp⟩
  have inn : ∀ a, a ∈ l :: as → iceAt F H (l :: as) a = H a := fun a h => if_pos h
  have out : ∀ a, a ∉ l :: as → iceAt F H (l :: as) a = F a := fun a h => if_neg h
  have s1 : Same F (iceAt F H (l :: as)) := fun a o h => by
    rw [out a fun z => by rw [(at_ a z).1] at h; cases h]; exact h
  have s2 : Same (iceAt F H (l :: as)) H := fun a o h => by
    by_cases z : a ∈ l :: as
    · rw [inn a z] at h; exact h
    · rw [out a z] at h; exact g.le a o h
  have g2 : RepG K (iceAt F H (l :: as)) H σ Γ O := g.move s1 s2 fun a m => ⟨rfl, by rw [out a fun z => (at_ a z).2.1 m]; exact (g.there a m).2⟩
  have dd : Dd K (iceAt F H (l :: as)) (.ref l) (.list (ls.map fun l => PyData.list (l.map .int))) := by
    refine .lst (by rw [inn l List.mem_cons_self]; exact k1) (dd_rows e fun p hp => ?_)
    have hm : p.1 ∈ l :: as := List.mem_cons_of_mem _ (List.of_mem_zip hp).1
    rw [inn _ hm]
    exact (r _ (List.mem_cons_of_mem _ (List.mem_map_of_mem (f := fun p : Addr × List Int => (p.1, HO.lst (p.2.map V.int))) hp))).1
  generalize O i = oi at rv
  cases rv with
  | adr =>
    have g3 := g2.put (os := []) hi (.dat dd) .nil fun a m => by cases m
    have es : σ.set i (some (V.ref l)) = σ := by
      obtain ⟨hs, e⟩ := List.getElem?_eq_some_iff.mp ev
      rw [← e, List.set_getElem_self]
    rw [es] at g3
    refine ⟨_, _, g3, ⟨s1, fun a o h _ => h, fun a h1 h2 => ?_, fun a z => ?_⟩⟩
    · by_cases z : a ∈ l :: as
      · obtain ⟨o, ho⟩ := mem a z
        exact .inr (.inr (List.mem_map_of_mem (f := fun p : Addr × HO => p.1) ho))
      · rw [out a z] at h2; exact absurd h1 h2
    · rcases own_sub z with z | z
      · exact .inl (.inl z)
      · cases z
end G
namespace G
open PySem PySem.Spec PyProof.Rows L2
section
variable {X : Cx} {kp : List Nat} {Γ : Gm} {D : Out} {sts : List Stmt}
theorem reg_nil {F H : Hp} {O : Nat → List Addr} : Reg F H O [] := fun p h => by cases h
/-- the statements from here on see a slot's rows as a region -/
theorem WPss_open (i : Nat) {ls : List (List Int)} (hc : Γ[i]? = some (some (.own (ls.map cI)))) (h : ∀ (l : Addr) (as : List Addr), as.length = ls.length → (l :: as).Nodup → WMss X kp sts (Γ.set i (some (.adr l))) ((l, HO.lst (as.map V.ref)) :: rowsM as ls) { nx := fun Γ' m' => m' = [] ∧ D.nx Γ', rt := fun c Γ' m' => m' = [] ∧ D.rt c Γ' }) : WPss X kp sts Γ D := fun F H σ O g E q => by
  obtain ⟨l, as, g2, r2, e, nd, own⟩ := open_reg g hc
  have sub : ∀ a, OwnM (Osub O i []) ((l, HO.lst (as.map V.ref)) :: rowsM as ls) a → Own O a := fun a z => by
    rcases z with z | z
    · rcases own_sub z with z | z
      · exact z
      · cases z
    · obtain ⟨p, hp, rfl⟩ := List.mem_map.mp z
      rcases List.mem_cons.mp hp with rfl | hp
      · exact own _ (.inl rfl)
      · obtain ⟨p0, hp0, rfl⟩ := List.mem_map.mp hp
        exact own _ (.inr (List.of_mem_zip hp0).1)
  refine h l as e nd F H σ _ g2 r2 E ⟨fun Γ' m' F' H' σ' O' ⟨em, d⟩ g' r' k' f' => ?_, fun c Γ' m' F' H' σ' O' v os ⟨em, d⟩ g' r' k' rc nd' dj f' => ?_⟩
  · subst em
    refine q.nx Γ' F' H' σ' O' d g' k' ((f'.pre sub).post fun a z => .inl z)
  · subst em
    refine q.rt c Γ' F' H' σ' O' v os d g' k' rc nd' (fun a ha z => dj a ha (.inl z)) ((f'.pre sub).post fun a z => ?_)
    rcases z with z | z
    · exact .inl (.inl z)
    · exact .inr z
end
end G
namespace G
open PySem PySem.Spec PyProof.Rows L2
section
variable {X : Cx} {kp : List Nat} {Γ : Gm} {D : OutM} {sts : List Stmt}
/-- the statements from here on see the region as data -/
theorem WMss_close (i : Nat) {l : Addr} {as : List Addr} {ls : List (List Int)} (e : as.length = ls.length) (hc : Γ[i]? = some (some (.adr l))) (h : WPss X kp sts (Γ.set i (some (.dat (.list (ls.map fun l => PyData.list (l.map .int)))))) { nx := fun Γ' => D.nx Γ' [], rt := fun c Γ' => D.rt c Γ' [] }) :
    WMss X kp sts Γ ((l, HO.lst (as.map V.ref)) :: rowsM as ls) D := fun F H σ O g r E q => by
  obtain ⟨F2, O2, g2, f2⟩ := close_reg g r e hc
  refine h F2 H σ O2 g2 E ⟨fun Γ' F' H' σ' O' d g' k' f' => ?_, fun c Γ' F' H' σ' O' v os d g' k' rc nd dj f' => ?_, fun _ _ _ _ _ z => z.elim, fun _ _ _ _ _ z => z.elim⟩
  · exact q.nx Γ' [] F' H' σ' O' d g' reg_nil k' ((f2.trans f').post fun a z => by
      rcases z with z | z
      · exact z
      · cases z)
  · exact q.rt c Γ' [] F' H' σ' O' v os d g' reg_nil k' rc nd (fun a ha z => by
      rcases z with z | z
      · exact dj a ha z
      · cases z) ((f2.trans f').post fun a z => by
      rcases z with (z | z) | z
      · exact .inl z
      · cases z
      · exact .inr z)
end
end G
namespace G
open PySem PySem.Spec PyProof.Rows L2
section
variable {X : Cx} {kp : List Nat} {Γ : Gm} {m : MM} {D : OutM} {sts sts' : List Stmt} {st : Stmt} {c : Expr} {pos : Pos}
theorem WMss_one (h : WMs X kp st Γ m D) : WMss X kp [st] Γ m D := fun F H σ O g r E q => WSs_of (pss_one ps_W) (h F H σ O g r E q)
theorem WMss_nil (h : D.nx Γ m) : WMss X kp [] Γ m D := fun F H σ O g r E q => WSs_of pss_nil (q.nx _ _ _ _ _ _ h g r .refl (.refl fun a z => z))
theorem WMs_if (h : WPt X c Γ fun k Γ1 => (k = true → WMss X kp sts Γ1 m D) ∧ (k = false → WMss X kp sts' Γ1 m D)) : WMs X kp (.If c sts sts' pos) Γ m D := fun F H σ O g r E q =>
  WS_of (ps_if pt_W pss_W pss_W) (h F H σ O g _ fun k Γ1 F1 H1 O1 ⟨k1, k2⟩ g1 f1 => by
    cases k with
    | true => exact iteT (k1 rfl F1 H1 σ O1 g1 (r.fut f1) E (q.step f1.widM .refl))
    | false => exact iteF (k2 rfl F1 H1 σ O1 g1 (r.fut f1) E (q.step f1.widM .refl)))
end
end G
namespace G
open PySem PySem.Spec PyProof.Rows L2
/-! ### the region of a list of rows -/
def rg (l : Addr) (as : List Addr) (ls : List (List Int)) : MM := (l, HO.lst (as.map V.ref)) :: rowsM as ls
theorem rowsM_row {as : List Addr} {ls : List (List Int)} {i : Nat} {a : Addr} {r : List Int} (ha : as[i]? = some a) (hr : ls[i]? = some r) : (a, HO.lst (r.map V.int)) ∈ rowsM as ls := by
  have ez : (as.zip ls)[i]? = some (a, r) := List.getElem?_zip_eq_some.mpr ⟨ha, hr⟩
  exact List.mem_map_of_mem (f := fun p : Addr × List Int => (p.1, HO.lst (p.2.map V.int))) (List.mem_of_getElem? ez)
theorem rg_row {l : Addr} {as : List Addr} {ls : List (List Int)} {i : Nat} {a : Addr} {r : List Int} (ha : as[i]? = some a) (hr : ls[i]? = some r) : (a, HO.lst (r.map V.int)) ∈ rg l as ls := List.mem_cons_of_mem _ (rowsM_row ha hr)
theorem rowsM_set : ∀ {as : List Addr} {ls : List (List Int)} {i : Nat} {a : Addr} (r : List Int), as.Nodup → as[i]? = some a → i < ls.length → mset (rowsM as ls) a (.lst (r.map V.int)) = rowsM as (ls.set i r)
  | [], _, i, _, _, _, h, _ => by simp at h
  | b :: as, [], _, _, _, _, _, h => by simp at h
  | b :: as, r0 :: ls, 0, a, r, nd, ha, _ => by
    have e : b = a := by simpa using ha
    subst e
    have nb : b ∉ as := (List.nodup_cons.mp nd).1
    show (if b = b then (b, HO.lst (r.map V.int)) else _) :: mset (rowsM as ls) b _ = (b, HO.lst (r.map V.int)) :: rowsM as ls
    rw [if_pos rfl]
    congr 1
    unfold mset
    conv => rhs; rw [← List.map_id (rowsM as ls)]
    apply List.map_congr_left
    intro p hp
    rw [if_neg]; rfl
    intro e
    obtain ⟨q, hq, rfl⟩ := List.mem_map.mp hp
    exact nb (by rw [← e]; exact (List.of_mem_zip hq).1)
  | b :: as, r0 :: ls, i + 1, a, r, nd, ha, hi => by
    have ha : as[i]? = some a := by simpa using ha
    have ne : b ≠ a := fun e => (List.nodup_cons.mp nd).1 (by rw [e]; exact List.mem_of_getElem? ha)
    show (if b = a then _ else (b, HO.lst (r0.map V.int))) :: mset (rowsM as ls) a _ = (b, HO.lst (r0.map V.int)) :: rowsM as (ls.set i r)
    rw [if_neg ne, rowsM_set r (List.nodup_cons.mp nd).2 ha (by simpa using hi)]
theorem rg_set {l : Addr} {as : List Addr} {ls : List (List Int)} {i : Nat} {a : Addr} (r : List Int) (nd : (l :: as).Nodup) (ha : as[i]? = some a) (hi : i < ls.length) : mset (rg l as ls) a (.lst (r.map V.int)) = rg l as (ls.set i r) := by
  have ne : l ≠ a := fun e => (List.nodup_cons.mp nd).1 (by rw [e]; exact List.mem_of_getElem? ha)
  show (if l = a then _ else (l, HO.lst (as.map V.ref))) :: mset (rowsM as ls) a _ = _
  rw [if_neg ne, rowsM_set r (List.nodup_cons.mp nd).2 ha hi]; rfl
section
variable {X : Cx} {kp : List Nat} {Γ : Gm} {m : MM} {D : OutM} {a b c e tg : Expr} {es tgs : List Expr} {sts rest : List Stmt} {st : Stmt} {pos p p2 p3 : Pos}
theorem Reg.fut0 {F H F' H' : Hp} {O : Nat → List Addr} {os : List Addr} (r : Reg F H O m) (f : Fut (fun _ => False) F H (· ∈ os) F' H') : Reg F' H' O m := fun q hq => by
  obtain ⟨h1, h2, h3⟩ := r q hq
  refine ⟨f.frame _ _ h1 id, ?_, h3⟩
  cases e : F' q.1 with
  | none => rfl
  | some o =>
    rcases f.newF q.1 h2 (by rw [e]; simp) with z | z
    · rw [h1] at z; cases z
    · exact z.elim
theorem fut0_widM {F H F' H' : Hp} {O : Nat → List Addr} (f : Fut (fun _ => False) F H (· ∈ []) F' H') : Fut (OwnM O m) F H (OwnM O m) F' H' :=
  ((f.wide (T := OwnM O m)).pre fun a z => z.elim False.elim id).post fun a z => .inr z
/-- two ints beside a region -/
theorem WMe_bin {op : Operator} {Kn : C → Gm → MM → Prop} (h : WMe X a Γ m fun c1 Γ1 m1 => WMe X b Γ1 m1 fun c2 Γ2 m2 => ∃ d1 d2 z, c1 = .dat d1 ∧ c2 = .dat d2 ∧ OpD X (binaryOp op) (.d d1) (.d d2) (.dat z) ∧ Kn (.dat z) Γ2 m2) : WMe X (.BinOp a op b pos) Γ m Kn := fun F H σ O g r Q q =>
  WE_of (pe_op OpR_any pe_W pe_W) (by
    refine h F H σ O g r _ fun c1 Γ1 m1 F1 H1 O1 v1 k1 p1 g1 r1 rc1 f1 => ?_
    refine k1 F1 H1 σ O1 g1 r1 _ fun c2 Γ2 m2 F2 H2 O2 v2 ⟨d1, d2, z, e1, e2, od, kn⟩ p2 g2 r2 rc2 f2 => ?_
    subst e1 e2
    cases rc1 with
    | dat h1 =>
      cases rc2 with
      | dat h2 =>
        refine od F2 H2 v1 v2 Q g2.le (Dd.up g2.le _ _ (Dd.up f2.le _ _ h1)) (Dd.up g2.le _ _ h2) fun F' H' v os rc nd le' f' => ?_
        have rc0 : os = [] := by cases rc; rfl
        subst rc0
        exact q _ _ _ F' H' O2 v kn rfl (g2.beside le' f') (r2.fut0 f') rc ((f1.trans f2).trans (fut0_widM f')))
theorem WMe_tup {n : Nat} {Kn : C → Gm → MM → Prop} (h : WMa X es Γ m fun cs Γ1 m1 => ∃ ds, cs = ds.map .dat ∧ ds.length ≤ sizeLine ∧ Kn (.dat (.tuple ds)) Γ1 m1) : WMe X (.Tuple es n pos) Γ m Kn := fun F H σ O g r Q q =>
  WE_of (pe_tup pa_W) (h F H σ O g r _ fun cs Γ1 m1 F1 H1 O1 vs ⟨ds, ec, hz, kn⟩ pc g1 r1 rcs f1 => by
    subst ec
    have hd : DdAll X.K F1 vs ds := dats_ok rcs (dats_dat ds)
    refine ⟨by rw [hd.length]; exact hz, fun p hp => ?_⟩
    have f' := fut_ice (o := HO.tup vs) hp g1.le
    exact q _ _ _ _ _ O1 _ kn rfl (g1.beside (same_ice g1.le) f') (r1.fut0 f') (.dat (fresh_tup g1.le hp hd)) (f1.trans (fut0_widM f')))
/-- the region in another form -/
theorem WMss_eq {m' : MM} (e : m = m') (h : WMss X kp sts Γ m' D) : WMss X kp sts Γ m D := by subst e; exact h
theorem WMss_weak {Δ : Gm} (w : Wk Γ Δ) (h : WMss X kp sts Δ m D) : WMss X kp sts Γ m D := fun F H σ O g r E q => by
  obtain ⟨O', g', s⟩ := g.weak w
  refine h F H σ O' g' (fun p hp => ⟨(r p hp).1, (r p hp).2.1, fun z => (r p hp).2.2 (s _ z)⟩) E ⟨fun Γ' m' F' H' σ' O2 d g2 r2 k2 f2 => q.nx Γ' m' F' H' σ' O2 d g2 r2 k2 (f2.pre fun a z => z.imp (s a) id), fun c Γ' m' F' H' σ' O2 v os d g2 r2 k2 rc nd dj f2 => q.rt c Γ' m' F' H' σ' O2 v os d g2 r2 k2 rc nd dj (f2.pre fun a z => z.imp (s a) id)⟩
/-- targets beside a region -/
def WMg (X : Cx) (kp : List Nat) (tg : Expr) (d : PyData) (Γ : Gm) (m : MM) (Kg : Gm → MM → Prop) : Prop := ∀ (F H : Hp) (σ : L2.St) (O : Nat → List Addr), RepG X.K F H σ Γ O → Reg F H O m → ∀ v, Dd X.K F v d → ∀ Q : L2.St → Hp → Prop,
  (∀ Γ' m' F' H' σ' O', Kg Γ' m' → RepG X.K F' H' σ' Γ' O' → Reg F' H' O' m' → kept kp σ σ' → Fut (OwnM O m) F H (OwnM O' m') F' H' → Q σ' H') → WG X tg v σ H Q
def WMgs (X : Cx) (kp : List Nat) (tgs : List Expr) (ds : List PyData) (Γ : Gm) (m : MM) (Kg : Gm → MM → Prop) : Prop := ∀ (F H : Hp) (σ : L2.St) (O : Nat → List Addr), RepG X.K F H σ Γ O → Reg F H O m → ∀ vs, DdAll X.K F vs ds → ∀ Q : L2.St → Hp → Prop,
  (∀ Γ' m' F' H' σ' O', Kg Γ' m' → RepG X.K F' H' σ' Γ' O' → Reg F' H' O' m' → kept kp σ σ' → Fut (OwnM O m) F H (OwnM O' m') F' H' → Q σ' H') → WGs X tgs vs σ H Q
theorem WMgs_nil {Kg : Gm → MM → Prop} (h : Kg Γ m) : WMgs X kp [] [] Γ m Kg := fun F H σ O g r vs hd Q q => WGs_of pgs_nil (by cases hd; exact ⟨rfl, q _ _ _ _ _ _ h g r .refl (.refl fun a z => z)⟩)
theorem WMgs_cons {d : PyData} {ds : List PyData} {Kg : Gm → MM → Prop} (h : WMg X kp tg d Γ m fun Γ1 m1 => WMgs X kp tgs ds Γ1 m1 Kg) (hs : (assignEach (tg :: tgs) X.env).map (·.2) = assign tg X.env :: (assignEach tgs X.env).map (·.2) := by rfl) : WMgs X kp (tg :: tgs) (d :: ds) Γ m Kg := fun F H σ O g r vs hd Q q =>
  WGs_of (pgs_cons pg_W pgs_W hs) (by
    cases hd with
    | cons h1 h2 => exact ⟨_, _, rfl, h F H σ O g r _ h1 _ fun Γ' m' F' H' σ' O' k g' r' kk f => k F' H' σ' O' g' r' _ (DdAll.up f.le _ _ h2) Q fun Γ2 m2 F2 H2 σ2 O2 k2 g2 r2 kk2 f2 => q _ _ _ _ _ _ k2 g2 r2 (kk.trans kk2) (f.trans f2)⟩)
theorem WMg_tup {n : Nat} {ds : List PyData} {Kg : Gm → MM → Prop} (h : WMgs X kp tgs ds Γ m Kg) (hc : X.calm = true) (hn : (assignEach tgs X.env).length = ds.length := by rfl) (hst : (assignEach tgs X.env).findIdx? (·.1) = none := by rfl) : WMg X kp (.Tuple tgs n pos) (.tuple ds) Γ m Kg := fun F H σ O g r v hd Q q =>
  WG_of (pg_tup hc pgs_W rfl hst) (by
    cases hd with
    | tup h1 h2 => exact ⟨_, _, rfl, sqT_up g.le h1, by rw [h2.length, hn], h F H σ O g r _ h2 Q q⟩)
/-- a name: data -/
theorem WMg_of {d : PyData} {Kg : Gm → MM → Prop} (h : WPg X kp tg d Γ fun Γ' => Kg Γ' m) : WMg X kp tg d Γ m Kg := fun F H σ O g r v hd Q q =>
  h F H σ O g v hd Q fun Γ' F' H' σ' O' k g' kk f => q _ m _ _ _ _ k g' (r.fut f) kk f.widM
/-- one[k], one a row of ints in the region -/
theorem WMg_row (j : Nat) {x : Str} {a : Addr} {ns : List Int} {k i : Nat} {v : Int} {tpos : Pos} {Kg : Gm → MM → Prop} (ej : Γ[j]? = some (some (.adr a))) (em : (a, HO.lst (ns.map V.int)) ∈ m) (hk : k < ns.length) (h : Kg Γ (mset m a (.lst ((ns.set k v).map V.int))))
    (hN : X.N[j]? = some x := by rfl) (hv : Vis X.env.scope x := by first | exact Or.inl rfl | exact Or.inr (Or.inl rfl) | exact Or.inr (Or.inr rfl)) (hdb : (x == ("__debug__" : Str)) = false := by decide) (hcd : (x == ("__classdict__" : Str)) = false := by decide)
    (ha : ∀ v, assign (.Subscript (.Name x p) (.Constant (.int k) i p3) tpos) X.env v = (do
      let ov ← holding [v] (eval (.Name x p) X.env)
      let iv ← holding [v, ov] (eval (.Constant (.int k) i p3) X.env)
      standAt tpos
      holding [v, ov, iv] (setItem ov iv v)
      release [v, ov, iv] []) := by intro _; rfl) : WMg X kp (.Subscript (.Name x p) (.Constant (.int k) i p3) tpos) (.int v) Γ m Kg := fun F H σ O g r vv hd Q q =>
  WG_of (pg_sub (pe_var hN hv hdb hcd) pe_int set_list ha) (by
    obtain ⟨v0, e0, rj⟩ := g.cell j _ ej
    generalize O j = oj at rj
    cases rj with
    | adr =>
      obtain rfl := hd.int_inv
      obtain ⟨g2, r2, f2⟩ := reg_set (o2 := .lst ((ns.set k v).map V.int)) g r em
      refine ⟨.ref a, e0, a, ns.map V.int, (k : Int), k, rfl, rfl, (r _ em).1, ?_, ?_⟩
      · rw [List.length_map]
        unfold ixN
        have h0 : (0 : Int) ≤ (k : Int) := by omega
        simp [hk, h0]
      · have e2 : (ns.map V.int).set k (.int v) = (ns.set k v).map V.int := by rw [List.map_set]
        rw [e2]
        exact q _ _ _ _ _ _ h g2 r2 .refl f2)
/-- target = e beside a region, by data -/
theorem WMs_asg (h : WMe X e Γ m fun c Γ1 m1 => ∃ d, c = .dat d ∧ WMg X kp tg d Γ1 m1 D.nx) (hs : swapsWithSole [tg] e pos.line X.env = pure false := by rfl) (hw : swappedStores [tg] e X.env = pure none := by rfl)
    (h1 : (assignEach [tg] X.env).map (·.2) = [assign tg X.env] := by rfl) : WMs X kp (.Assign [tg] e pos) Γ m D := fun F H σ O g r E q =>
  WS_of (ps_asg pe_W pg_W hs hw h1) (h F H σ O g r _ fun c Γ1 m1 F1 H1 O1 v ⟨d, ec, k⟩ pc g1 r1 rc f1 => by
    subst ec
    cases rc with
    | dat hd => exact k F1 H1 σ O1 g1 r1 v hd _ fun Γ3 m3 F3 H3 σ3 O3 k3 g3 r3 kk3 f3 => q.nx _ _ _ _ _ _ k3 g3 r3 kk3 (f1.trans f3))
end
end G
namespace G
open PySem PySem.Spec PyProof.Rows L2
section
variable {X : Cx} {kp : List Nat} {Γ : Gm} {m : MM} {D : OutM} {e iter tg : Expr} {body : List Stmt} {pos p p2 : Pos}
theorem EOkM.own {F H : Hp} {σ : L2.St} {P P' : Addr → Prop} {E : Ends} (q : EOkM X kp F H σ P D E) (h : ∀ a, P' a → P a) : EOkM X kp F H σ P' D E :=
  ⟨fun Γ' m' F' H' σ' O' d g r k f => q.nx Γ' m' F' H' σ' O' d g r k (f.pre h), fun c Γ' m' F' H' σ' O' v os d g r k rc nd dj f => q.rt c Γ' m' F' H' σ' O' v os d g r k rc nd dj (f.pre h)⟩
theorem Reg.sub {F H : Hp} {O O' : Nat → List Addr} (r : Reg F H O m) (s : ∀ a, Own O' a → Own O a) : Reg F H O' m := fun p hp => ⟨(r p hp).1, (r p hp).2.1, fun z => (r p hp).2.2 (s _ z)⟩
/-- a for loop beside a region, with a state that is not told by the turn alone -/
theorem WMs_forS {S : Type} (hp : PassesOwn (model X.prog X.w) X.A X.env X.xe) (hc : X.calm = true) (h : WPi X tg iter Γ fun ds Γ1 => ∃ (V : Nat → S → Prop) (mk : Nat → S → Gm) (mm : Nat → S → MM), (∃ s, V 0 s ∧ Wk Γ1 (mk 0 s) ∧ mm 0 s = m) ∧
      (∀ i d s, ds[i]? = some d → V i s → WMg X kp tg d (mk i s) (mm i s) fun Γ2 m2 => WMss X kp body Γ2 m2 { nx := fun Γ3 m3 => ∃ s', V (i + 1) s' ∧ Wk Γ3 (mk (i + 1) s') ∧ m3 = mm (i + 1) s', rt := D.rt }) ∧ ∀ s, V ds.length s → D.nx (mk ds.length s) (mm ds.length s))
    (hs : ∀ x, foldedSetIterable iter X.env x = pure x := by intro _; rfl) : WMs X kp (.For tg iter body [] pos) Γ m D := fun F H σ O g r E q =>
  WS_of (ps_for hp hc pi_W pg_W pss_W hs) (h F H σ O g _ fun ds Γ1 F1 H1 O1 J ⟨V, mk, mm, ⟨s0, v0, w0, e0⟩, turn, fin⟩ g1 f1 yl => by
    have q1 := q.step (P1 := OwnM O1 m) f1.widM .refl
    have r1 := r.fut f1
    obtain ⟨O2, g2, s2⟩ := g1.weak w0
    have q2 := q1.own (P' := OwnM O2 m) fun a z => z.imp (s2 a) id
    have r2 := r1.sub s2
    subst e0
    refine ⟨fun i n τ Hh => n = ds.length - i ∧ i ≤ ds.length ∧ ∃ s Ff Oo, V i s ∧ RepG X.K Ff Hh τ (mk i s) Oo ∧ Reg Ff Hh Oo (mm i s) ∧ kept kp σ τ ∧ Fut (OwnM O2 (mm 0 s0)) F1 H1 (OwnM Oo (mm i s)) Ff Hh, ⟨ds.length, by simp, Nat.zero_le _, s0, F1, O2, v0, g2, r2, .refl, .refl fun a z => z⟩, ?_⟩
    rintro i n τ Hh ⟨rfl, hi, s, Ff, Oo, vs, gg, rr, kk, ff⟩
    obtain ⟨y1, y2, y3⟩ := yl i Ff Hh ff.le gg.le
    by_cases lt : i < ds.length
    · refine .inr ⟨y1 lt, fun τ' Hh' => ∃ s Ff Oo, V (i + 1) s ∧ RepG X.K Ff Hh' τ' (mk (i + 1) s) Oo ∧ Reg Ff Hh' Oo (mm (i + 1) s) ∧ kept kp σ τ' ∧ Fut (OwnM O2 (mm 0 s0)) F1 H1 (OwnM Oo (mm (i + 1) s)) Ff Hh', fun τ' Hh' z => ⟨ds.length - (i + 1), by omega, rfl, lt, z⟩, fun x Hx hy => ?_⟩
      obtain ⟨Fx, fx, lx, hx⟩ := y3 x Hx _ hy (List.getElem?_eq_getElem lt)
      have gx := gg.beside lx fx
      have fx' : Fut (fun _ => False) Ff Hh (· ∈ []) Fx Hx := ⟨fx.le, fx.frame, fx.newF, fun a z => by cases z⟩
      have rx := rr.fut0 fx'
      have fa : Fut (OwnM Oo (mm i s)) Ff Hh (OwnM Oo (mm i s)) Fx Hx := fut0_widM fx'
      refine turn i _ s (List.getElem?_eq_getElem lt) vs Fx Hx τ Oo gx rx x hx _ fun Γ2 m2 F3 H3 σ3 O3 kb g3 r3 k3 f4 => ?_
      have ft := (ff.trans fa).trans f4
      have kt := kk.trans k3
      have qq := q2.step ft kt
      exact kb F3 H3 σ3 O3 g3 r3 _ ⟨fun Γ4 m4 F4 H4 σ4 O4 ⟨s', v', d, e4⟩ g4 r4 k4 f5 => by
        subst e4
        obtain ⟨O5, g5, s5⟩ := g4.weak d
        exact ⟨s', F4, O5, v', g5, r4.sub s5, kt.trans k4, (ft.trans f5).post fun a z => z.imp (s5 a) id⟩, qq.rt⟩
    · have e : i = ds.length := by omega
      subst e
      exact .inl ⟨y2 (Nat.le_refl _), q2.nx _ _ _ _ _ _ (fin s vs) gg rr kk ff⟩)
/-- for row in found, found the list of rows of the region -/
theorem WMs_forRows (jf jr : Nat) {x y : Str} {py : Pos} {l : Addr} {as : List Addr} {ls : Nat → List (List Int)} (mk : Nat → Gm) (hp : PassesOwn (model X.prog X.w) X.A X.env X.xe) (hc : X.calm = true) (hf : Γ[jf]? = some (some (.adr l))) (em : m = rg l as (ls 0)) (w0 : Wk Γ (mk 0))
    (turn : ∀ i a, as[i]? = some a → WMss X kp body ((mk i).set jr (some (.adr a))) (rg l as (ls i)) { nx := fun Γ3 m3 => Wk Γ3 (mk (i + 1)) ∧ m3 = rg l as (ls (i + 1)), rt := D.rt }) (fin : D.nx (mk as.length) (rg l as (ls as.length)))
    (hN : X.N.Nodup) (hl : ∀ i, Nat.blt jr (mk i).length = true := by intro _; rfl) (hk : kp.contains jr = false := by rfl) (hi : X.N[jr]? = some y := by rfl) (hy : Loc X.env.scope y := by first | exact Or.inl rfl | exact Or.inr rfl) (hfn : X.fn y = true ∨ X.env.scope.names.lookup y = some .local := by first | exact .inl rfl | exact .inr rfl | assumption)
    (hx : X.N[jf]? = some x := by rfl) (hv : Vis X.env.scope x := by first | exact Or.inl rfl | exact Or.inr (Or.inl rfl) | exact Or.inr (Or.inr rfl)) (hdb : (x == ("__debug__" : Str)) = false := by decide) (hcd : (x == ("__classdict__" : Str)) = false := by decide)
    (hs : ∀ z, foldedSetIterable (.Name x p) X.env z = pure z := by intro _; rfl) : WMs X kp (.For (.Name y py) (.Name x p) body [] pos) Γ m D := fun F H σ O g r E q =>
  WS_of (ps_for hp hc (pi_list (pe_var hx hv hdb hcd)) (pg_name hN hi hy hfn) pss_W hs) (by
    subst em
    obtain ⟨v, ev, rc⟩ := g.cell jf _ hf
    generalize O jf = oj at rc
    cases rc with
    | adr =>
      have hlst := fun {Ff Hh : Hp} {Oo : Nat → List Addr} {i : Nat} (rr : Reg Ff Hh Oo (rg l as (ls i))) => (rr _ List.mem_cons_self).1
      refine ⟨_, ev, l, rfl, ⟨_, .of (hlst r)⟩, ?_⟩
      obtain ⟨O2, g2, s2⟩ := g.weak w0
      have q2 := q.own (P' := OwnM O2 (rg l as (ls 0))) fun a z => z.imp (s2 a) id
      have r2 := r.sub s2
      refine ⟨fun i n τ Hh => n = as.length - i ∧ i ≤ as.length ∧ ∃ Ff Oo, RepG X.K Ff Hh τ (mk i) Oo ∧ Reg Ff Hh Oo (rg l as (ls i)) ∧ kept kp σ τ ∧ Fut (OwnM O2 (rg l as (ls 0))) F H (OwnM Oo (rg l as (ls i))) Ff Hh, ⟨as.length, by simp, Nat.zero_le _, F, O2, g2, r2, .refl, .refl fun a z => z⟩, ?_⟩
      rintro i n τ Hh ⟨rfl, hi', Ff, Oo, gg, rr, kk, ff⟩
      have hq : SqL X.K Hh l (as.map V.ref) := .of (hlst rr)
      by_cases lt : i < as.length
      · refine .inr ⟨⟨_, .ref as[i], hq, by simp [lt]⟩, fun τ' Hh' => ∃ Ff Oo, RepG X.K Ff Hh' τ' (mk (i + 1)) Oo ∧ Reg Ff Hh' Oo (rg l as (ls (i + 1))) ∧ kept kp σ τ' ∧ Fut (OwnM O2 (rg l as (ls 0))) F H (OwnM Oo (rg l as (ls (i + 1)))) Ff Hh', fun τ' Hh' z => ⟨as.length - (i + 1), by omega, rfl, lt, z⟩, fun xx Hx hy' => ?_⟩
        obtain ⟨e1, hx1⟩ := hy'
        subst e1
        have ex := hx1 _ hq
        rw [List.getElem?_map, List.getElem?_eq_getElem lt] at ex
        cases ex
        have g3 := gg.put (i := jr) (blt_of (hl i)) (.adr (a := as[i])) .nil fun a z => by cases z
        have sub3 : ∀ a, Own (Osub Oo jr []) a → Own Oo a := fun a z => by
          rcases own_sub z with z | z
          · exact z
          · cases z
        have ft := ff.post (P2 := OwnM (Osub Oo jr []) (rg l as (ls i))) fun a z => z.imp (sub3 a) id
        have kt := kk.trans (kept.set (v := some (.ref as[i])) (nin_of hk))
        have qq := q2.step ft kt
        refine turn i _ (List.getElem?_eq_getElem lt) Ff Hx _ _ g3 (rr.sub sub3) _ ⟨fun Γ4 m4 F4 H4 σ4 O4 ⟨d, e4⟩ g4 r4 k4 f5 => ?_, qq.rt⟩
        subst e4
        obtain ⟨O5, g5, s5⟩ := g4.weak d
        exact ⟨F4, O5, g5, r4.sub s5, kt.trans k4, (ft.trans f5).post fun a z => z.imp (s5 a) id⟩
      · have e : i = as.length := by omega
        subst e
        exact .inl ⟨⟨_, hq, by simp⟩, q2.nx _ _ _ _ _ _ fin gg rr kk ff⟩)
end
end G
namespace G
open PySem PySem.Spec PyProof.Rows L2
section
variable {P : Program} {w : World} {K : PySem.W.Frag} {mg : Str → Option Value} {base : Heap} {f : Addr} {fd : FuncData} {x qual : Str} {st : Stmt} {N ps : List Str} {k : Nat} {T : Type} {pre : T → Prop} {enc : T → List C} {res : T → C}
/-- a pure def whose second argument is a list of the frame -/
theorem fn_pu1 (Γ0 : T → Gm) (F : Fun K x qual st f fd) (S : FnScope N ps (defScope st)) (hl : ∀ t, (enc t).length = ps.length) (hp : ∀ t, ∃ c0 c1, enc t = [c0, c1] ∧ plainC c0 = true)
    (hbody : ∀ (cdv : Value) (A0 : Around) (outer : List Env) (s : Shared) (H : Hp) (E : XK), Room k (A0.deeper (envOfC qual (defScope st) s.heap.objs.size f cdv)) → ∀ t, pre t →
      WPss (cxOf CX0 P w K mg base N qual (defScope st) f cdv A0 outer s H E).nox [1] (defBody st) (Γ0 t)
        { nx := fun Γ' => res t = .dat .none ∧ Γ'[1]? = ((enc t)[1]?).map some, rt := fun c Γ' => c = res t ∧ Γ'[1]? = ((enc t)[1]?).map some }) (h0 : ∀ t, (enc t).map some ++ List.replicate (N.length - (enc t).length) none = Γ0 t := by intro _; rfl) : FnOk P w K mg base CX0 (k + 1) f fd ps (spG K (Pu T pre enc res)) := by
  refine fn_ok (kp := [1]) F S (fun cs Rz ⟨t, _, e, _⟩ => by rw [e]; exact hl t) fun cdv A0 outer s H E hr cs Rz ⟨t, ht, e, r⟩ => ?_
  subst e
  obtain ⟨c0, c1, e1, p0⟩ := hp t
  have bk : ∀ Γ' : Gm, Γ'[1]? = ((enc t)[1]?).map some → Back [1] (enc t) Γ' (enc t) := fun Γ' h => ⟨rfl, fun i c e => by
    cases i with
    | zero =>
      refine .inr ⟨e, ?_⟩
      rw [e1] at e
      have e : some c0 = some c := e
      cases e; exact p0
    | succ i =>
      cases i with
      | zero => exact .inl ⟨List.mem_cons_self, by rw [h, e]; rfl⟩
      | succ i => rw [e1] at e; simp at e⟩
  rw [h0]
  intro F H O O' g E q
  exact hbody cdv A0 outer s _ _ hr t ht F H O O' g E ⟨fun Γ' F' H' σ' O2 d => q.nx Γ' F' H' σ' O2 ⟨_, d.1 ▸ r, bk Γ' d.2⟩, fun c Γ' F' H' σ' O2 v os d => q.rt c Γ' F' H' σ' O2 v os ⟨_, d.1 ▸ r, bk Γ' d.2⟩, q.bk, q.ct⟩
end
section
variable {X : Cx} {kp : List Nat} {Γ : Gm} {m : MM} {D : OutM} {e b : Expr} {pos p p2 : Pos}
/-- f(data, row), row a row of ints of the region -/
theorem WMe_callR (j : Nat) {k : Nat} {f : Addr} {fd : FuncData} {ps : List Str} {A : Ctr} {x y : Str} {a : Addr} {ns : List Int} {Kn : C → Gm → MM → Prop} (Gf : FnOk X.prog X.w X.K X.mg X.base CX0 k f fd ps (spG X.K A)) (hr : Room k X.A) (hm : X.mg x = some (.ref f)) (hk : PySem.W.keepIn X.K (.ref f) = true) (hb : Binds X.K fd ps []) (em : (a, HO.lst (ns.map V.int)) ∈ m)
    (h : WPe X e Γ fun r Γ1 => ∃ d Γ2, frz Γ1 r = some (d, Γ2) ∧ Γ2[j]? = some (some (.adr a)) ∧ A [.dat d, cI ns] fun c cs' => ∃ d', c = .dat d' ∧ cs' = [.dat d, cI ns] ∧ Kn (.dat d') Γ2 m)
    (hN : X.N[j]? = some y := by rfl) (hv : Vis X.env.scope y := by first | exact Or.inl rfl | exact Or.inr (Or.inl rfl) | exact Or.inr (Or.inr rfl)) (hdby : (y == ("__debug__" : Str)) = false := by decide) (hcd : (y == ("__classdict__" : Str)) = false := by decide)
    (hg : Gl X x := by rfl) (hdb : (x == ("__debug__" : Str)) = false := by decide) (he : starEach (e :: [.Name y p2]) X.env = (false, eval e X.env) :: starEach [.Name y p2] X.env := by rfl) (he2 : starEach (.Name y p2 :: []) X.env = (false, eval (.Name y p2) X.env) :: starEach [] X.env := by rfl) (hpl : (backTo pos (starEach [.Name y p2] X.env)).any (·.1) = false := by rfl) :
    WMe X (.Call (.Name x p) [e, .Name y p2] [] pos) Γ m Kn := fun F H σ O g r Q q =>
  WE_of (pe_call Gf hr hg hm hk hb .nil pass0 (pa_cons pe_W (pa_cons (pe_var hN hv hdby hcd) pa_nil he2) he) hdb he hpl) (by
    refine h F H σ O g _ fun rr Γ1 F1 H1 O1 v1 os1 ⟨d, Γ2, ef, ej, ka⟩ g1 r1 nd1 dj1 f1 => ?_
    obtain ⟨F2, O2, g2, hd, f2⟩ := frz_ok g1 r1 nd1 dj1 ef
    have f12 := f1.trans f2
    have r2 := r.fut f12
    obtain ⟨v0, ev, rj⟩ := g2.cell j _ ej
    generalize O2 j = oj at rj
    cases rj with
    | adr =>
      refine ⟨_, ev, ?_⟩
      obtain ⟨k1, k2, k3⟩ := r2 _ em
      have ri : ∀ ns : List Int, RepCs X.K F2 H1 ((ns.map PyData.int).map .dat) (ns.map V.int) [] := fun ns => by
        induction ns with
        | nil => exact .nil
        | cons n ns ih => exact .cons (o1 := []) (o2 := []) (.dat (.int n)) ih
      have ra : RepC X.K F2 H1 (cI ns) (.ref a) [a] := .own k1 k2 (ri ns)
      have gc : RepG X.K F2 H1 ([v1, .ref a].map some) (([C.dat d, cI ns] : List C).map some) (fun i => if i = 1 then [a] else []) := by
        refine ⟨g2.le, rfl, fun i c e => ?_, fun i => ?_, fun i l b m1 m2 => ?_, fun i hi => ?_⟩
        · match i, e with
          | 0, e =>
            have e : some (some (C.dat d)) = some (some c) := e
            cases e
            exact ⟨v1, rfl, .dat hd⟩
          | 1, e =>
            have e : some (some (cI ns)) = some (some c) := e
            cases e
            exact ⟨.ref a, rfl, ra⟩
          | i + 2, e => simp at e
        · split
          · simp
          · exact .nil
        · split at m1
          · split at m2
            · omega
            · cases m2
          · cases m1
        · split
          · rename_i z; subst z; exact absurd rfl (hi (cI ns))
          · rfl
      refine ⟨[C.dat d, cI ns], F2, _, _, ka, by rw [List.append_nil]; exact gc, fun c cs' F' H' O' v os ⟨d', ec, ecs, kn⟩ g' rc nd dj f' => ?_⟩
      subst ec ecs
      have e0 : os = [] := by cases rc; rfl
      subst e0
      have pre : ∀ b, Own (fun i => if i = 1 then [a] else []) b → b = a := fun b ⟨i, z⟩ => by
        simp only at z
        split at z
        · simpa using z
        · cases z
      have fp : Fut (fun b => b = a) F2 H1 (OwnT O' []) F' H' := f'.pre pre
      obtain ⟨w1, ew, rw1⟩ := g'.cell 1 (cI ns) rfl
      have ew : some (some (V.ref a)) = some (some w1) := ew
      cases ew
      have at_a : H' a = some (.lst (ns.map V.int)) ∧ F' a = none := by
        generalize O' 1 = o1 at rw1
        cases rw1 with
        | own h1 h2 h3 =>
          obtain ⟨z1, z2⟩ := repcs_ints h3
          subst z1
          exact ⟨h1, h2⟩
      have na : ∀ b, Own O2 b → ¬ b = a := fun b z e => k3 (e ▸ z)
      have g3 : RepG X.K F' H' σ Γ2 O2 := g2.move f'.le g'.le fun b z => keepF fp (os := [b]) (fun c mc => by rw [List.mem_singleton.mp mc]; exact g2.there b z) (fun c mc => by rw [List.mem_singleton.mp mc]; exact na b z) b List.mem_cons_self
      have r3 : Reg F' H' O2 m := fun pr hpr => by
        obtain ⟨q1, q2, q3⟩ := r2 pr hpr
        by_cases z : pr.1 = a
        · rw [z, k1] at q1
          rw [z]
          exact ⟨by rw [at_a.1]; exact q1, at_a.2, k3⟩
        · refine ⟨fp.frame _ _ q1 z, ?_, q3⟩
          cases e : F' pr.1 with
          | none => rfl
          | some o =>
            rcases fp.newF pr.1 q2 (by rw [e]; simp) with y | y
            · rw [q1] at y; cases y
            · exact absurd y z
      have am : a ∈ m.map fun p : Addr × HO => p.1 := List.mem_map_of_mem (f := fun p : Addr × HO => p.1) em
      have f3 : Fut (OwnM O2 m) F2 H1 (OwnM O2 m) F' H' := ⟨fp.le, fun b o e n => fp.frame b o e fun z => n (by rw [z]; exact .inr am), fun b e1 e2 => (fp.newF b e1 e2).imp id fun z => by rw [z]; exact .inr am, fun b z => .inl z⟩
      exact q _ _ _ F' H' O2 v kn rfl g3 r3 rc (f12.widM.trans f3))
end
end G
namespace K65
open PySem PySem.Spec PyProof.Rows L2 G
def fixN (way : Int) (rows : List Row) : Nat → List Row
  | 0 => rows
  | i + 1 => bmp (fix way) i (fixN way rows i)
theorem fixN_eq (way : Int) (rows : List Row) : ∀ i, i ≤ rows.length → fixN way rows i = (rows.take i).map (fix way) ++ rows.drop i
  | 0, _ => by simp [fixN]
  | i + 1, h => by
    have hi : i < rows.length := h
    have ih := fixN_eq way rows i (Nat.le_of_lt hi)
    have l1 : ((rows.take i).map (fix way)).length = i := by rw [List.length_map, List.length_take]; omega
    have g1 : (fixN way rows i).getD i r0 = rows[i] := by
      rw [ih, List.getD, List.getElem?_append_right (by omega), l1, Nat.sub_self, List.getElem?_drop, Nat.add_zero, List.getElem?_eq_getElem hi]; rfl
    rw [fixN, bmp, g1, ih, List.set_append_right _ _ (by omega), l1, Nat.sub_self, List.drop_eq_getElem_cons hi, List.set_cons_zero, List.take_succ_eq_append_getElem hi, List.map_append, List.append_assoc]
    rfl
theorem fixN_at {way : Int} {rows : List Row} {i : Nat} (hi : i < rows.length) : (fixN way rows i).getD i r0 = rows[i] := by
  have l1 : ((rows.take i).map (fix way)).length = i := by rw [List.length_map, List.length_take]; omega
  rw [fixN_eq way rows i (Nat.le_of_lt hi), List.getD, List.getElem?_append_right (by omega), l1, Nat.sub_self, List.getElem?_drop, Nat.add_zero, List.getElem?_eq_getElem hi]; rfl
theorem fixN_len (way : Int) (rows : List Row) : ∀ i, (fixN way rows i).length = rows.length
  | 0 => rfl
  | i + 1 => by rw [fixN, bmp_len, fixN_len]
theorem fixN_all (way : Int) (rows : List Row) : fixN way rows rows.length = rows.map (fix way) := by
  rw [fixN_eq way rows _ (Nat.le_refl _), List.take_length, List.drop_length, List.append_nil]
theorem rg_mem {l : Addr} {as : List Addr} {rows : List Row} {k : Nat} {a : Addr} (ha : as[k]? = some a) (hk : k < rows.length) : (a, HO.lst (((rows.getD k r0).ints).map V.int)) ∈ rg l as (rows.map Row.ints) :=
  rg_row ha (by rw [List.getElem?_map, List.getElem?_eq_getElem hk, getD_at hk]; rfl)
theorem rg_bmp {l : Addr} {as : List Addr} {rows : List Row} {k j : Nat} {a : Addr} {v : Int} {f : Row → Row} (nd : (l :: as).Nodup) (ha : as[k]? = some a) (hk : k < rows.length) (e : (f (rows.getD k r0)).ints = (rows.getD k r0).ints.set j v) :
    mset (rg l as (rows.map Row.ints)) a (.lst (((rows.getD k r0).ints.set j v).map V.int)) = rg l as ((bmp f k rows).map Row.ints) := by
  rw [rg_set _ nd ha (by simpa using hk), ← e, bmp, List.map_set]
theorem bmp_field {f : Row → Row} {a b : Nat} {rows : List Row} (g : Row → Int) (hf : ∀ r, g (f r) = g r) : g ((bmp f a rows).getD b r0) = g (rows.getD b r0) := by
  by_cases hb : b < rows.length
  · have hb2 : b < (bmp f a rows).length := by rw [bmp_len]; exact hb
    rw [getD_at hb2, getD_at hb]
    simp only [bmp]
    rw [List.getElem_set]
    split
    · rename_i e; subst e
      rw [hf, getD_at hb]
    · rfl
  · have hb2 : ¬ b < (bmp f a rows).length := by rw [bmp_len]; exact hb
    rw [List.getD, List.getD, List.getElem?_eq_none (by omega), List.getElem?_eq_none (by omega)]
section
variable {P : Program} {w : World} {K : PySem.W.Frag} {mg : Str → Option Value} {base : Heap}
theorem WMs_pure {X : Cx} {kp : List Nat} {Γ : Gm} {m : MM} {D : OutM} {st : Stmt} (h : WPs X kp st Γ { nx := fun Γ1 => D.nx Γ1 m, rt := fun c Γ1 => D.rt c Γ1 m }) : WMs X kp st Γ m D := WMs_of h (fun _ x => x) fun _ _ x => x
abbrev c_pointsO : Ctr := Pu (Int × Row) okPts (fun t => [.dat (.int t.1), cI t.2.ints]) fun t => .dat (.int (pts t.1 t.2))
theorem ok_lpointsO {f : Addr} {fd : FuncData} (F : Fun K "_law_points" "_law_points" (top 23) f fd) : FnOk P w K mg base CX0 1 f fd ["way", "row"] (spG K c_pointsO) := by
  refine fn_pu1 (N := ["way", "row"]) (fun t => [some (.dat (.int t.1)), some (cI t.2.ints)]) F ⟨rfl, rfl, rfl, by decide +kernel, rfl, by decide +kernel, by decide +kernel⟩ (fun _ => rfl) (fun t => ⟨_, _, rfl, rfl⟩) fun cdv A0 outer s H E hr t ht => ?_
  refine WPss_one (WPs_ret (WPe_bin ?_))
  refine WPe_bin (WPe_name 0 rfl ⟨rfl, WPe_ix (WPe_name 1 rfl ⟨rfl, WPe_int ⟨1, _, rfl, rfl, .d (.int _), .d (.int _), _, rfl, rfl, od_mul (wide_mul ht.1 ht.2 (by decide) (by decide) (by decide)), rfl, ?_⟩⟩)⟩)
  refine WPe_if (WPt_cmp (WPe_name 0 rfl ⟨rfl, WPe_int ⟨.d (.int _), .d (.int 1), _, rfl, rfl, od_gt, fun e => ?_, fun e => ?_⟩⟩))
  · have e : 1 < t.1 := of_decide_eq_true e
    refine WPe_ix (WPe_name 1 rfl ⟨rfl, WPe_int ⟨2, _, rfl, rfl, .d (.int _), .d (.int _), _, rfl, rfl, od_add, _, _, rfl, ?_, rfl⟩⟩)
    show _ = _
    rw [pts, if_pos (show t.1 > 1 from e)]
  · have e : ¬ 1 < t.1 := of_decide_eq_false e
    refine WPe_int ⟨.d (.int _), .d (.int 0), _, rfl, rfl, od_add, _, _, rfl, ?_, rfl⟩
    show _ = _
    rw [pts, if_neg (show ¬ t.1 > 1 from e)]
abbrev s_rows : Stmt := top 24
abbrev N_rows : List Str := ["bag", "way", "many", "found", "high", "turn", "one", "other", "number", "kind", "row", "team"]
theorem sc_rows : FnScope N_rows ["bag", "way", "many"] (defScope s_rows) := ⟨rfl, rfl, rfl, by decide +kernel, rfl, by decide +kernel, by decide +kernel⟩
theorem some3 {b : Bag} {x y z : Int} : ∃ v : Int, some1 b [.int x, .int y, .int z] = .int v ∧ (v = x ∨ v = y ∨ v = z) := by
  have t3 := take_lt (b := b) (m := 3) (by decide)
  unfold some1
  show ∃ v : Int, [PyData.int x, .int y, .int z].getD (take b 3).1.toNat .none = .int v ∧ _
  obtain ⟨k, hk⟩ := Int.eq_ofNat_of_zero_le t3.1
  rw [hk]
  have : k < 3 := by have := t3.2; omega
  match k, this with
  | 0, _ => exact ⟨_, rfl, .inl rfl⟩
  | 1, _ => exact ⟨_, rfl, .inr (.inl rfl)⟩
  | 2, _ => exact ⟨_, rfl, .inr (.inr rfl)⟩
set_option maxHeartbeats 0 in
theorem ok_rows {f f1 f2 f3 f4 : Addr} {fd d1 d2 d3 d4 : FuncData} (F : Fun K "_law_rows" "_law_rows" s_rows f fd) (B : Bl mg) (A1 : At P w K mg base "_law_take" 1 ["bag", "many"] c_take f1 d1) (A2 : At P w K mg base "_law_some" 2 ["bag", "things"] c_some f2 d2)
    (A3 : At P w K mg base "_law_points" 1 ["way", "row"] c_pointsO f3 d3) (A4 : At P w K mg base "_law_rank" 1 ["row"] c_rank f4 d4) : FnOk P w K mg base CX0 6 f fd ["bag", "way", "many"] (spG K c_rows) := by
  refine fn_mr (fun t => [some (encB t.b), some (.dat (.int t.way)), some (.dat (.int t.many)), none, none, none, none, none, none, none, none, none]) F sc_rows (fun _ => rfl) (fun t => ⟨_, _, rfl, fun u => ⟨_, rfl⟩, rfl⟩) fun cdv A0 outer s H E hr t ht => ?_
  obtain ⟨b0, tn, way, many⟩ := t
  obtain ⟨ob0, t40, cl0, ⟨w1, w3⟩, m1, m12⟩ := ht
  have ob0 : okBag tn b0 := ob0
  have t40 : tn + 1000 ≤ 2 ^ 40 := t40
  have cl0 : b0.cells.length ≤ 63 := cl0
  have w1 : 1 ≤ way := w1
  have w3 : way ≤ 3 := w3
  have m1 : 1 ≤ many := m1
  have m12 : many ≤ 12 := m12
  obtain ⟨n, rfl⟩ := Int.eq_ofNat_of_zero_le (show 0 ≤ many by omega)
  have N := sc_rows.nd
  have hz : n ≤ sizeLine := nat_sz (by omega)
  have up : ∀ {n m : Nat} {b : Bag}, okBag n b → n ≤ m → okBag m b := fun h l => ⟨Nat.le_trans h.1 l, h.2⟩
  have s7 : ∀ r : Row, ∀ k, k < 7 → k < r.ints.length := fun r k h => h
  refine WPss_cons (WPs_par 3 4 (WPa_cons (WPe_lcMap [("team", 11)] (WPi_range1 (WPe_name 2 rfl ⟨n, rfl, ⟨by omega, by omega⟩, ?_⟩) B.range) rfl N (blkOk_by (N := N_rows) (sc := defScope s_rows) (by decide +kernel)))) rfl N)
  refine ⟨Nat, List.range n, fun i => .int (0 + i), fun i => cI (Row.ints ⟨0 + (i : Int), 0, 0, 0, 0, 0, 0⟩), rfl, ⟨by rw [List.length_range]; exact hz, fun i hi s H Ca cl fp => ?_⟩, rfl, ?_⟩
  · refine WPg_name 11 (fun s H Ca cl fp => WPe_lst (WPd_cons (WPe_name 11 rfl ⟨_, _, rfl, ?_⟩))) N
    exact WPd_cons (WPe_int ⟨_, _, rfl, WPd_cons (WPe_int ⟨_, _, rfl, WPd_cons (WPe_int ⟨_, _, rfl, WPd_cons (WPe_int ⟨_, _, rfl, WPd_cons (WPe_int ⟨_, _, rfl, WPd_cons (WPe_int ⟨_, _, rfl, WPd_nil ⟨(by show 7 ≤ sizeLine; decide), _, rfl, .refl⟩⟩)⟩)⟩)⟩)⟩)⟩)
  obtain ⟨high, eh, hh⟩ := some3 (b := b0) (x := 3) (y := 40) (z := 5000)
  have o1 : okBag (tn + 1) (take b0 3).2 := okBag_take ob0 3
  have cl1 : (take b0 3).2.cells.length ≤ 63 := by rw [take_cells]; exact cl0
  refine WPa_cons (WPe_callM A2.ok (hr.mono (by decide)) A2.mg A2.keep A2.bind (WPe_name 0 rfl ⟨0, rfl, WPd_cons (WPe_lst (WPd_cons (WPe_int ⟨_, _, rfl, WPd_cons (WPe_int ⟨_, _, rfl, WPd_cons (WPe_int ⟨_, _, rfl, WPd_nil ⟨(by show 3 ≤ sizeLine; decide), _, _, frzV (ds := [.int 3, .int 40, .int 5000]), WPd_nil ⟨_, rfl, (b0, [.int 3, .int 40, .int 5000]), ⟨up ob0 (by omega), (by show 1 ≤ 3; decide), (by show 3 ≤ 1000; decide), cl0⟩, rfl, _, _, rfl, rfl, WPa_nil ⟨_, _, rfl, rfl, rfl, ?_⟩⟩⟩⟩)⟩)⟩)))⟩))
  refine WPss_weak (Δ := [some (encB (take b0 3).2), some (.dat (.int way)), some (.dat (.int n)), some (.own (((rows0 n).map Row.ints).map cI)), some (.dat (.int high)), none, none, none, none, none, none, none]) (wk_eq ?_) ?_
  · show [_, _, _, some (C.own ((List.range n).map fun i : Nat => cI (Row.ints ⟨0 + (i : Int), 0, 0, 0, 0, 0, 0⟩))), some (C.dat (some1 b0 [.int 3, .int 40, .int 5000])), _, _, _, _, _, _, _] = _
    rw [eh]
    have : ((List.range n).map fun i : Nat => cI (Row.ints ⟨0 + (i : Int), 0, 0, 0, 0, 0, 0⟩)) = ((rows0 n).map Row.ints).map cI := by
      rw [rows0, List.map_map, List.map_map]
      apply List.map_congr_left
      intro i _
      show cI (Row.ints ⟨0 + (i : Int), 0, 0, 0, 0, 0, 0⟩) = cI (Row.ints ⟨(i : Int), 0, 0, 0, 0, 0, 0⟩)
      rw [Int.zero_add]
    rw [this]; rfl
  generalize (take b0 3).2 = b1 at o1 cl1
  refine WPss_open 3 rfl fun l as las nd => ?_
  have las : as.length = n := by rw [las, List.length_map]; simp [rows0]
  obtain ⟨turns, et, ht⟩ := some3 (b := b1) (x := 3) (y := 20) (z := 60)
  have o2 : okBag (tn + 2) (take b1 3).2 := okBag_take o1 3
  have cl2 : (take b1 3).2.cells.length ≤ 63 := by rw [take_cells]; exact cl1
  have t60 : turns.toNat ≤ 60 := by omega
  refine WMss_cons (WMs_forS (S := Bag × List Row) .never rfl (WPi_range1 (WPe_callM A2.ok (hr.mono (by decide)) A2.mg A2.keep A2.bind (WPe_name 0 rfl ⟨0, rfl, WPd_cons (WPe_lst (WPd_cons (WPe_int ⟨_, _, rfl, WPd_cons (WPe_int ⟨_, _, rfl, WPd_cons (WPe_int ⟨_, _, rfl, WPd_nil ⟨(by show 3 ≤ sizeLine; decide), _, _, frzV (ds := [.int 3, .int 20, .int 60]), WPd_nil ⟨_, rfl, (b1, [.int 3, .int 20, .int 60]), ⟨up o1 (by omega), (by show 1 ≤ 3; decide), (by show 3 ≤ 1000; decide), cl1⟩, rfl, _, _, rfl, turns, congrArg some et, ⟨by omega, by omega⟩, ?_⟩⟩⟩)⟩)⟩)))⟩)) B.range))
  refine ⟨fun i s => okBag (tn + 2 + 4 * i) s.1 ∧ s.1.cells.length ≤ 63 ∧ InvRs n i s.2, fun i s => [some (encB s.1), some (.dat (.int way)), some (.dat (.int n)), some (.adr l), some (.dat (.int high)), none, none, none, none, none, none, none], fun i s => rg l as (s.2.map Row.ints), ⟨((take b1 3).2, rows0 n), ⟨o2, cl2, inv_start n⟩, .refl, rfl⟩, ?_, ?_⟩
  · intro i d s ed ⟨ob, cb, iv⟩
    have hi : i < turns.toNat := by
      have := (List.getElem?_eq_some_iff.mp ed).1
      simpa using this
    obtain ⟨b, rows⟩ := s
    have ob : okBag (tn + 2 + 4 * i) b := ob
    have cb : b.cells.length ≤ 63 := cb
    have iv : InvRs n i rows := iv
    refine WMg_of (WPg_name 5 ?_ N)
    have t1 := take_lt (b := b) (m := (n : Int)) m1
    have o3 := okBag_take ob (n : Int)
    have l3 := take_cells b (n : Int)
    refine WMss_cons (WMs_par3 6 7 8 (WMa_cons (WMe_ix 3 List.mem_cons_self rfl (WPe_callM A1.ok (hr.mono (by decide)) A1.mg A1.keep A1.bind (WPe_name 0 rfl ⟨0, rfl, WPd_cons (WPe_name 2 rfl ⟨_, _, rfl, WPd_nil ⟨_, rfl, (b, (n : Int)), ⟨up ob (by omega), m1, (by show (n : Int) < 2 ^ 60; omega), cb⟩, rfl, _, _, rfl, ?_⟩⟩)⟩)))) rfl N)
    dsimp only
    generalize take b (n : Int) = p1 at t1 o3 l3
    obtain ⟨v1, b3⟩ := p1
    have o3 : okBag (tn + 2 + 4 * i + 1) b3 := o3
    have cl3 : b3.cells.length ≤ 63 := by rw [show b3.cells = b.cells from l3]; exact cb
    obtain ⟨ka, rfl⟩ := Int.eq_ofNat_of_zero_le (show 0 ≤ v1 from t1.1)
    have hka : ka < n := by have : ((ka : Nat) : Int) < n := t1.2; omega
    have eka : as[ka]? = some (as[ka]'(by omega)) := List.getElem?_eq_getElem (by omega)
    have t2 := take_lt (b := b3) (m := (n : Int)) m1
    have o4 := okBag_take o3 (n : Int)
    have l4 := take_cells b3 (n : Int)
    refine ⟨_, ka, _, rfl, by rw [las]; exact ixN_ok hka, eka, WMa_cons (WMe_ix 3 List.mem_cons_self rfl (WPe_callM A1.ok (hr.mono (by decide)) A1.mg A1.keep A1.bind (WPe_name 0 rfl ⟨0, rfl, WPd_cons (WPe_name 2 rfl ⟨_, _, rfl, WPd_nil ⟨_, rfl, (b3, (n : Int)), ⟨up o3 (by omega), m1, (by show (n : Int) < 2 ^ 60; omega), cl3⟩, rfl, _, _, rfl, ?_⟩⟩)⟩)))⟩
    dsimp only
    generalize take b3 (n : Int) = p2 at t2 o4 l4
    obtain ⟨v2, b4⟩ := p2
    have o4 : okBag (tn + 2 + 4 * i + 2) b4 := o4
    have cl4 : b4.cells.length ≤ 63 := by rw [show b4.cells = b3.cells from l4]; exact cl3
    obtain ⟨kb, rfl⟩ := Int.eq_ofNat_of_zero_le (show 0 ≤ v2 from t2.1)
    have hkb : kb < n := by have : ((kb : Nat) : Int) < n := t2.2; omega
    have ekb : as[kb]? = some (as[kb]'(by omega)) := List.getElem?_eq_getElem (by omega)
    have wd : 300 / way = 300 ∨ 300 / way = 150 ∨ 300 / way = 100 := by
      have : way = 1 ∨ way = 2 ∨ way = 3 := by omega
      rcases this with rfl | rfl | rfl
      · exact .inl (by decide)
      · exact .inr (.inl (by decide))
      · exact .inr (.inr (by decide))
    have mb : 1 ≤ min high (300 / way) ∧ min high (300 / way) ≤ 300 := by omega
    have t3 := take_lt (b := b4) (m := min high (300 / way)) mb.1
    have o5 := okBag_take o4 (min high (300 / way))
    have l5 := take_cells b4 (min high (300 / way))
    refine ⟨_, kb, _, rfl, by rw [las]; exact ixN_ok hkb, ekb, WMa_cons (WMe_of (WPe_callM A1.ok (hr.mono (by decide)) A1.mg A1.keep A1.bind (WPe_name 0 rfl ⟨0, rfl, WPd_cons (WPe_callB (WPa_cons (WPe_name 4 rfl ⟨rfl, WPa_cons (WPe_bin (WPe_int ⟨rfl, WPe_name 1 rfl ⟨.d (.int 300), .d (.int way), _, rfl, rfl, od_div (wide_div (b := 8) (by omega) (nat_lt (by omega) (by omega)) (by decide) (by decide)), rfl, ?_⟩⟩))⟩)) B.min boot_min')⟩)))⟩
    refine WPa_nil ⟨[.d (.int high), .d (.int (300 / way))], _, ⟨rfl, rfl, trivial⟩, cd_min2 rfl, _, _, rfl, WPd_nil ⟨_, rfl, (b4, min high (300 / way)), ⟨up o4 (by omega), mb.1, (by show min high (300 / way) < 2 ^ 60; omega), cl4⟩, rfl, _, _, rfl, _, _, rfl, ?_⟩⟩
    dsimp only
    generalize take b4 (min high (300 / way)) = p3 at t3 o5 l5
    obtain ⟨q, b5⟩ := p3
    have o5 : okBag (tn + 2 + 4 * i + 3) b5 := o5
    have cl5 : b5.cells.length ≤ 63 := by rw [show b5.cells = b4.cells from l5]; exact cl4
    have q0 : 0 ≤ q := t3.1
    have q1 : q < 300 := by have : q < min high (300 / way) := t3.2; omega
    have q10 : 0 ≤ q / 10 ∧ q / 10 ≤ 29 := by omega
    refine WMa_nil ⟨_, _, _, rfl, rfl, rfl, rfl, ?_⟩
    have t4 := take_lt (b := b5) (m := 3) (by decide)
    have o6 := okBag_take o5 3
    have l6 := take_cells b5 3
    refine WMss_cons (WMs_pure (WPs_set 9 (WPe_callM A1.ok (hr.mono (by decide)) A1.mg A1.keep A1.bind (WPe_name 0 rfl ⟨0, rfl, WPd_cons (WPe_int ⟨_, _, rfl, WPd_nil ⟨_, rfl, (b5, 3), ⟨up o5 (by omega), (by show (1 : Int) ≤ 3; decide), (by show (3 : Int) < 2 ^ 60; decide), cl5⟩, rfl, _, _, rfl, _, _, rfl, rfl, ?_⟩⟩)⟩)) N))
    dsimp only
    generalize take b5 3 = p4 at t4 o6 l6
    obtain ⟨kd, b6⟩ := p4
    have o6 : okBag (tn + 2 + 4 * (i + 1)) b6 := o6
    have cl6 : b6.cells.length ≤ 63 := by rw [show b6.cells = b5.cells from l6]; exact cl5
    have la : ka < rows.length := by rw [iv.len]; exact hka
    have lb : kb < rows.length := by rw [iv.len]; exact hkb
    generalize as[ka]'(by omega) = aa at eka
    generalize as[kb]'(by omega) = ab at ekb
    refine WMss_weak (Δ := [some (encB b6), some (.dat (.int way)), some (.dat (.int n)), some (.adr l), some (.dat (.int high)), none, some (.adr aa), some (.adr ab), some (.dat (.int q)), some (.dat (.int kd)), none, none]) (wk_to [some (encB b6), some (.dat (.int way)), some (.dat (.int n)), some (.adr l), some (.dat (.int high)), some (.dat d), some (.adr aa), some (.adr ab), some (.dat (.int q)), some (.dat (.int kd)), none, none] rfl (wk_none 5 .refl)) ?_
    have fin : ∀ rows' : List Row, InvRs n (i + 1) rows' → ∃ s' : Bag × List Row, (okBag (tn + 2 + 4 * (i + 1)) s'.1 ∧ s'.1.cells.length ≤ 63 ∧ InvRs n ((i + 1 : Nat) : Int) s'.2) ∧ Wk [some (encB b6), some (.dat (.int way)), some (.dat (.int n)), some (.adr l), some (.dat (.int high)), none, some (.adr aa), some (.adr ab), some (.dat (.int q)), some (.dat (.int kd)), none, none] [some (encB s'.1), some (.dat (.int way)), some (.dat (.int n)), some (.adr l), some (.dat (.int high)), none, none, none, none, none, none, none] ∧ rg l as (rows'.map Row.ints) = rg l as (s'.2.map Row.ints) := fun rows' iv' =>
      ⟨(b6, rows'), ⟨o6, cl6, by exact_mod_cast iv'⟩, wk_none 6 (wk_none 7 (wk_none 8 (wk_none 9 .refl))), rfl⟩
    have dv : CDivW q 10 := wide_div (b := 4) (by omega) (by decide) (by decide) (by decide)
    have lba : ∀ f : Row → Row, kb < (bmp f ka rows).length := fun f => by rw [bmp_len]; exact lb
    refine WMss_one (WMs_if (WPt_cmp (WPe_name 9 rfl ⟨rfl, WPe_int ⟨.d (.int kd), .d (.int 0), _, rfl, rfl, od_eqI, fun e => ?_, fun e => ?_⟩⟩)))
    · refine WMss_one (WMs_asg (WMe_tup (WMa_cons (WMe_bin (WMe_row 6 (rg_mem eka la) rfl (s7 _ _ (by decide)) ?_)))))
      refine WMe_of (WPe_bin (WPe_name 8 rfl ⟨rfl, WPe_int ⟨.d (.int q), .d (.int 10), _, rfl, rfl, od_div dv, _, _, rfl, _, _, _, rfl, rfl, od_add, ?_⟩⟩))
      refine WMa_cons (WMe_bin (WMe_row 7 (rg_mem ekb lb) rfl (s7 _ _ (by decide)) ?_))
      refine WMe_of (WPe_bin (WPe_name 8 rfl ⟨rfl, WPe_int ⟨.d (.int q), .d (.int 10), _, rfl, rfl, od_div dv, _, _, rfl, _, _, _, rfl, rfl, od_add, ?_⟩⟩))
      refine WMa_nil ⟨[_, _], rfl, (by show 2 ≤ sizeLine; decide), _, rfl, WMg_tup (WMgs_cons (WMg_row 6 rfl (rg_mem eka la) (s7 _ _ (by decide)) ?_)) rfl⟩
      rw [rg_bmp (f := addWon (q / 10)) nd eka la rfl]
      refine WMgs_cons (WMg_row 7 rfl (rg_mem ekb (lba _)) (s7 _ _ (by decide)) ?_)
      have fe := bmp_field (f := addWon (q / 10)) (a := ka) (b := kb) (rows := rows) (fun r => r.lost) fun _ => rfl
      have ee : (addLost (q / 10) ((bmp (addWon (q / 10)) ka rows).getD kb r0)).ints = ((bmp (addWon (q / 10)) ka rows).getD kb r0).ints.set 3 ((rows.getD kb r0).ints.getD 3 0 + q / 10) := by
        show Row.ints _ = List.set _ 3 ((rows.getD kb r0).lost + q / 10)
        rw [← fe]; rfl
      rw [rg_bmp (f := addLost (q / 10)) nd ekb (lba _) ee]
      exact WMgs_nil (fin _ (inv_step0 iv (by omega) hka hkb q10))
    · refine WMss_one (WMs_if (WPt_cmp (WPe_name 9 rfl ⟨rfl, WPe_int ⟨.d (.int kd), .d (.int 1), _, rfl, rfl, od_eqI, fun e => ?_, fun e => ?_⟩⟩)))
      · refine WMss_cons (WMs_setRow 6 (a := aa) (ns := (rows.getD ka r0).ints) (WMe_bin (WMe_row 6 (rg_mem eka la) rfl (s7 _ _ (by decide)) ?_)))
        refine WMe_of (WPe_bin (WPe_name 8 rfl ⟨rfl, WPe_int ⟨.d (.int q), .d (.int 10), _, rfl, rfl, od_div dv, _, _, rfl, _, _, _, rfl, rfl, od_add, _, rfl, rfl, rg_mem eka la, s7 _ _ (by decide), ?_⟩⟩))
        rw [rg_bmp (f := addTied (q / 10)) nd eka la rfl]
        refine WMss_one (WMs_setRow 7 (a := ab) (ns := ((bmp (addTied (q / 10)) ka rows).getD kb r0).ints) (WMe_bin (WMe_row 7 (rg_mem ekb (lba _)) rfl (s7 _ _ (by decide)) ?_)))
        refine WMe_of (WPe_bin (WPe_name 8 rfl ⟨rfl, WPe_int ⟨.d (.int q), .d (.int 10), _, rfl, rfl, od_div dv, _, _, rfl, _, _, _, rfl, rfl, od_add, _, rfl, rfl, rg_mem ekb (lba _), s7 _ _ (by decide), ?_⟩⟩))
        rw [rg_bmp (f := addTied (q / 10)) nd ekb (lba _) rfl]
        exact fin _ (inv_step1 iv (by omega) hka hkb q10)
      · refine WMss_cons (WMs_setRow 6 (a := aa) (ns := (rows.getD ka r0).ints) (WMe_bin (WMe_row 6 (rg_mem eka la) rfl (s7 _ _ (by decide)) ?_)))
        refine WMe_of (WPe_name 8 rfl ⟨_, _, rfl, _, _, _, rfl, rfl, od_add, _, rfl, rfl, rg_mem eka la, s7 _ _ (by decide), ?_⟩)
        rw [rg_bmp (f := addShot q) nd eka la rfl]
        refine WMss_one (WMs_setRow 7 (a := ab) (ns := ((bmp (addShot q) ka rows).getD kb r0).ints) (WMe_bin (WMe_row 7 (rg_mem ekb (lba _)) rfl (s7 _ _ (by decide)) ?_)))
        refine WMe_of (WPe_name 8 rfl ⟨_, _, rfl, _, _, _, rfl, rfl, od_add, _, rfl, rfl, rg_mem ekb (lba _), s7 _ _ (by decide), ?_⟩)
        rw [rg_bmp (f := addLets q) nd ekb (lba _) rfl]
        exact fin _ (inv_step2 iv (by omega) hka hkb ⟨q0, by omega⟩)
  · intro s ⟨ob, cb, iv⟩
    rw [List.length_map, List.length_range] at ob iv
    rw [List.length_map, List.length_range]
    obtain ⟨b, rows⟩ := s
    have ob : okBag (tn + 2 + 4 * turns.toNat) b := ob
    have cb : b.cells.length ≤ 63 := cb
    have iv : InvRs n turns.toNat rows := iv
    have ob : okBag (tn + 1000) b := up ob (by omega)
    have rl : rows.length = n := iv.len
    refine WMss_cons (WMs_forRows 3 10 (ls := fun i => (fixN way rows i).map Row.ints) (fun i => [some (encB b), some (.dat (.int way)), some (.dat (.int n)), some (.adr l), some (.dat (.int high)), none, none, none, none, none, none, none]) .never rfl rfl rfl .refl (fun i a ea => ?_) ?_ N)
    · have hi : i < rows.length := by rw [rl, ← las]; exact (List.getElem?_eq_some_iff.mp ea).1
      have hi2 : i < (fixN way rows i).length := by rw [fixN_len]; exact hi
      have ew : ((fixN way rows i).getD i r0).won.natAbs < 2 ^ 100 := by
        rw [fixN_at hi]
        have := iv.bnd _ (List.getElem_mem hi)
        have : ((turns.toNat : Nat) : Int) ≤ 60 := by omega
        omega
      refine WMss_one (WMs_setRow 10 (a := a) (ns := ((fixN way rows i).getD i r0).ints) (WMe_callR 10 A3.ok (hr.mono (by decide)) A3.mg A3.keep A3.bind (rg_mem ea hi2) (WPe_name 1 rfl ⟨_, _, rfl, rfl, (way, (fixN way rows i).getD i r0), ⟨(by show way.natAbs < 2 ^ 8; omega), ew⟩, rfl, _, rfl, rfl, _, rfl, rfl, rg_mem ea hi2, s7 _ _ (by decide), ?_⟩)))
      rw [rg_bmp (f := fix way) nd ea hi2 rfl]
      exact ⟨wk_to [some (encB b), some (.dat (.int way)), some (.dat (.int n)), some (.adr l), some (.dat (.int high)), none, none, none, none, none, some (.adr a), none] rfl (wk_none 10 .refl), rfl⟩
    · dsimp only
      rw [las, ← rl, fixN_all]
      refine WMss_close 3 (by rw [las, List.length_map, List.length_map, rl]) rfl ?_
      refine WPss_one (WPs_ret (WPe_sortKey (bs := rows.map (fix way)) (enc := encR) (key := encK) (pre := fun _ => True) (hr.mono (by decide)) A4.ok A4.bind A4.keep A4.mg (fun _ _ => trivial) (PySem.W.AllAlike.of alike_K) (PySem.W.Sortable.tuples fun r => ⟨_, _, rfl⟩) (fun r _ => depth_K r) ?_ B.sorted boot_sorted'))
      refine WPe_lcMap [("row", 10)] (WPi_list (WPe_name 3 rfl ⟨_, _, rfl, ?_⟩)) rfl N (blkOk_by (N := N_rows) (sc := defScope s_rows) (by decide +kernel))
      refine ⟨Row, rows.map (fix way), fun r => .list (r.ints.map .int), fun r => .dat (encR r), by rw [List.map_map]; rfl, ⟨by rw [List.length_map, rl]; exact hz, fun r hrm s H Ca cl fp => ?_⟩, ?_⟩
      · exact WPg_name 10 (fun s H Ca cl fp => WPe_callTy (WPa_cons (WPe_name 10 rfl ⟨rfl, WPa_nil ⟨[.s false (r.ints.map .int)], _, ⟨rfl, trivial⟩, cd_tuple, _, rfl, .refl⟩⟩)) B.tuple boot_tuple') N
      · refine ⟨?_, _, _, rfl, rfl, (b, again way rows), ?_, rfl, rfl⟩
        · have e : (rows.map (fix way)).map (fun r => C.dat (encR r)) = ((rows.map (fix way)).map encR).map C.dat := by rw [List.map_map (l := rows.map (fix way))]; rfl
          rw [e]; exact seesLD
        · exact ⟨ob, cb, inv_end iv t60 ⟨w1, w3⟩ (by omega) (by omega)⟩
end
end K65
namespace G
open PySem L2
def spLaw (K : PySem.W.Frag) : Sp := fun vs H Q _ => ∃ (a : Addr) (ns : List Int), vs = [.ref a] ∧ SqL K H a (ns.map V.int) ∧ ns.length ≤ 63 ∧ ∀ H', Q (.bl true) H'
theorem walk {l : PySem.W.OpenLaw} {q : Program} {loose : List Str} {XP : (Str → Option Value) → Heap → Prop} {YP : World → Heap → Prop} {d : DefRec} {K : Params → PySem.W.Frag} (hn : l.most = some 63) (hdf : d.params.defaults = [])
    (hY : ∀ (w : World) (h : Heap), YP w h → (K w.params).In h)
    (F : ∀ (w : World) (mg : Str → Option Value) (fa : Addr) (h : Heap), (K w.params).In h → h.Ns mainGlobals mg → mg d.name = some (.ref fa) →
      ∃ fd : FuncData, (∀ (s : Shared) (u : Value), BindsTo s fd ⟨[u], []⟩ [("script", u)]) ∧ ∀ base : Heap, (K w.params).In base → base.Ns mainGlobals mg → FnOk l.prog w (K w.params) mg base CX0 9 fa fd ["script"] (spLaw (K w.params))) :
    PySem.W.WalkO q loose XP YP l.row.toRowW d [] (fun f vs => PySem.call f vs) :=
  L2.walk_of (n := 63) (k := 9) (x := "script") (CX := fun _ => CX0) (sp := fun w => spLaw (K w.params)) hn (by decide) hdf ⟨rfl, by decide, by decide⟩ hY F (fun _ _ a ns hl _ hS => ⟨a, ns, rfl, hS, hl, fun _ => rfl⟩) fun _ _ _ _ _ z => z
/-- from the contract of a law on data to what walk asks -/
theorem to_sp {P : Program} {w : World} {K : PySem.W.Frag} {mg : Str → Option Value} {base : Heap} {k : Nat} {f : Addr} {fd : FuncData} (F : FnOk P w K mg base CX0 k f fd ["script"] (spG K (Pu (List Int) (fun ns => ns.length ≤ 63) (fun ns => [.seq ns]) fun _ => .dat (.bool true)))) :
    FnOk P w K mg base CX0 k f fd ["script"] (spLaw K) := F.imp fun vs H Q E ⟨a, ns, ev, hs, hl, q⟩ => by
  subst ev
  refine ⟨[.seq ns], H, fun _ => [], fun c _ => c = .dat (.bool true), ⟨ns, hl, rfl, rfl⟩, ⟨fun a o e => e, rfl, fun i c e => ?_, fun _ => .nil, fun i j a m => (by cases m), fun _ _ => rfl⟩, fun c cs' F' H' O' v os ec g rc nd dj fu => ?_⟩
  · cases i with
    | zero =>
      simp only [List.map_cons, List.map_nil, List.getElem?_cons_zero, Option.some.injEq] at e
      subst e
      exact ⟨.ref a, rfl, .seq hs⟩
    | succ i => simp at e
  · subst ec
    cases rc with
    | dat d =>
      rw [d.bl_inv]
      exact q _
end G
namespace K65
open PySem PySem.Spec PyProof.Rows L2 G
set_option maxHeartbeats 0 in
theorem all_mk {l : PySem.W.OpenLaw} {w : World} {K : PySem.W.Frag} {h : Heap} {mg : Str → Option Value} {fa f1 f2 f3 f4 f5 f6 f7 f8 f9 f10 f11 f12 f13 f14 f15 f16 f17 f18 f19 f20 f21 f22 f23 : Addr} (X : K.In h) (G : h.Ns mainGlobals mg) (hfa : mg "law" = some (.ref fa))
    {od1 od2 od3 od4 od5 od6 od7 od8 od9 od10 od11 od12 od13 od14 od15 od16 od17 od18 od19 od20 od21 od22 od23 an1 an2 an3 an4 an5 an6 an7 an8 an9 an10 an11 an12 an13 an14 an15 an16 an17 an18 an19 an20 an21 an22 an23 : Option Addr} {sl1 sl2 sl3 sl4 sl5 sl6 sl7 sl8 sl9 sl10 sl11 sl12 sl13 sl14 sl15 sl16 sl17 sl18 sl19 sl20 sl21 sl22 sl23 : Array (Option Value)} {oc1 oc2 oc3 oc4 oc5 oc6 oc7 oc8 oc9 oc10 oc11 oc12 oc13 oc14 oc15 oc16 oc17 oc18 oc19 oc20 oc21 oc22 oc23 kV1 kV2 kV3 kV4 kV5 kV6 kV7 kV8 kV9 kV10 kV11 kV12 kV13 kV14 kV15 kV16 kV17 kV18 kV19 kV20 kV21 kV22 kV23 dc1 dc2 dc3 dc4 dc5 dc6 dc7 dc8 dc9 dc10 dc11 dc12 dc13 dc14 dc15 dc16 dc17 dc18 dc19 dc20 dc21 dc22 dc23 pm1 pm2 pm3 pm4 pm5 pm6 pm7 pm8 pm9 pm10 pm11 pm12 pm13 pm14 pm15 pm16 pm17 pm18 pm19 pm20 pm21 pm22 pm23 cd1 cd2 cd3 cd4 cd5 cd6 cd7 cd8 cd9 cd10 cd11 cd12 cd13 cd14 cd15 cd16 cd17 cd18 cd19 cd20 cd21 cd22 cd23 ct1 ct2 ct3 ct4 ct5 ct6 ct7 ct8 ct9 ct10 ct11 ct12 ct13 ct14 ct15 ct16 ct17 ct18 ct19 ct20 ct21 ct22 ct23 : Value} {tk1 tk2 : Tok}
    (a1 : PySem.W.nsIn K mainGlobals "is_integer" = some (some (.ref f1))) (l1 : K.lookup f1 = some ⟨oc1, od1, .func (PySem.W.fnOf "is_integer" "is_integer" (defArgs (top 1)) (defBody (top 1)) (defScope (top 1)) .none kV1 dc1 pm1 an1 cd1 ct1), sl1⟩) (c1 : PySem.W.codeIn K cd1 "is_integer" = true) (k1 : PySem.W.keepIn K (.ref f1) = true)
    (a2 : PySem.W.nsIn K mainGlobals "are_all" = some (some (.ref f2))) (l2 : K.lookup f2 = some ⟨oc2, od2, .func (PySem.W.fnOf "are_all" "are_all" (defArgs (top 2)) (defBody (top 2)) (defScope (top 2)) .none kV2 dc2 pm2 an2 cd2 ct2), sl2⟩) (c2 : PySem.W.codeIn K cd2 "are_all" = true) (k2 : PySem.W.keepIn K (.ref f2) = true)
    (a3 : PySem.W.nsIn K mainGlobals "are_integers" = some (some (.ref f3))) (l3 : K.lookup f3 = some ⟨oc3, od3, .func (PySem.W.fnOf "are_integers" "are_integers" (defArgs (top 3)) (defBody (top 3)) (defScope (top 3)) .none kV3 dc3 pm3 an3 cd3 ct3), sl3⟩) (c3 : PySem.W.codeIn K cd3 "are_integers" = true) (k3 : PySem.W.keepIn K (.ref f3) = true)
    (a4 : PySem.W.nsIn K mainGlobals "are_rows" = some (some (.ref f4))) (l4 : K.lookup f4 = some ⟨oc4, od4, .func (PySem.W.fnOf "are_rows" "are_rows" (defArgs (top 4)) (defBody (top 4)) (defScope (top 4)) .none kV4 dc4 pm4 an4 cd4 ct4), sl4⟩) (c4 : PySem.W.codeIn K cd4 "are_rows" = true) (k4 : PySem.W.keepIn K (.ref f4) = true)
    (a5 : PySem.W.nsIn K mainGlobals "got_points" = some (some (.ref f5))) (l5 : K.lookup f5 = some ⟨oc5, od5, .func (PySem.W.fnOf "got_points" "got_points" (defArgs (top 6)) (defBody (top 6)) (defScope (top 6)) .none kV5 dc5 pm5 an5 cd5 ct5), sl5⟩) (c5 : PySem.W.codeIn K cd5 "got_points" = true) (k5 : PySem.W.keepIn K (.ref f5) = true)
    (a6 : PySem.W.nsIn K mainGlobals "points_by" = some (some (.ref f6))) (l6 : K.lookup f6 = some ⟨oc6, od6, .func (PySem.W.fnOf "points_by" "points_by" (defArgs (top 7)) (defBody (top 7)) (defScope (top 7)) .none kV6 dc6 pm6 an6 cd6 ct6), sl6⟩) (c6 : PySem.W.codeIn K cd6 "points_by" = true) (k6 : PySem.W.keepIn K (.ref f6) = true)
    (a7 : PySem.W.nsIn K mainGlobals "goals_by" = some (some (.ref f7))) (l7 : K.lookup f7 = some ⟨oc7, od7, .func (PySem.W.fnOf "goals_by" "goals_by" (defArgs (top 8)) (defBody (top 8)) (defScope (top 8)) .none kV7 dc7 pm7 an7 cd7 ct7), sl7⟩) (c7 : PySem.W.codeIn K cd7 "goals_by" = true) (k7 : PySem.W.keepIn K (.ref f7) = true)
    (a8 : PySem.W.nsIn K mainGlobals "counts_by" = some (some (.ref f8))) (l8 : K.lookup f8 = some ⟨oc8, od8, .func (PySem.W.fnOf "counts_by" "counts_by" (defArgs (top 9)) (defBody (top 9)) (defScope (top 9)) .none kV8 dc8 pm8 an8 cd8 ct8), sl8⟩) (c8 : PySem.W.codeIn K cd8 "counts_by" = true) (k8 : PySem.W.keepIn K (.ref f8) = true)
    (a9 : PySem.W.nsIn K mainGlobals "rank" = some (some (.ref f9))) (l9 : K.lookup f9 = some ⟨oc9, od9, .func (PySem.W.fnOf "rank" "rank" (defArgs (top 13)) (defBody (top 13)) (defScope (top 13)) .none kV9 dc9 pm9 an9 cd9 ct9), sl9⟩) (c9 : PySem.W.codeIn K cd9 "rank" = true) (k9 : PySem.W.keepIn K (.ref f9) = true)
    (a10 : PySem.W.nsIn K mainGlobals "table" = some (some (.ref f10))) (l10 : K.lookup f10 = some ⟨oc10, od10, .func (PySem.W.fnOf "table" "table" (defArgs (top 14)) (defBody (top 14)) (defScope (top 14)) .none kV10 dc10 pm10 an10 cd10 ct10), sl10⟩) (c10 : PySem.W.codeIn K cd10 "table" = true) (k10 : PySem.W.keepIn K (.ref f10) = true)
    (a11 : PySem.W.nsIn K mainGlobals "points_told" = some (some (.ref f11))) (l11 : K.lookup f11 = some ⟨oc11, od11, .func (PySem.W.fnOf "points_told" "points_told" (defArgs (top 15)) (defBody (top 15)) (defScope (top 15)) .none kV11 dc11 pm11 an11 cd11 ct11), sl11⟩) (c11 : PySem.W.codeIn K cd11 "points_told" = true) (k11 : PySem.W.keepIn K (.ref f11) = true)
    (a12 : PySem.W.nsIn K mainGlobals "is_table" = some (some (.ref f12))) (l12 : K.lookup f12 = some ⟨oc12, od12, .func (PySem.W.fnOf "is_table" "is_table" (defArgs (top 16)) (defBody (top 16)) (defScope (top 16)) .none kV12 dc12 pm12 an12 cd12 ct12), sl12⟩) (c12 : PySem.W.codeIn K cd12 "is_table" = true) (k12 : PySem.W.keepIn K (.ref f12) = true)
    (a13 : PySem.W.nsIn K mainGlobals "_law_bag" = some (some (.ref f13))) (l13 : K.lookup f13 = some ⟨oc13, od13, .func (PySem.W.fnOf "_law_bag" "_law_bag" (defArgs (top 18)) (defBody (top 18)) (defScope (top 18)) .none kV13 dc13 pm13 an13 cd13 ct13), sl13⟩) (c13 : PySem.W.codeIn K cd13 "_law_bag" = true) (k13 : PySem.W.keepIn K (.ref f13) = true)
    (a14 : PySem.W.nsIn K mainGlobals "_law_take" = some (some (.ref f14))) (l14 : K.lookup f14 = some ⟨oc14, od14, .func (PySem.W.fnOf "_law_take" "_law_take" (defArgs (top 19)) (defBody (top 19)) (defScope (top 19)) .none kV14 dc14 pm14 an14 cd14 ct14), sl14⟩) (c14 : PySem.W.codeIn K cd14 "_law_take" = true) (k14 : PySem.W.keepIn K (.ref f14) = true)
    (a15 : PySem.W.nsIn K mainGlobals "_law_some" = some (some (.ref f15))) (l15 : K.lookup f15 = some ⟨oc15, od15, .func (PySem.W.fnOf "_law_some" "_law_some" (defArgs (top 20)) (defBody (top 20)) (defScope (top 20)) .none kV15 dc15 pm15 an15 cd15 ct15), sl15⟩) (c15 : PySem.W.codeIn K cd15 "_law_some" = true) (k15 : PySem.W.keepIn K (.ref f15) = true)
    (a16 : PySem.W.nsIn K mainGlobals "_law_alike" = some (some (.ref f16))) (l16 : K.lookup f16 = some ⟨oc16, od16, .func (PySem.W.fnOf "_law_alike" "_law_alike" (defArgs (top 21)) (defBody (top 21)) (defScope (top 21)) .none kV16 dc16 pm16 an16 cd16 ct16), sl16⟩) (c16 : PySem.W.codeIn K cd16 "_law_alike" = true) (k16 : PySem.W.keepIn K (.ref f16) = true)
    (a17 : PySem.W.nsIn K mainGlobals "_law_rank" = some (some (.ref f17))) (l17 : K.lookup f17 = some ⟨oc17, od17, .func (PySem.W.fnOf "_law_rank" "_law_rank" (defArgs (top 22)) (defBody (top 22)) (defScope (top 22)) .none kV17 dc17 pm17 an17 cd17 ct17), sl17⟩) (c17 : PySem.W.codeIn K cd17 "_law_rank" = true) (k17 : PySem.W.keepIn K (.ref f17) = true)
    (a18 : PySem.W.nsIn K mainGlobals "_law_points" = some (some (.ref f18))) (l18 : K.lookup f18 = some ⟨oc18, od18, .func (PySem.W.fnOf "_law_points" "_law_points" (defArgs (top 23)) (defBody (top 23)) (defScope (top 23)) .none kV18 dc18 pm18 an18 cd18 ct18), sl18⟩) (c18 : PySem.W.codeIn K cd18 "_law_points" = true) (k18 : PySem.W.keepIn K (.ref f18) = true)
    (a19 : PySem.W.nsIn K mainGlobals "_law_rows" = some (some (.ref f19))) (l19 : K.lookup f19 = some ⟨oc19, od19, .func (PySem.W.fnOf "_law_rows" "_law_rows" (defArgs (top 24)) (defBody (top 24)) (defScope (top 24)) .none kV19 dc19 pm19 an19 cd19 ct19), sl19⟩) (c19 : PySem.W.codeIn K cd19 "_law_rows" = true) (k19 : PySem.W.keepIn K (.ref f19) = true)
    (a20 : PySem.W.nsIn K mainGlobals "_law_with" = some (some (.ref f20))) (l20 : K.lookup f20 = some ⟨oc20, od20, .func (PySem.W.fnOf "_law_with" "_law_with" (defArgs (top 25)) (defBody (top 25)) (defScope (top 25)) .none kV20 dc20 pm20 an20 cd20 ct20), sl20⟩) (c20 : PySem.W.codeIn K cd20 "_law_with" = true) (k20 : PySem.W.keepIn K (.ref f20) = true)
    (a21 : PySem.W.nsIn K mainGlobals "_law_again" = some (some (.ref f21))) (l21 : K.lookup f21 = some ⟨oc21, od21, .func (PySem.W.fnOf "_law_again" "_law_again" (defArgs (top 26)) (defBody (top 26)) (defScope (top 26)) .none kV21 dc21 pm21 an21 cd21 ct21), sl21⟩) (c21 : PySem.W.codeIn K cd21 "_law_again" = true) (k21 : PySem.W.keepIn K (.ref f21) = true)
    (a22 : PySem.W.nsIn K mainGlobals "_law_bent" = some (some (.ref f22))) (l22 : K.lookup f22 = some ⟨oc22, od22, .func (PySem.W.fnOf "_law_bent" "_law_bent" (defArgs (top 27)) (defBody (top 27)) (defScope (top 27)) .none kV22 dc22 pm22 an22 cd22 ct22), sl22⟩) (c22 : PySem.W.codeIn K cd22 "_law_bent" = true) (k22 : PySem.W.keepIn K (.ref f22) = true)
    (a23 : PySem.W.nsIn K mainGlobals "law" = some (some (.ref f23))) (l23 : K.lookup f23 = some ⟨oc23, od23, .func (PySem.W.fnOf "law" "law" (defArgs (top 28)) (defBody (top 28)) (defScope (top 28)) .none kV23 dc23 pm23 an23 cd23 ct23), sl23⟩) (c23 : PySem.W.codeIn K cd23 "law" = true) (k23 : PySem.W.keepIn K (.ref f23) = true)
    (n1 : PySem.W.nsIn K mainGlobals "MOST_TEAMS" = some (some (.int 12 tk1)))
    (n2 : PySem.W.nsIn K mainGlobals "MOST_NUMBER" = some (some (.int 19800 tk2)))
    (z1 : PySem.W.nsIn K mainGlobals "isinstance" = some none)
    (z2 : PySem.W.nsIn K mainGlobals "int" = some none)
    (z3 : PySem.W.nsIn K mainGlobals "bool" = some none)
    (z4 : PySem.W.nsIn K mainGlobals "str" = some none)
    (z5 : PySem.W.nsIn K mainGlobals "tuple" = some none)
    (z6 : PySem.W.nsIn K mainGlobals "list" = some none)
    (z7 : PySem.W.nsIn K mainGlobals "len" = some none)
    (z8 : PySem.W.nsIn K mainGlobals "abs" = some none)
    (z9 : PySem.W.nsIn K mainGlobals "max" = some none)
    (z10 : PySem.W.nsIn K mainGlobals "min" = some none)
    (z11 : PySem.W.nsIn K mainGlobals "sum" = some none)
    (z12 : PySem.W.nsIn K mainGlobals "all" = some none)
    (z13 : PySem.W.nsIn K mainGlobals "any" = some none)
    (z14 : PySem.W.nsIn K mainGlobals "sorted" = some none)
    (z15 : PySem.W.nsIn K mainGlobals "range" = some none)
    (z16 : PySem.W.nsIn K mainGlobals "zip" = some none)
    (z17 : PySem.W.nsIn K mainGlobals "enumerate" = some none)
    (z18 : PySem.W.nsIn K mainGlobals "dict" = some none)
    : ∃ fd : FuncData, (∀ (s : Shared) (v : Value), BindsTo s fd ⟨[v], []⟩ [("script", v)]) ∧ ∀ base : Heap, K.In base → base.Ns mainGlobals mg → FnOk l.prog w K mg base CX0 9 fa fd ["script"] (spLaw K) := by
  have e := hfa.symm.trans (PySem.W.mg_of X G a23)
  cases e
  have B : Bl mg := ⟨PySem.W.mg_none_of X G z1, PySem.W.mg_none_of X G z2, PySem.W.mg_none_of X G z3, PySem.W.mg_none_of X G z4, PySem.W.mg_none_of X G z5, PySem.W.mg_none_of X G z6, PySem.W.mg_none_of X G z7, PySem.W.mg_none_of X G z8, PySem.W.mg_none_of X G z9, PySem.W.mg_none_of X G z10, PySem.W.mg_none_of X G z11, PySem.W.mg_none_of X G z12, PySem.W.mg_none_of X G z13, PySem.W.mg_none_of X G z14, PySem.W.mg_none_of X G z15, PySem.W.mg_none_of X G z16, PySem.W.mg_none_of X G z17, PySem.W.mg_none_of X G z18⟩
  have g1 := PySem.W.mg_of X G n1
  have g2 := PySem.W.mg_of X G n2
  have F1 := fun_mk (st := top 1) l1 c1 k1
  have m1 := PySem.W.mg_of X G a1
  have b1 := F1.binds (ps := ["thing"]) fun _ _ _ _ _ _ us hl => match us, hl with | [_], _ => rfl
  have F2 := fun_mk (st := top 2) l2 c2 k2
  have m2 := PySem.W.mg_of X G a2
  have b2 := F2.binds (ps := ["thing", "fits"]) fun _ _ _ _ _ _ us hl => match us, hl with | [_, _], _ => rfl
  have F3 := fun_mk (st := top 3) l3 c3 k3
  have m3 := PySem.W.mg_of X G a3
  have b3 := F3.binds (ps := ["thing"]) fun _ _ _ _ _ _ us hl => match us, hl with | [_], _ => rfl
  have F4 := fun_mk (st := top 4) l4 c4 k4
  have m4 := PySem.W.mg_of X G a4
  have b4 := F4.binds (ps := ["thing", "many"]) fun _ _ _ _ _ _ us hl => match us, hl with | [_, _], _ => rfl
  have F5 := fun_mk (st := top 6) l5 c5 k5
  have m5 := PySem.W.mg_of X G a5
  have b5 := F5.binds (ps := ["way", "match"]) fun _ _ _ _ _ _ us hl => match us, hl with | [_, _], _ => rfl
  have F6 := fun_mk (st := top 7) l6 c6 k6
  have m6 := PySem.W.mg_of X G a6
  have b6 := F6.binds (ps := ["way", "many", "results"]) fun _ _ _ _ _ _ us hl => match us, hl with | [_, _, _], _ => rfl
  have F7 := fun_mk (st := top 8) l7 c7 k7
  have m7 := PySem.W.mg_of X G a7
  have b7 := F7.binds (ps := ["many", "results"]) fun _ _ _ _ _ _ us hl => match us, hl with | [_, _], _ => rfl
  have F8 := fun_mk (st := top 9) l8 c8 k8
  have m8 := PySem.W.mg_of X G a8
  have b8 := F8.binds (ps := ["many", "results"]) fun _ _ _ _ _ _ us hl => match us, hl with | [_, _], _ => rfl
  have F9 := fun_mk (st := top 13) l9 c9 k9
  have m9 := PySem.W.mg_of X G a9
  have b9 := F9.binds (ps := ["row"]) fun _ _ _ _ _ _ us hl => match us, hl with | [_], _ => rfl
  have F10 := fun_mk (st := top 14) l10 c10 k10
  have m10 := PySem.W.mg_of X G a10
  have b10 := F10.binds (ps := ["way", "many", "results"]) fun _ _ _ _ _ _ us hl => match us, hl with | [_, _, _], _ => rfl
  have F11 := fun_mk (st := top 15) l11 c11 k11
  have m11 := PySem.W.mg_of X G a11
  have b11 := F11.binds (ps := ["way", "row"]) fun _ _ _ _ _ _ us hl => match us, hl with | [_, _], _ => rfl
  have F12 := fun_mk (st := top 16) l12 c12 k12
  have m12 := PySem.W.mg_of X G a12
  have b12 := F12.binds (ps := ["way", "thing"]) fun _ _ _ _ _ _ us hl => match us, hl with | [_, _], _ => rfl
  have F13 := fun_mk (st := top 18) l13 c13 k13
  have m13 := PySem.W.mg_of X G a13
  have b13 := F13.binds (ps := ["script"]) fun _ _ _ _ _ _ us hl => match us, hl with | [_], _ => rfl
  have F14 := fun_mk (st := top 19) l14 c14 k14
  have m14 := PySem.W.mg_of X G a14
  have b14 := F14.binds (ps := ["bag", "many"]) fun _ _ _ _ _ _ us hl => match us, hl with | [_, _], _ => rfl
  have F15 := fun_mk (st := top 20) l15 c15 k15
  have m15 := PySem.W.mg_of X G a15
  have b15 := F15.binds (ps := ["bag", "things"]) fun _ _ _ _ _ _ us hl => match us, hl with | [_, _], _ => rfl
  have F16 := fun_mk (st := top 21) l16 c16 k16
  have m16 := PySem.W.mg_of X G a16
  have b16 := F16.binds (ps := ["found", "due"]) fun _ _ _ _ _ _ us hl => match us, hl with | [_, _], _ => rfl
  have F17 := fun_mk (st := top 22) l17 c17 k17
  have m17 := PySem.W.mg_of X G a17
  have b17 := F17.binds (ps := ["row"]) fun _ _ _ _ _ _ us hl => match us, hl with | [_], _ => rfl
  have F18 := fun_mk (st := top 23) l18 c18 k18
  have m18 := PySem.W.mg_of X G a18
  have b18 := F18.binds (ps := ["way", "row"]) fun _ _ _ _ _ _ us hl => match us, hl with | [_, _], _ => rfl
  have F19 := fun_mk (st := top 24) l19 c19 k19
  have m19 := PySem.W.mg_of X G a19
  have b19 := F19.binds (ps := ["bag", "way", "many"]) fun _ _ _ _ _ _ us hl => match us, hl with | [_, _, _], _ => rfl
  have F20 := fun_mk (st := top 25) l20 c20 k20
  have m20 := PySem.W.mg_of X G a20
  have b20 := F20.binds (ps := ["row", "at", "value"]) fun _ _ _ _ _ _ us hl => match us, hl with | [_, _, _], _ => rfl
  have F21 := fun_mk (st := top 26) l21 c21 k21
  have m21 := PySem.W.mg_of X G a21
  have b21 := F21.binds (ps := ["way", "rows"]) fun _ _ _ _ _ _ us hl => match us, hl with | [_, _], _ => rfl
  have F22 := fun_mk (st := top 27) l22 c22 k22
  have m22 := PySem.W.mg_of X G a22
  have b22 := F22.binds (ps := ["bag", "way", "rows"]) fun _ _ _ _ _ _ us hl => match us, hl with | [_, _, _], _ => rfl
  have F23 := fun_mk (st := top 28) l23 c23 k23
  have m23 := PySem.W.mg_of X G a23
  refine ⟨PySem.W.fnOf "law" "law" (defArgs (top 28)) (defBody (top 28)) (defScope (top 28)) .none kV23 dc23 pm23 an23 cd23 ct23, fun s v => .of_eq rfl, fun base _ _ => ?_⟩
  have A1 : At l.prog w K mg base "is_integer" 1 ["thing"] c_is_integer f1 _ := ⟨ok_is_integer F1 B, m1, k1, b1⟩
  have G2 := ok_are_all (P := l.prog) (w := w) (base := base) F2 B (φ := isInt) (fun _ => True) A1.ok k1 b1
  have A3 : At l.prog w K mg base "are_integers" 3 ["thing"] c_are_integers f3 _ := ⟨ok_are_integers F3 A1 G2 m2 k2 b2, m3, k3, b3⟩
  have G2' := ok_are_all (P := l.prog) (w := w) (base := base) F2 B (φ := areAll isInt) small A3.ok k3 b3
  have A4 : At l.prog w K mg base "are_rows" 5 ["thing", "many"] c_are_rows f4 _ := ⟨ok_are_rows F4 B A3 G2' m2 k2 b2, m4, k4, b4⟩
  have A5 : At l.prog w K mg base "got_points" 1 ["way", "match"] c_got_points f5 _ := ⟨ok_got_points F5, m5, k5, b5⟩
  have A6 : At l.prog w K mg base "points_by" 2 ["way", "many", "results"] c_points_by f6 _ := ⟨ok_points_by F6 B A5, m6, k6, b6⟩
  have A7 : At l.prog w K mg base "goals_by" 1 ["many", "results"] c_goals_by f7 _ := ⟨ok_goals_by F7 B, m7, k7, b7⟩
  have A8 : At l.prog w K mg base "counts_by" 1 ["many", "results"] c_counts_by f8 _ := ⟨ok_counts_by F8 B, m8, k8, b8⟩
  have A9 : At l.prog w K mg base "rank" 1 ["row"] c_rank f9 _ := ⟨ok_rank F9, m9, k9, b9⟩
  have A10 : At l.prog w K mg base "table" 3 ["way", "many", "results"] c_table f10 _ := ⟨ok_table F10 B A6 A7 A8 A9, m10, k10, b10⟩
  have A11 : At l.prog w K mg base "points_told" 1 ["way", "row"] c_points_told f11 _ := ⟨ok_pts_st (.inl rfl) sc_points_told F11, m11, k11, b11⟩
  have A12 : At l.prog w K mg base "is_table" 6 ["way", "thing"] c_is_table f12 _ := ⟨ok_is_table F12 B A4 A9 A11 g1 g2, m12, k12, b12⟩
  have A13 : At l.prog w K mg base "_law_bag" 1 ["script"] c_bag f13 _ := ⟨ok_bag F13 B, m13, k13, b13⟩
  have A14 : At l.prog w K mg base "_law_take" 1 ["bag", "many"] c_take f14 _ := ⟨ok_take F14 B, m14, k14, b14⟩
  have A15 : At l.prog w K mg base "_law_some" 2 ["bag", "things"] c_some f15 _ := ⟨ok_some F15 B A14, m15, k15, b15⟩
  have A16 : At l.prog w K mg base "_law_alike" 1 ["found", "due"] c_alikeB f16 _ := ⟨ok_alikeB F16 B, m16, k16, b16⟩
  have A17 : At l.prog w K mg base "_law_rank" 1 ["row"] c_rank f17 _ := ⟨ok_lrank F17, m17, k17, b17⟩
  have A18 : At l.prog w K mg base "_law_points" 1 ["way", "row"] c_points_told f18 _ := ⟨ok_lpoints F18, m18, k18, b18⟩
  have A18' : At l.prog w K mg base "_law_points" 1 ["way", "row"] c_pointsO f18 _ := ⟨ok_lpointsO F18, m18, k18, b18⟩
  have A19 : At l.prog w K mg base "_law_rows" 6 ["bag", "way", "many"] c_rows f19 _ := ⟨ok_rows F19 B A14 A15 A18' A17, m19, k19, b19⟩
  have A20 : At l.prog w K mg base "_law_with" 1 ["row", "at", "value"] c_with f20 _ := ⟨ok_with F20, m20, k20, b20⟩
  have A21 : At l.prog w K mg base "_law_again" 4 ["way", "rows"] c_again f21 _ := ⟨ok_again F21 B A20 A18 A17, m21, k21, b21⟩
  have A22 : At l.prog w K mg base "_law_bent" 5 ["bag", "way", "rows"] c_bent f22 _ := ⟨ok_bent F22 B A14 A20 A17 A21 A15, m22, k22, b22⟩
  exact to_sp (ok_law F23 B A13 A14 A15 A19 A12 A22 A16 A20 A21 A10)
end K65
open PySem PySem.W PyProof.Rows
set_option maxRecDepth 100000 in
set_option maxHeartbeats 0 in
theorem PySem.Challenge.cw_lasthopes_k65_tables_judged_one_thing_at_holds : PySem.Challenge.rw_lasthopes_k65_tables_judged_one_thing_at.Holds := by
  w_on; o_law; k_head; (case hw => w_witness2)
  k_fill
  refine G.walk (l := PySem.Challenge.rw_lasthopes_k65_tables_judged_one_thing_at) rfl rfl (fun w h Y => PySem.W.kIn_of Y) ?F
  case F =>
    intro w mg fa h KX G hmg
    refine' K65.all_mk KX G hmg ?a1 ?l1 ?c1 ?k1 ?a2 ?l2 ?c2 ?k2 ?a3 ?l3 ?c3 ?k3 ?a4 ?l4 ?c4 ?k4 ?a5 ?l5 ?c5 ?k5 ?a6 ?l6 ?c6 ?k6 ?a7 ?l7 ?c7 ?k7 ?a8 ?l8 ?c8 ?k8 ?a9 ?l9 ?c9 ?k9 ?a10 ?l10 ?c10 ?k10 ?a11 ?l11 ?c11 ?k11 ?a12 ?l12 ?c12 ?k12 ?a13 ?l13 ?c13 ?k13 ?a14 ?l14 ?c14 ?k14 ?a15 ?l15 ?c15 ?k15 ?a16 ?l16 ?c16 ?k16 ?a17 ?l17 ?c17 ?k17 ?a18 ?l18 ?c18 ?k18 ?a19 ?l19 ?c19 ?k19 ?a20 ?l20 ?c20 ?k20 ?a21 ?l21 ?c21 ?k21 ?a22 ?l22 ?c22 ?k22 ?a23 ?l23 ?c23 ?k23 ?n1 ?n2 ?z1 ?z2 ?z3 ?z4 ?z5 ?z6 ?z7 ?z8 ?z9 ?z10 ?z11 ?z12 ?z13 ?z14 ?z15 ?z16 ?z17 ?z18
    (case a1 => k_is); (case l1 => k_is); (case c1 => k_is); (case k1 => k_is)
    (case a2 => k_is); (case l2 => k_is); (case c2 => k_is); (case k2 => k_is)
    (case a3 => k_is); (case l3 => k_is); (case c3 => k_is); (case k3 => k_is)
    (case a4 => k_is); (case l4 => k_is); (case c4 => k_is); (case k4 => k_is)
    (case a5 => k_is); (case l5 => k_is); (case c5 => k_is); (case k5 => k_is)
    (case a6 => k_is); (case l6 => k_is); (case c6 => k_is); (case k6 => k_is)
    (case a7 => k_is); (case l7 => k_is); (case c7 => k_is); (case k7 => k_is)
    (case a8 => k_is); (case l8 => k_is); (case c8 => k_is); (case k8 => k_is)
    (case a9 => k_is); (case l9 => k_is); (case c9 => k_is); (case k9 => k_is)
    (case a10 => k_is); (case l10 => k_is); (case c10 => k_is); (case k10 => k_is)
    (case a11 => k_is); (case l11 => k_is); (case c11 => k_is); (case k11 => k_is)
    (case a12 => k_is); (case l12 => k_is); (case c12 => k_is); (case k12 => k_is)
    (case a13 => k_is); (case l13 => k_is); (case c13 => k_is); (case k13 => k_is)
    (case a14 => k_is); (case l14 => k_is); (case c14 => k_is); (case k14 => k_is)
    (case a15 => k_is); (case l15 => k_is); (case c15 => k_is); (case k15 => k_is)
    (case a16 => k_is); (case l16 => k_is); (case c16 => k_is); (case k16 => k_is)
    (case a17 => k_is); (case l17 => k_is); (case c17 => k_is); (case k17 => k_is)
    (case a18 => k_is); (case l18 => k_is); (case c18 => k_is); (case k18 => k_is)
    (case a19 => k_is); (case l19 => k_is); (case c19 => k_is); (case k19 => k_is)
    (case a20 => k_is); (case l20 => k_is); (case c20 => k_is); (case k20 => k_is)
    (case a21 => k_is); (case l21 => k_is); (case c21 => k_is); (case k21 => k_is)
    (case a22 => k_is); (case l22 => k_is); (case c22 => k_is); (case k22 => k_is)
    (case a23 => k_is); (case l23 => k_is); (case c23 => k_is); (case k23 => k_is)
    (case n1 => k_is); (case n2 => k_is); (case z1 => k_is); (case z2 => k_is)
    (case z3 => k_is); (case z4 => k_is); (case z5 => k_is); (case z6 => k_is)
    (case z7 => k_is); (case z8 => k_is); (case z9 => k_is); (case z10 => k_is)
    (case z11 => k_is); (case z12 => k_is); (case z13 => k_is); (case z14 => k_is)
    (case z15 => k_is); (case z16 => k_is); (case z17 => k_is); (case z18 => k_is)
