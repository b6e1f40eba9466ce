import PyProof.Rows.All
import Wide.All
import OpenK.AllK
import Wide.FinOn
import PySem.Challenge.RW_np0091_01
open PySem PySem.W PyProof.Rows PySem.Calls
set_option Elab.async false
set_option maxRecDepth 100000
set_option linter.unusedVariables false
set_option linter.unusedSimpArgs false
set_option maxHeartbeats 8000000
set_option compiler.extract_closed false
namespace Mine
section
abbrev FV := List (Str × Option Value)
abbrev Raw := List (Addr × Obj)
inductive SO where
  | inst (C : Addr) (fs : FV)
  | lst (vs : List Value)
  | tup (vs : List Value)
  | dct (kvs : List (Int × Value))
  | obj (cls : String) (vs : List Value)
  | raw (o : Obj)
abbrev Led := List (Addr × SO)
def fr : FV → Str → Option Value
  | [], _ => none
  | p :: r, y => if y = p.1 then p.2 else fr r y
inductive Mem (x : Str) (v : Value) : FV → Prop
  | head {r : FV} : Mem x v ((x, some v) :: r)
  | tail {p : Str × Option Value} {r : FV} : Mem x v r → Mem x v (p :: r)
inductive Upd (x : Str) (v : Value) : FV → FV → Prop
  | head {o : Option Value} {r : FV} : Upd x v ((x, o) :: r) ((x, some v) :: r)
  | tail {p : Str × Option Value} {r r' : FV} : Upd x v r r' → Upd x v (p :: r) (p :: r')
inductive Put (a : Addr) (o o' : SO) : Led → Led → Prop
  | head {r : Led} : Put a o o' ((a, o) :: r) ((a, o') :: r)
  | tail {p : Addr × SO} {r r' : Led} : Put a o o' r r' → Put a o o' (p :: r) (p :: r')
theorem Mem.name {x : Str} {v : Value} {r : FV} (h : Mem x v r) : x ∈ r.map (·.1) := by
  induction h with
  | head => exact .head _
  | tail _ ih => exact .tail _ ih
theorem Mem.fr {x : Str} {v : Value} {r : FV} (h : Mem x v r) (hn : (r.map (·.1)).Nodup) : fr r x = some v := by
  induction h with
  | head => unfold Mine.fr; rw [if_pos rfl]
  | tail h' ih =>
    have hn' := List.nodup_cons.mp hn
    unfold Mine.fr
    rw [if_neg, ih hn'.2]
    intro e
    subst e
    exact hn'.1 h'.name
theorem Upd.names {x : Str} {v : Value} {r r' : FV} (h : Upd x v r r') : r'.map (·.1) = r.map (·.1) := by
  induction h with
  | head => rfl
  | tail _ ih => rw [List.map_cons, List.map_cons, ih]
theorem Upd.name {x : Str} {v : Value} {r r' : FV} (h : Upd x v r r') : x ∈ r.map (·.1) := by
  induction h with
  | head => exact .head _
  | tail _ ih => exact .tail _ ih
theorem Upd.fr {x : Str} {v : Value} {r r' : FV} (h : Upd x v r r') (hn : (r.map (·.1)).Nodup) (y : Str) : Mine.fr r' y = if y = x then some v else Mine.fr r y := by
  induction h with
  | head =>
    unfold Mine.fr
    by_cases e : y = x
    · rw [if_pos e, if_pos e]
    · rw [if_neg e, if_neg e, if_neg e]
  | @tail p r r' h' ih =>
    have hn' := List.nodup_cons.mp hn
    have hx : x ≠ p.1 := fun e => by
      subst e
      exact hn'.1 h'.name
    show (if y = p.1 then p.2 else Mine.fr r' y) = _
    rw [ih hn'.2]
    show _ = if y = x then some v else (if y = p.1 then p.2 else Mine.fr r y)
    by_cases e : y = p.1
    · rw [if_pos e, if_pos e, if_neg (fun q => hx (q.symm.trans e))]
    · rw [if_neg e, if_neg e]
/-- the entries of a dict that an object keeps its fields in -/
def Ents : List DictEntry → FV → Prop
  | [], [] => True
  | e :: es, p :: fs => (∃ t, e.key = .str p.1 t) ∧ p.2 = some e.val ∧ Ents es fs
  | _, _ => False
section
variable (prog : Program) (w : World)
def Rl (a : Addr) : SO → Raw → Prop
  | .inst C fs, raw => ∃ d es n, raw = [(a, instObj C d), (d, dictOf es n)] ∧ Ents es fs ∧ fs.length ≤ 100
  | .lst vs, raw => ∃ n, raw = [(a, listOf vs.toArray n)]
  | .tup vs, raw => ∃ n, raw = [(a, ({ cls := .type "tuple", data := .seq vs.toArray n } : Obj))]
  | .dct kvs, raw => ∃ o, raw = [(a, o)] ∧ o.IsDictOf (intKind prog w) kvs ∧ (a == sysModules) = false
  | .obj cls vs, raw => ∃ o : Obj, raw = [(a, o)] ∧ o.cls = .type cls ∧ o.data = .fields vs.toArray
  | .raw o, raw => raw = [(a, o)]
def Rls : Led → Raw → Prop
  | [], raw => raw = []
  | p :: r, raw => ∃ r1 r2, raw = r1 ++ r2 ∧ Rl prog w p.1 p.2 r1 ∧ Rls r r2
def Own (g : Heap) (L : Addr) (h : Heap) (led : Led) : Prop := ∃ raw, Rls prog w led raw ∧ (raw.map (·.1)).Nodup ∧ News g L h raw
end
section
variable {prog : Program} {w : World} {g h h' : Heap} {L : Addr} {led led' : Led} {raw : Raw} {a : Addr} {so so' : SO} {m : Str → Option Value}
theorem Rls.append : ∀ {P Q : Led} {raw : Raw}, Rls prog w (P ++ Q) raw ↔ ∃ r1 r2, raw = r1 ++ r2 ∧ Rls prog w P r1 ∧ Rls prog w Q r2
  | [], Q, raw => ⟨fun x => ⟨[], raw, rfl, rfl, x⟩, fun ⟨r1, r2, e, e1, x⟩ => by cases e1; subst e; exact x⟩
  | p :: P, Q, raw => by
    constructor
    · rintro ⟨r1, r2, rfl, x1, x2⟩
      obtain ⟨s1, s2, rfl, y1, y2⟩ := Rls.append.mp x2
      exact ⟨r1 ++ s1, s2, by rw [List.append_assoc], ⟨r1, s1, rfl, x1, y1⟩, y2⟩
    · rintro ⟨r1, r2, rfl, ⟨s1, s2, rfl, x1, x2⟩, y⟩
      exact ⟨s1, s2 ++ r2, by rw [List.append_assoc], x1, Rls.append.mpr ⟨s2, r2, rfl, x2, y⟩⟩
theorem Put.split (x : Put a so so' led led') : ∃ P Q, led = P ++ (a, so) :: Q ∧ led' = P ++ (a, so') :: Q := by
  induction x with
  | head => exact ⟨[], _, rfl, rfl⟩
  | @tail p r r' _ ih =>
    obtain ⟨P, Q, rfl, rfl⟩ := ih
    exact ⟨p :: P, Q, rfl, rfl⟩
theorem Rls.perm {led led' : Led} (p : led.Perm led') : ∀ {raw : Raw}, Rls prog w led raw → ∃ raw', Rls prog w led' raw' ∧ raw.Perm raw' := by
  induction p with
  | nil => exact fun x => ⟨_, x, .refl _⟩
  | cons q _ ih =>
    rintro raw ⟨r1, r2, rfl, x1, x2⟩
    obtain ⟨r2', y, pp⟩ := ih x2
    exact ⟨r1 ++ r2', ⟨r1, r2', rfl, x1, y⟩, List.Perm.append_left _ pp⟩
  | swap p q l =>
    rintro raw ⟨r1, r2, rfl, x1, ⟨r3, r4, rfl, x3, x4⟩⟩
    refine ⟨r3 ++ (r1 ++ r4), ⟨r3, _, rfl, x3, r1, r4, rfl, x1, x4⟩, ?_⟩
    rw [← List.append_assoc, ← List.append_assoc]
    exact List.Perm.append_right _ List.perm_append_comm
  | trans _ _ ih1 ih2 =>
    intro raw x
    obtain ⟨r1, x1, p1⟩ := ih1 x
    obtain ⟨r2, x2, p2⟩ := ih2 x1
    exact ⟨r2, x2, p1.trans p2⟩
theorem Own.perm (o : Own prog w g L h led) (p : led.Perm led') : Own prog w g L h led' := by
  obtain ⟨raw, x, n, N⟩ := o
  obtain ⟨raw', x', pp⟩ := x.perm p
  exact ⟨raw', x', (pp.map _).nodup_iff.mp n, fun q hq => N q (pp.mem_iff.mpr hq)⟩
theorem Own.right {P : Led} (o : Own prog w g L h (P ++ led)) : Own prog w g L h led := by
  obtain ⟨raw, x, n, N⟩ := o
  obtain ⟨r1, r2, rfl, _, y⟩ := Rls.append.mp x
  rw [List.map_append] at n
  exact ⟨r2, y, (List.nodup_append.mp n).2.1, fun q hq => N q (List.mem_append_right _ hq)⟩
theorem Own.drop {p : Addr × SO} (o : Own prog w g L h (p :: led)) : Own prog w g L h led := Own.right (P := [p]) o
theorem Own.nil : Own prog w g L h [] := ⟨[], rfl, .nil, News.nil⟩
theorem Own.at (o : Own prog w g L h led) (hm : (a, so) ∈ led) : ∃ ra, Rl prog w a so ra ∧ News g L h ra := by
  obtain ⟨P, Q, rfl⟩ := List.append_of_mem hm
  obtain ⟨raw, x, n, N⟩ := o
  obtain ⟨r1, r2, rfl, _, ra, r3, rfl, y, _⟩ := Rls.append.mp x
  exact ⟨ra, y, fun q hq => N q (List.mem_append_right _ (List.mem_append_left _ hq))⟩
theorem Own.set (o : Own prog w g L h led) (hs : Heap.SameBut L h h') : Own prog w g L h' led := by
  obtain ⟨raw, x, n, N⟩ := o
  exact ⟨raw, x, n, N.set hs⟩
/-- the entry at hand, and what the ledger is when it is changed -/
theorem Own.open (o : Own prog w g L h led) (x : Put a so so' led led') : ∃ r1 ra r2, Rl prog w a so ra ∧ News g L h (r1 ++ ra ++ r2) ∧ ((r1 ++ ra ++ r2).map (·.1)).Nodup ∧
    ∀ h' ra', Rl prog w a so' ra' → ra'.map (·.1) = ra.map (·.1) → News g L h' (r1 ++ ra' ++ r2) → Own prog w g L h' led' := by
  obtain ⟨P, Q, rfl, rfl⟩ := x.split
  obtain ⟨raw, x, n, N⟩ := o
  obtain ⟨r1, r23, rfl, x1, ra, r3, rfl, y, z⟩ := Rls.append.mp x
  refine ⟨r1, ra, r3, y, by rwa [List.append_assoc], by rwa [List.append_assoc], fun h' ra' y' e N' => ⟨r1 ++ ra' ++ r3, Rls.append.mpr ⟨r1, ra' ++ r3, by rw [List.append_assoc], x1, ra', r3, rfl, y', z⟩, ?_, N'⟩⟩
  rw [List.append_assoc, List.map_append, List.map_append, e, ← List.map_append, ← List.map_append]
  exact n
theorem Own.cons {ra : Raw} (o : Own prog w g L h led) (y : Rl prog w a so ra) (hn : ∀ p ∈ ra, ∀ raw, News g L h raw → p.1 ∉ raw.map (·.1)) (nd : (ra.map (·.1)).Nodup)
    (H : ∀ raw, News g L h raw → News g L h' (ra ++ raw)) : Own prog w g L h' ((a, so) :: led) := by
  obtain ⟨raw, x, n, N⟩ := o
  refine ⟨ra ++ raw, ⟨ra, raw, rfl, y, x⟩, ?_, H raw N⟩
  rw [List.map_append]
  refine List.nodup_append.mpr ⟨nd, n, fun b hb c hc e => ?_⟩
  subst e
  obtain ⟨p, hp, rfl⟩ := List.mem_map.mp hb
  exact hn p hp raw N hc
end
end
section
structure Cx (prog : Program) (w : World) (K : Frag) where
  A : Around
  g : Heap
  L : Addr
  env : Env
def Room (A : Around) (n : Nat) : Prop := A.depth + 2 * n + 2 ≤ 900 ∧ A.units + 12 * n + 30 ≤ 9000
section
variable {prog : Program} {w : World} {K : Frag}
structure Cx.Ok (c : Cx prog w K) : Prop where
  X : K.In c.g
  top : ∃ p loose mean mg mb, Top p loose mean mg mb c.g
  hh : c.A.handled = none
  env : ∃ cn cs a ccd cl, c.env = envX cn cs c.L a ccd cl ∧ cs.kind = .function
  below : ∃ outer A₀ base, c.A.frames = some (c.env :: outer) ∧ Below A₀ base outer c.g
def Names (c : Cx prog w K) (ns : List Str) : Prop := ns.Nodup ∧ ∀ x ∈ ns, c.env.kindOf x = some .local ∧ (x == ("__debug__" : Str)) = false
def Globs (c : Cx prog w K) (ns : List Str) : Prop := ∀ x ∈ ns, c.env.kindOf x = some .globalImplicit ∧ (x == ("__debug__" : Str)) = false
structure St (c : Cx prog w K) (h : Heap) (fv : FV) (led : Led) : Prop where
  F : Fr c.g c.L h (fr fv)
  O : Own prog w c.g c.L h led
  N : Names c (fv.map (·.1))
def Near (s s' : Shared) : Prop := ∃ h tk, s' = { s with heap := h, toks := tk }
theorem Near.refl (s : Shared) : Near s s := ⟨s.heap, s.toks, rfl⟩
theorem Near.trans {a b c : Shared} (x : Near a b) (y : Near b c) : Near a c := by
  obtain ⟨h, t, rfl⟩ := x
  obtain ⟨h', t', rfl⟩ := y
  exact ⟨h', t', rfl⟩
theorem Near.mk {s : Shared} (h : Heap) (t : Nat) : Near s { s with heap := h, toks := t } := ⟨h, t, rfl⟩
def After {α : Type} (c : Cx prog w K) (Q : α → FV → Led → Prop) (s : Shared) (a : α) (s' : Shared) : Prop := Near s s' ∧ ∃ fv led, St c s'.heap fv led ∧ Q a fv led
def NoE : Value → Shared → Prop := fun _ _ => False
structure EV {α : Type} (c : Cx prog w K) (t : Sem α) (Q : α → FV → Led → Prop) (fv : FV) (led : Led) : Prop where
  run : ∀ s, St c s.heap fv led → wpAny (model prog w) c.A t (After c Q s) NoE s
end
section
variable {prog : Program} {w : World} {K : Frag} {α β : Type} {c : Cx prog w K} {fv : FV} {led : Led}
theorem EV.into {t : Sem α} {Q : α → FV → Led → Prop} (e : EV c t Q fv led) {s : Shared} (S : St c s.heap fv led) {R : α → Shared → Prop}
    (H : ∀ a s1 fv1 led1, Near s s1 → St c s1.heap fv1 led1 → Q a fv1 led1 → R a s1) : wpAny (model prog w) c.A t R NoE s :=
  wpAny_mono (e.run s S) (fun a s1 ⟨n, fv1, led1, S1, q⟩ => H a s1 fv1 led1 n S1 q) fun _ _ x => x.elim
theorem EV.on {t : Sem α} {Q : α → FV → Led → Prop} (e : EV c t Q fv led) {s s0 : Shared} (n : Near s0 s) (S : St c s.heap fv led) : wpAny (model prog w) c.A t (After c Q s0) NoE s :=
  e.into S fun _ _ fv1 led1 n1 S1 q => ⟨n.trans n1, fv1, led1, S1, q⟩
theorem EV.mono {t : Sem α} {Q Q' : α → FV → Led → Prop} (e : EV c t Q fv led) (H : ∀ a fv led, Q a fv led → Q' a fv led) : EV c t Q' fv led :=
  .mk fun _ S => e.into S fun _ _ fv1 led1 n1 S1 q => ⟨n1, fv1, led1, S1, H _ _ _ q⟩
theorem EV.bind {t : Sem α} {k : α → Sem β} {Q : β → FV → Led → Prop} (e : EV c t (fun a => EV c (k a) Q) fv led) : EV c (t >>= k) Q fv led :=
  .mk fun _ S => wpAny_bind (e.into S fun _ _ _ _ n1 S1 q => q.on n1 S1)
theorem EV.pure {a : α} {Q : α → FV → Led → Prop} (h : Q a fv led) : EV c (pure a) Q fv led := .mk fun s S => wpAny_pure ⟨.refl s, fv, led, S, h⟩
theorem EV.perm {t : Sem α} {Q : α → FV → Led → Prop} {led' : Led} (p : led.Perm led') (e : EV c t Q fv led') : EV c t Q fv led := .mk fun s S => e.run s ⟨S.F, S.O.perm p, S.N⟩
theorem EV.drop {t : Sem α} {Q : α → FV → Led → Prop} {p : Addr × SO} (e : EV c t Q fv led) : EV c t Q fv (p :: led) := .mk fun s S => e.run s ⟨S.F, S.O.drop, S.N⟩
theorem EV.right {t : Sem α} {Q : α → FV → Led → Prop} {P : Led} (e : EV c t Q fv led) : EV c t Q fv (P ++ led) := .mk fun s S => e.run s ⟨S.F, S.O.right, S.N⟩
/-- an operation that touches no heap: from the library's rule -/
theorem EV.op {t : Sem α} {Q : α → FV → Led → Prop} (H : ∀ (s : Shared) (R : α → Shared → Prop), (∀ a tk, Q a fv led → R a { s with toks := tk }) → St c s.heap fv led → wpAny (model prog w) c.A t R NoE s) : EV c t Q fv led :=
  .mk fun s S => H s _ (fun _ tk q => ⟨.mk s.heap tk, fv, led, S, q⟩) S
end
-- names
section
variable {prog : Program} {w : World} {K : Frag} {c : Cx prog w K} {fv fv' : FV} {led led' : Led} {x : Str} {v : Value} {pos : Pos} {Q : Value → FV → Led → Prop}
theorem ev_local (hc : c.Ok) (m : Mem x v fv) (h : Q v fv led) : EV c (eval (.Name x pos) c.env) Q fv led := by
  refine .mk fun s S => ?_
  obtain ⟨cn, cs, a, ccd, cl, e, hk⟩ := hc.env
  obtain ⟨k1, k2⟩ := S.N.2 x m.name
  rw [e] at k1 ⊢
  exact nameX_L S.F (m.fr S.N.1) ⟨.refl s, fv, led, S, h⟩ hk k1 k2
theorem ev_glob {gs : List Str} (hc : c.Ok) (hg : Globs c gs) (m : x ∈ gs) (e : nsIn K mainGlobals x = some (some v)) (h : Q v fv led) : EV c (eval (.Name x pos) c.env) Q fv led := by
  refine .mk fun s S => ?_
  obtain ⟨cn, cs, a, ccd, cl, ee, hk⟩ := hc.env
  obtain ⟨p, loose, mean, mg, mb, T⟩ := hc.top
  obtain ⟨k1, k2⟩ := hg x m
  rw [ee] at k1 ⊢
  exact nameX_K S.F hc.X (topRead_of T) e ⟨.refl s, fv, led, S, h⟩ hk k1 k2
theorem ev_boot {gs : List Str} (hc : c.Ok) (hg : Globs c gs) (m : x ∈ gs) (e : nsIn K mainGlobals x = some none) (hv : bootBuiltins x = some v) (hn : x ≠ "__name__") (h : Q v fv led) : EV c (eval (.Name x pos) c.env) Q fv led := by
  refine .mk fun s S => ?_
  obtain ⟨cn, cs, a, ccd, cl, ee, hk⟩ := hc.env
  obtain ⟨p, loose, mean, mg, mb, T⟩ := hc.top
  obtain ⟨k1, k2⟩ := hg x m
  rw [ee] at k1 ⊢
  exact nameX_B S.F hc.X (topRead_of T) e hv hn ⟨.refl s, fv, led, S, h⟩ hk k1 k2
theorem ev_store {Q : Unit → FV → Led → Prop} (hc : c.Ok) (u : Upd x v fv fv') (h : Q () fv' led) : EV c (storeName c.env x v) Q fv led := by
  refine .mk fun s S => ?_
  obtain ⟨cn, cs, a, ccd, cl, ee, hk⟩ := hc.env
  obtain ⟨k1, k2⟩ := S.N.2 x u.name
  have hl : c.env.locals = c.L := by rw [ee]
  refine wpAny_storeName_local k1 (hl ▸ S.F.ns) (fun h' hn hs => ?_) (by rw [ee]; show (cs.kind == .class || (cs.kind == .module && c.L != mainGlobals)) = false; rw [hk]; rfl)
  rw [hl] at hn hs
  refine ⟨.mk h' _, fv', led, ⟨?_, S.O.set hs, u.names ▸ S.N⟩, h⟩
  refine S.F.set ?_ hs
  have : fr fv' = fun y => if y = x then some v else fr fv y := funext fun y => u.fr S.N.1 y
  rw [this]
  exact hn
end
-- constants
section
variable {prog : Program} {w : World} {K : Frag} {c : Cx prog w K} {fv : FV} {led : Led} {pos : Pos} {k : Nat} {Q : Value → FV → Led → Prop}
theorem ev_int {i : Int} (h : ∀ t, Q (.int i t) fv led) : EV c (eval (.Constant (.int i) k pos) c.env) Q fv led := EV.op fun s _ q _ => wpAny_Constant_int (q _ _ (h _))
theorem ev_str {x : Str} (h : ∀ t, Q (.str x t) fv led) : EV c (eval (.Constant (.str x) k pos) c.env) Q fv led := EV.op fun s _ q _ => Calls.Constant_str (q _ _ (h _))
theorem ev_none (h : Q .none fv led) : EV c (eval (.Constant .none k pos) c.env) Q fv led := EV.op fun s _ q _ => wpAny_Constant_none (q _ s.toks h)
theorem ev_bool {b : Bool} (h : Q (.bool b) fv led) : EV c (eval (.Constant (.bool b) k pos) c.env) Q fv led := EV.op fun s _ q _ => wpAny_Constant_bool (q _ s.toks h)
end
-- what is still to be done, told by names
section
variable {prog : Program} {w : World} {K : Frag} {α : Type}
abbrev kNext (Q : Flow → FV → Led → Prop) (_ : α) : FV → Led → Prop := Q .next
abbrev kRet (Q : Flow → FV → Led → Prop) (v : Value) : FV → Led → Prop := Q (.ret v)
abbrev kTr (c : Cx prog w K) (Q : Bool → FV → Led → Prop) (v : Value) : FV → Led → Prop := EV c (truthy v) Q
abbrev kNot (Q : Bool → FV → Led → Prop) (b : Bool) : FV → Led → Prop := Q (!b)
abbrev kIfS (c : Cx prog w K) (s1 s2 : List Stmt) (Q : Flow → FV → Led → Prop) (b : Bool) (fv : FV) (led : Led) : Prop := (b = true → EV c (execs s1 c.env) Q fv led) ∧ (b = false → EV c (execs s2 c.env) Q fv led)
abbrev kIfE (c : Cx prog w K) (e1 e2 : Expr) (Q : Value → FV → Led → Prop) (b : Bool) (fv : FV) (led : Led) : Prop := (b = true → EV c (eval e1 c.env) Q fv led) ∧ (b = false → EV c (eval e2 c.env) Q fv led)
abbrev kAnd (c : Cx prog w K) (rest : List Expr) (Q : Bool → FV → Led → Prop) (b : Bool) (fv : FV) (led : Led) : Prop := (b = true → EV c (allTrue .And rest c.env) Q fv led) ∧ (b = false → Q false fv led)
abbrev kOr (c : Cx prog w K) (rest : List Expr) (Q : Bool → FV → Led → Prop) (b : Bool) (fv : FV) (led : Led) : Prop := (b = true → Q true fv led) ∧ (b = false → EV c (allTrue .Or rest c.env) Q fv led)
abbrev kAnd2b (c : Cx prog w K) (y : Expr) (Q : Value → FV → Led → Prop) (v : Value) (b : Bool) (fv : FV) (led : Led) : Prop := (b = true → EV c (eval y c.env) Q fv led) ∧ (b = false → Q v fv led)
abbrev kAnd2 (c : Cx prog w K) (y : Expr) (Q : Value → FV → Led → Prop) (v : Value) : FV → Led → Prop := EV c (truthy v) (kAnd2b c y Q v)
abbrev kOr2b (c : Cx prog w K) (y : Expr) (Q : Value → FV → Led → Prop) (v : Value) (b : Bool) (fv : FV) (led : Led) : Prop := (b = true → Q v fv led) ∧ (b = false → EV c (eval y c.env) Q fv led)
abbrev kOr2 (c : Cx prog w K) (y : Expr) (Q : Value → FV → Led → Prop) (v : Value) : FV → Led → Prop := EV c (truthy v) (kOr2b c y Q v)
abbrev kBin2 (c : Cx prog w K) (op : Operator) (a : Value) (Q : Value → FV → Led → Prop) (b : Value) : FV → Led → Prop := EV c (binaryOp op a b) Q
abbrev kBin1 (c : Cx prog w K) (r : Expr) (op : Operator) (Q : Value → FV → Led → Prop) (a : Value) : FV → Led → Prop := EV c (eval r c.env) (kBin2 c op a Q)
abbrev kUn (c : Cx prog w K) (op : UnaryOp) (Q : Value → FV → Led → Prop) (a : Value) : FV → Led → Prop := EV c (unaryOp op a) Q
abbrev kCmp2 (c : Cx prog w K) (op : CmpOp) (a : Value) (Q : Value → FV → Led → Prop) (b : Value) : FV → Led → Prop := EV c (compareOp op a b) Q
abbrev kCmp1 (c : Cx prog w K) (r : Expr) (op : CmpOp) (Q : Value → FV → Led → Prop) (a : Value) : FV → Led → Prop := EV c (eval r c.env) (kCmp2 c op a Q)
abbrev kCh3 (c : Cx prog w K) (r : Expr) (op : CmpOp) (b : Value) (Q : Bool → FV → Led → Prop) (t : Bool) (fv : FV) (led : Led) : Prop := (t = true → EV c (eval r c.env) (kCmp2 c op b (kTr c Q)) fv led) ∧ (t = false → Q false fv led)
abbrev kCh2 (c : Cx prog w K) (op1 : CmpOp) (a : Value) (r2 : Expr) (op2 : CmpOp) (Q : Bool → FV → Led → Prop) (b : Value) : FV → Led → Prop := EV c (compareOp op1 a b) (kTr c (kCh3 c r2 op2 b Q))
abbrev kCh1 (c : Cx prog w K) (r1 : Expr) (op1 : CmpOp) (r2 : Expr) (op2 : CmpOp) (Q : Bool → FV → Led → Prop) (a : Value) : FV → Led → Prop := EV c (eval r1 c.env) (kCh2 c op1 a r2 op2 Q)
abbrev kSub2 (c : Cx prog w K) (value slice : Expr) (o : Value) (Q : Value → FV → Led → Prop) (i : Value) : FV → Led → Prop := EV c (subscriptTail value slice o i) Q
abbrev kSub1 (c : Cx prog w K) (value slice : Expr) (Q : Value → FV → Led → Prop) (o : Value) : FV → Led → Prop := EV c (eval slice c.env) (kSub2 c value slice o Q)
abbrev kSpl2 (v : Value) (Q : List Value → FV → Led → Prop) (vs : List Value) : FV → Led → Prop := Q (v :: vs)
abbrev kSpl1 (c : Cx prog w K) (pos : Pos) (rest : List Expr) (Q : List Value → FV → Led → Prop) (v : Value) : FV → Led → Prop := EV c (spliced (backTo pos (starEach rest c.env))) (kSpl2 v Q)
abbrev kTup (c : Cx prog w K) (Q : Value → FV → Led → Prop) (vs : List Value) : FV → Led → Prop := EV c (newTuple vs) Q
abbrev kLst (c : Cx prog w K) (Q : Value → FV → Led → Prop) (vs : List Value) : FV → Led → Prop := EV c (newList vs) Q
abbrev kAttr (c : Cx prog w K) (attr : Str) (Q : Value → FV → Led → Prop) (o : Value) : FV → Led → Prop := EV c (getAttr o attr true) Q
abbrev kCall (c : Cx prog w K) (pos : Pos) (args : List Expr) (Q : Value → FV → Led → Prop) (f : Value) : FV → Led → Prop := EV c (callWith pos f [] (backTo pos (starEach args c.env)) []) Q
abbrev kMeth2 (c : Cx prog w K) (pos : Pos) (args : List Expr) (Q : Value → FV → Led → Prop) (fx : Value × List Value) : FV → Led → Prop := EV c (callWith pos fx.1 fx.2 (backTo pos (starEach args c.env)) []) Q
abbrev kMeth1 (c : Cx prog w K) (name : Str) (pl : Sem Bool) (pos : Pos) (args : List Expr) (Q : Value → FV → Led → Prop) (ov : Value) : FV → Led → Prop := EV c (getMethod ov name pl) (kMeth2 c pos args Q)
abbrev kWith (c : Cx prog w K) (f : Value) (first : List Value) (Q : Value → FV → Led → Prop) (vs : List Value) : FV → Led → Prop := EV c (call f (first ++ vs)) Q
abbrev kWithT (c : Cx prog w K) (f : Value) (Q : Value → FV → Led → Prop) (vs : List Value) : FV → Led → Prop := EV c (call f vs) Q
abbrev kSto (c : Cx prog w K) (x : Str) (v : Value) (Q : Unit → FV → Led → Prop) (_ : α) : FV → Led → Prop := EV c (storeName c.env x v) Q
abbrev kAsg (c : Cx prog w K) (x : Str) (Q : Flow → FV → Led → Prop) (v : Value) : FV → Led → Prop := EV c (storeName c.env x v) (kNext Q)
abbrev kAsgA2 (c : Cx prog w K) (attr : Str) (v : Value) (Q : Flow → FV → Led → Prop) (ov : Value) : FV → Led → Prop := EV c (setAttr ov attr v) (kNext Q)
abbrev kAsgA1 (c : Cx prog w K) (o : Expr) (attr : Str) (Q : Flow → FV → Led → Prop) (v : Value) : FV → Led → Prop := EV c (eval o c.env) (kAsgA2 c attr v Q)
abbrev kAsgS3 (c : Cx prog w K) (ov v : Value) (Q : Flow → FV → Led → Prop) (iv : Value) : FV → Led → Prop := EV c (setItem ov iv v) (kNext Q)
abbrev kAsgS2 (c : Cx prog w K) (i : Expr) (v : Value) (Q : Flow → FV → Led → Prop) (ov : Value) : FV → Led → Prop := EV c (eval i c.env) (kAsgS3 c ov v Q)
abbrev kAsgS1 (c : Cx prog w K) (o i : Expr) (Q : Flow → FV → Led → Prop) (v : Value) : FV → Led → Prop := EV c (eval o c.env) (kAsgS2 c i v Q)
abbrev kAsgT (c : Cx prog w K) (tgt : Expr) (Q : Flow → FV → Led → Prop) (v : Value) : FV → Led → Prop := EV c (assign tgt c.env v) (kNext Q)
abbrev kPair2 (c : Cx prog w K) (x1 x2 : Str) (a : Value) (Q : Flow → FV → Led → Prop) (b : Value) : FV → Led → Prop := EV c (storeName c.env x2 b) (kSto c x1 a (kNext Q))
abbrev kPair1 (c : Cx prog w K) (x1 x2 : Str) (v2 : Expr) (Q : Flow → FV → Led → Prop) (a : Value) : FV → Led → Prop := EV c (eval v2 c.env) (kPair2 c x1 x2 a Q)
abbrev kTrio3 (c : Cx prog w K) (x1 x2 x3 : Str) (a b : Value) (Q : Flow → FV → Led → Prop) (d : Value) : FV → Led → Prop := EV c (storeName c.env x3 d) (kSto c x2 b (kSto c x1 a (kNext Q)))
abbrev kTrio2 (c : Cx prog w K) (x1 x2 x3 : Str) (v3 : Expr) (a : Value) (Q : Flow → FV → Led → Prop) (b : Value) : FV → Led → Prop := EV c (eval v3 c.env) (kTrio3 c x1 x2 x3 a b Q)
abbrev kTrio1 (c : Cx prog w K) (x1 x2 x3 : Str) (v2 v3 : Expr) (Q : Flow → FV → Led → Prop) (a : Value) : FV → Led → Prop := EV c (eval v2 c.env) (kTrio2 c x1 x2 x3 v3 a Q)
end
-- statements
section
variable {prog : Program} {w : World} {K : Frag} {c : Cx prog w K} {fv : FV} {led : Led} {pos : Pos} {Q : Flow → FV → Led → Prop}
/-- what stands behind a statement -/
def Seq (c : Cx prog w K) (rest : List Stmt) (Q : Flow → FV → Led → Prop) (f : Flow) (fv : FV) (led : Led) : Prop := match f with | .next => EV c (execs rest c.env) Q fv led | f => Q f fv led
theorem seq_next {rest : List Stmt} (h : EV c (execs rest c.env) Q fv led) : Seq c rest Q .next fv led := h
theorem seq_ret {rest : List Stmt} {v : Value} (h : Q (.ret v) fv led) : Seq c rest Q (.ret v) fv led := h
theorem seq_brk {rest : List Stmt} (h : Q .brk fv led) : Seq c rest Q .brk fv led := h
theorem ev_cons {st : Stmt} {rest : List Stmt} (h : EV c (exec st c.env) (Seq c rest Q) fv led) : EV c (execs (st :: rest) c.env) Q fv led :=
  .mk fun _ S => wpAny_execs_cons (h.into S fun f s1 fv1 led1 n1 S1 q => by
    cases f <;> first | exact q.on n1 S1 | exact ⟨n1, fv1, led1, S1, q⟩)
theorem ev_nil (h : Q .next fv led) : EV c (execs [] c.env) Q fv led := .mk fun s S => wpAny_execs_nil ⟨.refl s, fv, led, S, h⟩
theorem ev_ret {e : Expr} (h : EV c (eval e c.env) (kRet Q) fv led) : EV c (exec (.Return (some e) pos) c.env) Q fv led :=
  .mk fun _ S => wpAny_Return_some (h.run _ S)
theorem ev_ret0 (h : Q (.ret .none) fv led) : EV c (exec (.Return none pos) c.env) Q fv led := .mk fun s S => wpAny_Return_none ⟨.refl s, fv, led, S, h⟩
theorem ev_if {test : Expr} {body orelse : List Stmt}
    (h : EV c (isTrue test c.env (eval test c.env)) (kIfS c body orelse Q) fv led) : EV c (exec (.If test body orelse pos) c.env) Q fv led :=
  .mk fun _ S => wpAny_If (h.into S fun b s1 fv1 led1 n1 S1 q => by
    cases b
    · exact (q.2 rfl).on n1 S1
    · exact (q.1 rfl).on n1 S1)
theorem ev_break (h : Q .brk fv led) : EV c (exec (.Break pos) c.env) Q fv led := .mk fun s S => wpAny_Break ⟨.refl s, fv, led, S, h⟩
theorem ev_pass (h : Q .next fv led) : EV c (exec (.Pass pos) c.env) Q fv led := .mk fun s S => wpAny_Pass ⟨.refl s, fv, led, S, h⟩
theorem not_inter (hc : c.Ok) : interactive c.env = false := by
  obtain ⟨cn, cs, a, ccd, cl, ee, hk⟩ := hc.env
  rw [ee]
  show (cs.kind == .module && _) = false
  rw [hk]; rfl
theorem ev_expr {e : Expr} (hc : c.Ok) (h : EV c (eval e c.env) (kNext Q) fv led) (hs : swapsWith e none pos.line c.env = pure false := by rfl) : EV c (exec (.Expr e pos) c.env) Q fv led :=
  .mk fun _ S => wpAny_Expr_any (h.run _ S) (not_inter hc) hs
theorem ev_assign {x : Str} {xp : Pos} {value : Expr} (h : EV c (eval value c.env) (kAsg c x Q) fv led) (hs : swapsWith value (some (.Name x xp)) pos.line c.env = pure false := by rfl) :
    EV c (exec (.Assign [.Name x xp] value pos) c.env) Q fv led :=
  .mk fun _ S => wpAny_Assign_Name (h.into S fun v s1 fv1 led1 n1 S1 q => q.on n1 S1) hs
theorem ev_assignA {o value : Expr} {attr : Str} {ap : Pos} (h : EV c (eval value c.env) (kAsgA1 c o attr Q) fv led)
    (hs : swapsWith value (some (.Attribute o attr ap)) pos.line c.env = pure false := by rfl) : EV c (exec (.Assign [.Attribute o attr ap] value pos) c.env) Q fv led :=
  .mk fun _ S => plainObj_wpAny_Assign_Attribute (h.into S fun v s1 fv1 led1 n1 S1 q => q.into S1 fun ov s2 fv2 led2 n2 S2 q2 => q2.on (n1.trans n2) S2) hs
theorem ev_assignS {o i value : Expr} {ap : Pos} (h : EV c (eval value c.env) (kAsgS1 c o i Q) fv led)
    (hs : swapsWith value (some (.Subscript o i ap)) pos.line c.env = pure false := by rfl) : EV c (exec (.Assign [.Subscript o i ap] value pos) c.env) Q fv led :=
  .mk fun _ S => wpAny_Assign_Subscript (h.into S fun v s1 fv1 led1 n1 S1 q => q.into S1 fun ov s2 fv2 led2 n2 S2 q2 => q2.into S2 fun iv s3 fv3 led3 n3 S3 q3 => q3.on ((n1.trans n2).trans n3) S3) hs
end
end
section
-- expressions
section
variable {prog : Program} {w : World} {K : Frag} {c : Cx prog w K} {fv : FV} {led : Led} {pos : Pos} {Q : Value → FV → Led → Prop}
theorem ev_binop {l r : Expr} {op : Operator} (h : EV c (eval l c.env) (kBin1 c r op Q) fv led) : EV c (eval (.BinOp l op r pos) c.env) Q fv led :=
  .mk fun _ S => wpAny_BinOp (h.into S fun _ _ _ _ n1 S1 q => q.into S1 fun _ _ _ _ n2 S2 q2 => q2.on (n1.trans n2) S2)
theorem ev_unop {x : Expr} {op : UnaryOp} (h : EV c (eval x c.env) (kUn c op Q) fv led) : EV c (eval (.UnaryOp op x pos) c.env) Q fv led :=
  .mk fun _ S => wpAny_UnaryOp (h.into S fun _ _ _ _ n1 S1 q => q.on n1 S1)
theorem ev_cmp {l r : Expr} {op : CmpOp} (h : EV c (eval l c.env) (kCmp1 c r op Q) fv led) (hb : behindInMarks op r = false := by rfl) : EV c (eval (.Compare l [op] [r] pos) c.env) Q fv led :=
  .mk fun _ S => wpAny_Compare1 (h.into S fun _ _ _ _ n1 S1 q => q.into S1 fun _ _ _ _ n2 S2 q2 => q2.on (n1.trans n2) S2) hb
theorem ev_ifexp {test body orelse : Expr} (h : EV c (isTrue test c.env (eval test c.env)) (kIfE c body orelse Q) fv led) : EV c (eval (.IfExp test body orelse pos) c.env) Q fv led :=
  .mk fun _ S => wpAny_IfExp (h.into S fun b s1 fv1 led1 n1 S1 q => by
    cases b
    · exact (q.2 rfl).on n1 S1
    · exact (q.1 rfl).on n1 S1)
theorem ev_sub {value slice : Expr} (h : EV c (eval value c.env) (kSub1 c value slice Q) fv led) : EV c (eval (.Subscript value slice pos) c.env) Q fv led :=
  .mk fun _ S => Subscript_ (h.into S fun _ _ _ _ n1 S1 q => q.into S1 fun _ _ _ _ n2 S2 q2 => q2.on (n1.trans n2) S2)
theorem ev_splN {pos : Pos} {Q : List Value → FV → Led → Prop} (h : Q [] fv led) : EV c (spliced (backTo pos (starEach [] c.env))) Q fv led := .mk fun s S => spliced_none ⟨.refl s, fv, led, S, h⟩
theorem ev_splC {pos : Pos} {e : Expr} {rest : List Expr} {Q : List Value → FV → Led → Prop} (h : EV c (eval e c.env) (kSpl1 c pos rest Q) fv led)
    (he : starEach (e :: rest) c.env = (false, eval e c.env) :: starEach rest c.env := by rfl) : EV c (spliced (backTo pos (starEach (e :: rest) c.env))) Q fv led :=
  .mk fun _ S => spliced_more (h.into S fun _ _ _ _ n1 S1 q => q.into S1 fun _ _ _ _ n2 S2 q2 => ⟨n1.trans n2, _, _, S2, q2⟩) he
theorem ev_tuple {elts : List Expr} {k : Nat} (h : EV c (spliced (backTo pos (starEach elts c.env))) (kTup c Q) fv led) : EV c (eval (.Tuple elts k pos) c.env) Q fv led :=
  .mk fun _ S => Tuple_ (h.into S fun _ _ _ _ n1 S1 q => q.on n1 S1)
theorem ev_list {elts : List Expr} (h : EV c (spliced (backTo pos (starEach elts c.env))) (kLst c Q) fv led) : EV c (eval (.List elts pos) c.env) Q fv led :=
  .mk fun _ S => List_ (h.into S fun _ _ _ _ n1 S1 q => q.on n1 S1)
theorem ev_attrN {n attr : Str} {np : Pos} (h : EV c (eval (.Name n np) c.env) (kAttr c attr Q) fv led) : EV c (eval (.Attribute (.Name n np) attr pos) c.env) Q fv led :=
  .mk fun _ S => Attribute_name (h.into S fun _ _ _ _ n1 S1 q => q.on n1 S1)
theorem ev_attrA {value : Expr} {a1 attr : Str} {ap : Pos} (h : EV c (eval (.Attribute value a1 ap) c.env) (kAttr c attr Q) fv led) : EV c (eval (.Attribute (.Attribute value a1 ap) attr pos) c.env) Q fv led :=
  .mk fun _ S => Attribute_any_ (h.into S fun _ _ _ _ n1 S1 q => q.on n1 S1)
theorem ev_callN {x : Str} {np : Pos} {args : List Expr} (h : EV c (eval (.Name x np) c.env) (kCall c pos args Q) fv led) : EV c (eval (.Call (.Name x np) args [] pos) c.env) Q fv led :=
  .mk fun _ S => wpAny_Call_NameR (h.into S fun _ _ _ _ n1 S1 q => q.on n1 S1)
theorem ev_callM {o : Expr} {name : Str} {ap : Pos} {args : List Expr} {pl : Sem Bool}
    (h : EV c (eval o c.env) (fun ov => EV c (getMethod ov name pl) (fun fx => EV c (callWith pos fx.1 fx.2 (backTo pos (starEach args c.env)) []) Q)) fv led)
    (he : eval (.Call (.Attribute o name ap) args [] pos) c.env = (do
      let ov ← eval o c.env
      standAt ap.atName
      let (f, first) ← holding [ov] (getMethod ov name pl)
      callWith pos f first (backTo pos (starEach args c.env)) []) := by rfl) : EV c (eval (.Call (.Attribute o name ap) args [] pos) c.env) Q fv led :=
  .mk fun _ S => MethodCall_ (h.into S fun _ _ _ _ n1 S1 q => q.into S1 fun _ _ _ _ n2 S2 q2 => q2.on (n1.trans n2) S2) he
end
-- tests
section
variable {prog : Program} {w : World} {K : Frag} {c : Cx prog w K} {fv : FV} {led : Led} {pos : Pos} {Q : Bool → FV → Led → Prop} {whole : Sem Value}
theorem ev_tCmp {l r : Expr} {op : CmpOp} (h : EV c (eval l c.env) (kCmp1 c r op (kTr c Q)) fv led) (hb : behindInMarks op r = false := by rfl) :
    EV c (isTrue (.Compare l [op] [r] pos) c.env whole) Q fv led :=
  .mk fun _ S => wpAny_isTrue_Compare1 (h.into S fun _ _ _ _ n1 S1 q => q.into S1 fun _ _ _ _ n2 S2 q2 => q2.into S2 fun _ _ _ _ n3 S3 q3 => q3.on ((n1.trans n2).trans n3) S3) hb
theorem ev_tChain {l r1 r2 : Expr} {op1 op2 : CmpOp} (h : EV c (eval l c.env) (kCh1 c r1 op1 r2 op2 Q) fv led)
    (hb : behindInMarks op2 r2 = false := by rfl) : EV c (isTrue (.Compare l [op1, op2] [r1, r2] pos) c.env whole) Q fv led := by
  refine .mk fun s S => ?_
  rw [arm_isTrue_Compare]
  have e : markedEach [op1, op2] [r1, r2] (evalEach [r1, r2] c.env) = [eval r1 c.env, eval r2 c.env] := by
    show [_, markedBehindIn op2 r2 (eval r2 c.env)] = _
    unfold markedBehindIn
    rw [hb]
  rw [e]
  refine wpAny_bind (h.into S fun a s1 _ _ n1 S1 q => ?_)
  refine test_link (q.into S1 fun b s2 _ _ n2 S2 q2 => q2.into S2 fun v s3 _ _ n3 S3 q3 => q3.into S3 fun t s4 _ _ n4 S4 q4 => ?_)
  cases t
  · exact ⟨((n1.trans n2).trans n3).trans n4, _, _, S4, q4.2 rfl⟩
  · refine test_last ((q4.1 rfl).into S4 fun d s5 _ _ n5 S5 q5 => q5.into S5 fun v s6 _ _ n6 S6 q6 => q6.on (((((n1.trans n2).trans n3).trans n4).trans n5).trans n6) S6)
theorem ev_tBool {op : BoolOp} {values : List Expr} (h : EV c (allTrue op values c.env) Q fv led) : EV c (isTrue (.BoolOp op values pos) c.env whole) Q fv led := .mk fun _ S => wpAny_isTrue_BoolOp (h.run _ S)
theorem ev_tNot {x : Expr} (h : EV c (isTrue x c.env (eval x c.env)) (kNot Q) fv led) : EV c (isTrue (.UnaryOp .Not x pos) c.env whole) Q fv led := .mk fun _ S => wpAny_isTrue_Not (h.run _ S)
theorem ev_tVal {e : Expr} (h : EV c whole (kTr c Q) fv led) (he : isTrue e c.env whole = (do let v ← whole; standAt e.pos; holding [v] (truthy v)) := by rfl) : EV c (isTrue e c.env whole) Q fv led :=
  .mk fun _ S => wpAny_isTrue_value (h.into S fun _ _ _ _ n1 S1 q => q.on n1 S1) he
theorem ev_andC {x : Expr} {rest : List Expr} (h : EV c (isTrue x c.env (eval x c.env)) (kAnd c rest Q) fv led) : EV c (allTrue .And (x :: rest) c.env) Q fv led :=
  .mk fun _ S => wpAny_allTrue_And_cons (h.into S fun b s1 fv1 led1 n1 S1 q => by
    cases b
    · exact ⟨n1, _, _, S1, q.2 rfl⟩
    · exact (q.1 rfl).on n1 S1)
theorem ev_andN (h : Q true fv led) : EV c (allTrue .And [] c.env) Q fv led := .mk fun s S => wpAny_allTrue_And_nil ⟨.refl s, fv, led, S, h⟩
theorem ev_orC {x : Expr} {rest : List Expr} (h : EV c (isTrue x c.env (eval x c.env)) (kOr c rest Q) fv led) : EV c (allTrue .Or (x :: rest) c.env) Q fv led :=
  .mk fun _ S => wpAny_allTrue_Or_cons (h.into S fun b s1 fv1 led1 n1 S1 q => by
    cases b
    · exact (q.2 rfl).on n1 S1
    · exact ⟨n1, _, _, S1, q.1 rfl⟩)
theorem ev_orN (h : Q false fv led) : EV c (allTrue .Or [] c.env) Q fv led := .mk fun s S => wpAny_allTrue_Or_nil ⟨.refl s, fv, led, S, h⟩
theorem ev_truth {b : Bool} (h : Q b fv led) : EV c (truthy (.bool b)) Q fv led := EV.op fun s _ q _ => wpAny_truthy_bool (q _ s.toks h)
end
section
variable {prog : Program} {w : World} {K : Frag} {c : Cx prog w K} {fv : FV} {led : Led} {pos : Pos} {Q : Value → FV → Led → Prop}
theorem ev_and2 {x y : Expr} (h : EV c (eval x c.env) (kAnd2 c y Q) fv led) : EV c (eval (.BoolOp .And [x, y] pos) c.env) Q fv led :=
  .mk fun _ S => BoolOp_and (h.into S fun v s1 _ _ n1 S1 q => q.into S1 fun b s2 _ _ n2 S2 q2 => by
    cases b
    · exact ⟨n1.trans n2, _, _, S2, q2.2 rfl⟩
    · exact (q2.1 rfl).on (n1.trans n2) S2)
theorem ev_or2 {x y : Expr} (h : EV c (eval x c.env) (kOr2 c y Q) fv led) : EV c (eval (.BoolOp .Or [x, y] pos) c.env) Q fv led :=
  .mk fun _ S => BoolOp_or (h.into S fun v s1 _ _ n1 S1 q => q.into S1 fun b s2 _ _ n2 S2 q2 => by
    cases b
    · exact (q2.2 rfl).on (n1.trans n2) S2
    · exact ⟨n1.trans n2, _, _, S2, q2.1 rfl⟩)
end
-- operations on plain values
section
variable {prog : Program} {w : World} {K : Frag} {α : Type} {c : Cx prog w K} {fv : FV} {led : Led}
theorem EV.op0 {t : Sem α} {Q : α → FV → Led → Prop} {a : α} (h : Q a fv led) (H : ∀ (s : Shared) (R : α → Shared → Prop), R a s → wpAny (model prog w) c.A t R NoE s) : EV c t Q fv led :=
  .mk fun s S => H s _ ⟨.mk s.heap s.toks, fv, led, S, h⟩
theorem EV.op1 {t : Sem α} {Q : α → FV → Led → Prop} {f : Tok → α} (h : ∀ t, Q (f t) fv led) (H : ∀ (s : Shared) (R : α → Shared → Prop), R (f s.toks) { s with toks := s.toks + 1 } → wpAny (model prog w) c.A t R NoE s) : EV c t Q fv led :=
  .mk fun s S => H s _ ⟨.mk s.heap (s.toks + 1), fv, led, S, h _⟩
end
section
variable {prog : Program} {w : World} {K : Frag} {c : Cx prog w K} {fv : FV} {led : Led} {pos : Pos} {Q : Value → FV → Led → Prop} {a b : Int} {t u : Tok} {x y : Str} {p q : Bool}
theorem op_add (h : ∀ t, Q (.int (a + b) t) fv led) : EV c (binaryOp .Add (.int a t) (.int b u)) Q fv led := EV.op1 (f := .int (a + b)) h fun s _ => @add_int _ _ _ _ _ _ _ _ _ _
theorem op_sub (h : ∀ t, Q (.int (a - b) t) fv led) : EV c (binaryOp .Sub (.int a t) (.int b u)) Q fv led := EV.op1 (f := .int (a - b)) h fun s _ => @PyProof.Rows.sub_int _ _ _ _ _ _ _ _ _ _
theorem op_mul (h : ∀ t, Q (.int (a * b) t) fv led) (hm : IntMulOk a b) : EV c (binaryOp .Mult (.int a t) (.int b u)) Q fv led := EV.op1 (f := .int (a * b)) h fun s _ r => @PyProof.Rows.mul_int _ _ _ _ _ _ _ _ _ _ (by exact r) (by exact hm)
theorem op_mod (h : ∀ t, Q (.int (a.fmod b) t) fv led) (hb : b ≠ 0) : EV c (binaryOp .Mod (.int a t) (.int b u)) Q fv led := EV.op1 (f := .int (a.fmod b)) h fun s _ => @PyProof.Rows.mod_int' _ _ _ _ _ _ _ _ _ _ (by exact hb)
theorem op_div (h : ∀ t, Q (.int (a.fdiv b) t) fv led) (hb : b ≠ 0) (hp : Builtin.divisionGoesByPylong a b = false) : EV c (binaryOp .FloorDiv (.int a t) (.int b u)) Q fv led := EV.op1 (f := .int (a.fdiv b)) h fun s _ r => @PyProof.Rows.floordiv_int _ _ _ _ _ _ _ _ _ _ (by exact hb) (by exact r) (by exact .inl hp)
theorem op_neg (h : ∀ t, Q (.int (-a) t) fv led) : EV c (unaryOp .USub (.int a t)) Q fv led := EV.op1 (f := .int (-a)) h fun s _ => @PyProof.Rows.neg_int _ _ _ _ _ _ _ _
theorem op_not (h : Q (.bool (!p)) fv led) : EV c (unaryOp .Not (.bool p)) Q fv led := EV.op0 h fun s _ r => @not_of _ _ _ _ _ _ (by exact @wpAny_truthy_bool _ _ _ _ _ _ (by exact r))
theorem op_cat (h : ∀ t, Q (.str (x ++ y) t) fv led) (hsz : x.length + y.length ≤ sizeLine) : EV c (binaryOp .Add (.str x t) (.str y u)) Q fv led := EV.op fun s _ r _ => @PyProof.Rows.add_str _ _ _ _ _ _ _ _ _ _ (by exact fun t' tk => r _ tk (h t')) (by exact hsz)
theorem cmp_lt (h : Q (.bool (decide (a < b))) fv led) : EV c (compareOp .Lt (.int a t) (.int b u)) Q fv led := EV.op0 h fun s _ => @lt_int _ _ _ _ _ _ _ _ _ _
theorem cmp_le (h : Q (.bool (decide (a ≤ b))) fv led) : EV c (compareOp .LtE (.int a t) (.int b u)) Q fv led := EV.op0 h fun s _ => @le_int _ _ _ _ _ _ _ _ _ _
theorem cmp_gt (h : Q (.bool (decide (b < a))) fv led) : EV c (compareOp .Gt (.int a t) (.int b u)) Q fv led := EV.op0 h fun s _ => @gt_int _ _ _ _ _ _ _ _ _ _
theorem cmp_ge (h : Q (.bool (decide (b ≤ a))) fv led) : EV c (compareOp .GtE (.int a t) (.int b u)) Q fv led := EV.op0 h fun s _ => @ge_int _ _ _ _ _ _ _ _ _ _
theorem cmp_eq (h : Q (.bool (a == b)) fv led) : EV c (compareOp .Eq (.int a t) (.int b u)) Q fv led := EV.op0 h fun s _ => @eq_int _ _ _ _ _ _ _ _ _ _
theorem cmp_ne (h : Q (.bool (a != b)) fv led) : EV c (compareOp .NotEq (.int a t) (.int b u)) Q fv led := EV.op0 h fun s _ => @ne_int _ _ _ _ _ _ _ _ _ _
theorem cmp_eqS (h : Q (.bool (x == y)) fv led) : EV c (compareOp .Eq (.str x t) (.str y u)) Q fv led := EV.op0 h fun s _ => @PyProof.Rows.eq_str _ _ _ _ _ _ _ _ _ _
theorem cmp_neS (h : Q (.bool (x != y)) fv led) : EV c (compareOp .NotEq (.str x t) (.str y u)) Q fv led := EV.op0 h fun s _ => @PyProof.Rows.ne_str _ _ _ _ _ _ _ _ _ _
theorem cmp_eqB (h : Q (.bool (p == q)) fv led) : EV c (compareOp .Eq (.bool p) (.bool q)) Q fv led := EV.op0 h fun s _ => @PyProof.Rows.eq_bool _ _ _ _ _ _ _ _
theorem cmp_neB (h : Q (.bool (p != q)) fv led) : EV c (compareOp .NotEq (.bool p) (.bool q)) Q fv led := EV.op0 h fun s _ => @PyProof.Rows.ne_bool _ _ _ _ _ _ _ _
def has (x y : Str) : Bool := !(Builtin.Str.occurrences x y 0 x.length 1).isEmpty
theorem cmp_in (h : Q (.bool (has x y)) fv led) : EV c (compareOp .In (.str y u) (.str x t)) Q fv led := EV.op0 h fun s _ => @PyProof.Rows.in_str _ _ _ _ _ _ _ _ _ _
theorem cmp_is {v : Value} (h : Q (.bool (v == .none)) fv led) : EV c (compareOp .Is v .none) Q fv led := EV.op0 h fun s _ => @is_none_gen _ _ _ _ _ _
theorem cmp_isnt {v : Value} (h : Q (.bool (!(v == .none))) fv led) : EV c (compareOp .IsNot v .none) Q fv led := EV.op0 h fun s _ => @isnot_none_gen _ _ _ _ _ _
end
end
section
section
variable (K : Frag) (C : Addr)
structure Cls (fns : List Str) : Prop where
  nodup : fns.Nodup
  get : plainGet K C Str.empty = true
  dict : hasDictIn K C = true
  set : findIn K (.ref C) "__setattr__" = some (some (.builtin "object.__setattr__"))
  over : plainOver K C = true
  flds : ∀ x ∈ fns, findIn K (.ref C) x = some none
structure Meth (fns : List Str) (name : Str) (f : Addr) : Prop where
  find : findIn K (.ref C) name = some (some (.ref f))
  fn : isFn K (.ref f) = true
  off : name ∉ fns
end
section
variable {es : List DictEntry} {fs fs' : FV} {x : Str} {v : Value}
theorem isStr_str (x y : Str) (t : Tok) : (Value.str x t).isStr y = (x == y) := rfl
theorem Ents.refs : ∀ {es : List DictEntry} {fs : FV}, Ents es fs → es.any (·.refKey) = false
  | [], [], _ => rfl
  | e :: es, p :: fs, ⟨⟨t, ht⟩, _, h⟩ => by
    rw [List.any_cons, Ents.refs h, Bool.or_false]
    simp [DictEntry.refKey, ht]
theorem Ents.length : ∀ {es : List DictEntry} {fs : FV}, Ents es fs → es.length = fs.length
  | [], [], _ => rfl
  | e :: es, p :: fs, ⟨_, _, h⟩ => by rw [List.length_cons, List.length_cons, Ents.length h]
theorem Ents.findNone : ∀ {es : List DictEntry} {fs : FV}, Ents es fs → x ∉ fs.map (·.1) → es.find? (·.key.isStr x) = none ∧ es.any (·.key.isStr x) = false
  | [], [], _, _ => ⟨rfl, rfl⟩
  | e :: es, p :: fs, ⟨⟨t, ht⟩, _, h⟩, hn => by
    have h1 : (e.key.isStr x) = false := by
      rw [ht]
      show (p.1 == x) = false
      exact beq_false_of_ne fun q => hn (by subst q; exact .head _)
    obtain ⟨a, b⟩ := Ents.findNone h fun q => hn (.tail _ q)
    exact ⟨by rw [List.find?_cons, h1]; exact a, by rw [List.any_cons, h1, b]; rfl⟩
theorem Ents.get : ∀ {es : List DictEntry} {fs : FV}, Ents es fs → (fs.map (·.1)).Nodup → Mem x v fs → ∃ e, es.find? (·.key.isStr x) = some e ∧ e.val = v
  | [], _ :: _, h, _, _ => h.elim
  | e :: es, _ :: fs, ⟨⟨t, ht⟩, hv, h⟩, hn, .head => by
    refine ⟨e, ?_, (Option.some.inj hv).symm⟩
    rw [List.find?_cons, ht]
    show (match (x == x) with | true => some e | false => _) = _
    rw [beq_self_eq_true]
  | e :: es, p :: fs, ⟨⟨t, ht⟩, hv, h⟩, hn, .tail hm => by
    have hn' := List.nodup_cons.mp hn
    have h1 : (e.key.isStr x) = false := by
      rw [ht]
      show (p.1 == x) = false
      exact beq_false_of_ne fun q => hn'.1 (by subst q; exact hm.name)
    rw [List.find?_cons, h1]
    exact Ents.get h hn'.2 hm
theorem Ents.getL (h : Ents es fs) (hn : (fs.map (·.1)).Nodup) (hm : Mem x v fs) : getL x es = some (some v) := by
  obtain ⟨e, h1, h2⟩ := h.get hn hm
  unfold W.getL
  rw [h1, ← h2]
theorem Ents.getNone (h : Ents es fs) (hn : x ∉ fs.map (·.1)) : W.getL x es = some none := by
  obtain ⟨a, _⟩ := h.findNone hn
  unfold W.getL
  rw [a, h.refs]
  rfl
theorem Ents.isSome (h : Ents es fs) : (W.getL x es).isSome = true := by
  unfold W.getL
  split
  · rfl
  · rw [h.refs]; rfl
theorem Ents.put : ∀ {es : List DictEntry} {fs fs' : FV}, Ents es fs → (fs.map (·.1)).Nodup → Upd x v fs fs' → ∀ hsh key, Ents (putL x hsh key v es) fs'
  | [], _ :: _, _, h, _, _, _, _ => h.elim
  | e :: es, _ :: fs, _, ⟨⟨t, ht⟩, hv, h⟩, hn, .head, hsh, key => by
    have h1 : (e.key.isStr x) = true := by
      rw [ht]
      show (x == x) = true
      exact beq_self_eq_true x
    show Ents (if e.key.isStr x then _ else _) _
    rw [if_pos h1]
    exact ⟨⟨t, ht⟩, rfl, h⟩
  | e :: es, p :: fs, _ :: fs', ⟨⟨t, ht⟩, hv, h⟩, hn, .tail u, hsh, key => by
    have hn' := List.nodup_cons.mp hn
    have h1 : (e.key.isStr x) = false := by
      rw [ht]
      show (p.1 == x) = false
      exact beq_false_of_ne fun q => hn'.1 (by subst q; exact u.name)
    show Ents (if e.key.isStr x then _ else _) _
    rw [if_neg (by rw [h1]; exact Bool.false_ne_true)]
    exact ⟨⟨t, ht⟩, hv, Ents.put h hn'.2 u hsh key⟩
theorem Ents.new : ∀ {es : List DictEntry} {fs : FV}, Ents es fs → x ∉ fs.map (·.1) → ∀ hsh t, Ents (putL x hsh (.str x t) v es) (fs ++ [(x, some v)])
  | [], [], _, _, hsh, t => ⟨⟨t, rfl⟩, rfl, trivial⟩
  | e :: es, p :: fs, ⟨⟨t', ht⟩, hv, h⟩, hn, hsh, t => by
    have h1 : (e.key.isStr x) = false := by
      rw [ht]
      show (p.1 == x) = false
      exact beq_false_of_ne fun q => hn (by subst q; exact .head _)
    show Ents (if e.key.isStr x then _ else _) _
    rw [if_neg (by rw [h1]; exact Bool.false_ne_true)]
    exact ⟨⟨t', ht⟩, hv, Ents.new h (fun q => hn (.tail _ q)) hsh t⟩
theorem Upd.length (u : Upd x v fs fs') : fs'.length = fs.length := by
  have := congrArg List.length u.names
  rwa [List.length_map, List.length_map] at this
end
theorem upd_of {d : Addr} {o o' : Obj} : ∀ {P Q : Raw}, ((P ++ (d, o) :: Q).map (·.1)).Nodup → W.Upd d o o' (P ++ (d, o) :: Q) (P ++ (d, o') :: Q)
  | [], Q, h => .head fun p hp e => by
    subst e
    exact (List.nodup_cons.mp h).1 (List.mem_map_of_mem (f := (·.1)) hp)
  | p :: P, Q, h => .tail (fun e => by
    refine (List.nodup_cons.mp h).1 ?_
    show p.1 ∈ _
    rw [e]
    exact List.mem_map_of_mem (f := (·.1)) (a := (d, o)) (List.mem_append_right _ (.head _))) (upd_of (List.nodup_cons.mp h).2)
section
variable {prog : Program} {w : World} {K : Frag} {c : Cx prog w K} {fv : FV} {led led' : Led} {a C : Addr} {fs fs' : FV} {fns : List Str} {name : Str} {v : Value}
theorem ev_get {Q : Value → FV → Led → Prop} (hc : c.Ok) (m : (a, SO.inst C fs) ∈ led) (hC : Cls K C fns) (hm : Mem name v fs) (hv : handedIn v = true) (h : Q v fv led) (hs : fs.map (·.1) = fns := by rfl) : EV c (getAttr (.ref a) name true) Q fv led := by
  refine .mk fun s S => ?_
  obtain ⟨ra, ⟨d, es, n, rfl, hE, _⟩, N⟩ := S.O.at m
  have I : W.InstAt s.heap a (instObj C d) C (some (dictOf es n)) := W.InstAt.of_news N (.head _) (.tail _ (.head _))
  refine @get_own _ _ _ _ _ K a C c.L c.g _ _ es n name v _ _ _ S.F hc.X I hC.get hC.dict (hC.flds name (hs ▸ hm.name)) rfl (hE.getL (hs ▸ hC.nodup) hm) hv ?_
  exact ⟨.mk s.heap _, fv, led, S, h⟩
theorem ev_meth {f : Addr} {pl : Sem Bool} {Q : Value × List Value → FV → Led → Prop} (hc : c.Ok) (m : (a, SO.inst C fs) ∈ led) (hC : Cls K C fns) (hM : Meth K C fns name f) (h : Q (.ref f, [.ref a]) fv led) (hs : fs.map (·.1) = fns := by rfl) :
    EV c (getMethod (.ref a) name pl) Q fv led := by
  refine .mk fun s S => ?_
  obtain ⟨ra, ⟨d, es, n, rfl, hE, _⟩, N⟩ := S.O.at m
  have I : W.InstAt s.heap a (instObj C d) C (some (dictOf es n)) := W.InstAt.of_news N (.head _) (.tail _ (.head _))
  exact @method_inst _ _ _ _ _ K a C c.L c.g _ _ es n name pl _ f S.F hc.X I hC.get hM.find hM.fn (hE.getNone (by rw [hs]; exact hM.off)) ⟨.refl s, fv, led, S, h⟩
theorem set_core {Q : Unit → FV → Led → Prop} (hc : c.Ok) (p : Put a (.inst C fs) (.inst C fs') led led') (hC : Cls K C fns) (hx : name ∈ fns) (hl : fs'.length ≤ 100)
    (he : ∀ es, Ents es fs → fs.length ≤ 100 → ∀ t, Ents (putL name (PyData.keyHash w.params name) (.str name t) v es) fs') (h : Q () fv led') : EV c (setAttr (.ref a) name v) Q fv led := by
  refine .mk fun s S => ?_
  obtain ⟨r1, ra, r2, ⟨d, es, n, rfl, hE, hl0⟩, N, nd, back⟩ := S.O.open p
  have I : W.InstAt s.heap a (instObj C d) C (some (dictOf es n)) := W.InstAt.of_news N (List.mem_append_left _ (List.mem_append_right _ (.head _))) (List.mem_append_left _ (List.mem_append_right _ (.tail _ (.head _))))
  have e1 : ∀ o : Obj, r1 ++ [(a, instObj C d), (d, o)] ++ r2 = (r1 ++ [(a, instObj C d)]) ++ (d, o) :: r2 := fun o => by simp
  rw [e1] at N nd
  have hE' := he es hE hl0 (s.toks + 1)
  refine @set_dict _ _ _ _ _ K a C d c.L c.g _ _ _ (instObj C d) es _ n _ name v _ S.F hc.X N I rfl hC.set hC.over (by unfold takerIn; rw [hC.flds name hx]; rfl) hC.dict hE.isSome rfl (upd_of nd) ?_ ?_
  · rw [hE'.length]; omega
  · intro h' F' N'
    rw [← e1] at N'
    exact ⟨.mk h' _, fv, led', ⟨F', back h' _ ⟨d, _, _, rfl, hE', hl⟩ rfl N', S.N⟩, h⟩
theorem ev_set {Q : Unit → FV → Led → Prop} (hc : c.Ok) (p : Put a (.inst C fs) (.inst C fs') led led') (hC : Cls K C fns) (u : Upd name v fs fs') (h : Q () fv led') (hs : fs.map (·.1) = fns := by rfl) (hl : fs'.length ≤ 100 := by exact Nat.le_of_ble_eq_true rfl) : EV c (setAttr (.ref a) name v) Q fv led :=
  set_core hc p hC (hs ▸ u.name) hl (fun es hE _ t => hE.put (hs ▸ hC.nodup) u _ _) h
theorem ev_new {Q : Unit → FV → Led → Prop} {r : List Str} (hc : c.Ok) (p : Put a (.inst C fs) (.inst C (fs ++ [(name, some v)])) led led') (hC : Cls K C fns) (hs : fs.map (·.1) ++ name :: r = fns) (h : Q () fv led') (hl : (fs ++ [(name, some v)]).length ≤ 100 := by exact Nat.le_of_ble_eq_true rfl) : EV c (setAttr (.ref a) name v) Q fv led :=
  set_core hc p hC (hs ▸ List.mem_append_right _ (.head _)) hl (fun es hE _ t => hE.new (by
    have := hC.nodup
    rw [← hs] at this
    intro q
    exact (List.nodup_append.mp this).2.2 _ q _ (.head _) rfl) _ _) h
end
end
section
def namesOk (sc : Scope) (ns : List Str) : Bool := decide ns.Nodup && ns.all fun x => sc.names.lookup x == some .local && !(x == ("__debug__" : Str))
def globsOk (sc : Scope) (ns : List Str) : Bool := ns.all fun x => sc.names.lookup x == some .globalImplicit && !(x == ("__debug__" : Str))
section
variable {prog : Program} {w : World} {K : Frag}
theorem names_of {c : Cx prog w K} {ns : List Str} (h : namesOk c.env.scope ns = true) : Names c ns := by
  obtain ⟨a, b⟩ := Bool.and_eq_true_iff.mp h
  refine ⟨of_decide_eq_true a, fun x hx => ?_⟩
  obtain ⟨p, q⟩ := Bool.and_eq_true_iff.mp (List.all_eq_true.mp b x hx)
  exact ⟨beq_iff_eq.mp p, by simpa using q⟩
theorem globs_of {c : Cx prog w K} {ns : List Str} (h : globsOk c.env.scope ns = true) : Globs c ns := fun x hx => by
  obtain ⟨p, q⟩ := Bool.and_eq_true_iff.mp (List.all_eq_true.mp h x hx)
  exact ⟨beq_iff_eq.mp p, by simpa using q⟩
end
structure Stand (K : Frag) (A : Around) (h₀ : Heap) (L : Addr) : Prop where
  X : K.In h₀
  top : ∃ p loose mean mg mb, Top p loose mean mg mb h₀
  hh : A.handled = none
  fr : ∃ env outer A₀ base, A.frames = some (env :: outer) ∧ env.frame = some L ∧ env.scope.kind = .function ∧ Below A₀ base outer h₀
def Calls (prog : Program) (w : World) (K : Frag) (n : Nat) (f : Addr) (vs : List Value) (led : Led) (post : Value → Led → Prop) : Prop :=
  ∀ (A : Around) (h₀ : Heap) (L : Addr) (m : Str → Option Value) (s : Shared) (R : Result → Shared → Prop), Stand K A h₀ L → Room A n → Fr h₀ L s.heap m → Own prog w h₀ L s.heap led →
    (∀ r s' led', Near s s' → Fr h₀ L s'.heap m → Own prog w h₀ L s'.heap led' → post r led' → R (.ok (.ret r)) s') → codeAny (model prog w) A (.call (.ref f) ⟨vs, []⟩) R s
def retOf : Flow → Value
  | .ret v => v
  | _ => .none
/-- a def's standing part, told once -/
structure Def (K : Frag) (f : Addr) (name qual : Str) (params : Arguments) (body : List Stmt) (scope : Scope) (dV kV doc pm cdv ct : Value) (an : Option Addr) : Prop where
  at_ : ∃ oc od osl, K.lookup f = some ⟨oc, od, .func (fnOf name qual params body scope dV kV doc pm an cdv ct), osl⟩
  code : codeIn K cdv qual = true
  keep : keepIn K (.ref f) = true
  co : scope.isCoroutine = false
  gen : scope.isGenerator = false
  kind : scope.kind = .function
  cell : ∀ x ∈ scope.names, x.2 ≠ .cell
theorem def_mk {K : Frag} {f : Addr} {name qual : Str} {params : Arguments} {body : List Stmt} {scope : Scope} {dV kV doc pm cdv ct : Value} {an : Option Addr} {oc : Value} {od : Option Addr} {osl : Array (Option Value)}
    (h1 : K.lookup f = some ⟨oc, od, .func (fnOf name qual params body scope dV kV doc pm an cdv ct), osl⟩) (h2 : codeIn K cdv qual = true) (h3 : keepIn K (.ref f) = true) (h4 : scope.isCoroutine = false) (h5 : scope.isGenerator = false)
    (h6 : scope.kind = .function) (h7 : ∀ x ∈ scope.names, x.2 ≠ .cell) : Def K f name qual params body scope dV kV doc pm cdv ct an := ⟨⟨oc, od, osl, h1⟩, h2, h3, h4, h5, h6, h7⟩
def fv0 (binds : List (Str × Value)) (rest : List Str) : FV := binds.map (fun p => (p.1, some p.2)) ++ rest.map fun x => (x, none)
theorem fv0_names {binds : List (Str × Value)} {rest : List Str} : (fv0 binds rest).map (·.1) = binds.map (·.1) ++ rest := by
  unfold fv0
  rw [List.map_append, List.map_map, List.map_map]
  have e1 : ((fun p : Str × Option Value => p.1) ∘ fun p : Str × Value => (p.1, some p.2)) = fun p => p.1 := rfl
  have e2 : ((fun p : Str × Option Value => p.1) ∘ fun x : Str => (x, none)) = id := rfl
  rw [e1, e2, List.map_id]
theorem fr_binds {binds : List (Str × Value)} {rest : List Str} : ((binds.map (·.1)) ++ rest).Nodup → ∀ y, fr (fv0 binds rest) y = binds.reverse.lookup y := by
  have none_ : ∀ (rest : List Str) (y : Str), fr (rest.map fun x => (x, none)) y = none := by
    intro rest y
    induction rest with
    | nil => rfl
    | cons x r ih =>
      show (if y = x then none else _) = none
      split
      · rfl
      · exact ih
  have app : ∀ (l : List (Str × Value)) (y : Str) (r : List (Str × Value)), (l ++ r).lookup y = (l.lookup y).or (r.lookup y) := by
    intro l y r
    induction l with
    | nil => rfl
    | cons p l ih =>
      rw [List.cons_append, List.lookup_cons, List.lookup_cons]
      cases y == p.1 with
      | true => rfl
      | false => exact ih
  have off : ∀ (l : List (Str × Value)) (y : Str), y ∉ l.map (·.1) → l.lookup y = none := by
    intro l y h
    induction l with
    | nil => rfl
    | cons p l ih =>
      rw [List.lookup_cons, beq_false_of_ne (fun e => h (by subst e; exact .head _))]
      exact ih fun q => h (.tail _ q)
  induction binds with
  | nil => intro _ y; exact none_ rest y
  | cons p l ih =>
    intro h y
    have h' := List.nodup_cons.mp h
    show (if y = p.1 then some p.2 else fr (fv0 l rest) y) = _
    rw [List.reverse_cons, app]
    by_cases e : y = p.1
    · rw [if_pos e, e, off l.reverse p.1 (fun q => h'.1 (List.mem_append_left _ (by rw [List.map_reverse] at q; exact List.mem_reverse.mp q)))]
      show some p.2 = List.lookup p.1 [p]
      rw [List.lookup_cons, beq_self_eq_true]
    · rw [if_neg e, ih h'.2 y]
      show _ = (List.lookup y l.reverse).or (List.lookup y [p])
      rw [List.lookup_cons, beq_false_of_ne e]
      show _ = (List.lookup y l.reverse).or none
      rw [Option.or_none]
section
variable {prog : Program} {w : World} {K : Frag} {n : Nat} {f : Addr} {vs : List Value} {led : Led} {post : Value → Led → Prop}
theorem calls_intro {name qual : Str} {params : Arguments} {body : List Stmt} {scope : Scope} {dV kV doc pm cdv ct : Value} {an : Option Addr} (D : Def K f name qual params body scope dV kV doc pm cdv ct an)
    (binds : List (Str × Value)) (rest : List Str) (hbind : ∀ s : Shared, K.In s.heap → BindsTo s (fnOf name qual params body scope dV kV doc pm an cdv ct) ⟨vs, []⟩ binds)
    {ns : List Str} (hN : namesOk scope ns = true) (hns : binds.map (·.1) ++ rest = ns)
    (H : ∀ c : Cx prog w K, c.Ok → c.env.scope = scope → Room c.A n → EV c (execs body c.env) (fun fl _ led' => post (retOf fl) led') (fv0 binds rest) led) : Calls prog w K (n + 1) f vs led post := by
  intro A h₀ L m s R S r F O k
  obtain ⟨oc, od, osl, ho⟩ := D.at_
  obtain ⟨p, loose, mean, mg, mb, T⟩ := S.top
  obtain ⟨env, outer, A₀, base, hA, hf, hke, B⟩ := S.fr
  obtain ⟨raw, hR, hnd, N⟩ := O
  subst hns
  have hloc : ∀ y ∈ binds, scope.names.lookup y.1 = some .local := fun y hy => by
    have := List.all_eq_true.mp (Bool.and_eq_true_iff.mp hN).2 y.1 (List.mem_append_left _ (List.mem_map_of_mem (f := (·.1)) hy))
    exact beq_iff_eq.mp (Bool.and_eq_true_iff.mp this).1
  have hnodup : (binds.map (·.1) ++ rest).Nodup := of_decide_eq_true (Bool.and_eq_true_iff.mp hN).1
  refine code_def B F S.X N T hA hf hke ho D.code (Nat.lt_of_le_of_lt (Nat.le_trans (Nat.le_add_right _ (2 * (n + 1) + 2)) r.1) (by decide)) (hbind s (S.X.keeps F.keep)) hloc (fun g L' h₁ FG F' N' B' X' T' => ?_) D.co D.gen D.kind D.cell
  have hc : Cx.Ok (prog := prog) (w := w) (K := K) ⟨A.deeper (envOf qual scope L' f cdv), g, L', envOf qual scope L' f cdv⟩ :=
    { X := X', top := ⟨p, loose, mean, mg, mb, T'⟩, hh := S.hh, env := ⟨qual, scope, f, cdv, [], rfl, D.kind⟩, below := ⟨env :: outer, A, base, by show A.frames.map _ = _; rw [hA]; rfl, B'⟩ }
  have e := H ⟨A.deeper (envOf qual scope L' f cdv), g, L', envOf qual scope L' f cdv⟩ hc rfl ⟨by have := r.1; show A.depth + 1 + 2 * n + 2 ≤ 900; omega, by have := r.2; show A.units + 3 + 12 * n + 30 ≤ 9000; omega⟩
  have F0 : Fr g L' h₁ (fr (fv0 binds rest)) := by
    have : fr (fv0 binds rest) = fun y => binds.reverse.lookup y := funext fun y => fr_binds hnodup y
    rw [this]; exact F'
  refine wpAny_mono (e.run { s with heap := h₁, toks := s.toks + binds.length } ⟨F0, ⟨raw, hR, hnd, N'⟩, ?_⟩) (fun fl s' a => ?_) fun _ _ x => x.elim
  · rw [fv0_names]; exact names_of hN
  · obtain ⟨⟨h', t', rfl⟩, fv', led', S', q⟩ := a
    obtain ⟨raw', hR', hnd', N''⟩ := S'.O
    have ret : ∀ v, retOf fl = v → LeaveK h₀ L m g R v { s with heap := h', toks := t' } := fun v hv => ⟨L', _, raw', S'.F, N'', fun Fb Nb => by
      subst hv
      exact k _ _ led' (.mk h' t') Fb ⟨raw', hR', hnd', Nb⟩ q⟩
    cases fl <;> exact ret _ rfl
variable {c : Cx prog w K} {fv : FV} {Q : Value → FV → Led → Prop}
theorem Cx.Ok.stand (hc : c.Ok) : Stand K c.A c.g c.L := by
  obtain ⟨cn, cs, a, ccd, cl, ee, hk⟩ := hc.env
  obtain ⟨outer, A₀, base, hA, B⟩ := hc.below
  exact ⟨hc.X, hc.top, hc.hh, ⟨c.env, outer, A₀, base, hA, by rw [ee], by rw [ee]; exact hk, B⟩⟩
theorem ev_call (hc : c.Ok) (hr : Room c.A n) (C : Calls prog w K n f vs led post) (h : ∀ r led', post r led' → Q r fv led') : EV c (call (.ref f) vs) Q fv led :=
  .mk fun s S => wpAny_call (C c.A c.g c.L _ s _ hc.stand hr S.F S.O fun r s' led' n' F' O' p => ⟨n', fv, led', ⟨F', O', S.N⟩, h r led' p⟩)
theorem ev_with {pos : Pos} {first : List Value} {e : Expr} {rest : List Expr} {g : Addr} (hc : c.Ok) (hk : keepIn K (.ref g) = true)
    (h : EV c (spliced (backTo pos (starEach (e :: rest) c.env))) (kWith c (.ref g) first Q) fv led)
    (he : starEach (e :: rest) c.env = (false, eval e c.env) :: starEach rest c.env := by rfl) (hplain : (backTo pos (starEach rest c.env)).any (·.1) = false := by rfl) :
    EV c (callWith pos (.ref g) first (backTo pos (starEach (e :: rest) c.env)) []) Q fv led :=
  .mk fun s S => callWith_K hc.X hk (h.into S fun vs s1 fv1 led1 n1 S1 q => ⟨hc.X.keeps S1.F.keep, q.on n1 S1⟩) he hplain
theorem ev_with0 {pos : Pos} {first : List Value} {g : Addr} (hc : c.Ok) (hk : keepIn K (.ref g) = true)
    (h : EV c (call (.ref g) (first ++ [])) Q fv led) : EV c (callWith pos (.ref g) first (backTo pos (starEach [] c.env)) []) Q fv led :=
  .mk fun s S => callWith_K0 (hc.X.keeps S.F.keep) hk (h.on (.refl s) S)
theorem ev_withB {pos : Pos} {first : List Value} {id : String} {e : Expr} {rest : List Expr}
    (h : EV c (spliced (backTo pos (starEach (e :: rest) c.env))) (kWith c (.builtin id) first Q) fv led)
    (he : starEach (e :: rest) c.env = (false, eval e c.env) :: starEach rest c.env := by rfl) (hplain : (backTo pos (starEach rest c.env)).any (·.1) = false := by rfl) :
    EV c (callWith pos (.builtin id) first (backTo pos (starEach (e :: rest) c.env)) []) Q fv led :=
  .mk fun s S => callWith_method1 (h.into S fun vs s1 fv1 led1 n1 S1 q => q.on n1 S1) he hplain
theorem ev_withB0 {pos : Pos} {first : List Value} {id : String} (h : EV c (call (.builtin id) first) Q fv led) : EV c (callWith pos (.builtin id) first (backTo pos (starEach [] c.env)) []) Q fv led :=
  .mk fun s S => callWith_method0 (h.on (.refl s) S)
theorem ev_withT {pos : Pos} {T : String} {e : Expr} {rest : List Expr}
    (h : EV c (spliced (backTo pos (starEach (e :: rest) c.env))) (kWithT c (.type T) Q) fv led)
    (he : starEach (e :: rest) c.env = (false, eval e c.env) :: starEach rest c.env := by rfl) (hplain : (backTo pos (starEach rest c.env)).any (·.1) = false := by rfl) :
    EV c (callWith pos (.type T) [] (backTo pos (starEach (e :: rest) c.env)) []) Q fv led :=
  .mk fun s S => PyProof.Rows.callWith_type1 (h.into S fun vs s1 fv1 led1 n1 S1 q => q.on n1 S1) he hplain
theorem ev_make {C fI : Addr} {post : Addr → Led → Prop} (hc : c.Ok) (hr : Room c.A (n + 1)) (hm : makesIn K C = true) (hi : findIn K (.ref C) "__init__" = some (some (.ref fI))) (hf : isFn K (.ref fI) = true)
    (I : ∀ x, Calls prog w K n fI (.ref x :: vs) ((x, .inst C []) :: led) (fun r led' => r = .none ∧ post x led')) (h : ∀ x led', post x led' → Q (.ref x) fv led') : EV c (call (.ref C) vs) Q fv led := by
  refine .mk fun s S => ?_
  obtain ⟨raw, hR, hnd, N⟩ := S.O
  refine @call_cls _ _ _ _ _ K C c.L c.g _ raw _ vs [] fI S.F hc.X N hm hi hf fun x dx h' F' N' l1 l2 => ?_
  have O' : Own prog w c.g c.L h' ((x, .inst C []) :: led) := by
    refine ⟨[(x, instObj C dx), (dx, dictOf [] 0)] ++ raw, ⟨_, raw, rfl, ⟨dx, [], 0, rfl, trivial, by decide⟩, hR⟩, ?_, N'⟩
    show (x :: dx :: raw.map (·.1)).Nodup
    have o1 : dx ∉ raw.map (·.1) := fun q => by
      obtain ⟨p, hp, e⟩ := List.mem_map.mp q
      exact Nat.lt_irrefl _ (e ▸ l1 p hp)
    have o2 : x ∉ raw.map (·.1) := fun q => by
      obtain ⟨p, hp, e⟩ := List.mem_map.mp q
      have := l1 p hp
      rw [e] at this
      exact Nat.lt_irrefl _ (Nat.lt_trans this l2)
    refine List.nodup_cons.mpr ⟨fun q => ?_, List.nodup_cons.mpr ⟨o1, hnd⟩⟩
    rcases List.mem_cons.mp q with e | q
    · rw [e] at l2; exact Nat.lt_irrefl _ l2
    · exact o2 q
  have St := hc.stand
  obtain ⟨env, outer, A₀, base, hA, hfr, hke, B⟩ := St.fr
  have S2 : Stand K (c.A.under (.builtin "type.__call__" ⟨.ref C :: vs, []⟩)) c.g c.L :=
    ⟨St.X, St.top, St.hh, ⟨env, outer, A₀, base, hA, hfr, hke, B⟩⟩
  have R2 : Room (c.A.under (.builtin "type.__call__" ⟨.ref C :: vs, []⟩)) n :=
    ⟨by have := hr.1; show c.A.depth + 1 + 2 * n + 2 ≤ 900; omega, by have := hr.2; show c.A.units + 1 + 12 * n + 30 ≤ 9000; omega⟩
  refine I x _ _ _ _ { s with heap := h' } _ S2 R2 F' O' fun r s' led' n' F'' O'' p => ?_
  exact ⟨p.1, (Near.mk h' s.toks : Near s { s with heap := h' }).trans n', fv, led', ⟨F'', O'', S.N⟩, h x led' p.2⟩
end
end
section
section
variable {prog : Program} {w : World} {K : Frag} {c : Cx prog w K} {fv : FV} {led led' : Led} {a : Addr} {so so' : SO} {h h' : Heap}
theorem St.size (S : St c h fv led) : ∀ raw, News c.g c.L h raw → h.objs.size ∉ raw.map (·.1) := fun raw N q => by
  obtain ⟨p, hp, e⟩ := List.mem_map.mp q
  exact Nat.lt_irrefl _ (e ▸ Heap.lt_size (N p hp).1)
/-- one object more -/
theorem Own.more {g : Heap} {L : Addr} {raw : Raw} {o : Obj} (hR : Rls prog w led raw) (hnd : (raw.map (·.1)).Nodup) (y : Rl prog w a so [(a, o)]) (hb : a ∉ raw.map (·.1)) (N' : News g L h' ((a, o) :: raw)) : Own prog w g L h' ((a, so) :: led) :=
  ⟨(a, o) :: raw, ⟨[(a, o)], raw, rfl, y, hR⟩, List.nodup_cons.mpr ⟨hb, hnd⟩, N'⟩
/-- one object turned -/
theorem St.one (S : St c h fv led) (p : Put a so so' led led') (hone : ∀ ra, Rl prog w a so ra → ∃ o, ra = [(a, o)]) (hs : Heap.SameBut a h h') {o' : Obj} (ho' : h'.get? a = some o') (y : Rl prog w a so' [(a, o')]) : St c h' fv led' := by
  obtain ⟨r1, ra, r2, yr, N, nd, back⟩ := S.O.open p
  obtain ⟨o, rfl⟩ := hone ra yr
  have hm : (a, o) ∈ r1 ++ [(a, o)] ++ r2 := List.mem_append_left _ (List.mem_append_right _ (.head _))
  obtain ⟨ho, hL, hg⟩ := N _ hm
  refine ⟨⟨S.F.ns.sameBut hs (Ne.symm hL), fun b ob e => (hs.2 b fun q => ?_).trans (S.F.keep b ob e), S.F.above⟩, back h' _ y rfl fun q hq => ?_, S.N⟩
  · subst q; rw [hg] at e; cases e
  · have off : ∀ q ∈ r1 ++ r2, q.1 ≠ a := fun q hq e => by
      rw [List.map_append, List.map_append] at nd
      obtain ⟨n12, n3, d3⟩ := List.nodup_append.mp nd
      obtain ⟨n1, n2, d2⟩ := List.nodup_append.mp n12
      rcases List.mem_append.mp hq with hq | hq
      · exact d2 q.1 (List.mem_map_of_mem (f := (·.1)) hq) a (by simp) e
      · exact d3 a (by simp) q.1 (List.mem_map_of_mem (f := (·.1)) hq) e.symm
    have cases_ : q = (a, o') ∨ q ∈ r1 ++ r2 := by
      rcases List.mem_append.mp hq with hq | hq
      · rcases List.mem_append.mp hq with hq | hq
        · exact .inr (List.mem_append_left _ hq)
        · exact .inl (List.mem_singleton.mp hq)
      · exact .inr (List.mem_append_right _ hq)
    rcases cases_ with rfl | hq'
    · exact ⟨ho', hL, hg⟩
    · have hq2 : q ∈ r1 ++ [(a, o)] ++ r2 := by
        rcases List.mem_append.mp hq' with z | z
        · exact List.mem_append_left _ (List.mem_append_left _ z)
        · exact List.mem_append_right _ z
      exact ⟨(hs.2 _ (off q hq')).trans (N q hq2).1, (N q hq2).2⟩
theorem St.lst {vs : List Value} (S : St c h fv led) (m : (a, SO.lst vs) ∈ led) : ∃ n raw, News c.g c.L h raw ∧ (a, listOf vs.toArray n) ∈ raw := by
  obtain ⟨ra, ⟨n, rfl⟩, N⟩ := S.O.at m
  exact ⟨n, _, N, .head _⟩
theorem St.isLst {vs : List Value} (S : St c h fv led) (m : (a, SO.lst vs) ∈ led) : h.IsList a vs.toArray := by
  obtain ⟨n, raw, N, hm⟩ := S.lst m
  exact ⟨_, (N _ hm).1, rfl, n, rfl⟩
theorem St.isTup {vs : List Value} (S : St c h fv led) (m : (a, SO.tup vs) ∈ led) : IsTup h a vs.toArray := by
  obtain ⟨ra, ⟨n, rfl⟩, N⟩ := S.O.at m
  exact ⟨_, (N _ (.head _)).1, rfl, n, rfl⟩
end
section
variable {prog : Program} {w : World} {K : Frag} {c : Cx prog w K} {fv : FV} {led led' : Led} {a : Addr} {vs ws : List Value} {Q : Value → FV → Led → Prop}
theorem ev_newTup (h : ∀ a, Q (.ref a) fv ((a, .tup vs) :: led)) (hsz : vs.length ≤ sizeLine) : EV c (newTuple vs) Q fv led :=
  .mk fun s S => by
    obtain ⟨raw, hR, hnd, N⟩ := S.O
    refine @newTuple_N _ _ _ s c.L c.g _ raw vs _ S.F N (fun h' F' N' => ?_) hsz
    exact ⟨.mk h' s.toks, fv, _, ⟨F', Own.more (so := .tup vs) (a := s.heap.objs.size) hR hnd ⟨0, rfl⟩ (S.size raw N) N', S.N⟩, h _⟩
theorem ev_newLst (h : ∀ a, Q (.ref a) fv ((a, .lst vs) :: led)) (hsz : vs.length ≤ sizeLine) : EV c (newList vs) Q fv led :=
  .mk fun s S => by
    obtain ⟨raw, hR, hnd, N⟩ := S.O
    refine @newList_N _ _ _ s c.L c.g _ raw vs _ S.F N (fun h' F' N' => ?_) hsz
    exact ⟨.mk h' s.toks, fv, _, ⟨F', Own.more (so := .lst vs) (a := s.heap.objs.size) hR hnd ⟨0, rfl⟩ (S.size raw N) N', S.N⟩, h _⟩
theorem ev_listL (m : (a, SO.lst vs) ∈ led) (h : ∀ b, Q (.ref b) fv ((b, .lst vs) :: led)) (hsz : vs.length ≤ sizeLine) : EV c (call (.type "list") [.ref a]) Q fv led :=
  .mk fun s S => by
    obtain ⟨raw, hR, hnd, N⟩ := S.O
    refine @list_copyK _ _ _ _ s c.g c.L _ raw _ a _ S.F N (S.isLst m) (fun D n h' F' N' l => ?_) (by simpa using hsz)
    exact ⟨.mk h' s.toks, fv, _, ⟨F', Own.more (so := .lst vs) (a := D) hR hnd ⟨n, rfl⟩ (fun q => by
      obtain ⟨p, hp, e⟩ := List.mem_map.mp q
      exact Nat.lt_irrefl _ (e ▸ l p hp)) N', S.N⟩, h D⟩
theorem ev_listT (m : (a, SO.tup vs) ∈ led) (h : ∀ b, Q (.ref b) fv ((b, .lst vs) :: led)) (hsz : vs.length ≤ sizeLine) : EV c (call (.type "list") [.ref a]) Q fv led :=
  .mk fun s S => by
    obtain ⟨raw, hR, hnd, N⟩ := S.O
    refine @list_copyKT _ _ _ _ s c.g c.L _ raw _ a _ S.F N (S.isTup m) (fun D n h' F' N' l => ?_) (by simpa using hsz)
    exact ⟨.mk h' s.toks, fv, _, ⟨F', Own.more (so := .lst vs) (a := D) hR hnd ⟨n, rfl⟩ (fun q => by
      obtain ⟨p, hp, e⟩ := List.mem_map.mp q
      exact Nat.lt_irrefl _ (e ▸ l p hp)) N', S.N⟩, h D⟩
theorem ev_len (m : (a, SO.lst vs) ∈ led) (hsz : (vs.length : Int) < 2 ^ 63) (h : ∀ t, Q (.int vs.length t) fv led) : EV c (call (.builtin "len") [.ref a]) Q fv led :=
  .mk fun s S => Calls.call_len_list (S.isLst m) (by simpa using hsz) ⟨.mk s.heap _, fv, led, S, by simpa using h _⟩
theorem ev_tupAt {value slice : Expr} {k : Int} {u : Tok} {j : Nat} {x : Value} (m : (a, SO.tup vs) ∈ led) (hj : seqIndex? k vs.length = some j) (hx : vs[j]? = some x) (h : Q x fv led) (hlo : -(2 ^ 63) ≤ k := by decide) (hhi : k < 2 ^ 63 := by decide)
    (hs : subscripted slice false (.ref a) (.int k u) = operate [.ref a, .int k u] (getItem (.ref a) (.int k u)) := by with_unfolding_all rfl) : EV c (subscriptTail value slice (.ref a) (.int k u)) Q fv led :=
  .mk fun s S => item_tupleT (S.isTup m) hlo hhi hj hx ⟨.refl s, fv, led, S, h⟩ hs
theorem ev_lstAt {value slice : Expr} {k : Int} {u : Tok} {x : Value} (m : (a, SO.lst vs) ∈ led) (h0 : 0 ≤ k) (hhi : k < 2 ^ 63) (hx : vs[k.toNat]? = some x) (h : Q x fv led)
    (hs : subscripted slice false (.ref a) (.int k u) = operate [.ref a, .int k u] (getItem (.ref a) (.int k u)) := by with_unfolding_all rfl) : EV c (subscriptTail value slice (.ref a) (.int k u)) Q fv led :=
  .mk fun s S => tail_any (S.isLst m).typeIs slot_list_getitem.lookup (wpAny_getItem_list (S.isLst m) h0 hhi (by simpa using hx) ⟨.refl s, fv, led, S, h⟩) hs
theorem ev_lstSet {Q : Unit → FV → Led → Prop} {k : Int} {t : Tok} {v : Value} (p : Put a (.lst vs) (.lst (vs.set k.toNat v)) led led') (h0 : 0 ≤ k) (hhi : k < 2 ^ 63) (hn : k < vs.length) (h : Q () fv led') : EV c (setItem (.ref a) (.int k t) v) Q fv led :=
  .mk fun s S => by
    obtain ⟨r1, ra, r2, ⟨n, rfl⟩, N, nd, back⟩ := S.O.open p
    have e1 : ∀ o : Obj, r1 ++ [(a, o)] ++ r2 = r1 ++ (a, o) :: r2 := fun o => by simp
    rw [e1] at N nd
    obtain ⟨pre, post, e2, e3, x1, x2⟩ := (upd_of (o' := listOf (vs.set k.toNat v).toArray n) nd).split
    have z := N (a, listOf vs.toArray n) (List.mem_append.mpr (.inr (.head _)))
    have T := ki_turn (n' := n) (its' := (vs.set k.toNat v).toArray) (fun b : Array Value => b.setIfInBounds k.toNat v) (e2 ▸ N) x1 x2 (by apply Array.toList_inj.mp; simp) (by rw [List.size_toArray, List.size_toArray, List.length_set, beq_self_eq_true, if_pos rfl])
    rw [← e3, ← e1] at T
    refine ki_setAt z.1 h0 hhi (by simpa using hn) ⟨.mk _ s.toks, fv, led', ⟨S.F.change (Heap.SameBut.update ..) z.2.1 z.2.2, back _ [(a, listOf (vs.set k.toNat v).toArray n)] ⟨n, rfl⟩ rfl T, S.N⟩, h⟩
theorem ev_append {v : Value} {id : String} (p : Put a (.lst vs) (.lst (vs ++ [v])) led led') (h : Q .none fv led') (hsz : vs.length ≤ sizeLine) : EV c (call (.builtin "list.append") [.ref a, v]) Q fv led :=
  .mk fun s S => by
    obtain ⟨r1, ra, r2, ⟨n, rfl⟩, N, nd, back⟩ := S.O.open p
    have e1 : ∀ o : Obj, r1 ++ [(a, o)] ++ r2 = r1 ++ (a, o) :: r2 := fun o => by simp
    rw [e1] at N nd
    refine @append_K _ _ _ _ s c.g c.L a _ _ _ vs.toArray n v _ S.F N (upd_of nd) (fun h' F' N' => ?_) (by simpa using hsz)
    rw [← e1] at N'
    exact ⟨.mk h' s.toks, fv, led', ⟨F', back h' [(a, listOf (vs.toArray.push v) (n + 1))] ⟨n + 1, by simp⟩ rfl N', S.N⟩, h⟩
theorem ev_methL {name : Str} {id : String} {pl : Sem Bool} {Q : Value × List Value → FV → Led → Prop} (m : (a, SO.lst vs) ∈ led) (slot : Slot "list" name id) (hty : typeOf (.builtin id) = pure (.type "method_descriptor")) (h : Q (.builtin id, [.ref a]) fv led) :
    EV c (getMethod (.ref a) name pl) Q fv led :=
  .mk fun s S => by
    obtain ⟨n, raw, N, hm⟩ := S.lst m
    exact kl_method N hm slot hty ⟨.refl s, fv, led, S, h⟩
end
end
section
structure GFun (K : Frag) (x : Str) (f : Addr) : Prop where
  ns : nsIn K mainGlobals x = some (some (.ref f))
  keep : keepIn K (.ref f) = true
section
variable {prog : Program} {w : World} {K : Frag} {c : Cx prog w K} {fv fv' : FV} {led : Led} {Q : Value → FV → Led → Prop} {x : Str} {f : Addr} {gs : List Str} {pos np : Pos}
theorem ev_fun (hc : c.Ok) (hg : Globs c gs) {e : Expr} {rest : List Expr} (G : GFun K x f) (m : x ∈ gs) (h : EV c (spliced (backTo pos (starEach (e :: rest) c.env))) (fun vs => EV c (call (.ref f) ([] ++ vs)) Q) fv led)
    (he : starEach (e :: rest) c.env = (false, eval e c.env) :: starEach rest c.env := by rfl) (hplain : (backTo pos (starEach rest c.env)).any (·.1) = false := by rfl) : EV c (eval (.Call (.Name x np) (e :: rest) [] pos) c.env) Q fv led :=
  ev_callN (ev_glob hc hg m G.ns (ev_with hc G.keep h he hplain))
theorem ev_fun0 (hc : c.Ok) (hg : Globs c gs) (G : GFun K x f) (m : x ∈ gs) (h : EV c (call (.ref f) ([] ++ [])) Q fv led) : EV c (eval (.Call (.Name x np) [] [] pos) c.env) Q fv led :=
  ev_callN (ev_glob hc hg m G.ns (ev_with0 hc G.keep h))
end
end
section
section
variable {prog : Program} {w : World} {K : Frag} {c : Cx prog w K} {fv : FV} {led : Led} {pos : Pos}
/-- how a turn ends -/
def Turn (Next : FV → Led → Prop) (Q : Flow → FV → Led → Prop) (f : Flow) (fv : FV) (led : Led) : Prop := match f with
  | .next => Next fv led
  | .cont => Next fv led
  | .brk => Q .next fv led
  | .ret v => Q (.ret v) fv led
theorem turn_next {Next : FV → Led → Prop} {Q : Flow → FV → Led → Prop} (h : Next fv led) : Turn Next Q .next fv led := h
theorem turn_brk {Next : FV → Led → Prop} {Q : Flow → FV → Led → Prop} (h : Q .next fv led) : Turn Next Q .brk fv led := h
theorem turn_ret {Next : FV → Led → Prop} {Q : Flow → FV → Led → Prop} {v : Value} (h : Q (.ret v) fv led) : Turn Next Q (.ret v) fv led := h
theorem noE_noted {s : Shared} {e : Value} {R : Value → Shared → Prop} {env : Env} (x : NoE e s) : notedBy (model prog w) c.A env R e s := x.elim
theorem ev_while {Q : Flow → FV → Led → Prop} {test : Expr} {body : List Stmt} (I : Nat → FV → Led → Prop)
    (turn : ∀ n fv led, I n fv led → EV c (isTrue test c.env (eval test c.env)) (fun b fv led => (b = true → EV c (execs body c.env) (Turn (fun fv led => ∃ m, m < n ∧ I m fv led) Q) fv led) ∧ (b = false → Q .next fv led)) fv led)
    (n : Nat) (h : I n fv led) : EV c (exec (.While test body [] pos) c.env) Q fv led := by
  refine .mk fun s S => wpAny_While ?_
  refine codeAny_whileLoop (fun n s' => Near s s' ∧ ∃ fv led, St c s'.heap fv led ∧ I n fv led) (fun n s1 hI => ?_) n ⟨.refl s, fv, led, S, h⟩
  obtain ⟨n1, fv1, led1, S1, hi⟩ := hI
  refine wpAny_mono ((turn n fv1 led1 hi).run s1 S1) (fun b s2 h2 => ?_) fun _ _ x => x.elim
  obtain ⟨n2, fv2, led2, S2, q⟩ := h2
  cases b with
  | false =>
    show wpAny _ _ (execs [] c.env) _ _ s2
    exact wpAny_execs_nil ⟨n1.trans n2, fv2, led2, S2, q.2 rfl⟩
  | true =>
    show wpAny _ _ (execs body c.env) _ _ s2
    refine wpAny_mono ((q.1 rfl).run s2 S2) (fun f s3 h3 => ?_) fun _ _ x => x.elim
    obtain ⟨n3, fv3, led3, S3, q3⟩ := h3
    cases f with
    | next => obtain ⟨m, hm, hi'⟩ := q3; exact ⟨m, hm, (n1.trans n2).trans n3, fv3, led3, S3, hi'⟩
    | cont => obtain ⟨m, hm, hi'⟩ := q3; exact ⟨m, hm, (n1.trans n2).trans n3, fv3, led3, S3, hi'⟩
    | brk => exact ⟨(n1.trans n2).trans n3, fv3, led3, S3, q3⟩
    | ret v => exact ⟨(n1.trans n2).trans n3, fv3, led3, S3, q3⟩
/-- a for over what an iterator hands out -/
theorem ev_forIt {Q : Flow → FV → Led → Prop} {target iter : Expr} {body : List Stmt} {T : Nat → SO} {n : Nat} (I : Nat → FV → Led → Prop) (it : Addr)
    (turn : ∀ i fv led, i < n → I i fv led → EV c (pyNext (.ref it)) (fun r fv led => ∃ v, r = some v ∧ EV c (letOwnedTupleGo target (.ref it) v) (fun _ => EV c (assign target c.env v) (fun _ => EV c (execs body c.env) (Turn (fun fv led => ∃ led', led = (it, T (i + 1)) :: led' ∧ I (i + 1) fv led') Q))) fv led) fv ((it, T i) :: led))
    (last : ∀ fv led, I n fv led → EV c (pyNext (.ref it)) (fun r fv led => r = none ∧ Q .next fv led) fv ((it, T n) :: led))
    {s0 s : Shared} (n0 : Near s0 s) (S : St c s.heap fv ((it, T 0) :: led)) (h : I 0 fv led) : codeAny (model prog w) c.A (.forLoop target (.ref it) body [] c.env) (fun r s' => match r with | .ok f => After c Q s0 f s' | .error e => cameBackBy (model prog w) c.A c.env NoE e s') s := by
  refine codeAny_forLoop_any (fun k s' => k ≤ n ∧ Near s0 s' ∧ ∃ fv led, St c s'.heap fv ((it, T (n - k)) :: led) ∧ I (n - k) fv led) (fun k s1 hI => ?_) n ⟨Nat.le_refl _, n0, fv, led, by rw [Nat.sub_self]; exact S, by rw [Nat.sub_self]; exact h⟩
  obtain ⟨hk, n1, fv1, led1, S1, hi⟩ := hI
  cases k with
  | zero =>
    rw [Nat.sub_zero] at S1 hi
    refine wpAny_mono ((last fv1 led1 hi).run s1 S1) (fun r s2 h2 => ?_) fun _ _ x => x.elim
    obtain ⟨n2, fv2, led2, S2, rfl, q⟩ := h2
    exact wpAny_execs_nil ⟨n1.trans n2, fv2, led2, S2, q⟩
  | succ k =>
    have hlt : n - (k + 1) < n := by omega
    have e : n - (k + 1) + 1 = n - k := by omega
    refine wpAny_mono ((turn _ fv1 led1 hlt hi).run s1 S1) (fun r s2 h2 => ?_) fun _ _ x => x.elim
    obtain ⟨n2, fv2, led2, S2, v, rfl, q⟩ := h2
    refine wpAny_mono (q.run s2 S2) (fun _ s3 h3 => ?_) fun _ _ x => x.elim
    obtain ⟨n3, fv3, led3, S3, q3⟩ := h3
    refine wpAny_mono (q3.run s3 S3) (fun _ s4 h4 => ?_) fun _ _ x => x.elim
    obtain ⟨n4, fv4, led4, S4, q4⟩ := h4
    refine wpAny_mono (q4.run s4 S4) (fun f s5 h5 => ?_) fun _ _ x => x.elim
    obtain ⟨n5, fv5, led5, S5, q5⟩ := h5
    have nn := (((n1.trans n2).trans n3).trans n4).trans n5
    rw [e] at q5
    cases f with
    | next =>
      obtain ⟨led', rfl, hi'⟩ := q5
      exact ⟨k, Nat.lt_succ_self _, by omega, nn, fv5, led', S5, hi'⟩
    | cont =>
      obtain ⟨led', rfl, hi'⟩ := q5
      exact ⟨k, Nat.lt_succ_self _, by omega, nn, fv5, led', S5, hi'⟩
    | brk => exact ⟨nn, fv5, led5, S5, q5⟩
    | ret v => exact ⟨nn, fv5, led5, S5, q5⟩
end
-- iterators
section
variable {prog : Program} {w : World} {K : Frag} {c : Cx prog w K} {fv : FV} {led led' : Led} {a it : Addr} {vs : List Value} {h h' : Heap}
theorem St.obj {cls : String} (S : St c h fv led) (m : (a, SO.obj cls vs) ∈ led) : ∃ o, h.get? a = some o ∧ o.cls = .type cls ∧ o.data = .fields vs.toArray := by
  obtain ⟨ra, ⟨o, rfl, h1, h2⟩, N⟩ := S.O.at m
  exact ⟨o, (N _ (.head _)).1, h1, h2⟩
/-- an iterator that is through: what else stood stands -/
theorem St.gone {so : SO} (S : St c h fv ((it, so) :: led)) (hone : ∀ ra, Rl prog w it so ra → ∃ o, ra = [(it, o)]) (hs : Heap.ExtBut it h h') : St c h' fv led := by
  obtain ⟨raw, ⟨r1, r2, rfl, y, hR⟩, nd, N⟩ := S.O
  obtain ⟨o, rfl⟩ := hone r1 y
  obtain ⟨ho, hL, hg⟩ := N _ (.head _)
  have nd' := List.nodup_cons.mp nd
  have off : ∀ q ∈ r2, q.1 ≠ it := fun q hq e => nd'.1 (by rw [← e]; exact List.mem_map_of_mem (f := (·.1)) hq)
  refine ⟨⟨S.F.ns.extBut hs (Ne.symm hL), fun b ob e => hs b ob (fun q => ?_) (S.F.keep b ob e), S.F.above⟩, ⟨r2, hR, nd'.2, fun q hq => ⟨hs _ _ (off q hq) (N q (.tail _ hq)).1, (N q (.tail _ hq)).2⟩⟩, S.N⟩
  subst q; rw [hg] at e; cases e
theorem one_obj {cls : String} : ∀ ra, Rl prog w a (SO.obj cls vs) ra → ∃ o, ra = [(a, o)] := fun ra ⟨o, e, _⟩ => ⟨o, e⟩
abbrev itL (l : Addr) (i : Nat) : SO := .obj "list_iterator" [.ref l, .int (i : Nat) 0]
theorem ev_nextL {Q : Option Value → FV → Led → Prop} {l : Addr} {i : Nat} {x : Value} (m : (l, SO.lst vs) ∈ led) (hx : vs[i]? = some x) (h : Q (some x) fv ((it, itL l (i + 1)) :: led)) : EV c (pyNext (.ref it)) Q fv ((it, itL l i) :: led) :=
  .mk fun s S => by
    obtain ⟨o, ho, h1, h2⟩ := S.obj (.head _)
    refine wpAny_pyNext_list_item (l := l) (i := i) (items := vs.toArray) ⟨o, ho, h1, h2⟩ (S.isLst (.tail _ m)) (by simpa using hx) fun h' ⟨o', ho', h1', h2'⟩ hs => ?_
    exact ⟨.mk h' s.toks, fv, _, S.one (so' := itL l (i + 1)) .head one_obj hs ho' ⟨o', rfl, h1', h2'⟩, h⟩
theorem ev_nextLe {Q : Option Value → FV → Led → Prop} {l : Addr} {i : Nat} (hc : c.Ok) (m : (l, SO.lst vs) ∈ led) (hx : vs[i]? = none) (h : Q none fv led) : EV c (pyNext (.ref it)) Q fv ((it, itL l i) :: led) :=
  .mk fun s S => by
    obtain ⟨o, ho, h1, h2⟩ := S.obj (.head _)
    refine wpAny_pyNext_list_end (l := l) (i := i) (items := vs.toArray) hc.hh ⟨o, ho, h1, h2⟩ (S.isLst (.tail _ m)) (by simpa using hx) fun h' hs => ?_
    exact ⟨.mk h' s.toks, fv, led, S.gone one_obj hs, h⟩
theorem ev_for {Q : Flow → FV → Led → Prop} {target iter : Expr} {body : List Stmt} {pos : Pos} (hc : c.Ok) (I : Nat → FV → Led → Prop)
    (src : EV c (eval iter c.env) (fun x fv led => ∃ l vs, x = .ref l ∧ (l, SO.lst vs) ∈ led ∧ I 0 fv led ∧ (∀ i fv led, I i fv led → (l, SO.lst vs) ∈ led) ∧
      (∀ i it x fv led, vs[i]? = some x → I i fv led → EV c (letOwnedTupleGo target (.ref it) x) (fun _ => EV c (assign target c.env x) (fun _ => EV c (execs body c.env) (Turn (fun fv led => ∃ led', led = (it, itL l (i + 1)) :: led' ∧ I (i + 1) fv led') Q))) fv ((it, itL l (i + 1)) :: led)) ∧
      (∀ fv led, I vs.length fv led → Q .next fv led)) fv led) (hf : ∀ x, foldedSetIterable iter c.env x = pure x := by intro _; rfl) : EV c (exec (.For target iter body [] pos) c.env) Q fv led := by
  refine .mk fun s S => wpAny_For (src.into S fun x s1 fv1 led1 n1 S1 q => ?_) hf
  obtain ⟨l, vs, rfl, m, h0, keep, turn, last⟩ := q
  refine wpAny_pyIter_list (S1.isLst m) ?_
  obtain ⟨raw, hR, hnd, N⟩ := S1.O
  have S2 : St c (s1.heap.push { cls := .type "list_iterator", data := .fields #[.ref l, .int 0 0] }) fv1 ((s1.heap.objs.size, itL l 0) :: led1) :=
    ⟨S1.F.push _, Own.more (so := itL l 0) (a := s1.heap.objs.size) hR hnd ⟨_, rfl, rfl, rfl⟩ (S1.size raw N) (N.push S1.F _), S1.N⟩
  refine ev_forIt (T := itL l) (n := vs.length) (iter := iter) I s1.heap.objs.size (fun i fv led hi hI => ?_) (fun fv led hI => ?_) (n1.trans (.mk _ s1.toks)) S2 h0
  · exact ev_nextL (keep i fv led hI) (List.getElem?_eq_getElem hi) ⟨_, rfl, turn i _ _ fv led (List.getElem?_eq_getElem hi) hI⟩
  · exact ev_nextLe hc (keep _ fv led hI) (by simp) ⟨rfl, last fv led hI⟩
end
end
section
section
variable {prog : Program} {w : World} {K : Frag} {c : Cx prog w K} {fv fv' : FV} {led led' : Led} {a b : Addr} {vs ws : List Value} {Q : Value → FV → Led → Prop} {pos : Pos}
-- data compared
def Rd (prog : Program) (w : World) (K : Frag) (led : Led) (v : Value) (d : PyData) : Prop := ∀ (c : Cx prog w K) h fv, St c h fv led → ∃ as, Reads h v d as
theorem Rd.none : Rd prog w K led .none .none := fun _ _ _ _ => ⟨[], .none⟩
theorem Rd.tup {ds : List PyData} (m : (a, SO.tup vs) ∈ led) (r : ∀ h, ReadsAll h vs ds []) : Rd prog w K led (.ref a) (.tuple ds) := fun c h fv S => by
  obtain ⟨o, ho, hc, n, hd⟩ := S.isTup m
  exact ⟨[], .tuple ho hc hd (by rw [List.toList_toArray]; exact r h)⟩
theorem Rd.lst {ds : List PyData} (m : (a, SO.lst vs) ∈ led) (r : ∀ h, ReadsAll h vs ds []) : Rd prog w K led (.ref a) (.list ds) := fun c h fv S => by
  obtain ⟨o, ho, hc, n, hd⟩ := S.isLst m
  exact ⟨[a], .list ho hc hd (by rw [List.toList_toArray]; exact r h)⟩
theorem Room.units {A : Around} {n : Nat} (r : Room A n) : A.units + 64 < cLine := by
  have := r.2
  show A.units + 64 < 9900
  omega
theorem cmp_neD {x y : Value} {dx dy : PyData} {n : Nat} (hr : Room c.A n) (r1 : Rd prog w K led x dx) (r2 : Rd prog w K led y dy) (h1 : SeqAt.shaped dx = true) (h2 : SeqAt.shaped dy = true) (hm : SeqAt.noMix dx dy = true) (h : Q (.bool (!Spec.same dx dy)) fv led) :
    EV c (compareOp .NotEq x y) Q fv led :=
  .mk fun s S => by
    obtain ⟨as, ra⟩ := r1 c _ _ S
    obtain ⟨bs, rb⟩ := r2 c _ _ S
    exact @ne_dataH_same _ _ _ _ _ _ _ _ _ as bs _ ra rb h1 h2 hr.units hm ⟨.refl s, fv, led, S, h⟩
-- unpacking
theorem ev_assignT {Q : Flow → FV → Led → Prop} {elts : List Expr} {k : Nat} {tpos : Pos} {value : Expr} (h : EV c (eval value c.env) (kAsgT c (.Tuple elts k tpos) Q) fv led)
    (h1 : swapsWithSole [.Tuple elts k tpos] value pos.line c.env = pure false := by rfl) (h2 : swappedStores [.Tuple elts k tpos] value c.env = pure none := by rfl) : EV c (exec (.Assign [.Tuple elts k tpos] value pos) c.env) Q fv led :=
  .mk fun _ S => Assign_Tuple (h.into S fun v s1 fv1 led1 n1 S1 q => q.on n1 S1) h1 h2
theorem St.ext {h h' : Heap} (S : St c h fv led) (hs : Heap.ExtBut h.objs.size h h') : St c h' fv led := by
  obtain ⟨raw, hR, hnd, N⟩ := S.O
  refine ⟨⟨S.F.ns.extBut hs (Nat.ne_of_lt S.F.ns.lt), fun b o e => hs b o (Nat.ne_of_lt (Heap.lt_size (S.F.keep b o e))) (S.F.keep b o e), S.F.above⟩, ⟨raw, hR, hnd, fun q hq => ⟨hs _ _ (Nat.ne_of_lt (Heap.lt_size (N q hq).1)) (N q hq).1, (N q hq).2⟩⟩, S.N⟩
theorem ev_asgT {Q : Unit → FV → Led → Prop} {elts : List Expr} {k : Nat} (hc : c.Ok) (m : (a, SO.tup vs) ∈ led) (hn : (assignEach elts c.env).length = vs.length) (hst : (assignEach elts c.env).findIdx? (·.1) = none)
    (h : EV c (assignInOrder ((assignEach elts c.env).map (·.2)) vs) Q fv led) : EV c (assign (.Tuple elts k pos) c.env (.ref a)) Q fv led :=
  .mk fun s S => wpAny_assign_Tuple (items := vs.toArray) hc.hh (by
    obtain ⟨o, ho, h1, n, h2⟩ := S.isTup m
    exact ⟨o, ho, h1, n, h2⟩) (by rw [hn, List.size_toArray]) hst fun h' hs => by
      rw [List.toList_toArray]
      have z := h.run { s with heap := h' } (S.ext hs)
      exact wpAny_mono z (fun _ s' ⟨n, r⟩ => ⟨(Near.mk h' s.toks : Near s { s with heap := h' }).trans n, r⟩) fun _ _ x => x
theorem ev_ordN {Q : Unit → FV → Led → Prop} (h : Q () fv led) : EV c (assignInOrder [] []) Q fv led := .mk fun s S => wpAny_assignInOrder_none ⟨.refl s, fv, led, S, h⟩
theorem ev_ordC {Q : Unit → FV → Led → Prop} {t : Value → Sem Unit} {ts : List (Value → Sem Unit)} {x : Value} {xs : List Value} (h : EV c (t x) (fun _ => EV c (assignInOrder ts xs) Q) fv led) : EV c (assignInOrder (t :: ts) (x :: xs)) Q fv led :=
  .mk fun s S => wpAny_assignInOrder_more (h.into S fun _ s1 _ _ n1 S1 q => q.on n1 S1)
theorem ev_asgN {Q : Unit → FV → Led → Prop} {x : Str} {v : Value} (h : EV c (storeName c.env x v) Q fv led) : EV c (assign (.Name x pos) c.env v) Q fv led := .mk fun s S => wpAny_assign_Name (h.run s S)
theorem ev_bindN {Q : Unit → FV → Led → Prop} {x : Str} {v : Value} (h : EV c (storeName c.env x v) Q fv led) : EV c (bindName c.env x v) Q fv led := .mk fun s S => wpAny_bindName (h.run s S)
theorem blockKind (hc : c.Ok) : c.env.blockKind = .function := by
  obtain ⟨cn, cs, a, ccd, cl, ee, hk⟩ := hc.env
  rw [ee]
  show (if cs.kind.isAnnotationScope then ScopeKind.function else cs.kind) = .function
  rw [hk]; rfl
theorem pos_name {x : Str} {p : Pos} : (Expr.Name x p).pos = p := rfl
theorem pos_tuple {xs : List Expr} {k : Nat} {p : Pos} : (Expr.Tuple xs k p).pos = p := rfl
theorem swap2 (hc : c.Ok) {x1 x2 : Str} {p1 p2 tp vp : Pos} {v1 v2 : Expr} {k k' : Nat} (k1 : c.env.kindOf x1 = some .local) (k2 : c.env.kindOf x2 = some .local) (hne : x1 ≠ x2) (hl : p2.line = p1.line)
    (hs : [v1, v2].any (fun | .Starred .. => true | _ => false) = false) (hf : [v1, v2].all (foldedForSure 8) = false) (hca : [v1, v2].all (constantsAlone 8) = false) :
    swappedStores [.Tuple [.Name x1 p1, .Name x2 p2] k tp] (.Tuple [v1, v2] k' vp) c.env = pure (some [x1, x2]) := by
  have e1 : (x2 == x1) = false := beq_false_of_ne (Ne.symm hne)
  unfold swappedStores
  simp only [blockKind hc, hs, hf, hca]
  simp [pos_name, pos_tuple, k1, k2, hl, List.eraseDups, List.eraseDupsBy, List.eraseDupsBy.loop, e1]
  simp only [List.any_cons, List.any_nil, Bool.or_false, Bool.or_eq_false_iff] at hs
  intro q
  rcases q with q | q
  · exact Bool.noConfusion (q.symm.trans hs.1)
  · exact Bool.noConfusion (q.symm.trans hs.2)
theorem swap3 (hc : c.Ok) {x1 x2 x3 : Str} {p1 p2 p3 tp vp : Pos} {v1 v2 v3 : Expr} {k k' : Nat} (k1 : c.env.kindOf x1 = some .local) (k2 : c.env.kindOf x2 = some .local) (k3 : c.env.kindOf x3 = some .local) (hne : x1 ≠ x2) (hne2 : x1 ≠ x3) (hne3 : x2 ≠ x3) (hl : p2.line = p1.line) (hl3 : p3.line = p1.line)
    (hs : [v1, v2, v3].any (fun | .Starred .. => true | _ => false) = false) (hf : [v1, v2, v3].all (foldedForSure 8) = false) (hca : [v1, v2, v3].all (constantsAlone 8) = false) :
    swappedStores [.Tuple [.Name x1 p1, .Name x2 p2, .Name x3 p3] k tp] (.Tuple [v1, v2, v3] k' vp) c.env = pure (some [x1, x2, x3]) := by
  have e1 : (x2 == x1) = false := beq_false_of_ne (Ne.symm hne)
  have e2 : (x3 == x1) = false := beq_false_of_ne (Ne.symm hne2)
  have e3 : (x3 == x2) = false := beq_false_of_ne (Ne.symm hne3)
  unfold swappedStores
  simp only [blockKind hc, hs, hf, hca]
  simp [pos_name, pos_tuple, k1, k2, k3, hl, hl3, List.eraseDups, List.eraseDupsBy, List.eraseDupsBy.loop, e1, e2, e3]
  simp only [List.any_cons, List.any_nil, Bool.or_false, Bool.or_eq_false_iff] at hs
  intro q
  rcases q with q | q | q
  · exact Bool.noConfusion (q.symm.trans hs.1)
  · exact Bool.noConfusion (q.symm.trans hs.2.1)
  · exact Bool.noConfusion (q.symm.trans hs.2.2)
theorem ev_unpack {Q : List Value → FV → Led → Prop} {n : Nat} (hc : c.Ok) (m : (a, SO.tup vs) ∈ led) (hn : n = vs.length) (h : Q vs fv led) : EV c (unpackItems (.ref a) n none) Q fv led :=
  .mk fun s S => by
    obtain ⟨raw, hR, hnd, N⟩ := S.O
    refine @unpackItemsN_ _ _ _ _ s c.g c.L _ raw a vs.toArray n _ S.F N (S.isTup m) hc.hh (by rw [hn, List.size_toArray]) fun h' F' N' => ?_
    rw [List.toList_toArray]
    exact ⟨.mk h' s.toks, fv, led, ⟨F', ⟨raw, hR, hnd, N'⟩, S.N⟩, h⟩
theorem ev_swap {Q : Flow → FV → Led → Prop} {elts : List Expr} {k : Nat} {tpos : Pos} {value : Expr} {names : List Str} (hsw : swappedStores [.Tuple elts k tpos] value c.env = pure (some names))
    (h : EV c (eval value c.env) (fun v => EV c (unpackItems v names.length none) (fun items => EV c (assignInOrder (names.reverse.map fun n => bindName c.env n) items.reverse) (fun _ => Q .next))) fv led)
    (h1 : swapsWithSole [.Tuple elts k tpos] value pos.line c.env = pure false := by rfl) : EV c (exec (.Assign [.Tuple elts k tpos] value pos) c.env) Q fv led :=
  .mk fun _ S => Assign_Tuple_swapped (h.into S fun v s1 fv1 led1 n1 S1 q => q.into S1 fun items s2 fv2 led2 n2 S2 q2 => q2.on (n1.trans n2) S2) h1 hsw
-- joining
theorem op_catT (m1 : (a, SO.tup vs) ∈ led) (m2 : (b, SO.tup ws) ∈ led) (hv : vs ≠ []) (hw : ws ≠ []) (h : ∀ d, Q (.ref d) fv ((d, .tup (vs ++ ws)) :: led)) (hsz : vs.length + ws.length ≤ sizeLine) : EV c (binaryOp .Add (.ref a) (.ref b)) Q fv led :=
  .mk fun s S => by
    obtain ⟨raw, hR, hnd, N⟩ := S.O
    refine @add_tuples _ _ _ _ s c.g c.L _ raw a b vs ws _ S.F N (S.isTup m1) (S.isTup m2) (fun e => absurd e hv) (fun _ e => absurd e hw) (fun _ _ h' F' N' => ?_) hsz
    exact ⟨.mk h' s.toks, fv, _, ⟨F', Own.more (so := .tup (vs ++ ws)) (a := s.heap.objs.size) hR hnd ⟨0, rfl⟩ (S.size raw N) N', S.N⟩, h _⟩
theorem op_catL (m1 : (a, SO.lst vs) ∈ led) (m2 : (b, SO.lst ws) ∈ led) (h : ∀ d, Q (.ref d) fv ((d, .lst (vs ++ ws)) :: led)) (hsz : vs.length + ws.length ≤ sizeLine) : EV c (binaryOp .Add (.ref a) (.ref b)) Q fv led :=
  .mk fun s S => by
    obtain ⟨raw, hR, hnd, N⟩ := S.O
    refine @add_arrays _ _ _ _ s c.g c.L _ raw a b vs.toArray ws.toArray _ S.F N (S.isLst m1) (S.isLst m2) (fun h' F' N' => ?_) (by simpa using hsz)
    exact ⟨.mk h' s.toks, fv, _, ⟨F', Own.more (so := .lst (vs ++ ws)) (a := s.heap.objs.size) hR hnd ⟨0, by simp⟩ (S.size raw N) N', S.N⟩, h _⟩
theorem ev_tupL (m : (a, SO.lst vs) ∈ led) (h : ∀ b, Q (.ref b) fv ((b, .tup vs) :: led)) (hsz : vs.length ≤ sizeLine) : EV c (call (.type "tuple") [.ref a]) Q fv led :=
  .mk fun s S => by
    obtain ⟨raw, hR, hnd, N⟩ := S.O
    refine call_tuple_list (S.isLst m) (fun h' hk => ?_) (by rw [List.size_toArray]; exact hsz)
    have F' : Fr c.g c.L h' (fr fv) := S.F.keeps hk
    have N' : News c.g c.L h' raw := fun p hp => ⟨hk _ _ (N p hp).1, (N p hp).2⟩
    exact ⟨.mk _ s.toks, fv, _, ⟨F'.push _, Own.more (so := .tup vs) (a := h'.objs.size) hR hnd ⟨0, rfl⟩ (fun q => by
      obtain ⟨p, hp, e⟩ := List.mem_map.mp q
      exact Nat.lt_irrefl _ (e ▸ Heap.lt_size (N' p hp).1)) (N'.push F' _), S.N⟩, h _⟩
-- dicts of int keys
theorem St.dct {kvs : List (Int × Value)} {h : Heap} (S : St c h fv led) (m : (a, SO.dct kvs) ∈ led) : ∃ o raw, News c.g c.L h raw ∧ (a, o) ∈ raw ∧ o.IsDictOf (intKind prog w) kvs ∧ (a == sysModules) = false := by
  obtain ⟨ra, ⟨o, rfl, h1, h2⟩, N⟩ := S.O.at m
  exact ⟨o, _, N, .head _, h1, h2⟩
theorem ev_dctNew (hc : c.Ok) (h : ∀ d, Q (.ref d) fv ((d, .dct []) :: led)) : EV c (eval (.Dict [] [] pos) c.env) Q fv led :=
  .mk fun s S => by
    obtain ⟨raw, hR, hnd, N⟩ := S.O
    obtain ⟨p, loose, mean, mg, mb, T⟩ := hc.top
    refine @newDict_K _ _ _ _ s c.g c.L _ raw c.env pos _ S.F N T.nolimit fun d h' o F' N' l lo _ _ hd _ => ?_
    exact ⟨.mk h' s.toks, fv, _, ⟨F', Own.more (so := .dct []) (a := d) hR hnd ⟨o, rfl, hd, lo⟩ (fun q => by
      obtain ⟨p, hp, e⟩ := List.mem_map.mp q
      exact Nat.lt_irrefl _ (e ▸ l p hp)) N', S.N⟩, h d⟩
theorem one_dct {kvs : List (Int × Value)} : ∀ ra, Rl prog w a (SO.dct kvs) ra → ∃ o, ra = [(a, o)] := fun ra ⟨o, e, _⟩ => ⟨o, e⟩
theorem ev_dctSet {Q : Unit → FV → Led → Prop} {kvs : List (Int × Value)} {k : Int} {t : Tok} {v : Value} (m : (a, SO.dct kvs) ∈ led) (p : Put a (.dct kvs) (.dct (stored kvs k v)) led led') (h : Q () fv led') (hsz : kvs.length ≤ sizeLine) : EV c (setItem (.ref a) (.int k t) v) Q fv led :=
  .mk fun s S => by
    obtain ⟨o, raw, N, hm, hd, lo⟩ := S.dct m
    refine wpAny_setItem_pairs (knd := intKind prog w) (k := k) (intKind_is prog w k t) (Heap.dictOf_iff.mpr ⟨o, (N _ hm).1, hd⟩) (fun h' hD hs => ?_) hsz
    obtain ⟨o', ho', hd'⟩ := Heap.dictOf_iff.mp hD
    exact ⟨.mk h' _, fv, led', S.one p one_dct hs ho' ⟨o', rfl, hd', lo⟩, h⟩
theorem cmp_notinD {kvs : List (Int × Value)} {k : Int} {t : Tok} (m : (a, SO.dct kvs) ∈ led) (h : Q (.bool (!(valueAt kvs k).isSome)) fv led) : EV c (compareOp .NotIn (.int k t) (.ref a)) Q fv led :=
  .mk fun s S => by
    obtain ⟨o, raw, N, hm, hd, lo⟩ := S.dct m
    exact kdg_notin (knd := intKind prog w) (k := k) N hm hd lo (intKind_is prog w k t) _ rfl ⟨.mk s.heap _, fv, led, S, h⟩
theorem ev_dctGet {kvs : List (Int × Value)} {k : Int} {t : Tok} {d : Value} (m : (a, SO.dct kvs) ∈ led) (h : Q ((valueAt kvs k).getD d) fv led) : EV c (call (.builtin "dict.get") [.ref a, .int k t, d]) Q fv led :=
  .mk fun s S => by
    obtain ⟨o, raw, N, hm, hd, lo⟩ := S.dct m
    exact kdg_get2 (knd := intKind prog w) (k := k) N hm hd lo (intKind_is prog w k t) _ rfl ⟨.mk s.heap _, fv, led, S, h⟩
theorem ev_methD {kvs : List (Int × Value)} {pl : Sem Bool} {Q : Value × List Value → FV → Led → Prop} (m : (a, SO.dct kvs) ∈ led) (h : Q (.builtin "dict.get", [.ref a]) fv led) : EV c (getMethod (.ref a) "get" pl) Q fv led :=
  .mk fun s S => by
    obtain ⟨o, raw, N, hm, hd, lo⟩ := S.dct m
    exact kdg_method (knd := intKind prog w) N hm hd ⟨.refl s, fv, led, S, h⟩
theorem ev_dctAt {kvs : List (Int × Value)} {value slice : Expr} {k : Int} {t : Tok} {v : Value} (m : (a, SO.dct kvs) ∈ led) (hv : valueAt kvs k = some v) (h : Q v fv led)
    (hs : subscripted slice false (.ref a) (.int k t) = operate [.ref a, .int k t] (getItem (.ref a) (.int k t)) := by with_unfolding_all rfl) (hg : ∀ r, letTemporaryGo value (.ref a) r = pure () := by intro _; with_unfolding_all rfl) : EV c (subscriptTail value slice (.ref a) (.int k t)) Q fv led :=
  .mk fun s S => by
    obtain ⟨o, raw, N, hm, hd, lo⟩ := S.dct m
    exact kda_item (knd := intKind prog w) (k := k) N hm hd (intKind_is prog w k t) hv ⟨.mk s.heap _, fv, led, S, h⟩ hs hg
-- lists shortened and extended
theorem ev_pop0 {v : Value} {u : Tok} (p : Put a (.lst (v :: vs)) (.lst vs) led led') (h : Q v fv led') (hsz : (v :: vs).length ≤ sizeLine) : EV c (call (.builtin "list.pop") [.ref a, .int 0 u]) Q fv led :=
  .mk fun s S => by
    obtain ⟨r1, ra, r2, ⟨n, rfl⟩, N, nd, back⟩ := S.O.open p
    have e1 : ∀ o : Obj, r1 ++ [(a, o)] ++ r2 = r1 ++ (a, o) :: r2 := fun o => by simp
    rw [e1] at N nd
    refine @kl_popAt _ _ _ _ s c.g c.L a _ _ _ (v :: vs).toArray n 0 u 0 [] vs v _ S.F N (by decide) (by simp [seqIndex?]) rfl (upd_of nd) hsz (fun h' F' N' => ?_)
    rw [← e1] at N'
    exact ⟨.mk h' s.toks, fv, led', ⟨F', back h' [(a, listOf vs.toArray (n + 1))] ⟨n + 1, rfl⟩ rfl N', S.N⟩, h⟩
theorem ev_extend (hne : ws ≠ []) (m : (b, SO.lst ws) ∈ led) (hab : a ≠ b) (p : Put a (.lst vs) (.lst (vs ++ ws)) led led') (h : Q .none fv led') (hsz : vs.length + ws.length ≤ 1000000) : EV c (call (.builtin "list.extend") [.ref a, .ref b]) Q fv led :=
  .mk fun s S => by
    obtain ⟨r1, ra, r2, ⟨n, rfl⟩, N, nd, back⟩ := S.O.open p
    have e1 : ∀ o : Obj, r1 ++ [(a, o)] ++ r2 = r1 ++ (a, o) :: r2 := fun o => by simp
    rw [e1] at N nd
    obtain ⟨n2, raw2, N2, hm2⟩ := S.lst m
    have off : ∀ q ∈ r1 ++ r2, q.1 ≠ a := fun q hq e => by
      rw [List.map_append] at nd
      obtain ⟨n1, n3, d3⟩ := List.nodup_append.mp nd
      rcases List.mem_append.mp hq with hq | hq
      · exact d3 q.1 (List.mem_map_of_mem (f := (·.1)) hq) a (.head _) e
      · refine (List.nodup_cons.mp n3).1 ?_
        show a ∈ _
        rw [← e]
        exact List.mem_map_of_mem (f := (·.1)) hq
    have U : ∀ (P : Raw), (∀ q ∈ P, q.1 ≠ a) → ∀ (R : Raw), (∀ q ∈ R, q.1 ≠ a) → W.Upd a (listOf vs.toArray n) (listOf (vs ++ ws).toArray (n + 1)) (P ++ (a, listOf vs.toArray n) :: R) (P ++ (a, listOf (vs ++ ws).toArray (n + 1)) :: R) := by
      intro P hP R hR
      induction P with
      | nil => exact .head hR
      | cons q P ih => exact .tail (hP q (.head _)) (ih fun x hx => hP x (.tail _ hx))
    have N3 : News c.g c.L s.heap (r1 ++ (a, listOf vs.toArray n) :: (r2 ++ [(b, listOf ws.toArray n2)])) := fun q hq => by
      rcases List.mem_append.mp hq with hq | hq
      · exact N q (List.mem_append_left _ hq)
      · rcases List.mem_cons.mp hq with rfl | hq
        · exact N _ (List.mem_append_right _ (.head _))
        · rcases List.mem_append.mp hq with hq | hq
          · exact N q (List.mem_append_right _ (.tail _ hq))
          · rw [List.mem_singleton.mp hq]; exact N2 _ hm2
    have hz : sizeLine = 16777216 := by decide
    have hw : ws.length ≠ 0 := fun e => hne (List.length_eq_zero_iff.mp e)
    refine @kl_extend _ _ _ _ s c.g c.L a b _ _ _ vs.toArray ws.toArray n n2 (vs ++ ws) _ S.F N3 (List.mem_append_right _ (.tail _ (List.mem_append_right _ (.head _)))) (by simp) (by simpa using hw)
      (U r1 (fun q hq => off q (List.mem_append_left _ hq)) _ (fun q hq => ?_)) ?_ (by simp; omega) (by simp; omega) (fun h' F' N' => ?_)
    · rcases List.mem_append.mp hq with hq | hq
      · exact off q (List.mem_append_right _ hq)
      · rw [List.mem_singleton.mp hq]; exact Ne.symm hab
    · intro q
      have q2 := (Bool.and_eq_true_iff.mp q).2
      have q3 : sizeLine < vs.toArray.size + ws.toArray.size := of_decide_eq_true q2
      simp at q3
      omega
    · have N4 : News c.g c.L h' (r1 ++ (a, listOf (vs ++ ws).toArray (n + 1)) :: r2) := fun q hq => N' q (by
        rcases List.mem_append.mp hq with hq | hq
        · exact List.mem_append_left _ hq
        · rcases List.mem_cons.mp hq with rfl | hq
          · exact List.mem_append_right _ (.head _)
          · exact List.mem_append_right _ (.tail _ (List.mem_append_left _ hq)))
      rw [← e1] at N4
      exact ⟨.mk h' s.toks, fv, led', ⟨F', back h' [(a, listOf (vs ++ ws).toArray (n + 1))] ⟨n + 1, rfl⟩ rfl N4, S.N⟩, h⟩
end
end
section
theorem Room.le {A : Around} {n m : Nat} (r : Room A n) (h : m ≤ n) : Room A m := ⟨by have := r.1; omega, by have := r.2; omega⟩
section
variable {prog : Program} {w : World} {K : Frag} {c : Cx prog w K} {fv fv' : FV} {led led' : Led} {f x0 x1 x2 x3 x4 : Value} {Q : Value → FV → Led → Prop} {a : Addr} {i : Int} {t : Tok} {x : Str} {b : Bool}
theorem ev_app0 (h : EV c (call f []) Q fv led) : EV c (call f ([] ++ [])) Q fv led := h
theorem ev_app1 (h : EV c (call f [x1]) Q fv led) : EV c (call f ([] ++ [x1])) Q fv led := h
theorem ev_app2 (h : EV c (call f [x1, x2]) Q fv led) : EV c (call f ([] ++ [x1, x2])) Q fv led := h
theorem ev_app3 (h : EV c (call f [x1, x2, x3]) Q fv led) : EV c (call f ([] ++ [x1, x2, x3])) Q fv led := h
theorem ev_app4 (h : EV c (call f [x1, x2, x3, x4]) Q fv led) : EV c (call f ([] ++ [x1, x2, x3, x4])) Q fv led := h
theorem ev_app10 (h : EV c (call f [x0]) Q fv led) : EV c (call f ([x0] ++ [])) Q fv led := h
theorem ev_app11 (h : EV c (call f [x0, x1]) Q fv led) : EV c (call f ([x0] ++ [x1])) Q fv led := h
theorem ev_app12 (h : EV c (call f [x0, x1, x2]) Q fv led) : EV c (call f ([x0] ++ [x1, x2])) Q fv led := h
theorem ev_app13 (h : EV c (call f [x0, x1, x2, x3]) Q fv led) : EV c (call f ([x0] ++ [x1, x2, x3])) Q fv led := h
theorem is_nn (h : Q (.bool true) fv led) : EV c (compareOp .Is .none .none) Q fv led := cmp_is h
theorem is_rn (h : Q (.bool false) fv led) : EV c (compareOp .Is (.ref a) .none) Q fv led := cmp_is h
theorem is_in (h : Q (.bool false) fv led) : EV c (compareOp .Is (.int i t) .none) Q fv led := cmp_is h
theorem is_sn (h : Q (.bool false) fv led) : EV c (compareOp .Is (.str x t) .none) Q fv led := cmp_is h
theorem isnt_nn (h : Q (.bool false) fv led) : EV c (compareOp .IsNot .none .none) Q fv led := cmp_isnt h
theorem isnt_rn (h : Q (.bool true) fv led) : EV c (compareOp .IsNot (.ref a) .none) Q fv led := cmp_isnt h
theorem isnt_in (h : Q (.bool true) fv led) : EV c (compareOp .IsNot (.int i t) .none) Q fv led := cmp_isnt h
theorem isnt_sn (h : Q (.bool true) fv led) : EV c (compareOp .IsNot (.str x t) .none) Q fv led := cmp_isnt h
theorem ev_const {gs : List Str} {y : Str} {pos : Pos} {v : Value} (hc : c.Ok) (hg : Globs c gs) (m : y ∈ gs) (e : nsIn K mainGlobals y = some (some v)) (h : Q v fv led) : EV c (eval (.Name y pos) c.env) Q fv led := ev_glob hc hg m e h
theorem neg_const {k : Int} {p1 p2 : Pos} {j : Nat} (h : ∀ t, Q (.int (-k) t) fv led) : EV c (eval (.UnaryOp .USub (.Constant (.int k) j p1) p2) c.env) Q fv led := ev_unop (ev_int fun t => op_neg fun t => h t)
theorem tst_t {P R : Prop} (h : P) : ((true = true → P) ∧ (true = false → R)) := ⟨fun _ => h, fun e => Bool.noConfusion e⟩
theorem tst_f {P R : Prop} (h : R) : ((false = true → P) ∧ (false = false → R)) := ⟨fun e => Bool.noConfusion e, fun _ => h⟩
theorem tst_nt {P R : Prop} (h : R) : (((!true) = true → P) ∧ ((!true) = false → R)) := ⟨fun e => Bool.noConfusion e, fun _ => h⟩
theorem tst_nf {P R : Prop} (h : P) : (((!false) = true → P) ∧ ((!false) = false → R)) := ⟨fun _ => h, fun e => Bool.noConfusion e⟩
theorem ev_tCall {Q : Bool → FV → Led → Prop} {whole : Sem Value} {f : Expr} {as : List Expr} {ks : List Keyword} {p : Pos} (h : EV c whole (kTr c Q) fv led) : EV c (isTrue (.Call f as ks p) c.env whole) Q fv led := ev_tVal h
theorem ev_tAttr {Q : Bool → FV → Led → Prop} {whole : Sem Value} {f : Expr} {n : Str} {p : Pos} (h : EV c whole (kTr c Q) fv led) : EV c (isTrue (.Attribute f n p) c.env whole) Q fv led := ev_tVal h
theorem ev_tName {Q : Bool → FV → Led → Prop} {whole : Sem Value} {n : Str} {p : Pos} (h : EV c whole (kTr c Q) fv led) : EV c (isTrue (.Name n p) c.env whole) Q fv led := ev_tVal h
theorem ev_callM2 {o : Expr} {name : Str} {ap pos : Pos} {args : List Expr} (h : EV c (eval o c.env) (kMeth1 c name (do return (← importBound o c.env).getD true) pos args Q) fv led)
    (hb : attributeBase o name c.env (eval o c.env) = eval o c.env) (hf : methodCallForm args.length (backTo pos (starEach args c.env)) [] = true) (hl : (ap.endLine == pos.line) = true) : EV c (eval (.Call (.Attribute o name ap) args [] pos) c.env) Q fv led := by
  refine .mk fun s S => ?_
  rw [arm_eval_Call, hb]
  refine wpAny_bind (h.into S fun ov s1 _ _ n1 S1 q => wpAny_bind (wpAny_standAt ?_))
  show wpAny _ _ (methodCall o name ap pos c.env ov (args.length + 0) (backTo pos (starEach args c.env)) []) _ _ _
  unfold methodCall
  rw [Nat.add_zero, hf]
  refine wpAny_bind (wpAny_holding (q.into S1 fun fx s2 _ _ n2 S2 q2 => ?_))
  have e : methodCallPos true o c.env ap pos = pure pos := by
    unfold methodCallPos
    rw [hl]; rfl
  rw [e]
  exact wpAny_bind (wpAny_pure (q2.on (n1.trans n2) S2))
theorem ab_name {n name : Str} {p : Pos} {env : Env} {x : Sem Value} : attributeBase (.Name n p) name env x = x := rfl
theorem ab_attr {v : Expr} {n name : Str} {p : Pos} {env : Env} {x : Sem Value} : attributeBase (.Attribute v n p) name env x = x := rfl
theorem ab_sub {v i : Expr} {name : Str} {p : Pos} {env : Env} {x : Sem Value} : attributeBase (.Subscript v i p) name env x = x := rfl
theorem ab_const {k : Const} {j : Nat} {name : Str} {p : Pos} {env : Env} {x : Sem Value} : attributeBase (.Constant k j p) name env x = x := rfl
theorem ab_call {f n name : Str} {a : Expr} {as : List Expr} {ks : List Keyword} {np p : Pos} {env : Env} {x : Sem Value} : attributeBase (.Call (.Name f np) (a :: as) ks p) name env x = x := rfl
theorem ev_callV {n k : Nat} {g : Addr} {vs : List Value} {V : Value} (hc : c.Ok) (hr : Room c.A n) (hk : k ≤ n) (C : Calls prog w K k g vs led (fun r led' => r = V ∧ led' = led)) (h : Q V fv led) : EV c (call (.ref g) vs) Q fv led :=
  ev_call hc (hr.le hk) C fun r led' p => by obtain ⟨rfl, rfl⟩ := p; exact h
theorem ev_callI {n k : Nat} {g : Addr} {vs : List Value} {V : Int} (hc : c.Ok) (hr : Room c.A n) (hk : k ≤ n) (C : Calls prog w K k g vs led (fun r led' => (∃ t, r = .int V t) ∧ led' = led)) (h : ∀ t, Q (.int V t) fv led) : EV c (call (.ref g) vs) Q fv led :=
  ev_call hc (hr.le hk) C fun r led' p => by obtain ⟨⟨t, rfl⟩, rfl⟩ := p; exact h t
theorem ev_callS {n k : Nat} {g : Addr} {vs : List Value} {V : Str} (hc : c.Ok) (hr : Room c.A n) (hk : k ≤ n) (C : Calls prog w K k g vs led (fun r led' => (∃ t, r = .str V t) ∧ led' = led)) (h : ∀ t, Q (.str V t) fv led) : EV c (call (.ref g) vs) Q fv led :=
  ev_call hc (hr.le hk) C fun r led' p => by obtain ⟨⟨t, rfl⟩, rfl⟩ := p; exact h t
theorem ev_callG {n k : Nat} {g : Addr} {vs : List Value} {post : Value → Led → Prop} (hc : c.Ok) (hr : Room c.A n) (hk : k ≤ n) (C : Calls prog w K k g vs led post) (h : ∀ r led', post r led' → Q r fv led') : EV c (call (.ref g) vs) Q fv led :=
  ev_call hc (hr.le hk) C h
end
end
section
section
variable {prog : Program} {w : World} {K : Frag} {c : Cx prog w K} {fv fv' : FV} {led led' : Led} {a it : Addr} {vs : List Value} {h h' : Heap} {pos : Pos} {Q : Value → FV → Led → Prop}
theorem St.keeps (S : St c h fv led) (hk : ∀ b o, h.get? b = some o → h'.get? b = some o) : St c h' fv led := by
  obtain ⟨raw, hR, hnd, N⟩ := S.O
  exact ⟨S.F.keeps hk, ⟨raw, hR, hnd, fun q hq => ⟨hk _ _ (N q hq).1, (N q hq).2⟩⟩, S.N⟩
theorem St.push (S : St c h fv led) (o : Obj) : St c (h.push o) fv led := S.keeps fun _ _ e => Heap.get?_push_of_some _ e
theorem St.pushed {so : SO} (S : St c h fv led) (o : Obj) (y : Rl prog w h.objs.size so [(h.objs.size, o)]) (hd : o.isFreed = false := by rfl) : St c (h.push o) fv ((h.objs.size, so) :: led) := by
  obtain ⟨raw, hR, hnd, N⟩ := S.O
  exact ⟨S.F.push _, Own.more (so := so) (a := h.objs.size) hR hnd y (S.size raw N) (N.push S.F _ hd), S.N⟩
theorem St.keepsBut (S : St c h fv led) {I : Addr} (hI : ∀ b o, h.get? b = some o → b ≠ I) (hk : ∀ b o, b ∉ [I] → h.get? b = some o → h'.get? b = some o) : St c h' fv led :=
  S.keeps fun b o e => hk b o (fun q => hI b o e (List.mem_singleton.mp q)) e
-- strings handed out sign by sign
abbrev itS (x : Str) (t : Tok) (i : Nat) : SO := .obj "str_ascii_iterator" [.str x t, .int (i : Nat) 0]
theorem ev_nextS {Q : Option Value → FV → Led → Prop} {x : Str} {t : Tok} {i ch : Nat} (hx : x.cps[i]? = some ch) (h : ∀ u, Q (some (.str ⟨#[ch]⟩ u)) fv ((it, itS x t (i + 1)) :: led)) : EV c (pyNext (.ref it)) Q fv ((it, itS x t i) :: led) :=
  .mk fun s S => by
    obtain ⟨o, ho, h1, h2⟩ := S.obj (.head _)
    refine wpAny_pyNext_ascii_item (x := x) (t := t) (i := i) ⟨o, ho, h1, h2⟩ hx fun h' ⟨o', ho', h1', h2'⟩ hs => ?_
    exact ⟨.mk h' _, fv, _, S.one (so' := itS x t (i + 1)) .head one_obj hs ho' ⟨o', rfl, h1', h2'⟩, h _⟩
theorem ev_nextSe {Q : Option Value → FV → Led → Prop} {x : Str} {t : Tok} {i : Nat} (hc : c.Ok) (hx : x.cps[i]? = none) (h : Q none fv led) : EV c (pyNext (.ref it)) Q fv ((it, itS x t i) :: led) :=
  .mk fun s S => by
    obtain ⟨o, ho, h1, h2⟩ := S.obj (.head _)
    refine wpAny_pyNext_ascii_end (x := x) (t := t) (i := i) hc.hh ⟨o, ho, h1, h2⟩ hx fun h' hs => ?_
    exact ⟨.mk h' s.toks, fv, led, S.gone one_obj hs, h⟩
theorem ev_forS {Q : Flow → FV → Led → Prop} {target iter : Expr} {body : List Stmt} {pos : Pos} (hc : c.Ok) (I : Nat → FV → Led → Prop)
    (src : EV c (eval iter c.env) (fun x fv led => ∃ y t, x = .str y t ∧ y.cps.all (· < 128) = true ∧ I 0 fv led ∧
      (∀ i it ch fv led, y.cps[i]? = some ch → I i fv led → ∀ u, EV c (letOwnedTupleGo target (.ref it) (.str ⟨#[ch]⟩ u)) (fun _ => EV c (assign target c.env (.str ⟨#[ch]⟩ u)) (fun _ => EV c (execs body c.env) (Turn (fun fv led => ∃ led', led = (it, itS y t (i + 1)) :: led' ∧ I (i + 1) fv led') Q))) fv ((it, itS y t (i + 1)) :: led)) ∧
      (∀ fv led, I y.cps.size fv led → Q .next fv led)) fv led) (hf : ∀ x, foldedSetIterable iter c.env x = pure x := by intro _; rfl) : EV c (exec (.For target iter body [] pos) c.env) Q fv led := by
  refine .mk fun s S => wpAny_For (src.into S fun x s1 fv1 led1 n1 S1 q => ?_) hf
  obtain ⟨y, t, rfl, ha, h0, turn, last⟩ := q
  refine wpAny_pyIter_ascii ha ?_
  have S2 := S1.pushed (so := itS y t 0) { cls := .type "str_ascii_iterator", data := .fields #[.str y t, .int 0 0] } ⟨_, rfl, rfl, rfl⟩
  refine ev_forIt (T := itS y t) (n := y.cps.size) (iter := iter) I s1.heap.objs.size (fun i fv led hi hI => ?_) (fun fv led hI => ?_) (n1.trans (.mk _ s1.toks)) S2 h0
  · exact ev_nextS (Array.getElem?_eq_getElem hi) fun u => ⟨_, rfl, turn i _ _ fv led (Array.getElem?_eq_getElem hi) hI u⟩
  · exact ev_nextSe hc (by simp) ⟨rfl, last fv led hI⟩
-- tuples handed out
abbrev itT (l : Addr) (i : Nat) : SO := .obj "tuple_iterator" [.ref l, .int (i : Nat) 0]
theorem St.isTuple {vs : List Value} (S : St c h fv led) (m : (a, SO.tup vs) ∈ led) : h.IsTuple a vs.toArray := by
  obtain ⟨o, h1, h2, n, h3⟩ := S.isTup m
  exact ⟨o, h1, h2, n, h3⟩
theorem ev_nextT {Q : Option Value → FV → Led → Prop} {l : Addr} {i : Nat} {x : Value} (m : (l, SO.tup vs) ∈ led) (hx : vs[i]? = some x) (h : Q (some x) fv ((it, itT l (i + 1)) :: led)) : EV c (pyNext (.ref it)) Q fv ((it, itT l i) :: led) :=
  .mk fun s S => by
    obtain ⟨o, ho, h1, h2⟩ := S.obj (.head _)
    refine wpAny_pyNext_tuple_item (t := l) (i := i) (items := vs.toArray) ⟨o, ho, h1, h2⟩ (S.isTuple (.tail _ m)) (by simpa using hx) fun h' ⟨o', ho', h1', h2'⟩ hs => ?_
    exact ⟨.mk h' s.toks, fv, _, S.one (so' := itT l (i + 1)) .head one_obj hs ho' ⟨o', rfl, h1', h2'⟩, h⟩
theorem ev_nextTe {Q : Option Value → FV → Led → Prop} {l : Addr} {i : Nat} (hc : c.Ok) (m : (l, SO.tup vs) ∈ led) (hx : vs[i]? = none) (h : Q none fv led) : EV c (pyNext (.ref it)) Q fv ((it, itT l i) :: led) :=
  .mk fun s S => by
    obtain ⟨o, ho, h1, h2⟩ := S.obj (.head _)
    refine wpAny_pyNext_tuple_end (t := l) (i := i) (items := vs.toArray) hc.hh ⟨o, ho, h1, h2⟩ (S.isTuple (.tail _ m)) (by simpa using hx) fun h' hs => ?_
    exact ⟨.mk h' s.toks, fv, led, S.gone one_obj hs, h⟩
theorem ev_forT {Q : Flow → FV → Led → Prop} {target iter : Expr} {body : List Stmt} {pos : Pos} (hc : c.Ok) (I : Nat → FV → Led → Prop)
    (src : EV c (eval iter c.env) (fun x fv led => ∃ l vs, x = .ref l ∧ (l, SO.tup vs) ∈ led ∧ I 0 fv led ∧ (∀ i fv led, I i fv led → (l, SO.tup vs) ∈ led) ∧
      (∀ i it x fv led, vs[i]? = some x → I i fv led → EV c (letOwnedTupleGo target (.ref it) x) (fun _ => EV c (assign target c.env x) (fun _ => EV c (execs body c.env) (Turn (fun fv led => ∃ led', led = (it, itT l (i + 1)) :: led' ∧ I (i + 1) fv led') Q))) fv ((it, itT l (i + 1)) :: led)) ∧
      (∀ fv led, I vs.length fv led → Q .next fv led)) fv led) (hf : ∀ x, foldedSetIterable iter c.env x = pure x := by intro _; rfl) : EV c (exec (.For target iter body [] pos) c.env) Q fv led := by
  refine .mk fun s S => wpAny_For (src.into S fun x s1 fv1 led1 n1 S1 q => ?_) hf
  obtain ⟨l, vs, rfl, m, h0, keep, turn, last⟩ := q
  refine wpAny_pyIter_tuple (S1.isTuple m) ?_
  have S2 := S1.pushed (so := itT l 0) { cls := .type "tuple_iterator", data := .fields #[.ref l, .int 0 0] } ⟨_, rfl, rfl, rfl⟩
  refine ev_forIt (T := itT l) (n := vs.length) (iter := iter) I s1.heap.objs.size (fun i fv led hi hI => ?_) (fun fv led hI => ?_) (n1.trans (.mk _ s1.toks)) S2 h0
  · exact ev_nextT (keep i fv led hI) (List.getElem?_eq_getElem hi) ⟨_, rfl, turn i _ _ fv led (List.getElem?_eq_getElem hi) hI⟩
  · exact ev_nextTe hc (keep _ fv led hI) (by simp) ⟨rfl, last fv led hI⟩
-- ranges handed out
abbrev rgO (a b c : Int) (t u v : Tok) : Obj := { cls := .type "range", data := .fields #[.int a t, .int b u, .int c v] }
abbrev itR (n : Nat) (i : Nat) : SO := .raw { cls := .type "range_iterator", data := .fields #[rawInt (i : Nat), rawInt ((n : Int) - (i : Nat)), rawInt 1] }
theorem one_raw {o : Obj} : ∀ ra, Rl prog w a (SO.raw o) ra → ∃ o, ra = [(a, o)] := fun ra e => ⟨o, e⟩
theorem St.raw {o : Obj} (S : St c h fv led) (m : (a, SO.raw o) ∈ led) : h.get? a = some o := by
  obtain ⟨ra, rfl, N⟩ := S.O.at m
  exact (N _ (.head _)).1
theorem ev_range1 {n : Int} {t : Tok} (h : ∀ r t u v, Q (.ref r) fv ((r, .raw (rgO 0 n 1 t u v)) :: led)) : EV c (call (.type "range") [.int n t]) Q fv led :=
  .mk fun s S => call_range_1 ⟨.mk _ _, fv, _, S.pushed (so := .raw _) _ rfl, h _ _ _ _⟩
theorem ev_nextR {Q : Option Value → FV → Led → Prop} {n i : Nat} (hi : i < n) (h : ∀ u, Q (some (.int (i : Nat) u)) fv ((it, itR n (i + 1)) :: led)) : EV c (pyNext (.ref it)) Q fv ((it, itR n i) :: led) :=
  .mk fun s S => by
    have ho := S.raw (.head _)
    refine wpAny_pyNext_range_item (x := (i : Nat)) (left := (n : Int) - (i : Nat)) (step := 1) ho (by omega) fun h' ho' hs => ?_
    have e : ((n : Int) - (i : Nat) - 1) = (n : Int) - ((i + 1 : Nat) : Int) := by omega
    rw [e] at ho'
    exact ⟨.mk h' _, fv, _, S.one (so' := itR n (i + 1)) .head one_raw hs ho' rfl, h _⟩
theorem ev_nextRe {Q : Option Value → FV → Led → Prop} {n : Nat} (hc : c.Ok) (h : Q none fv led) : EV c (pyNext (.ref it)) Q fv ((it, itR n n) :: led) :=
  .mk fun s S => by
    have ho := S.raw (.head _)
    refine wpAny_pyNext_range_end (x := (n : Nat)) (left := (n : Int) - (n : Nat)) (step := 1) hc.hh ho (by omega) fun h' hs => ?_
    exact ⟨.mk h' s.toks, fv, led, S.gone one_raw hs, h⟩
theorem ev_forR {Q : Flow → FV → Led → Prop} {target iter : Expr} {body : List Stmt} {pos : Pos} (hc : c.Ok) (I : Nat → FV → Led → Prop)
    (src : EV c (eval iter c.env) (fun x fv led => ∃ r t u v, ∃ n : Nat, x = .ref r ∧ (r, SO.raw (rgO 0 n 1 t u v)) ∈ led ∧ n < 2 ^ 62 ∧ I 0 fv led ∧
      (∀ i it fv led, i < n → I i fv led → ∀ u, EV c (letOwnedTupleGo target (.ref it) (.int (i : Nat) u)) (fun _ => EV c (assign target c.env (.int (i : Nat) u)) (fun _ => EV c (execs body c.env) (Turn (fun fv led => ∃ led', led = (it, itR n (i + 1)) :: led' ∧ I (i + 1) fv led') Q))) fv ((it, itR n (i + 1)) :: led)) ∧
      (∀ fv led, I n fv led → Q .next fv led)) fv led) (hf : ∀ x, foldedSetIterable iter c.env x = pure x := by intro _; rfl) : EV c (exec (.For target iter body [] pos) c.env) Q fv led := by
  refine .mk fun s S => wpAny_For (src.into S fun x s1 fv1 led1 n1 S1 q => ?_) hf
  obtain ⟨r, t, u, v, n, rfl, m, hn, h0, turn, last⟩ := q
  have hz : Builtin.Range.rangeSize 0 (n : Int) 1 = (n : Int) := by rw [rangeSize_one]; split <;> omega
  refine wpAny_pyIter_range (S1.raw m) ?_ ?_
  · exact small_one (by decide) (by omega) (by omega) (by omega)
  rw [hz]
  have S2 := S1.pushed (so := itR n 0) { cls := .type "range_iterator", data := .fields #[rawInt 0, rawInt ((n : Int) - ((0 : Nat) : Int)), rawInt 1] } rfl
  have e : ((n : Int) - ((0 : Nat) : Int)) = n := by omega
  rw [e] at S2
  refine ev_forIt (T := itR n) (n := n) (iter := iter) I s1.heap.objs.size (fun i fv led hi hI => ?_) (fun fv led hI => ?_) (n1.trans (.mk _ s1.toks)) (by show St c _ _ ((_, itR n 0) :: _); unfold itR; rw [e]; exact S2) h0
  · exact ev_nextR hi fun u => ⟨_, rfl, turn i _ fv led hi hI u⟩
  · exact ev_nextRe hc ⟨rfl, last fv led hI⟩
end
end
section
-- the names of a comprehension's own block
section
variable {M : Model} {A : Around} {E : Value → Shared → Prop} {s : Shared} {C : Addr} {scope : Scope} {cl : List (Str × Addr)} {env : Env} {x : Str} {pos : Pos} {v : Value} {Q : Value → Shared → Prop} {m : Str → Option Value}
theorem cn_local (hk : scope.kind = .function) (hx : scope.names.lookup x = some .local) (hn : s.heap.Ns C m) (hm : m x = some v) (hd : (x == ("__debug__" : Str)) = false) (h : Q v s) : wpAny M A (eval (.Name x pos) (compEnvC scope cl C env)) Q E s :=
  wpAny_Name (wpAny_loadName_local (by simp [compEnvC, relabel, hk]) (lookup_relabel_local hx) hn hm h) hd
theorem cn_glob {K : Frag} {g : Heap} {L : Addr} {mm : Str → Option Value} {p : Program} {loose : List Str} {mg mb : Str → Option Value} (hg : env.globals = mainGlobals) (F : Fr g L s.heap mm) (X : K.In g) (T : TopRead p loose mg mb g) (e : nsIn K mainGlobals x = some (some v)) (h : Q v s)
    (hk : (compEnvC scope cl C env).scope.kind = .function) (hx : (compEnvC scope cl C env).kindOf x = some .globalImplicit) (hd : (x == ("__debug__" : Str)) = false) : wpAny M A (eval (.Name x pos) (compEnvC scope cl C env)) Q E s :=
  Name_function_global hk hx (loadGlobal_global (env := compEnvC scope cl C env) (by show s.heap.Ns env.globals mg; rw [hg]; exact T.g.keeps F.keep) (mg_of X T.g e) h) hd
theorem cn_boot {K : Frag} {g : Heap} {L : Addr} {mm : Str → Option Value} {p : Program} {loose : List Str} {mg mb : Str → Option Value} (hg : env.globals = mainGlobals) (hb : env.builtins = builtinsNs) (F : Fr g L s.heap mm) (X : K.In g) (T : TopRead p loose mg mb g) (e : nsIn K mainGlobals x = some none) (hv : bootBuiltins x = some v) (hn : x ≠ "__name__") (h : Q v s)
    (hk : (compEnvC scope cl C env).scope.kind = .function) (hx : (compEnvC scope cl C env).kindOf x = some .globalImplicit) (hd : (x == ("__debug__" : Str)) = false) : wpAny M A (eval (.Name x pos) (compEnvC scope cl C env)) Q E s :=
  Name_function_global hk hx (loadGlobal_builtin (env := compEnvC scope cl C env) (by show s.heap.Ns env.globals mg; rw [hg]; exact T.g.keeps F.keep) (mg_none_of X T.g e) (by show s.heap.Ns env.builtins mb; rw [hb]; exact T.b.keeps F.keep) ((T.builtins x hn).trans hv) h) hd
end
section
variable {prog : Program} {w : World} {K : Frag} {c : Cx prog w K} {fv fv' : FV} {led led' : Led} {a it : Addr} {vs : List Value} {h h' : Heap} {Q : Value → FV → Led → Prop}
/-- one turn of a comprehension: tests and element, nothing on the heap changed -/
def CTurn (c : Cx prog w K) (scope : Scope) (cl : List (Str × Addr)) (x : Str) (ifs : List Expr) (elt : Expr) (P : Value → Prop) (p : Value → Bool) (F : Value → Value → Prop) (fv : FV) (led : Led) : Prop :=
  ∀ C v (s : Shared) m (E : Value → Shared → Prop), P v → St c s.heap fv led → s.heap.Ns C m → m x = some v →
    wpAny (model prog w) c.A (forIn ifs true fun e r => if r = true then do let ok ← PySem.isTrue e (compEnvC scope cl C c.env) (eval e (compEnvC scope cl C c.env)); pure (ForInStep.yield ok) else pure (ForInStep.yield r)) (fun ok s₄ => ok = p v ∧ Keeps s s₄) E s ∧
    (p v = true → wpAny (model prog w) c.A (eval elt (compEnvC scope cl C c.env)) (fun y s₄ => F v y ∧ Keeps s s₄) E s)
theorem comp_end {D : Addr} {ys : List Value} {n : Nat} (S : St c h fv led) (hold : ∀ b o, h.get? b = some o → h'.get? b = some o) (hD : ∀ o, h.get? D ≠ some o) (hDo : h'.get? D = some (listOf ys.toArray n)) : St c h' fv ((D, .lst ys) :: led) := by
  have S2 := S.keeps hold
  obtain ⟨raw, hR, hnd, N⟩ := S.O
  have hDL : D ≠ c.L := fun q => by
    obtain ⟨o, es, ep, e, _⟩ := S.F.ns
    exact hD o (by rw [q]; exact e)
  have hDg : c.g.get? D = none := by
    cases e : c.g.get? D with
    | none => rfl
    | some o => exact absurd (S.F.keep _ _ e) (hD o)
  refine ⟨S2.F, Own.more (so := .lst ys) (a := D) hR hnd ⟨n, rfl⟩ (fun q => ?_) fun q hq => ?_, S2.N⟩
  · obtain ⟨pr, hpr, e⟩ := List.mem_map.mp q
    exact hD pr.2 (by rw [← e]; exact (N pr hpr).1)
  rcases List.mem_cons.mp hq with rfl | hq
  · exact ⟨hDo, hDL, hDg⟩
  · exact ⟨hold _ _ (N q hq).1, (N q hq).2⟩
theorem ev_compS {elt iter : Expr} {x : Str} {px : Pos} {ifs : List Expr} {scope : Scope} {cl : List (Str × Addr)} {pos : Pos} (p : Value → Bool) (F : Value → Value → Prop) (hc : c.Ok)
    (hclos : closureFor scope c.env = pure cl) (hcell : ∀ y ∈ scope.names, y.2 ≠ .cell) (hkind : scope.kind = .function)
    (hnames : ∀ y ∈ scope.names, y.2 = .local → scope.names.lookup y.1 = some .local) (hx : scope.names.lookup x = some .local)
    (h : EV c (eval iter c.env) (fun xv fv led => ∃ y t, xv = .str y t ∧ y.cps.all (· < 128) = true ∧ y.cps.size ≤ sizeLine ∧ CTurn c scope cl x ifs elt (fun v => ∃ i, SignAt y i v) p F fv led ∧
      ∀ D ys (vs : List Value), vs.length = y.cps.size → (∀ j v, vs[j]? = some v → SignAt y j v) → Paired F (vs.filter p) ys → Q (.ref D) fv ((D, .lst ys) :: led)) fv led)
    (hs : ∀ x, foldedSetIterable iter c.env x = pure x := by intro _; rfl) : EV c (eval (.ListComp elt [⟨.Name x px, iter, ifs, 0⟩] scope pos) c.env) Q fv led := by
  refine .mk fun s S => wpAny_ListComp_free p F hclos hcell hkind hnames hx (h.into S fun xv s1 fv1 led1 n1 S1 q => ?_) hs
  obtain ⟨y, t, rfl, ha, hz, T, q⟩ := q
  refine wpAny_pyIter_ascii ha ?_
  have up : ∀ b o, s1.heap.get? b = some o → (s1.heap.push { cls := .type "str_ascii_iterator", data := .fields #[.str y t, .int 0 0] }).get? b = some o := fun b o e => Heap.get?_push_of_some _ e
  have old : ∀ (s₃ : Shared), (∀ b o, b ∉ [s1.heap.objs.size] → (s1.heap.push { cls := .type "str_ascii_iterator", data := .fields #[.str y t, .int 0 0] }).get? b = some o → s₃.heap.get? b = some o) → St c s₃.heap fv1 led1 :=
    fun s₃ hk => S1.keeps fun b o e => hk b o (fun q => Nat.lt_irrefl _ (List.mem_singleton.mp q ▸ Heap.lt_size e)) (up b o e)
  refine ⟨s1.heap.objs.size, [s1.heap.objs.size], [s1.heap.objs.size], y.cps.size, SignAt y, _, rfl, Walks.strAscii hc.hh _ y t, hz, ⟨_, Heap.get?_push_size _ rfl, rfl, rfl⟩, fun b hb => ?_, ⟨?_, ?_⟩, ?_⟩
  · rw [List.mem_singleton.mp hb]
    show s1.heap.objs.size < (s1.heap.push _).objs.size
    rw [Heap.size_push]; exact Nat.lt_succ_self _
  · intro C i v s₃ m₃ E' _ hv hn hm hk _
    exact (T C v s₃ m₃ E' ⟨i, hv⟩ (old s₃ hk) hn hm).1
  · intro C i v s₃ m₃ E' _ hv hp hn hm hk _
    exact (T C v s₃ m₃ E' ⟨i, hv⟩ (old s₃ hk) hn hm).2 hp
  · intro D h' tk ys vs hD hl hpl hlen hP hF hk
    obtain ⟨n, hDo⟩ := hpl
    refine ⟨n1.trans (Near.mk h' tk), fv1, _, comp_end S1 (fun b o e => hk b o (fun q => Nat.lt_irrefl _ (List.mem_singleton.mp q ▸ Heap.lt_size e)) (up b o e)) (fun o e => ?_) (by simpa using hDo), q D ys.toList vs hlen hP hF⟩
    rw [up _ _ e] at hD; cases hD
theorem ev_compL {elt iter : Expr} {x : Str} {px : Pos} {ifs : List Expr} {scope : Scope} {cl : List (Str × Addr)} {pos : Pos} (p : Value → Bool) (F : Value → Value → Prop) (hc : c.Ok)
    (hclos : closureFor scope c.env = pure cl) (hcell : ∀ y ∈ scope.names, y.2 ≠ .cell) (hkind : scope.kind = .function)
    (hnames : ∀ y ∈ scope.names, y.2 = .local → scope.names.lookup y.1 = some .local) (hx : scope.names.lookup x = some .local)
    (h : EV c (eval iter c.env) (fun xv fv led => ∃ l vs, xv = .ref l ∧ (l, SO.lst vs) ∈ led ∧ vs.length ≤ sizeLine ∧ CTurn c scope cl x ifs elt (fun v => v ∈ vs) p F fv led ∧
      ∀ D ys, Paired F (vs.filter p) ys → Q (.ref D) fv ((D, .lst ys) :: led)) fv led)
    (hs : ∀ x, foldedSetIterable iter c.env x = pure x := by intro _; rfl) : EV c (eval (.ListComp elt [⟨.Name x px, iter, ifs, 0⟩] scope pos) c.env) Q fv led := by
  refine .mk fun s S => wpAny_ListComp_free p F hclos hcell hkind hnames hx (h.into S fun xv s1 fv1 led1 n1 S1 q => ?_) hs
  obtain ⟨l, vs0, rfl, m, hz, T, q⟩ := q
  have hl := S1.isLst m
  have hlt : l < s1.heap.objs.size := by obtain ⟨_, e, _⟩ := hl; exact Heap.lt_size e
  refine wpAny_pyIter_list hl ?_
  have up : ∀ b o, s1.heap.get? b = some o → (s1.heap.push { cls := .type "list_iterator", data := .fields #[.ref l, .int 0 0] }).get? b = some o := fun b o e => Heap.get?_push_of_some _ e
  have old : ∀ (s₃ : Shared), (∀ b o, b ∉ [s1.heap.objs.size] → (s1.heap.push { cls := .type "list_iterator", data := .fields #[.ref l, .int 0 0] }).get? b = some o → s₃.heap.get? b = some o) → St c s₃.heap fv1 led1 :=
    fun s₃ hk => S1.keeps fun b o e => hk b o (fun q => Nat.lt_irrefl _ (List.mem_singleton.mp q ▸ Heap.lt_size e)) (up b o e)
  refine ⟨s1.heap.objs.size, [s1.heap.objs.size, l], [s1.heap.objs.size], vs0.toArray.size, fun i v => vs0.toArray[i]? = some v, _, rfl, Walks.list hc.hh _ l (Nat.ne_of_lt hlt) vs0.toArray, by simpa using hz, ⟨⟨_, Heap.get?_push_size _ rfl, rfl, rfl⟩, hl.push _⟩, fun b hb => ?_, ⟨?_, ?_⟩, ?_⟩
  · show b < (s1.heap.push _).objs.size
    rw [Heap.size_push]
    rcases List.mem_cons.mp hb with rfl | hb
    · exact Nat.lt_succ_self _
    · rw [List.mem_singleton.mp hb]; exact Nat.lt_succ_of_lt hlt
  · intro C i v s₃ m₃ E' _ hv hn hm hk _
    exact (T C v s₃ m₃ E' (List.mem_of_getElem? (by simpa using hv)) (old s₃ hk) hn hm).1
  · intro C i v s₃ m₃ E' _ hv hp hn hm hk _
    exact (T C v s₃ m₃ E' (List.mem_of_getElem? (by simpa using hv)) (old s₃ hk) hn hm).2 hp
  · intro D h' tk ys vs hD hl hpl hlen hP hF hk
    obtain ⟨n, hDo⟩ := hpl
    have e : vs = vs0 := by
      refine List.ext_getElem? fun j => ?_
      cases e : vs[j]? with
      | some v => have := hP j v e; simpa using this.symm
      | none =>
        have h1 := List.getElem?_eq_none_iff.mp e
        exact (List.getElem?_eq_none (by rw [List.size_toArray] at hlen; omega)).symm
    subst e
    refine ⟨n1.trans (Near.mk h' tk), fv1, _, comp_end S1 (fun b o e => hk b o (fun q => Nat.lt_irrefl _ (List.mem_singleton.mp q ▸ Heap.lt_size e)) (up b o e)) (fun o e => ?_) (by simpa using hDo), q D ys.toList hF⟩
    rw [up _ _ e] at hD; cases hD
theorem keeps_toks (s : Shared) (tk : Nat) : Keeps s { s with toks := tk } := ⟨s.heap, tk, rfl, fun _ _ e => e⟩
theorem keeps_self (s : Shared) : Keeps s s := ⟨s.heap, s.toks, rfl, fun _ _ e => e⟩
-- texts
theorem ev_ord {ch : Nat} {t : Tok} (h : ∀ u, Q (.int ch u) fv led) : EV c (call (.builtin "ord") [.str ⟨#[ch]⟩ t]) Q fv led := EV.op1 (f := .int ch) h fun s _ r => @PySem.P.ord_of_char _ _ _ _ _ _ _ _ r
theorem ev_lenS {x : Str} {t : Tok} (hz : (x.length : Int) < 2 ^ 63) (h : ∀ u, Q (.int x.length u) fv led) : EV c (call (.builtin "len") [.str x t]) Q fv led :=
  .mk fun s S => len_str (by omega) ⟨.mk s.heap _, fv, led, S, h _⟩
theorem ev_strAt {value slice : Expr} {x : Str} {i : Int} {t u : Tok} (h0 : -(x.length : Int) ≤ i) (h1 : i < (x.length : Int)) (hn : x.length ≤ 16777216) (h : ∀ t', Q (.str (Txt.item x i) t') fv led)
    (hs : subscripted slice false (.str x t) (.int i u) = operate [.str x t, .int i u] (getItem (.str x t) (.int i u)) := by with_unfolding_all rfl)
    (ht : ∀ r, letTemporaryGo value (.str x t) r = pure () := by intro _; with_unfolding_all rfl) : EV c (subscriptTail value slice (.str x t) (.int i u)) Q fv led :=
  .mk fun s S => KXi.item (n := x.length) rfl h0 h1 hn (fun _ => ⟨.mk s.heap _, fv, led, S, h _⟩) hs ht
theorem ev_strFrom {value : Expr} {i : Int} {k : Nat} {cp sp pos : Pos} (h : EV c (eval value c.env) (fun v fv led => ∃ x t, v = .str x t ∧ x.length ≤ sizeLine ∧ (∀ (u : Tok) (n : Nat), subscripted (.Slice (some (.Constant (.int i) k cp)) none none sp) false (.str x t) (.ref n) = operate [.ref n, .str x t] (getItem (.str x t) (.ref n))) ∧ ∀ t', Q (.str (Txt.slice x (some i) none) t') fv led) fv led)
    (ht : ∀ x t r, letTemporaryGo value (.str x t) r = pure () := by intro _ _ _; with_unfolding_all rfl) :
    EV c (eval (.Subscript value (.Slice (some (.Constant (.int i) k cp)) none none sp) pos) c.env) Q fv led :=
  .mk fun s S => Subscript_ (h.into S fun v s1 fv1 led1 n1 S1 ⟨x, t, e, hz, hs, q⟩ => by
    subst e
    refine wpAny_Slice ?_
    show wpAny _ _ (eval (.Constant (.int i) k cp) c.env) _ _ _
    refine wpAny_Constant_int ?_
    refine wpAny_pure (wpAny_pure ?_)
    obtain ⟨raw, hR, hnd, N⟩ := S1.O
    refine slice_strN_sn (s := { s1 with toks := s1.toks + 1 }) S1.F N (fun h' t' k F' N' => ?_) (hs 0 _) (ht x t) hz
    exact ⟨n1.trans (.mk h' k), fv1, led1, ⟨F', ⟨raw, hR, hnd, N'⟩, S1.N⟩, q t'⟩)
theorem ev_lstRev {value : Expr} {k : Nat} {cp up sp pos : Pos} (h : EV c (eval value c.env) (fun v fv led => ∃ l vs, v = .ref l ∧ (l, SO.lst vs) ∈ led ∧ vs.length ≤ sizeLine ∧
      (∀ (n : Nat), subscripted (.Slice none none (some (.UnaryOp .USub (.Constant (.int 1) k cp) up)) sp) false (.ref l) (.ref n) = operate [.ref n, .ref l] (getItem (.ref l) (.ref n))) ∧ ∀ d, Q (.ref d) fv ((d, .lst vs.reverse) :: led)) fv led)
    (ht : ∀ l r, letTemporaryGo value (.ref l) r = pure () := by intro _ _; with_unfolding_all rfl) :
    EV c (eval (.Subscript value (.Slice none none (some (.UnaryOp .USub (.Constant (.int 1) k cp) up)) sp) pos) c.env) Q fv led :=
  .mk fun s S => Subscript_ (h.into S fun v s1 fv1 led1 n1 S1 ⟨l, vs, e, m, hz, hs, q⟩ => by
    subst e
    refine wpAny_Slice (wpAny_pure (wpAny_pure ?_))
    show wpAny _ _ (eval (.UnaryOp .USub (.Constant (.int 1) k cp) up) c.env) _ _ _
    refine (neg_const (Q := fun v fv' led' => fv' = fv1 ∧ led' = led1 ∧ ∃ t, v = .int (-1) t) (fun t => ⟨rfl, rfl, t, rfl⟩)).into S1 fun v s2 fv2 led2 n2 S2 q2 => ?_
    obtain ⟨rfl, rfl, t, rfl⟩ := q2
    obtain ⟨raw, hR, hnd, N⟩ := S2.O
    refine krv_lit (s := s2) S2.F N (S2.isLst m) (.int _ _) rfl (fun D h' F' N' lo => ?_) (hs _) (ht l) (by simpa using hz)
    refine ⟨(n1.trans n2).trans (.mk h' s2.toks), _, _, ⟨F', Own.more (so := .lst vs.reverse) (a := D) hR hnd ⟨0, rfl⟩ (fun q => ?_) N', S2.N⟩, q D⟩
    obtain ⟨p, hp, e⟩ := List.mem_map.mp q
    exact Nat.lt_irrefl _ (e ▸ lo p hp))
theorem ev_methS {x : Str} {t : Tok} {pl : Sem Bool} {Q : Value × List Value → FV → Led → Prop} (h : Q (.builtin "str.join", [.str x t]) fv led) : EV c (getMethod (.str x t) "join" pl) Q fv led :=
  .mk fun s S => PySem.GM.join ⟨.refl s, fv, led, S, h⟩
theorem ev_join {x : Str} {t : Tok} {ys : List Str} (m : (a, SO.lst vs) ∈ led) (hi : StrsAre vs ys) (hok : (ys.map (·.length)).sum + ys.length * x.length ≤ 16777216) (h : ∀ t', Q (.str (Txt.join x ys) t') fv led) : EV c (call (.builtin "str.join") [.str x t, .ref a]) Q fv led :=
  .mk fun s S => join_list (S.isLst m) (by simpa using hi) hok fun t' k => ⟨.mk s.heap k, fv, led, S, h t'⟩
theorem ev_all {bs : List Bool} (hc : c.Ok) (m : (a, SO.lst vs) ∈ led) (hb : vs = bs.map .bool) (h : Q (.bool (bs.all id)) fv led) : EV c (call (.builtin "all") [.ref a]) Q fv led :=
  .mk fun s S => by
    refine call_all_walk ?_
    have hl := S.isLst m
    have hlt : a < s.heap.objs.size := by obtain ⟨_, e, _⟩ := hl; exact Heap.lt_size e
    refine wpAny_pyIter_list hl ?_
    refine ⟨s.heap.objs.size, [s.heap.objs.size, a], [s.heap.objs.size], vs.toArray.size, _, _, fun i => bs.getD i false, rfl, Walks.list (A := c.A.in1) hc.hh _ a (Nat.ne_of_lt hlt) vs.toArray, ⟨⟨_, Heap.get?_push_size _ rfl, rfl, rfl⟩, hl.push _⟩, ?_, fun h' tk hk => ?_⟩
    · intro i v s' R E' hv hR
      subst hb
      have hv' : (bs.map Value.bool)[i]? = some v := by simpa using hv
      rw [List.getElem?_map] at hv'
      cases e : bs[i]? with
      | none => rw [e] at hv'; cases hv'
      | some b =>
        rw [e] at hv'
        cases Option.some.inj hv'
        have : bs.getD i false = b := by rw [List.getD_eq_getElem?_getD, e]; rfl
        dsimp only at hR
        rw [this] at hR
        exact wpAny_truthy_bool hR
    · refine ⟨.mk h' tk, fv, led, S.keepsBut (I := s.heap.objs.size) (fun b o e q => Nat.lt_irrefl _ (q ▸ Heap.lt_size e)) (fun b o hb e => hk b o hb (Heap.get?_push_of_some _ e)), ?_⟩
      have e : (List.range vs.toArray.size).all (fun i => bs.getD i false) = bs.all id := by
        subst hb
        rw [List.size_toArray, List.length_map, Bool.eq_iff_iff, List.all_eq_true, List.all_eq_true]
        constructor
        · intro z b hb
          obtain ⟨i, hi⟩ := List.getElem?_of_mem hb
          have := z i (List.mem_range.mpr (List.getElem?_eq_some_iff.mp hi).1)
          rw [List.getD_eq_getElem?_getD, hi] at this
          exact this
        · intro z i hi
          have := z bs[i]! (by rw [getElem!_pos bs i (List.mem_range.mp hi)]; exact List.getElem_mem _)
          rw [List.getD_eq_getElem?_getD, List.getElem?_eq_getElem (List.mem_range.mp hi)]
          rw [getElem!_pos bs i (List.mem_range.mp hi)] at this
          exact this
      rw [e]; exact h
end
end
section
section
variable {prog : Program} {w : World} {K : Frag} {c : Cx prog w K} {fv fv' : FV} {led led' : Led} {a it : Addr} {vs : List Value} {h h' : Heap}
theorem kindLoc {s : Shared} {x : Str} {v : Value} (S : St c s.heap fv led) (u : Upd x v fv fv') : c.env.kindOf x = some .local := (S.N.2 x u.name).1
theorem ev_pair {Q : Flow → FV → Led → Prop} {x1 x2 : Str} {p1 p2 tp vp pos : Pos} {v1 v2 : Expr} {k k' : Nat} {w1 w2 : Value} {fv1 fv2 : FV} (hc : c.Ok) (u1 : Upd x1 w1 fv fv1) (u2 : Upd x2 w2 fv fv2)
    (h : EV c (eval v1 c.env) (kPair1 c x1 x2 v2 Q) fv led)
    (hne : x1 ≠ x2 := by decide) (hl : p2.line = p1.line := by rfl) (hs : [v1, v2].any (fun | .Starred .. => true | _ => false) = false := by rfl) (hf : [v1, v2].all (foldedForSure 8) = false := by rfl) (hca : [v1, v2].all (constantsAlone 8) = false := by rfl)
    (he1 : starEach [v1, v2] c.env = (false, eval v1 c.env) :: starEach [v2] c.env := by rfl) (he2 : starEach [v2] c.env = (false, eval v2 c.env) :: starEach [] c.env := by rfl)
    (hw : swapsWithSole [.Tuple [.Name x1 p1, .Name x2 p2] k tp] (.Tuple [v1, v2] k' vp) pos.line c.env = pure false := by rfl) : EV c (exec (.Assign [.Tuple [.Name x1 p1, .Name x2 p2] k tp] (.Tuple [v1, v2] k' vp) pos) c.env) Q fv led := by
  refine .mk fun s S => (ev_swap (swap2 hc (kindLoc S u1) (kindLoc S u2) hne hl hs hf hca) ?_ hw).run s S
  refine ev_tuple (ev_splC (h.mono fun a fv led q => ev_splC (q.mono fun b fv led q => ev_splN ?_) he2) he1)
  refine ev_newTup (fun d => ?_) (by show 2 ≤ sizeLine; decide)
  refine ev_unpack (vs := [a, b]) hc (.head _) rfl ?_
  exact ev_ordC (ev_bindN (EV.mono (EV.drop q) fun _ fv led q => ev_ordC (ev_bindN (EV.mono q fun _ fv led q => ev_ordN q))))
theorem ev_trio {Q : Flow → FV → Led → Prop} {x1 x2 x3 : Str} {p1 p2 p3 tp vp pos : Pos} {v1 v2 v3 : Expr} {k k' : Nat} {w1 w2 w3 : Value} {fv1 fv2 fv3 : FV} (hc : c.Ok) (u1 : Upd x1 w1 fv fv1) (u2 : Upd x2 w2 fv fv2) (u3 : Upd x3 w3 fv fv3)
    (h : EV c (eval v1 c.env) (kTrio1 c x1 x2 x3 v2 v3 Q) fv led)
    (hne : x1 ≠ x2 := by decide) (hne2 : x1 ≠ x3 := by decide) (hne3 : x2 ≠ x3 := by decide) (hl : p2.line = p1.line := by rfl) (hl3 : p3.line = p1.line := by rfl) (hs : [v1, v2, v3].any (fun | .Starred .. => true | _ => false) = false := by rfl) (hf : [v1, v2, v3].all (foldedForSure 8) = false := by rfl) (hca : [v1, v2, v3].all (constantsAlone 8) = false := by rfl)
    (he1 : starEach [v1, v2, v3] c.env = (false, eval v1 c.env) :: starEach [v2, v3] c.env := by rfl) (he2 : starEach [v2, v3] c.env = (false, eval v2 c.env) :: starEach [v3] c.env := by rfl) (he3 : starEach [v3] c.env = (false, eval v3 c.env) :: starEach [] c.env := by rfl)
    (hw : swapsWithSole [.Tuple [.Name x1 p1, .Name x2 p2, .Name x3 p3] k tp] (.Tuple [v1, v2, v3] k' vp) pos.line c.env = pure false := by rfl) : EV c (exec (.Assign [.Tuple [.Name x1 p1, .Name x2 p2, .Name x3 p3] k tp] (.Tuple [v1, v2, v3] k' vp) pos) c.env) Q fv led := by
  refine .mk fun s S => (ev_swap (swap3 hc (kindLoc S u1) (kindLoc S u2) (kindLoc S u3) hne hne2 hne3 hl hl3 hs hf hca) ?_ hw).run s S
  refine ev_tuple (ev_splC (h.mono fun a fv led q => ev_splC (q.mono fun b fv led q => ev_splC (q.mono fun d fv led q => ev_splN ?_) he3) he2) he1)
  refine ev_newTup (fun e => ?_) (by show 3 ≤ sizeLine; decide)
  refine ev_unpack (vs := [a, b, d]) hc (.head _) rfl ?_
  exact ev_ordC (ev_bindN (EV.mono (EV.drop q) fun _ fv led q => ev_ordC (ev_bindN (EV.mono q fun _ fv led q => ev_ordC (ev_bindN (EV.mono q fun _ fv led q => ev_ordN q))))))
theorem ev_unp2 {Q : Unit → FV → Led → Prop} {x1 x2 : Str} {p1 p2 pos : Pos} {k : Nat} {v1 v2 : Value} (hc : c.Ok) (m : (a, SO.tup [v1, v2]) ∈ led) (h : EV c (storeName c.env x1 v1) (kSto c x2 v2 Q) fv led) : EV c (assign (.Tuple [.Name x1 p1, .Name x2 p2] k pos) c.env (.ref a)) Q fv led :=
  ev_asgT hc m rfl rfl (ev_ordC (ev_asgN (h.mono fun _ fv led q => ev_ordC (ev_asgN (q.mono fun _ fv led q => ev_ordN q)))))
theorem ev_unp3 {Q : Unit → FV → Led → Prop} {x1 x2 x3 : Str} {p1 p2 p3 pos : Pos} {k : Nat} {v1 v2 v3 : Value} (hc : c.Ok) (m : (a, SO.tup [v1, v2, v3]) ∈ led) (h : EV c (storeName c.env x1 v1) (kSto c x2 v2 (kSto c x3 v3 Q)) fv led) : EV c (assign (.Tuple [.Name x1 p1, .Name x2 p2, .Name x3 p3] k pos) c.env (.ref a)) Q fv led :=
  ev_asgT hc m rfl rfl (ev_ordC (ev_asgN (h.mono fun _ fv led q => ev_ordC (ev_asgN (q.mono fun _ fv led q => ev_ordC (ev_asgN (q.mono fun _ fv led q => ev_ordN q)))))))
theorem ev_goN {Q : Unit → FV → Led → Prop} {x : Str} {pos : Pos} {i v : Value} (h : Q () fv led) : EV c (letOwnedTupleGo (.Name x pos) i v) Q fv led := EV.pure h
theorem ev_goT {Q : Unit → FV → Led → Prop} {elts : List Expr} {k : Nat} {pos : Pos} {cls : String} {v : Value} (m : (it, SO.obj cls vs) ∈ led) (hn : (["enumerate", "zip", "dict_itemiterator", "dict_reverseitemiterator", "odict_iterator", "itertools.zip_longest", "itertools.pairwise"].contains cls) = false) (h : Q () fv led) : EV c (letOwnedTupleGo (.Tuple elts k pos) (.ref it) v) Q fv led :=
  .mk fun s S => by
    obtain ⟨o, ho, h1, h2⟩ := S.obj m
    unfold letOwnedTupleGo
    cases v
    case ref a =>
      refine wpAny_bind (wpAny_load ho ?_)
      show wpAny _ _ (match o.cls, o.data with
        | .type n, .fields vs => if (["enumerate", "zip", "dict_itemiterator", "dict_reverseitemiterator", "odict_iterator", "itertools.zip_longest", "itertools.pairwise"].contains n && vs[0]? == some (rawInt a)) = true then _ else _
        | _, _ => _) _ _ _
      rw [h1, h2]
      dsimp only
      rw [hn]
      exact wpAny_pure ⟨.refl s, fv, led, S, h⟩
    all_goals exact wpAny_pure ⟨.refl s, fv, led, S, h⟩
end
end
section
section
variable {prog : Program} {w : World} {K : Frag} {c : Cx prog w K} {fv fv' : FV} {led led' : Led} {a it : Addr} {vs : List Value} {Q : Value → FV → Led → Prop}
theorem ev_dctGetN {kvs : List (Int × Value)} {k : Int} {t : Tok} {d : Value} (m : (a, SO.dct kvs) ∈ led) (hv : valueAt kvs k = none) (h : Q d fv led) : EV c (call (.builtin "dict.get") [.ref a, .int k t, d]) Q fv led :=
  ev_dctGet m (by rw [hv]; exact h)
theorem ev_dctGetS {kvs : List (Int × Value)} {k : Int} {t : Tok} {d v : Value} (m : (a, SO.dct kvs) ∈ led) (hv : valueAt kvs k = some v) (h : Q v fv led) : EV c (call (.builtin "dict.get") [.ref a, .int k t, d]) Q fv led :=
  ev_dctGet m (by rw [hv]; exact h)
theorem Calls.trim {n : Nat} {f : Addr} {vs : List Value} {post : Value → Led → Prop} (C : Calls prog w K n f vs led (fun r led' => ∃ P L, led' = P ++ L ∧ post r L)) : Calls prog w K n f vs led post := by
  intro A h₀ L m s R S r F O k
  refine C A h₀ L m s R S r F O fun v s' led' n' F' O' q => ?_
  obtain ⟨P, L', rfl, q⟩ := q
  exact k v s' L' n' F' O'.right q
theorem Calls.mono {n : Nat} {f : Addr} {vs : List Value} {post post' : Value → Led → Prop} (C : Calls prog w K n f vs led post) (h : ∀ r l, post r l → post' r l) : Calls prog w K n f vs led post' :=
  fun A h₀ L m s R S r F O k => C A h₀ L m s R S r F O fun v s' led' n' F' O' q => k v s' led' n' F' O' (h _ _ q)
theorem Room.mono {A : Around} {n m : Nat} (h : Room A n) (hm : m ≤ n) : Room A m := h.le hm
theorem Calls.le {n m : Nat} {f : Addr} {vs : List Value} {post : Value → Led → Prop} (C : Calls prog w K m f vs led post) (h : m ≤ n) : Calls prog w K n f vs led post :=
  fun A h₀ L mm s R S r F O k => C A h₀ L mm s R S (r.le h) F O k
/-- a new object of a class: what its __init__ tells -/
theorem ev_makeC {C fI : Addr} {n k : Nat} {fs : FV} {args : List Value} (hc : c.Ok) (hr : Room c.A n) (hk : k + 1 ≤ n) (hm : makesIn K C = true ∧ findIn K (.ref C) "__init__" = some (some (.ref fI)) ∧ isFn K (.ref fI) = true)
    (I : ∀ x, Calls prog w K k fI (.ref x :: args) ((x, .inst C []) :: led) (fun r led' => r = .none ∧ led' = (x, .inst C fs) :: led)) (h : ∀ x, Q (.ref x) fv ((x, .inst C fs) :: led)) : EV c (call (.ref C) args) Q fv led :=
  ev_make (post := fun x led' => led' = (x, .inst C fs) :: led) hc (hr.le hk) hm.1 hm.2.1 hm.2.2 I fun x led' e => by rw [e]; exact h x
end
section
variable {P R : Prop} {b : Bool} {p : Prop} [Decidable p] {i j : Int}
theorem tst_tt (e : b = true) (h : P) : ((b = true → P) ∧ (b = false → R)) := ⟨fun _ => h, fun q => by rw [e] at q; cases q⟩
theorem tst_ff (e : b = false) (h : R) : ((b = true → P) ∧ (b = false → R)) := ⟨fun q => (by rw [e] at q; cases q), fun _ => h⟩
theorem tst_ntt (e : b = true) (h : R) : (((!b) = true → P) ∧ ((!b) = false → R)) := ⟨fun q => (by rw [e] at q; cases q), fun _ => h⟩
theorem tst_nff (e : b = false) (h : P) : (((!b) = true → P) ∧ ((!b) = false → R)) := ⟨fun _ => h, fun q => by rw [e] at q; cases q⟩
theorem tst_dt (e : p) (h : P) : ((decide p = true → P) ∧ (decide p = false → R)) := ⟨fun _ => h, fun q => absurd e (of_decide_eq_false q)⟩
theorem tst_df (e : ¬ p) (h : R) : ((decide p = true → P) ∧ (decide p = false → R)) := ⟨fun q => absurd (of_decide_eq_true q) e, fun _ => h⟩
theorem tst_et (e : i = j) (h : P) : (((i == j) = true → P) ∧ ((i == j) = false → R)) := ⟨fun _ => h, fun q => absurd e (by simpa using q)⟩
theorem tst_ef (e : i ≠ j) (h : R) : (((i == j) = true → P) ∧ ((i == j) = false → R)) := ⟨fun q => absurd (by simpa using q) e, fun _ => h⟩
theorem tst_nt' (e : i ≠ j) (h : P) : (((i != j) = true → P) ∧ ((i != j) = false → R)) := ⟨fun _ => h, fun q => absurd (by simpa using q) e⟩
theorem tst_nf' (e : i = j) (h : R) : (((i != j) = true → P) ∧ ((i != j) = false → R)) := ⟨fun q => absurd e (by simpa using q), fun _ => h⟩
end
section
variable {prog : Program} {w : World} {K : Frag} {c : Cx prog w K} {fv fv' : FV} {led led' : Led} {Q : Value → FV → Led → Prop} {a b : Int} {t u : Tok} {x y : Str}
theorem cmp_eqSk {k : Bool} (e : (x == y) = k) (h : Q (.bool k) fv led) : EV c (compareOp .Eq (.str x t) (.str y u)) Q fv led := cmp_eqS (by rw [e]; exact h)
theorem cmp_inK {k : Bool} (e : has x y = k) (h : Q (.bool k) fv led) : EV c (compareOp .In (.str y u) (.str x t)) Q fv led := cmp_in (by rw [e]; exact h)
end
section
variable {prog : Program} {w : World} {K : Frag} {α : Type} {c : Cx prog w K} {fv : FV} {led : Led}
theorem at_ev {t : Sem α} {Q : α → FV → Led → Prop} (h : EV c t Q fv led) : EV c t Q fv led := h
theorem at_eval {e : Expr} {env : Env} {Q : Value → FV → Led → Prop} (h : EV c (eval e env) Q fv led) : EV c (eval e env) Q fv led := h
theorem at_call {f : Value} {vs : List Value} {Q : Value → FV → Led → Prop} (h : EV c (call f vs) Q fv led) : EV c (call f vs) Q fv led := h
theorem at_exec {e : Stmt} {env : Env} {Q : Flow → FV → Led → Prop} (h : EV c (exec e env) Q fv led) : EV c (exec e env) Q fv led := h
theorem at_execs {e : List Stmt} {env : Env} {Q : Flow → FV → Led → Prop} (h : EV c (execs e env) Q fv led) : EV c (execs e env) Q fv led := h
theorem at_isTrue {e : Expr} {env : Env} {x : Sem Value} {Q : Bool → FV → Led → Prop} (h : EV c (isTrue e env x) Q fv led) : EV c (isTrue e env x) Q fv led := h
theorem at_cmp {op : CmpOp} {a b : Value} {Q : Value → FV → Led → Prop} (h : EV c (compareOp op a b) Q fv led) : EV c (compareOp op a b) Q fv led := h
theorem at_with {p : Pos} {f : Value} {vs : List Value} {l : List (Bool × Sem Value)} {kw : List (Option Str × Sem Value)} {Q : Value → FV → Led → Prop} (h : EV c (callWith p f vs l kw) Q fv led) : EV c (callWith p f vs l kw) Q fv led := h
end
section
variable {prog : Program} {w : World} {K : Frag} {g h : Heap} {L : Addr}
theorem Rls.sub {P Q : Led} (s : P.Sublist Q) : ∀ {raw : Raw}, Rls prog w Q raw → ∃ r, Rls prog w P r ∧ r.Sublist raw := by
  induction s with
  | slnil => exact fun x => ⟨_, x, .refl _⟩
  | cons p _ ih =>
    rintro raw ⟨r1, r2, rfl, _, x2⟩
    obtain ⟨r, y, z⟩ := ih x2
    exact ⟨r, y, z.trans (List.sublist_append_right _ _)⟩
  | cons_cons p _ ih =>
    rintro raw ⟨r1, r2, rfl, x1, x2⟩
    obtain ⟨r, y, z⟩ := ih x2
    exact ⟨r1 ++ r, ⟨r1, r, rfl, x1, y⟩, List.Sublist.append_left z _⟩
theorem Own.sub {P Q : Led} (o : Own prog w g L h Q) (s : P.Sublist Q) : Own prog w g L h P := by
  obtain ⟨raw, x, n, N⟩ := o
  obtain ⟨r, y, z⟩ := Rls.sub s x
  exact ⟨r, y, (z.map _).nodup n, fun q hq => N q (z.subset hq)⟩
theorem Calls.sub {n : Nat} {f : Addr} {vs : List Value} {led : Led} {post : Value → Led → Prop} (C : Calls prog w K n f vs led (fun r led' => ∃ M : Led, M.Sublist led' ∧ post r M)) : Calls prog w K n f vs led post := by
  intro A h₀ L m s R S r F O k
  refine C A h₀ L m s R S r F O fun v s' led' n' F' O' q => ?_
  obtain ⟨M, hM, q⟩ := q
  exact k v s' M n' F' (O'.sub hM) q
theorem EV.sub {α : Type} {c : Cx prog w K} {t : Sem α} {Q : α → FV → Led → Prop} {fv : FV} {led led' : Led} (s : led'.Sublist led) (e : EV c t Q fv led') : EV c t Q fv led := .mk fun s0 S => e.run s0 ⟨S.F, S.O.sub s, S.N⟩
theorem EV.swap {α : Type} {c : Cx prog w K} {t : Sem α} {Q : α → FV → Led → Prop} {fv : FV} {led : Led} {x y : Addr × SO} (e : EV c t Q fv (y :: x :: led)) : EV c t Q fv (x :: y :: led) := .perm (List.Perm.swap _ _ _) e
variable {c : Cx prog w K} {fv : FV} {led : Led} {Q : Value → FV → Led → Prop}
theorem ev_callR {n k : Nat} {g : Addr} {vs : List Value} {X : Addr → Prop} (hc : c.Ok) (hr : Room c.A n) (hk : k ≤ n) (C : Calls prog w K k g vs led (fun r led' => (∃ s, r = .ref s ∧ X s) ∧ led' = led)) (h : ∀ s, X s → Q (.ref s) fv led) : EV c (call (.ref g) vs) Q fv led :=
  ev_call hc (hr.le hk) C fun r led' p => by obtain ⟨⟨s, rfl, q⟩, rfl⟩ := p; exact h s q
/-- a call that turns the ledger -/
theorem ev_callL {n k : Nat} {g : Addr} {vs : List Value} {V : Value} {led1 : Led} (hc : c.Ok) (hr : Room c.A n) (hk : k ≤ n) (C : Calls prog w K k g vs led (fun r led' => r = V ∧ led' = led1)) (h : Q V fv led1) : EV c (call (.ref g) vs) Q fv led :=
  ev_call hc (hr.le hk) C fun r led' p => by obtain ⟨rfl, rfl⟩ := p; exact h
theorem ev_callX {α : Type} {n k : Nat} {g : Addr} {vs : List Value} {V : α → Value} {M : α → Led} (hc : c.Ok) (hr : Room c.A n) (hk : k ≤ n) (C : Calls prog w K k g vs led (fun r led' => ∃ a, r = V a ∧ led' = M a)) (h : ∀ a, Q (V a) fv (M a)) : EV c (call (.ref g) vs) Q fv led :=
  ev_call hc (hr.le hk) C fun r led' p => by obtain ⟨a, rfl, rfl⟩ := p; exact h a
end
section
variable {prog : Program} {w : World} {K : Frag}
theorem Calls.subp {n : Nat} {f : Addr} {vs : List Value} {led : Led} {post : Value → Led → Prop} (C : Calls prog w K n f vs led (fun r led' => ∃ M N : Led, N.Sublist led' ∧ N.Perm M ∧ post r M)) : Calls prog w K n f vs led post := by
  intro A h₀ L m s R S r F O k
  refine C A h₀ L m s R S r F O fun v s' led' n' F' O' q => ?_
  obtain ⟨M, N, hN, hp, q⟩ := q
  exact k v s' M n' F' ((O'.sub hN).perm hp) q
theorem ev_appN {c : Cx prog w K} {fv : FV} {led : Led} {f : Value} {xs : List Value} {Q : Value → FV → Led → Prop} (h : EV c (call f xs) Q fv led) : EV c (call f ([] ++ xs)) Q fv led := h
theorem ev_listK {c : Cx prog w K} {fv : FV} {led : Led} {a : Addr} {vs : List Value} {Q : Value → FV → Led → Prop} (hc : c.Ok) (hK : ∃ o n, K.lookup a = some o ∧ o.cls = .type "tuple" ∧ o.data = .seq vs.toArray n) (h : ∀ b, Q (.ref b) fv ((b, .lst vs) :: led)) (hsz : vs.length ≤ sizeLine) : EV c (call (.type "list") [.ref a]) Q fv led :=
  .mk fun s S => by
    obtain ⟨raw, hR, hnd, N⟩ := S.O
    obtain ⟨o, n, h1, h2, h3⟩ := hK
    refine @list_copyKT _ _ _ _ s c.g c.L _ raw _ a _ S.F N ⟨o, (hc.X.keeps S.F.keep) _ _ h1, h2, n, h3⟩ (fun D n h' F' N' l => ?_) (by simpa using hsz)
    exact ⟨.mk h' s.toks, fv, _, ⟨F', Own.more (so := .lst vs) (a := D) hR hnd ⟨n, rfl⟩ (fun q => by
      obtain ⟨p, hp, e⟩ := List.mem_map.mp q
      exact Nat.lt_irrefl _ (e ▸ l p hp)) N', S.N⟩, h D⟩
end
theorem sin_head {a : Str} {l : List Str} : a ∈ a :: l := .head _
theorem sin_tail {a b : Str} {l : List Str} (h : a ∈ l) : a ∈ b :: l := .tail _ h
theorem in_head {a : Addr × SO} {l : Led} : a ∈ a :: l := .head _
theorem in_tail {a b : Addr × SO} {l : Led} (h : a ∈ l) : a ∈ b :: l := .tail _ h
section
variable {prog : Program} {w : World} {K : Frag} {c : Cx prog w K} {fv : FV} {led : Led} {Q : Value → FV → Led → Prop} {a : Addr}
theorem cmp_notinN {kvs : List (Int × Value)} {k : Int} {t : Tok} (m : (a, SO.dct kvs) ∈ led) (hv : valueAt kvs k = none) (h : Q (.bool true) fv led) : EV c (compareOp .NotIn (.int k t) (.ref a)) Q fv led :=
  cmp_notinD m (by rw [hv]; exact h)
theorem cmp_notinS {kvs : List (Int × Value)} {k : Int} {t : Tok} {v : Value} (m : (a, SO.dct kvs) ∈ led) (hv : valueAt kvs k = some v) (h : Q (.bool false) fv led) : EV c (compareOp .NotIn (.int k t) (.ref a)) Q fv led :=
  cmp_notinD m (by rw [hv]; exact h)
end
section
variable {prog : Program} {w : World} {K : Frag} {c : Cx prog w K} {fv : FV} {led : Led}
theorem ev_lit {b b' : List Stmt} {Q : Flow → FV → Led → Prop} (e : b = b') (h : EV c (execs b' c.env) Q fv led) : EV c (execs b c.env) Q fv led := e ▸ h
end
end
section
section
variable {prog : Program} {w : World} {K : Frag} {n : Nat} {f : Addr} {led : Led} {post : Value → Led → Prop}
/-- a def of one parameter that a comprehension captures, no name beside it -/
theorem calls_introC1 {x : Str} {v : Value} {name qual : Str} {params : Arguments} {body : List Stmt} {scope : Scope} {dV kV doc pm cdv ct : Value} {an : Option Addr} {oc : Value} {od : Option Addr} {osl : Array (Option Value)}
    (h1 : K.lookup f = some ⟨oc, od, .func (fnOf name qual params body scope dV kV doc pm an cdv ct), osl⟩) (h2 : codeIn K cdv qual = true) (h4 : scope.isCoroutine = false) (h5 : scope.isGenerator = false) (h6 : scope.kind = .function)
    (hbind : ∀ s : Shared, K.In s.heap → BindsTo s (fnOf name qual params body scope dV kV doc pm an cdv ct) ⟨[v], []⟩ [(x, v)]) (hx : scope.names.lookup x = some .cell) (hcs : ∀ n, cellsFrom n scope.names [] = [(x, n)])
    (H : ∀ (c : Cx prog w K) (ca : Addr) (o : Obj), c.Ok → c.env.scope = scope → c.env.cells = [(x, ca)] → c.env.globals = mainGlobals → c.env.builtins = builtinsNs → o.data = .cell (some v) → Room c.A n → EV c (execs body c.env) (fun fl _ led' => post (retOf fl) led') [] ((ca, .raw o) :: led)) : Calls prog w K (n + 1) f [v] led post := by
  intro A h₀ L m s R S r F O k
  obtain ⟨p, loose, mean, mg, mb, T⟩ := S.top
  obtain ⟨env, outer, A₀, base, hA, hf, hke, B⟩ := S.fr
  obtain ⟨raw, hR, hnd, N⟩ := O
  refine code_defC B F S.X N T hA hf hke h1 h2 (Nat.lt_of_le_of_lt (Nat.le_trans (Nat.le_add_right _ (2 * (n + 1) + 2)) r.1) (by decide)) (hbind s (S.X.keeps F.keep)) (by rw [List.all_cons, List.all_nil, Bool.and_true, hx]; rfl) (by rw [hcs]; exact List.nodup_cons.mpr ⟨by simp, .nil⟩) (fun g L' h₁ tk cells FG F' N' Y B' X' T' hlt => ?_) h4 h5 h6
  have hkind : (envOfC qual scope L' f cdv).kindOf x = some .cell := hx
  rw [hcs] at Y
  obtain ⟨o, rfl, ho⟩ := Y.one
  have hcm : bindC (envOfC qual scope L' f cdv).kindOf [(x, v)] (fun _ => none) x = some v := by
    unfold bindC bindC
    rw [hkind, if_neg (by decide)]
    exact if_pos rfl
  rw [hcm] at ho
  have hm : bindL (envOfC qual scope L' f cdv).kindOf [(x, v)] (fun _ => none) = fr [] := by
    unfold bindL bindL
    rw [hkind, if_neg (by decide)]
    rfl
  rw [hm] at F'
  have hcells : (envOfC qual scope L' f cdv).cells = [(x, L' + 1)] := hcs (L' + 1)
  have hc : Cx.Ok (prog := prog) (w := w) (K := K) ⟨A.deeper (envOfC qual scope L' f cdv), g, L', envOfC qual scope L' f cdv⟩ :=
    { X := X', top := ⟨p, loose, mean, mg, mb, T'⟩, hh := S.hh, env := ⟨qual, scope, f, cdv, _, rfl, h6⟩, below := ⟨env :: outer, A, base, by show A.frames.map _ = _; rw [hA]; rfl, B'⟩ }
  have e := H ⟨A.deeper (envOfC qual scope L' f cdv), g, L', envOfC qual scope L' f cdv⟩ (L' + 1) o hc rfl hcells rfl rfl ho ⟨by have := r.1; show A.depth + 1 + 2 * n + 2 ≤ 900; omega, by have := r.2; show A.units + 3 + 12 * n + 30 ≤ 9000; omega⟩
  have O' : Own prog w g L' h₁ ((L' + 1, .raw o) :: led) := ⟨[(L' + 1, o)] ++ raw, ⟨_, raw, rfl, rfl, hR⟩, by
    refine List.nodup_cons.mpr ⟨fun q => ?_, hnd⟩
    obtain ⟨pr, hpr, e⟩ := List.mem_map.mp q
    have e2 : pr.1 = L' + 1 := e
    have e3 := hlt pr hpr
    rw [e2] at e3
    exact Nat.lt_irrefl _ (Nat.lt_trans (Nat.lt_succ_self _) e3), N'⟩
  refine wpAny_mono (e.run { s with heap := h₁, toks := tk } ⟨F', O', List.nodup_nil, fun x hx => by cases hx⟩) (fun fl s' a => ?_) fun _ _ x => x.elim
  obtain ⟨⟨h', t', rfl⟩, fv', led', S', q⟩ := a
  obtain ⟨raw', hR', hnd', N''⟩ := S'.O
  have ret : ∀ v, retOf fl = v → LeaveK h₀ L m g R v { s with heap := h', toks := t' } := fun v hv => ⟨L', _, raw', S'.F, N'', fun Fb Nb => by
    subst hv
    exact k _ _ led' (.mk h' t') Fb ⟨raw', hR', hnd', Nb⟩ q⟩
  cases fl <;> exact ret _ rfl
end
section
variable {prog : Program} {w : World} {K : Frag} {c : Cx prog w K} {fv : FV} {led : Led} {Q : Value → FV → Led → Prop} {x y : Str} {t u : Tok}
theorem cmp_notin (h : Q (.bool (!(has x y))) fv led) : EV c (compareOp .NotIn (.str y u) (.str x t)) Q fv led := EV.op0 h fun s _ => @PyProof.Rows.notIn_str _ _ _ _ _ _ _ _ _ _
end
section
variable {prog : Program} {w : World} {K : Frag} {c : Cx prog w K} {fv : FV} {led : Led} {Q : Value → FV → Led → Prop}
theorem ev_strFromN {y x : Str} {t : Tok} {np cp sp pos : Pos} {i : Int} {k : Nat} (hc : c.Ok) (m : Mem y (.str x t) fv) (hz : x.length ≤ sizeLine) (h : ∀ t', Q (.str (Txt.slice x (some i) none) t') fv led)
    (hs : ∀ (u : Tok) (n : Nat), subscripted (.Slice (some (.Constant (.int i) k cp)) none none sp) false (.str x t) (.ref n) = operate [.ref n, .str x t] (getItem (.str x t) (.ref n)) := by intro _ _; with_unfolding_all rfl)
    (ht : ∀ x t r, letTemporaryGo (.Name y np) (.str x t) r = pure () := by intro _ _ _; with_unfolding_all rfl) : EV c (eval (.Subscript (.Name y np) (.Slice (some (.Constant (.int i) k cp)) none none sp) pos) c.env) Q fv led :=
  ev_strFrom (ev_local hc m ⟨x, t, rfl, hz, hs, h⟩) ht
theorem glob_in {x : Str} {v : Value} {pos : Pos} {scope : Scope} {cl : List (Str × Addr)} {C : Addr} {s : Shared} {E : Value → Shared → Prop} {R : Value → Shared → Prop} (hc : c.Ok) (S : St c s.heap fv led) (e : nsIn K mainGlobals x = some (some v)) (h : R v s)
    (hk : (compEnvC scope cl C c.env).scope.kind = .function) (hx : (compEnvC scope cl C c.env).kindOf x = some .globalImplicit) (hd : (x == ("__debug__" : Str)) = false) : wpAny (model prog w) c.A (eval (.Name x pos) (compEnvC scope cl C c.env)) R E s := by
  obtain ⟨p, loose, mean, mg, mb, T⟩ := hc.top
  exact cn_glob (by obtain ⟨cn, cs, a, ccd, cl, ee, hk⟩ := hc.env; rw [ee]) S.F hc.X (topRead_of T) e h hk hx hd
theorem boot_in {x : Str} {v : Value} {pos : Pos} {scope : Scope} {cl : List (Str × Addr)} {C : Addr} {s : Shared} {E : Value → Shared → Prop} {R : Value → Shared → Prop} (hc : c.Ok) (S : St c s.heap fv led) (e : nsIn K mainGlobals x = some none) (hv : bootBuiltins x = some v) (hn : x ≠ "__name__") (h : R v s)
    (hk : (compEnvC scope cl C c.env).scope.kind = .function) (hx : (compEnvC scope cl C c.env).kindOf x = some .globalImplicit) (hd : (x == ("__debug__" : Str)) = false) : wpAny (model prog w) c.A (eval (.Name x pos) (compEnvC scope cl C c.env)) R E s := by
  obtain ⟨p, loose, mean, mg, mb, T⟩ := hc.top
  exact cn_boot (by obtain ⟨cn, cs, a, ccd, cl, ee, hk⟩ := hc.env; rw [ee]) (by obtain ⟨cn, cs, a, ccd, cl, ee, hk⟩ := hc.env; rw [ee]) S.F hc.X (topRead_of T) e hv hn h hk hx hd
end
section
variable {M : Model} {A : Around} {E : Value → Shared → Prop} {s : Shared} {env : Env} {test : Expr}
theorem ifs_one {Q : Bool → Shared → Prop} (h : wpAny M A (PySem.isTrue test env (eval test env)) Q E s) :
    wpAny M A (forIn [test] true fun e r => if r = true then do let ok ← PySem.isTrue e env (eval e env); pure (ForInStep.yield ok) else pure (ForInStep.yield r)) Q E s := by
  rw [List.forIn_cons]
  refine wpAny_bind ?_
  rw [if_pos rfl]
  refine wpAny_bind (wpAny_mono h (fun ok s' q => ?_) fun _ _ x => x)
  refine wpAny_pure ?_
  show wpAny M A (forIn ([] : List Expr) ok _) Q E s'
  rw [List.forIn_nil]
  exact wpAny_pure q
theorem ifs_none {Q : Bool → Shared → Prop} (h : Q true s) :
    wpAny M A (forIn ([] : List Expr) true fun e r => if r = true then do let ok ← PySem.isTrue e env (eval e env); pure (ForInStep.yield ok) else pure (ForInStep.yield r)) Q E s := by
  rw [List.forIn_nil]
  exact wpAny_pure h
end
section
variable {prog : Program} {w : World} {K : Frag} {α : Type} {c : Cx prog w K} {fv : FV} {led : Led}
theorem EV.post {t : Sem α} {Q : α → FV → Led → Prop} (e : EV c t (fun a fv led => ∃ N M : Led, N.Sublist led ∧ N.Perm M ∧ Q a fv M) fv led) : EV c t Q fv led :=
  .mk fun s S => wpAny_mono (e.run s S) (fun a s1 ⟨n, fv1, led1, S1, N, M, h1, h2, q⟩ => ⟨n, fv1, M, ⟨S1.F, (S1.O.sub h1).perm h2, S1.N⟩, q⟩) fun _ _ x => x
end
section
variable {prog : Program} {w : World} {K : Frag} {c : Cx prog w K} {fv : FV} {led : Led}
theorem ev_forI {Q : Flow → FV → Led → Prop} {target iter : Expr} {body : List Stmt} {pos : Pos} (hc : c.Ok)
    (src : EV c (eval iter c.env) (fun x fv led => ∃ l vs, ∃ I : Nat → FV → Led → Prop, x = .ref l ∧ (l, SO.lst vs) ∈ led ∧ I 0 fv led ∧ (∀ i fv led, I i fv led → (l, SO.lst vs) ∈ led) ∧
      (∀ i it x fv led, vs[i]? = some x → I i fv led → EV c (letOwnedTupleGo target (.ref it) x) (fun _ => EV c (assign target c.env x) (fun _ => EV c (execs body c.env) (Turn (fun fv led => ∃ led', led = (it, itL l (i + 1)) :: led' ∧ I (i + 1) fv led') Q))) fv ((it, itL l (i + 1)) :: led)) ∧
      (∀ fv led, I vs.length fv led → Q .next fv led)) fv led) (hf : ∀ x, foldedSetIterable iter c.env x = pure x := by intro _; rfl) : EV c (exec (.For target iter body [] pos) c.env) Q fv led := by
  refine .mk fun s S => wpAny_For (src.into S fun x s1 fv1 led1 n1 S1 q => ?_) hf
  obtain ⟨l, vs, I, rfl, m, h0, keep, turn, last⟩ := q
  refine wpAny_pyIter_list (S1.isLst m) ?_
  obtain ⟨raw, hR, hnd, N⟩ := S1.O
  have S2 : St c (s1.heap.push { cls := .type "list_iterator", data := .fields #[.ref l, .int 0 0] }) fv1 ((s1.heap.objs.size, itL l 0) :: led1) :=
    ⟨S1.F.push _, Own.more (so := itL l 0) (a := s1.heap.objs.size) hR hnd ⟨_, rfl, rfl, rfl⟩ (S1.size raw N) (N.push S1.F _), S1.N⟩
  refine ev_forIt (T := itL l) (n := vs.length) (iter := iter) I s1.heap.objs.size (fun i fv led hi hI => ?_) (fun fv led hI => ?_) (n1.trans (.mk _ s1.toks)) S2 h0
  · exact ev_nextL (keep i fv led hI) (List.getElem?_eq_getElem hi) ⟨_, rfl, turn i _ _ fv led (List.getElem?_eq_getElem hi) hI⟩
  · exact ev_nextLe hc (keep _ fv led hI) (by simp) ⟨rfl, last fv led hI⟩
theorem ev_forTI {Q : Flow → FV → Led → Prop} {target iter : Expr} {body : List Stmt} {pos : Pos} (hc : c.Ok)
    (src : EV c (eval iter c.env) (fun x fv led => ∃ l vs, ∃ I : Nat → FV → Led → Prop, x = .ref l ∧ (l, SO.tup vs) ∈ led ∧ I 0 fv led ∧ (∀ i fv led, I i fv led → (l, SO.tup vs) ∈ led) ∧
      (∀ i it x fv led, vs[i]? = some x → I i fv led → EV c (letOwnedTupleGo target (.ref it) x) (fun _ => EV c (assign target c.env x) (fun _ => EV c (execs body c.env) (Turn (fun fv led => ∃ led', led = (it, itT l (i + 1)) :: led' ∧ I (i + 1) fv led') Q))) fv ((it, itT l (i + 1)) :: led)) ∧
      (∀ fv led, I vs.length fv led → Q .next fv led)) fv led) (hf : ∀ x, foldedSetIterable iter c.env x = pure x := by intro _; rfl) : EV c (exec (.For target iter body [] pos) c.env) Q fv led := by
  refine .mk fun s S => wpAny_For (src.into S fun x s1 fv1 led1 n1 S1 q => ?_) hf
  obtain ⟨l, vs, I, rfl, m, h0, keep, turn, last⟩ := q
  refine wpAny_pyIter_tuple (S1.isTuple m) ?_
  have S2 := S1.pushed (so := itT l 0) { cls := .type "tuple_iterator", data := .fields #[.ref l, .int 0 0] } ⟨_, rfl, rfl, rfl⟩
  refine ev_forIt (T := itT l) (n := vs.length) (iter := iter) I s1.heap.objs.size (fun i fv led hi hI => ?_) (fun fv led hI => ?_) (n1.trans (.mk _ s1.toks)) S2 h0
  · exact ev_nextT (keep i fv led hI) (List.getElem?_eq_getElem hi) ⟨_, rfl, turn i _ _ fv led (List.getElem?_eq_getElem hi) hI⟩
  · exact ev_nextTe hc (keep _ fv led hI) (by simp) ⟨rfl, last fv led hI⟩
end
end
section
theorem noPy {x y : Int} (h1 : 0 < y) (h2 : y < 1073741824) : Builtin.divisionGoesByPylong x y = false := PyProof.noPylong_small (by omega)
section
variable {prog : Program} {w : World} {K : Frag} {c : Cx prog w K} {fv : FV} {led led' : Led} {Q : Value → FV → Led → Prop} {a b x y : Int} {t u : Tok}
theorem op_divP (h : ∀ t, Q (.int (a.fdiv b) t) fv led) (h1 : 0 < b) (h2 : b < 1073741824) : EV c (binaryOp .FloorDiv (.int a t) (.int b u)) Q fv led := op_div h (by omega) (noPy h1 h2)
theorem op_modP (h : ∀ t, Q (.int (a.fmod b) t) fv led) (h1 : 0 < b) : EV c (binaryOp .Mod (.int a t) (.int b u)) Q fv led := op_mod h (by omega)
theorem op_mulP (h : ∀ t, Q (.int (a * b) t) fv led) (h1 : -(2 ^ 64) < a) (h2 : a < 2 ^ 64) : EV c (binaryOp .Mult (.int a t) (.int b u)) Q fv led := op_mul h (IntMulOk.of_left (intBits_le_64 h1 h2))
theorem op_mulM (h : ∀ t, Q (.int (x.fmod y * b) t) fv led) (h1 : 0 < y) (h2 : y < 2 ^ 60) : EV c (binaryOp .Mult (.int (x.fmod y) t) (.int b u)) Q fv led := by
  have g1 := Int.fmod_nonneg_of_pos x h1
  have g2 := Int.fmod_lt_of_pos x h1
  exact op_mulP h (by omega) (by omega)
theorem ev_lstSet0 {d : Addr} {v0 v : Value} {vs : List Value} {Q : Unit → FV → Led → Prop} (p : Put d (.lst (v0 :: vs)) (.lst (v :: vs)) led led') (h : Q () fv led') : EV c (setItem (.ref d) (.int 0 t) v) Q fv led :=
  ev_lstSet (vs := v0 :: vs) p (by decide) (by decide) (by simp only [List.length_cons]; omega) h
theorem ev_lstSet2 {d : Addr} {v0 v1 v2 v : Value} {Q : Unit → FV → Led → Prop} (p : Put d (.lst [v0, v1, v2]) (.lst [v0, v1, v]) led led') (h : Q () fv led') : EV c (setItem (.ref d) (.int 2 t) v) Q fv led :=
  ev_lstSet (vs := [v0, v1, v2]) p (by decide) (by decide) (by show (2 : Int) < ((3 : Nat) : Int); decide) h
end
end
section
section
variable {prog : Program} {w : World} {K : Frag} {c : Cx prog w K} {fv fv' : FV} {led led' : Led} {a it : Addr} {vs : List Value} {h h' : Heap} {Q : Value → FV → Led → Prop}
theorem ev_lstRevO {value : Expr} {k : Nat} {cp up sp pos : Pos} (h : EV c (eval value c.env) (fun v fv led => ∃ l vs, v = .ref l ∧ (l, SO.lst vs) ∈ led ∧ vs.length ≤ sizeLine ∧
      (∀ (n : Nat), subscripted (.Slice none none (some (.UnaryOp .USub (.Constant (.int 1) k cp) up)) sp) false (.ref l) (.ref n) = operate [.ref l, .ref n] (getItem (.ref l) (.ref n))) ∧ ∀ d, Q (.ref d) fv ((d, .lst vs.reverse) :: led)) fv led)
    (ht : ∀ l r, letTemporaryGo value (.ref l) r = pure () := by intro _ _; with_unfolding_all rfl) :
    EV c (eval (.Subscript value (.Slice none none (some (.UnaryOp .USub (.Constant (.int 1) k cp) up)) sp) pos) c.env) Q fv led :=
  .mk fun s S => Subscript_ (h.into S fun v s1 fv1 led1 n1 S1 ⟨l, vs, e, m, hz, hs, q⟩ => by
    subst e
    refine wpAny_Slice (wpAny_pure (wpAny_pure ?_))
    show wpAny _ _ (eval (.UnaryOp .USub (.Constant (.int 1) k cp) up) c.env) _ _ _
    refine (neg_const (Q := fun v fv' led' => fv' = fv1 ∧ led' = led1 ∧ ∃ t, v = .int (-1) t) (fun t => ⟨rfl, rfl, t, rfl⟩)).into S1 fun v s2 fv2 led2 n2 S2 q2 => ?_
    obtain ⟨rfl, rfl, t, rfl⟩ := q2
    obtain ⟨raw, hR, hnd, N⟩ := S2.O
    refine krv_lit (s := s2) S2.F N (S2.isLst m) (.int _ _) rfl (fun D h' F' N' lo => ?_) (hs _) (ht l) (by simpa using hz)
    refine ⟨(n1.trans n2).trans (.mk h' s2.toks), _, _, ⟨F', Own.more (so := .lst vs.reverse) (a := D) hR hnd ⟨0, rfl⟩ (fun q => ?_) N', S2.N⟩, q D⟩
    obtain ⟨p, hp, e⟩ := List.mem_map.mp q
    exact Nat.lt_irrefl _ (e ▸ lo p hp))
end
end
section
/-- a contract that holds where the heap at the bottom bears something -/
def CallsB (Bp : Heap → Prop) (prog : Program) (w : World) (K : Frag) (n : Nat) (f : Addr) (vs : List Value) (led : Led) (post : Value → Led → Prop) : Prop :=
  ∀ (A : Around) (h₀ : Heap) (L : Addr) (m : Str → Option Value) (s : Shared) (R : Result → Shared → Prop), Bp h₀ → Stand K A h₀ L → Room A n → Fr h₀ L s.heap m → Own prog w h₀ L s.heap led →
    (∀ r s' led', Near s s' → Fr h₀ L s'.heap m → Own prog w h₀ L s'.heap led' → post r led' → R (.ok (.ret r)) s') → codeAny (model prog w) A (.call (.ref f) ⟨vs, []⟩) R s
def Keeps2 (Bp : Heap → Prop) : Prop := ∀ g g' : Heap, Bp g → (∀ b o, g.get? b = some o → g'.get? b = some o) → Bp g'
abbrev BL (sc : Addr) (vals : List Value) : Heap → Prop := fun h => h.IsList sc vals.toArray
theorem BL.keeps {sc : Addr} {vals : List Value} : Keeps2 (BL sc vals) := fun g g' ⟨o, h1, h2⟩ h => ⟨o, h _ _ h1, h2⟩
section
variable {prog : Program} {w : World} {K : Frag} {n : Nat} {f : Addr} {vs : List Value} {led : Led} {post : Value → Led → Prop} {Bp : Heap → Prop}
theorem calls_introB (hBp : Keeps2 Bp) {name qual : Str} {params : Arguments} {body : List Stmt} {scope : Scope} {dV kV doc pm cdv ct : Value} {an : Option Addr} (D : Def K f name qual params body scope dV kV doc pm cdv ct an)
    (binds : List (Str × Value)) (rest : List Str) (hbind : ∀ s : Shared, K.In s.heap → BindsTo s (fnOf name qual params body scope dV kV doc pm an cdv ct) ⟨vs, []⟩ binds)
    {ns : List Str} (hN : namesOk scope ns = true) (hns : binds.map (·.1) ++ rest = ns)
    (H : ∀ c : Cx prog w K, c.Ok → c.env.scope = scope → Room c.A n → Bp c.g → EV c (execs body c.env) (fun fl _ led' => post (retOf fl) led') (fv0 binds rest) led) : CallsB Bp prog w K (n + 1) f vs led post := by
  intro A h₀ L m s R hB S r F O k
  obtain ⟨oc, od, osl, ho⟩ := D.at_
  obtain ⟨p, loose, mean, mg, mb, T⟩ := S.top
  obtain ⟨env, outer, A₀, base, hA, hf, hke, B⟩ := S.fr
  obtain ⟨raw, hR, hnd, N⟩ := O
  subst hns
  have hloc : ∀ y ∈ binds, scope.names.lookup y.1 = some .local := fun y hy => by
    have := List.all_eq_true.mp (Bool.and_eq_true_iff.mp hN).2 y.1 (List.mem_append_left _ (List.mem_map_of_mem (f := (·.1)) hy))
    exact beq_iff_eq.mp (Bool.and_eq_true_iff.mp this).1
  have hnodup : (binds.map (·.1) ++ rest).Nodup := of_decide_eq_true (Bool.and_eq_true_iff.mp hN).1
  refine code_def B F S.X N T hA hf hke ho D.code (Nat.lt_of_le_of_lt (Nat.le_trans (Nat.le_add_right _ (2 * (n + 1) + 2)) r.1) (by decide)) (hbind s (S.X.keeps F.keep)) hloc (fun g L' h₁ FG F' N' B' X' T' => ?_) D.co D.gen D.kind D.cell
  have hc : Cx.Ok (prog := prog) (w := w) (K := K) ⟨A.deeper (envOf qual scope L' f cdv), g, L', envOf qual scope L' f cdv⟩ :=
    { X := X', top := ⟨p, loose, mean, mg, mb, T'⟩, hh := S.hh, env := ⟨qual, scope, f, cdv, [], rfl, D.kind⟩, below := ⟨env :: outer, A, base, by show A.frames.map _ = _; rw [hA]; rfl, B'⟩ }
  have e := H ⟨A.deeper (envOf qual scope L' f cdv), g, L', envOf qual scope L' f cdv⟩ hc rfl ⟨by have := r.1; show A.depth + 1 + 2 * n + 2 ≤ 900; omega, by have := r.2; show A.units + 3 + 12 * n + 30 ≤ 9000; omega⟩ (hBp _ _ hB FG.keep)
  have F0 : Fr g L' h₁ (fr (fv0 binds rest)) := by
    have : fr (fv0 binds rest) = fun y => binds.reverse.lookup y := funext fun y => fr_binds hnodup y
    rw [this]; exact F'
  refine wpAny_mono (e.run { s with heap := h₁, toks := s.toks + binds.length } ⟨F0, ⟨raw, hR, hnd, N'⟩, ?_⟩) (fun fl s' a => ?_) fun _ _ x => x.elim
  · rw [fv0_names]; exact names_of hN
  · obtain ⟨⟨h', t', rfl⟩, fv', led', S', q⟩ := a
    obtain ⟨raw', hR', hnd', N''⟩ := S'.O
    have ret : ∀ v, retOf fl = v → LeaveK h₀ L m g R v { s with heap := h', toks := t' } := fun v hv => ⟨L', _, raw', S'.F, N'', fun Fb Nb => by
      subst hv
      exact k _ _ led' (.mk h' t') Fb ⟨raw', hR', hnd', Nb⟩ q⟩
    cases fl <;> exact ret _ rfl
variable {c : Cx prog w K} {fv : FV} {Q : Value → FV → Led → Prop}
theorem ev_callB {k : Nat} (hc : c.Ok) (hr : Room c.A n) (hk : k ≤ n) (hB : Bp c.g) (C : CallsB Bp prog w K k f vs led post) (h : ∀ r led', post r led' → Q r fv led') : EV c (call (.ref f) vs) Q fv led :=
  .mk fun s S => wpAny_call (C c.A c.g c.L _ s _ hB hc.stand (hr.le hk) S.F S.O fun r s' led' n' F' O' p => ⟨n', fv, led', ⟨F', O', S.N⟩, h r led' p⟩)
theorem CallsB.mono {post' : Value → Led → Prop} (C : CallsB Bp prog w K n f vs led post) (h : ∀ r led', post r led' → post' r led') : CallsB Bp prog w K n f vs led post' :=
  fun A h₀ L m s R hB S r F O k => C A h₀ L m s R hB S r F O fun r s' led' n' F' O' p => k r s' led' n' F' O' (h r led' p)
theorem CallsB.sub (C : CallsB Bp prog w K n f vs led (fun r led' => ∃ M : Led, M.Sublist led' ∧ post r M)) : CallsB Bp prog w K n f vs led post :=
  fun A h₀ L m s R hB S r F O k => C A h₀ L m s R hB S r F O fun r s' led' n' F' O' ⟨M, hM, p⟩ => k r s' M n' F' (O'.sub hM) p
end
section
variable {prog : Program} {w : World} {K : Frag} {c : Cx prog w K} {fv : FV} {led : Led} {Q : Value → FV → Led → Prop} {pos : Pos} {a : Addr} {vs : List Value}
theorem ev_slB {y : Str} {np cp sp : Pos} {sc : Addr} {k : Nat} {j : Nat} (hc : c.Ok) (m : Mem y (.ref sc) fv) (hl : BL sc vs c.g) (hz : vs.length ≤ sizeLine)
    (h : ∀ d, Q (.ref d) fv ((d, .lst (vs.take k)) :: led))
    (hs : ∀ (n : Nat), subscripted (.Slice none (some (.Constant (.int (k : Int)) j cp)) none sp) false (.ref sc) (.ref n) = operate [.ref n, .ref sc] (getItem (.ref sc) (.ref n)))
    (ht : ∀ r, letTemporaryGo (.Name y np) (.ref sc) r = pure ()) : EV c (eval (.Subscript (.Name y np) (.Slice none (some (.Constant (.int (k : Int)) j cp)) none sp) pos) c.env) Q fv led :=
  .mk fun s S => Subscript_ ((ev_local (Q := fun v fv' led' => v = .ref sc ∧ fv' = fv ∧ led' = led) hc m ⟨rfl, rfl, rfl⟩).into S fun v s1 fv1 led1 n1 S1 q => by
    obtain ⟨rfl, rfl, rfl⟩ := q
    refine wpAny_Slice (wpAny_pure ?_)
    show wpAny _ _ (eval (.Constant (.int (k : Int)) j cp) c.env) _ _ _
    refine wpAny_Constant_int (wpAny_pure ?_)
    obtain ⟨raw, hR, hnd, N⟩ := S1.O
    refine slice_list (s := { s1 with toks := s1.toks + 1 }) S1.F N (items := vs.toArray) (BL.keeps _ _ hl S1.F.keep) .none (.int _ _) (fun h' F' N' => ?_) (hs _) ht (by simpa using hz)
    rw [slicePick_upto'] at N'
    refine ⟨n1.trans (.mk h' _), fv1, _, ⟨F', Own.more (so := .lst (vs.take k)) (a := s1.heap.objs.size + 1) hR hnd ⟨0, by simp⟩ (fun q => ?_) N', S1.N⟩, h _⟩
    obtain ⟨p, hp, e⟩ := List.mem_map.mp q
    have e : p.1 = s1.heap.objs.size + 1 := e
    have := Heap.lt_size (N p hp).1
    rw [e] at this
    exact absurd this (by show ¬ s1.heap.objs.size + 1 < s1.heap.objs.size; omega))
theorem ev_sum {ns : List Int} (hc : c.Ok) (m : (a, SO.lst vs) ∈ led) (hi : IntsAre vs ns) (h : ∀ t, Q (.int ns.sum t) fv led) : EV c (call (.builtin "sum") [.ref a]) Q fv led :=
  .mk fun s S => by
    obtain ⟨raw, hR, hnd, N⟩ := S.O
    exact sumK hc.hh S.F N (S.isLst m) hi fun h' tk t' F' N' => ⟨.mk h' tk, fv, led, ⟨F', ⟨raw, hR, hnd, N'⟩, S.N⟩, h t'⟩
end
end
section
section
variable {prog : Program} {w : World} {K : Frag} {c : Cx prog w K} {fv fv' : FV} {led led' : Led} {h h' : Heap}
theorem asg_end {D : Addr} {ys : List Value} {n : Nat} {y : Str} {fv2 : FV} (hL : c.env.locals = c.L) (S : St c h fv led) (u : Upd y (.ref D) fv fv2) (hold : ∀ b o, b ≠ c.L → h.get? b = some o → h'.get? b = some o) (hD : ∀ o, h.get? D ≠ some o) (hDo : h'.get? D = some (listOf ys.toArray n))
    (hn : h'.Ns c.L (fun z => if z = y then some (.ref D) else fr fv z)) : St c h' fv2 ((D, .lst ys) :: led) := by
  obtain ⟨raw, hR, hnd, N⟩ := S.O
  have hDL : D ≠ c.L := fun q => by
    obtain ⟨o, es, ep, e, _⟩ := S.F.ns
    exact hD o (by rw [q]; exact e)
  have hDg : c.g.get? D = none := by
    cases e : c.g.get? D with
    | none => rfl
    | some o => exact absurd (S.F.keep _ _ e) (hD o)
  refine ⟨⟨?_, fun b o e => hold b o (Nat.ne_of_lt (Nat.lt_of_lt_of_le (Heap.lt_size e) S.F.above)) (S.F.keep b o e), S.F.above⟩, Own.more (so := .lst ys) (a := D) hR hnd ⟨n, rfl⟩ (fun q => ?_) fun q hq => ?_, u.names ▸ S.N⟩
  · have : fr fv2 = fun z => if z = y then some (.ref D) else fr fv z := funext fun z => u.fr S.N.1 z
    rw [this]; exact hn
  · obtain ⟨pr, hpr, e⟩ := List.mem_map.mp q
    exact hD pr.2 (by rw [← e]; exact (N pr hpr).1)
  rcases List.mem_cons.mp hq with rfl | hq
  · exact ⟨hDo, hDL, hDg⟩
  · exact ⟨hold _ _ (N q hq).2.1 (N q hq).1, (N q hq).2⟩
/-- a name given to a comprehension over a list -/
theorem ev_asgC {Q : Flow → FV → Led → Prop} {elt iter : Expr} {x y : Str} {px py : Pos} {ifs : List Expr} {scope : Scope} {cl : List (Str × Addr)} {pos spos : Pos} (p : Value → Bool) (F : Value → Value → Prop) (hc : c.Ok)
    (hclos : closureFor scope c.env = pure cl) (hcell : ∀ y ∈ scope.names, y.2 ≠ .cell) (hkind : scope.kind = .function)
    (hnames : ∀ y ∈ scope.names, y.2 = .local → scope.names.lookup y.1 = some .local) (hx : scope.names.lookup x = some .local)
    (hline : (py.line == pos.line) = true) (hany : (scope.names.any fun (n, k) => n == y && (k == .local || k == .cell)) = false)
    (h : EV c (eval iter c.env) (fun xv fv led => ∃ l vs, xv = .ref l ∧ (l, SO.lst vs) ∈ led ∧ vs.length ≤ sizeLine ∧ CTurn c scope cl x ifs elt (fun v => v ∈ vs) p F fv led ∧
      ∀ D, ∃ fv2, Upd y (.ref D) fv fv2 ∧ ∀ ys, Paired F (vs.filter p) ys → Q .next fv2 ((D, .lst ys) :: led)) fv led)
    (hs : ∀ x, foldedSetIterable iter c.env x = pure x := by intro _; rfl) (hy : y ∈ fv.map (·.1)) : EV c (exec (.Assign [.Name y py] (.ListComp elt [⟨.Name x px, iter, ifs, 0⟩] scope pos) spos) c.env) Q fv led := by
  obtain ⟨cn, cs, a, ccd, cll, ee, hk⟩ := hc.env
  have hL : c.env.locals = c.L := by rw [ee]
  refine .mk fun s S => ?_
  have hloc : c.env.kindOf y = some .local := (S.N.2 y hy).1
  have hsw : swapsWith (.ListComp elt [⟨.Name x px, iter, ifs, 0⟩] scope pos) (some (.Name y py)) spos.line c.env = pure true := by
    have e : swapsWith (.ListComp elt [⟨.Name x px, iter, ifs, 0⟩] scope pos) (some (.Name y py)) spos.line c.env = (pure (c.env.blockKind == .function && c.env.kindOf y == some .local && py.line == pos.line && !(scope.names.any fun (n, k) => n == y && (k == .local || k == .cell))) : Sem Bool) := rfl
    rw [e, blockKind hc, hloc, hline, hany]
    rfl
  refine wpAny_Assign_ListComp_free p F hsw hclos hcell hkind hnames hx hloc (by rw [ee]; show (cs.kind == .class || (cs.kind == .module && c.L != mainGlobals)) = false; rw [hk]; rfl) (h.into S fun xv s1 fv1 led1 n1 S1 q => ?_) hs
  obtain ⟨l, vs0, rfl, m, hz, T, q⟩ := q
  have hl := S1.isLst m
  have hlt : l < s1.heap.objs.size := by obtain ⟨_, e, _⟩ := hl; exact Heap.lt_size e
  refine wpAny_pyIter_list hl ?_
  have up : ∀ b o, s1.heap.get? b = some o → (s1.heap.push { cls := .type "list_iterator", data := .fields #[.ref l, .int 0 0] }).get? b = some o := fun b o e => Heap.get?_push_of_some _ e
  have old : ∀ (s₃ : Shared), (∀ b o, b ∉ [s1.heap.objs.size] → (s1.heap.push { cls := .type "list_iterator", data := .fields #[.ref l, .int 0 0] }).get? b = some o → s₃.heap.get? b = some o) → St c s₃.heap fv1 led1 :=
    fun s₃ hk => S1.keeps fun b o e => hk b o (fun q => Nat.lt_irrefl _ (List.mem_singleton.mp q ▸ Heap.lt_size e)) (up b o e)
  have S2 := S1.push { cls := .type "list_iterator", data := .fields #[.ref l, .int 0 0] }
  refine ⟨s1.heap.objs.size, [s1.heap.objs.size, l], [s1.heap.objs.size], vs0.toArray.size, fun i v => vs0.toArray[i]? = some v, _, fr fv1, rfl, Walks.list hc.hh _ l (Nat.ne_of_lt hlt) vs0.toArray, by simpa using hz, ⟨⟨_, Heap.get?_push_size _ rfl, rfl, rfl⟩, hl.push _⟩, fun b hb => ?_, ?_, by rw [hL]; exact S2.F.ns, ⟨?_, ?_⟩, ?_⟩
  · show b < (s1.heap.push _).objs.size
    rw [Heap.size_push]
    rcases List.mem_cons.mp hb with rfl | hb
    · exact Nat.lt_succ_self _
    · rw [List.mem_singleton.mp hb]; exact Nat.lt_succ_of_lt hlt
  · rw [hL]
    intro q
    have := S1.F.ns.lt
    rw [List.mem_singleton.mp q] at this
    exact Nat.lt_irrefl _ this
  · intro C i v s₃ m₃ E' _ hv hn hm hk _
    exact (T C v s₃ m₃ E' (List.mem_of_getElem? (by simpa using hv)) (old s₃ hk) hn hm).1
  · intro C i v s₃ m₃ E' _ hv hp hn hm hk _
    exact (T C v s₃ m₃ E' (List.mem_of_getElem? (by simpa using hv)) (old s₃ hk) hn hm).2 hp
  · intro D h' tk ys vs hD hl hpl hlen hP hF hns hk
    obtain ⟨n, hDo⟩ := hpl
    have e : vs = vs0 := by
      refine List.ext_getElem? fun j => ?_
      cases e : vs[j]? with
      | some v => have := hP j v e; simpa using this.symm
      | none =>
        have h1 := List.getElem?_eq_none_iff.mp e
        exact (List.getElem?_eq_none (by rw [List.size_toArray] at hlen; omega)).symm
    subst e
    obtain ⟨fv2, u, q⟩ := q D
    rw [hL] at hns hk
    refine ⟨n1.trans (Near.mk h' tk), fv2, _, asg_end hL S1 u (fun b o hb e => hk b o hb (fun q => Nat.lt_irrefl _ (List.mem_singleton.mp q ▸ Heap.lt_size e)) (up b o e)) (fun o e => ?_) (by simpa using hDo) hns, q ys.toList hF⟩
    rw [up _ _ e] at hD; cases hD
end
end
section
open Lean in
/-- how a side goal is closed: one letter each -/
def kq_clo (c : Char) : MacroM (TSyntax `tactic) :=
  if c == 'a' then `(tactic| assumption)
  else if c == 'A' then `(tactic| with_reducible assumption)
  else if c == 'd' then `(tactic| decide)
  else if c == 'D' then `(tactic| decide +kernel)
  else if c == 'r' then `(tactic| exact rfl)
  else if c == 'n' then `(tactic| kit_nb)
  else if c == 's' then `(tactic| k_same)
  else if c == 't' then `(tactic| k_same2)
  else if c == 'b' then `(tactic| kba_same)
  else if c == 'c' then `(tactic| k_cls)
  else if c == 'e' then `(tactic| k_ne)
  else if c == 'v' then `(tactic| kd_above)
  else if c == 'f' then `(tactic| fold_side)
  else if c == 'F' then `(tactic| fold_adds)
  else if c == 'k' then `(tactic| ki_rest)
  else if c == 'l' then `(tactic| kl_rest)
  else if c == 'm' then `(tactic| fold_side6)
  else if c == 'o' then `(tactic| omega)
  else if c == 'Q' then `(tactic| exact Nat.le_of_ble_eq_true rfl)
  else if c == 'N' then `(tactic| exact List.cons_ne_nil _ _)
  else if c == 'U' then `(tactic| (intros; with_unfolding_all rfl))
  else if c == 'u' then `(tactic| with_unfolding_all rfl)
  else if c == 'O' then `(tactic| first | with_reducible assumption | omega)
  else if c == 'p' then `(tactic| first | with_reducible assumption | decide | omega)
  else if c == 'q' then `(tactic| first | with_reducible assumption | exact Nat.le_of_ble_eq_true rfl | omega)
  else if c == 'R' then `(tactic| first | exact rfl | decide | assumption)
  else `(tactic| first | exact rfl | assumption)
open Lean in
/-- the arguments of a step and the closers of its sides, told by letters: `_` the goal that goes on, `'` a side closed late, `!` `+` `%` what follows -/
def kq_sid : List Char → Bool → Array Term → Array (TSyntax `tactic) → Array (TSyntax `tactic) → MacroM (Array Term × Array (TSyntax `tactic))
  | [], _, as, cs, ls => pure (as, cs ++ ls)
  | c :: r, late, as, cs, ls =>
    if c == '_' then do kq_sid r false (as.push (← `(?_))) cs ls
    else if c == '-' then do kq_sid r false (as.push (← `(_))) cs ls
    else if c == '\'' then kq_sid r true as cs ls
    else if c == '!' then do kq_sid r false as cs (ls.push (← `(tactic| intro _)))
    else if c == '+' then do kq_sid r false as cs (ls.push (← `(tactic| dsimp only [List.cons_append, List.nil_append])))
    else if c == '%' then do kq_sid r false as cs (ls.push (← `(tactic| intro _ ⟨_, _, _, _⟩)))
    else do
      let h := mkIdent (← MonadQuotation.addMacroScope (Name.mkSimple (toString as.size)))
      let a ← `(?$h:ident)
      let t ← `(tactic| (case $h:ident => $(← kq_clo c):tactic))
      if late then kq_sid r false (as.push a) cs (ls.push t) else kq_sid r false (as.push a) (cs.push t) ls
open Lean in
/-- a step told in short: `f`, `(f "ab_")`, `(f g "ab")` -/
def kq_stp (t : Term) : MacroM (TSyntax `tactic) :=
  if t.raw.isIdent then `(tactic| with_reducible refine $t ?_) else
  match t with
  | `(($f:term $xs*)) => do
    match xs.back!.raw.isStrLit? with
    | none => `(tactic| with_reducible refine $t)
    | some s =>
      if xs.size == 2 && xs[0]!.raw.isIdent then do
        let (hs, c0) ← kq_sid ['a', 'a', 'd'] false #[] #[] #[]
        let (as, cs) ← kq_sid s.toList false hs c0 #[]
        let a := Syntax.mkApp ⟨xs[0]!.raw⟩ (as.extract 3 as.size)
        let e := Syntax.mkApp f (hs ++ #[a, ← `(?_)])
        `(tactic| ((with_reducible refine' $e); ($[$cs];*)))
      else do
        let (as, cs) ← kq_sid s.toList false #[] #[] #[]
        let e := Syntax.mkApp f (xs.pop ++ as)
        `(tactic| ((with_reducible refine' $e); ($[$cs];*)))
  | _ => Macro.throwUnsupported
end
section
-- the program's statements where they stand
abbrev hd.PP : Program := PySem.Challenge.rw_np0091_01.row.toRowW.1
noncomputable def hd.stAt (i : Nat) : Stmt := (behindTheImports hd.PP).getD i (.Pass ⟨0, 0, 0, 0⟩)
noncomputable def hd.clsBody : Stmt → List Stmt
  | .ClassDef (body := b) .. => b
  | _ => []
noncomputable def hd.scAt (i j : Nat) : Stmt := (hd.clsBody (hd.stAt i)).getD j (.Pass ⟨0, 0, 0, 0⟩)
noncomputable def hd.fnA : Stmt → Arguments
  | .FunctionDef _ a _ _ _ _ _ _ _ _ => a
  | _ => default
noncomputable def hd.fnB : Stmt → List Stmt
  | .FunctionDef _ _ b _ _ _ _ _ _ _ => b
  | _ => default
noncomputable def hd.fnS : Stmt → Scope
  | .FunctionDef _ _ _ _ _ _ s _ _ _ => s
  | _ => default
-- the objects behind the top's run
noncomputable def o_43 (P : Params) : Obj := ⟨(.type "tuple"), none, (.seq #[] 0), #[]⟩
noncomputable def o_44 (P : Params) : Obj := ⟨.none, none, (.fields #[]), #[]⟩
noncomputable def o_45 (P : Params) : Obj := ⟨(.type "code"), none, (.fields #[(.str "<module>" 182), (.str "<module>" 183), (.str "/claim/cut.py" 184), (.int 1 0), (.int 0 0), (.int 0 0), (.int 0 0), (.int 0 0), (.ref 11), (.bool .false), (.int 181 0), (.ref 12), .none, .none, .none, .none, (.int 185 0), (.int 1 0), (.str "/claim/cut.py" 186)]), #[]⟩
noncomputable def o_46 (P : Params) : Obj := ⟨(.type "frame"), none, .plain, #[(some (.ref 13)), (some (.ref 3)), (some (.ref 3)), none, (some (.str "__main__" 164)), none, (some (.ref 0))]⟩
noncomputable def o_111 (P : Params) : Obj := ⟨.none, none, (.dict #[⟨(PyData.keyHash P "type.__subclasses__.Exception.0"), (.str "type.__subclasses__.Exception.0" 329), (.int 96 0)⟩, ⟨(PyData.keyHash P "type.__subclasses__.Exception.n"), (.str "type.__subclasses__.Exception.n" 330), (.int 1 0)⟩] 2), #[]⟩
noncomputable def o_51 (P : Params) : Obj := ⟨(.type "tuple"), none, (.seq #[] 0), #[]⟩
noncomputable def o_52 (P : Params) : Obj := ⟨.none, none, (.fields #[]), #[]⟩
noncomputable def o_53 (P : Params) : Obj := ⟨(.type "tuple"), none, (.seq #[(.str "k" 190)] 0), #[]⟩
noncomputable def o_54 (P : Params) : Obj := ⟨(.type "tuple"), none, (.seq #[] 0), #[]⟩
noncomputable def o_55 (P : Params) : Obj := ⟨.none, none, .func ⟨"_wall", "_wall", hd.fnA (hd.stAt 0), .stmts (hd.fnB (hd.stAt 0)), hd.fnS (hd.stAt 0), 0, [], .none, .none, .none, .none, none, .none, .none, 0⟩, #[]⟩
noncomputable def o_56 (P : Params) : Obj := ⟨(.type "code"), none, (.fields #[(.str "_wall" 187), (.str "_wall" 188), (.str "/claim/cut.py" 189), (.int 1 0), (.int 1 0), (.int 0 0), (.int 0 0), (.int 3 0), (.ref 15), (.bool .true), (.int 181 0), (.ref 16), .none, (.ref 17), (.ref 18), (.ref 19), (.int 191 0), (.int 1 0), (.str "/claim/cut.py" 192)]), #[]⟩
noncomputable def o_57 (P : Params) : Obj := ⟨(.type "function"), none, .func ⟨"_wall", "_wall", hd.fnA (hd.stAt 0), .stmts (hd.fnB (hd.stAt 0)), hd.fnS (hd.stAt 0), 3, [], .none, .none, .none, (.str "__main__" 164), none, (.ref 20), .none, 0⟩, #[]⟩
noncomputable def o_60 (P : Params) : Obj := ⟨(.type "tuple"), none, (.seq #[] 0), #[]⟩
noncomputable def o_61 (P : Params) : Obj := ⟨(.type "builtin_function_or_method"), none, (.fields #[(.builtin "type.__prepare__"), (.type "type")]), #[]⟩
noncomputable def o_62 (P : Params) : Obj := ⟨(.type "dict"), none, (.dict #[⟨(PyData.keyHash P "__module__"), (.str "__module__" 203), (.str "emacs.parsestate" 194)⟩, ⟨(PyData.keyHash P "__qualname__"), (.str "__qualname__" 205), (.str "ParseState" 204)⟩, ⟨(PyData.keyHash P "__firstlineno__"), (.str "__firstlineno__" 207), (.int 5 206)⟩, ⟨(PyData.keyHash P "__init__"), (.str "__init__" 231), (.ref 37)⟩, ⟨(PyData.keyHash P "depth"), (.str "depth" 238), (.ref 44)⟩, ⟨(PyData.keyHash P "innermost"), (.str "innermost" 245), (.ref 51)⟩, ⟨(PyData.keyHash P "is_plain"), (.str "is_plain" 252), (.ref 58)⟩, ⟨(PyData.keyHash P "items"), (.str "items" 260), (.ref 65)⟩, ⟨(PyData.keyHash P "__static_attributes__"), (.str "__static_attributes__" 273), (.ref 66)⟩] 9), #[]⟩
noncomputable def o_63 (P : Params) : Obj := ⟨(.type "tuple"), none, (.seq #[] 0), #[]⟩
noncomputable def o_64 (P : Params) : Obj := ⟨.none, none, (.fields #[(.int 7 0), (.int 4 0), (.ref 36), (.int 21 0), (.int 4 0), (.ref 43), (.int 24 0), (.int 4 0), (.ref 50), (.int 27 0), (.int 4 0), (.ref 57), (.int 30 0), (.int 4 0), (.ref 64)]), #[]⟩
noncomputable def o_65 (P : Params) : Obj := ⟨(.type "code"), none, (.fields #[(.str "ParseState" 198), (.str "ParseState" 199), (.str "/claim/cut.py" 200), (.int 5 0), (.int 0 0), (.int 0 0), (.int 0 0), (.int 0 0), (.ref 25), (.bool .false), (.int 181 0), (.ref 26), .none, .none, .none, .none, (.int 201 0), (.int 5 0), (.str "/claim/cut.py" 202)]), #[]⟩
noncomputable def o_66 (P : Params) : Obj := ⟨(.type "frame"), none, .plain, #[(some (.ref 27)), (some (.ref 3)), (some (.ref 24)), none, (some (.str "emacs.parsestate" 194)), none, (some (.ref 0))]⟩
noncomputable def o_67 (P : Params) : Obj := ⟨(.type "tuple"), none, (.seq #[] 0), #[]⟩
noncomputable def o_68 (P : Params) : Obj := ⟨(.type "tuple"), none, (.seq #[(.ref 29), (.int 0 208), (.int 0 209), .none, .none, .none, (.int 0 210), (.str "" 211), (.bool .false), .none, (.bool .false), (.str "" 212)] 0), #[]⟩
noncomputable def o_69 (P : Params) : Obj := ⟨(.type "tuple"), none, (.seq #[] 0), #[]⟩
noncomputable def o_70 (P : Params) : Obj := ⟨.none, none, (.fields #[]), #[]⟩
noncomputable def o_71 (P : Params) : Obj := ⟨(.type "tuple"), none, (.seq #[(.str "self" 216), (.str "opens" 217), (.str "below" 218), (.str "least" 219), (.str "whole" 220), (.str "word" 221), (.str "string" 222), (.str "comment" 223), (.str "style" 224), (.str "nests" 225), (.str "start" 226), (.str "quoted" 227), (.str "half" 228)] 0), #[]⟩
noncomputable def o_72 (P : Params) : Obj := ⟨(.type "tuple"), none, (.seq #[] 0), #[]⟩
noncomputable def o_73 (P : Params) : Obj := ⟨.none, none, .func ⟨"__init__", "ParseState.__init__", hd.fnA (hd.scAt 2 0), .stmts (hd.fnB (hd.scAt 2 0)), hd.fnS (hd.scAt 2 0), 0, [], .none, .none, .none, .none, none, .none, .none, 0⟩, #[]⟩
noncomputable def o_74 (P : Params) : Obj := ⟨(.type "code"), none, (.fields #[(.str "__init__" 213), (.str "ParseState.__init__" 214), (.str "/claim/cut.py" 215), (.int 7 0), (.int 13 0), (.int 0 0), (.int 0 0), (.int 3 0), (.ref 31), (.bool .true), (.int 181 0), (.ref 32), .none, (.ref 33), (.ref 34), (.ref 35), (.int 229 0), (.int 7 0), (.str "/claim/cut.py" 230)]), #[]⟩
noncomputable def o_75 (P : Params) : Obj := ⟨(.type "function"), none, .func ⟨"__init__", "ParseState.__init__", hd.fnA (hd.scAt 2 0), .stmts (hd.fnB (hd.scAt 2 0)), hd.fnS (hd.scAt 2 0), 3, [], (.ref 30), .none, .none, (.str "emacs.parsestate" 194), none, (.ref 36), .none, 0⟩, #[]⟩
noncomputable def o_76 (P : Params) : Obj := ⟨(.type "tuple"), none, (.seq #[] 0), #[]⟩
noncomputable def o_77 (P : Params) : Obj := ⟨.none, none, (.fields #[]), #[]⟩
noncomputable def o_78 (P : Params) : Obj := ⟨(.type "tuple"), none, (.seq #[(.str "self" 235)] 0), #[]⟩
noncomputable def o_79 (P : Params) : Obj := ⟨(.type "tuple"), none, (.seq #[] 0), #[]⟩
noncomputable def o_80 (P : Params) : Obj := ⟨.none, none, .func ⟨"depth", "ParseState.depth", hd.fnA (hd.scAt 2 1), .stmts (hd.fnB (hd.scAt 2 1)), hd.fnS (hd.scAt 2 1), 0, [], .none, .none, .none, .none, none, .none, .none, 0⟩, #[]⟩
noncomputable def o_81 (P : Params) : Obj := ⟨(.type "code"), none, (.fields #[(.str "depth" 232), (.str "ParseState.depth" 233), (.str "/claim/cut.py" 234), (.int 21 0), (.int 1 0), (.int 0 0), (.int 0 0), (.int 3 0), (.ref 38), (.bool .true), (.int 181 0), (.ref 39), .none, (.ref 40), (.ref 41), (.ref 42), (.int 236 0), (.int 21 0), (.str "/claim/cut.py" 237)]), #[]⟩
noncomputable def o_82 (P : Params) : Obj := ⟨(.type "function"), none, .func ⟨"depth", "ParseState.depth", hd.fnA (hd.scAt 2 1), .stmts (hd.fnB (hd.scAt 2 1)), hd.fnS (hd.scAt 2 1), 3, [], .none, .none, .none, (.str "emacs.parsestate" 194), none, (.ref 43), .none, 0⟩, #[]⟩
noncomputable def o_83 (P : Params) : Obj := ⟨(.type "tuple"), none, (.seq #[] 0), #[]⟩
noncomputable def o_84 (P : Params) : Obj := ⟨.none, none, (.fields #[]), #[]⟩
noncomputable def o_85 (P : Params) : Obj := ⟨(.type "tuple"), none, (.seq #[(.str "self" 242)] 0), #[]⟩
noncomputable def o_86 (P : Params) : Obj := ⟨(.type "tuple"), none, (.seq #[] 0), #[]⟩
noncomputable def o_87 (P : Params) : Obj := ⟨.none, none, .func ⟨"innermost", "ParseState.innermost", hd.fnA (hd.scAt 2 2), .stmts (hd.fnB (hd.scAt 2 2)), hd.fnS (hd.scAt 2 2), 0, [], .none, .none, .none, .none, none, .none, .none, 0⟩, #[]⟩
noncomputable def o_88 (P : Params) : Obj := ⟨(.type "code"), none, (.fields #[(.str "innermost" 239), (.str "ParseState.innermost" 240), (.str "/claim/cut.py" 241), (.int 24 0), (.int 1 0), (.int 0 0), (.int 0 0), (.int 3 0), (.ref 45), (.bool .true), (.int 181 0), (.ref 46), .none, (.ref 47), (.ref 48), (.ref 49), (.int 243 0), (.int 24 0), (.str "/claim/cut.py" 244)]), #[]⟩
noncomputable def o_89 (P : Params) : Obj := ⟨(.type "function"), none, .func ⟨"innermost", "ParseState.innermost", hd.fnA (hd.scAt 2 2), .stmts (hd.fnB (hd.scAt 2 2)), hd.fnS (hd.scAt 2 2), 3, [], .none, .none, .none, (.str "emacs.parsestate" 194), none, (.ref 50), .none, 0⟩, #[]⟩
noncomputable def o_90 (P : Params) : Obj := ⟨(.type "tuple"), none, (.seq #[] 0), #[]⟩
noncomputable def o_91 (P : Params) : Obj := ⟨.none, none, (.fields #[]), #[]⟩
noncomputable def o_92 (P : Params) : Obj := ⟨(.type "tuple"), none, (.seq #[(.str "self" 249)] 0), #[]⟩
noncomputable def o_93 (P : Params) : Obj := ⟨(.type "tuple"), none, (.seq #[] 0), #[]⟩
noncomputable def o_94 (P : Params) : Obj := ⟨.none, none, .func ⟨"is_plain", "ParseState.is_plain", hd.fnA (hd.scAt 2 3), .stmts (hd.fnB (hd.scAt 2 3)), hd.fnS (hd.scAt 2 3), 0, [], .none, .none, .none, .none, none, .none, .none, 0⟩, #[]⟩
noncomputable def o_95 (P : Params) : Obj := ⟨(.type "code"), none, (.fields #[(.str "is_plain" 246), (.str "ParseState.is_plain" 247), (.str "/claim/cut.py" 248), (.int 27 0), (.int 1 0), (.int 0 0), (.int 0 0), (.int 3 0), (.ref 52), (.bool .true), (.int 181 0), (.ref 53), .none, (.ref 54), (.ref 55), (.ref 56), (.int 250 0), (.int 27 0), (.str "/claim/cut.py" 251)]), #[]⟩
noncomputable def o_96 (P : Params) : Obj := ⟨(.type "function"), none, .func ⟨"is_plain", "ParseState.is_plain", hd.fnA (hd.scAt 2 3), .stmts (hd.fnB (hd.scAt 2 3)), hd.fnS (hd.scAt 2 3), 3, [], .none, .none, .none, (.str "emacs.parsestate" 194), none, (.ref 57), .none, 0⟩, #[]⟩
noncomputable def o_97 (P : Params) : Obj := ⟨(.type "tuple"), none, (.seq #[] 0), #[]⟩
noncomputable def o_98 (P : Params) : Obj := ⟨.none, none, (.fields #[]), #[]⟩
noncomputable def o_99 (P : Params) : Obj := ⟨(.type "tuple"), none, (.seq #[(.str "self" 256), (.str "inner" 257)] 0), #[]⟩
noncomputable def o_100 (P : Params) : Obj := ⟨(.type "tuple"), none, (.seq #[] 0), #[]⟩
noncomputable def o_101 (P : Params) : Obj := ⟨.none, none, .func ⟨"items", "ParseState.items", hd.fnA (hd.scAt 2 4), .stmts (hd.fnB (hd.scAt 2 4)), hd.fnS (hd.scAt 2 4), 0, [], .none, .none, .none, .none, none, .none, .none, 0⟩, #[]⟩
noncomputable def o_102 (P : Params) : Obj := ⟨(.type "code"), none, (.fields #[(.str "items" 253), (.str "ParseState.items" 254), (.str "/claim/cut.py" 255), (.int 30 0), (.int 1 0), (.int 0 0), (.int 0 0), (.int 3 0), (.ref 59), (.bool .true), (.int 181 0), (.ref 60), .none, (.ref 61), (.ref 62), (.ref 63), (.int 258 0), (.int 30 0), (.str "/claim/cut.py" 259)]), #[]⟩
noncomputable def o_103 (P : Params) : Obj := ⟨(.type "function"), none, .func ⟨"items", "ParseState.items", hd.fnA (hd.scAt 2 4), .stmts (hd.fnB (hd.scAt 2 4)), hd.fnS (hd.scAt 2 4), 3, [], .none, .none, .none, (.str "emacs.parsestate" 194), none, (.ref 64), .none, 0⟩, #[]⟩
noncomputable def o_104 (P : Params) : Obj := ⟨(.type "tuple"), none, (.seq #[(.str "below" 261), (.str "comment" 262), (.str "half" 263), (.str "least" 264), (.str "nests" 265), (.str "opens" 266), (.str "quoted" 267), (.str "start" 268), (.str "string" 269), (.str "style" 270), (.str "whole" 271), (.str "word" 272)] 0), #[]⟩
noncomputable def o_105 (P : Params) : Obj := ⟨(.type "dict"), none, (.dict #[⟨(PyData.keyHash P "__module__"), (.str "__module__" 203), (.str "emacs.parsestate" 194)⟩, ⟨(PyData.keyHash P "__firstlineno__"), (.str "__firstlineno__" 207), (.int 5 206)⟩, ⟨(PyData.keyHash P "__init__"), (.str "__init__" 231), (.ref 37)⟩, ⟨(PyData.keyHash P "depth"), (.str "depth" 238), (.ref 44)⟩, ⟨(PyData.keyHash P "innermost"), (.str "innermost" 245), (.ref 51)⟩, ⟨(PyData.keyHash P "is_plain"), (.str "is_plain" 252), (.ref 58)⟩, ⟨(PyData.keyHash P "items"), (.str "items" 260), (.ref 65)⟩, ⟨(PyData.keyHash P "__static_attributes__"), (.str "__static_attributes__" 273), (.ref 66)⟩, ⟨(PyData.keyHash P "__dict__"), (.str "__dict__" 275), (.ref 69)⟩, ⟨(PyData.keyHash P "__weakref__"), (.str "__weakref__" 277), (.ref 70)⟩, ⟨(PyData.keyHash P "__doc__"), (.str "__doc__" 278), .none⟩] 4), #[]⟩
noncomputable def o_106 (P : Params) : Obj := ⟨(.type "type"), none, (.cls ⟨"ParseState", [(.type "object")], [(.ref 68), (.type "object")], 67, "ParseState", .true, [], [], .false, none, .false⟩), #[none, none, (some (.str "ParseState" 196)), (some (.str "ParseState" 204)), (some (.builtin "object.__new__")), (some (.bool .true))]⟩
noncomputable def o_107 (P : Params) : Obj := ⟨(.type "getset_descriptor"), none, (.fields #[(.str "__dict__" 274), (.ref 68), (.builtin "function.__dict__"), (.builtin "function.__dict__#set")]), #[]⟩
noncomputable def o_108 (P : Params) : Obj := ⟨(.type "getset_descriptor"), none, (.fields #[(.str "__weakref__" 276), (.ref 68), (.builtin "ExceptionGroup.__weakref__"), .none]), #[]⟩
noncomputable def o_109 (P : Params) : Obj := ⟨(.type "super"), none, (.fields #[(.ref 68), (.ref 68), (.ref 68)]), #[]⟩
noncomputable def o_110 (P : Params) : Obj := ⟨(.type "builtin_function_or_method"), none, (.fields #[(.builtin "object.__init_subclass__"), (.ref 68)]), #[]⟩
noncomputable def o_114 (P : Params) : Obj := ⟨(.type "tuple"), none, (.seq #[] 0), #[]⟩
noncomputable def o_115 (P : Params) : Obj := ⟨.none, none, (.fields #[]), #[]⟩
noncomputable def o_116 (P : Params) : Obj := ⟨(.type "tuple"), none, (.seq #[(.str "items" 284), (.str "opens" 285), (.str "below" 286), (.str "least" 287), (.str "whole" 288), (.str "word" 289), (.str "string" 290), (.str "comment" 291), (.str "style" 292), (.str "nests" 293), (.str "start" 294), (.str "quoted" 295), (.str "half" 296)] 0), #[]⟩
noncomputable def o_117 (P : Params) : Obj := ⟨(.type "tuple"), none, (.seq #[] 0), #[]⟩
noncomputable def o_118 (P : Params) : Obj := ⟨.none, none, .func ⟨"state_of", "state_of", hd.fnA (hd.stAt 3), .stmts (hd.fnB (hd.stAt 3)), hd.fnS (hd.stAt 3), 0, [], .none, .none, .none, .none, none, .none, .none, 0⟩, #[]⟩
noncomputable def o_119 (P : Params) : Obj := ⟨(.type "code"), none, (.fields #[(.str "state_of" 281), (.str "state_of" 282), (.str "/claim/cut.py" 283), (.int 33 0), (.int 1 0), (.int 0 0), (.int 0 0), (.int 3 0), (.ref 73), (.bool .true), (.int 181 0), (.ref 74), .none, (.ref 75), (.ref 76), (.ref 77), (.int 297 0), (.int 33 0), (.str "/claim/cut.py" 298)]), #[]⟩
noncomputable def o_120 (P : Params) : Obj := ⟨(.type "function"), none, .func ⟨"state_of", "state_of", hd.fnA (hd.stAt 3), .stmts (hd.fnB (hd.stAt 3)), hd.fnS (hd.stAt 3), 3, [], .none, .none, .none, (.str "emacs.parsestate" 194), none, (.ref 78), .none, 0⟩, #[]⟩
noncomputable def o_121 (P : Params) : Obj := ⟨(.type "tuple"), none, (.seq #[(.type "Exception")] 0), #[]⟩
noncomputable def o_122 (P : Params) : Obj := ⟨(.type "builtin_function_or_method"), none, (.fields #[(.builtin "type.__prepare__"), (.type "type")]), #[]⟩
noncomputable def o_123 (P : Params) : Obj := ⟨(.type "dict"), none, (.dict #[⟨(PyData.keyHash P "__module__"), (.str "__module__" 309), (.str "emacs.errors" 300)⟩, ⟨(PyData.keyHash P "__qualname__"), (.str "__qualname__" 311), (.str "LispSignal" 310)⟩, ⟨(PyData.keyHash P "__firstlineno__"), (.str "__firstlineno__" 313), (.int 37 312)⟩, ⟨(PyData.keyHash P "__init__"), (.str "__init__" 322), (.ref 93)⟩, ⟨(PyData.keyHash P "__static_attributes__"), (.str "__static_attributes__" 325), (.ref 94)⟩] 5), #[]⟩
noncomputable def o_124 (P : Params) : Obj := ⟨(.type "tuple"), none, (.seq #[] 0), #[]⟩
noncomputable def o_125 (P : Params) : Obj := ⟨.none, none, (.fields #[(.int 39 0), (.int 4 0), (.ref 92)]), #[]⟩
noncomputable def o_126 (P : Params) : Obj := ⟨(.type "code"), none, (.fields #[(.str "LispSignal" 304), (.str "LispSignal" 305), (.str "/claim/cut.py" 306), (.int 37 0), (.int 0 0), (.int 0 0), (.int 0 0), (.int 0 0), (.ref 83), (.bool .false), (.int 181 0), (.ref 84), .none, .none, .none, .none, (.int 307 0), (.int 37 0), (.str "/claim/cut.py" 308)]), #[]⟩
noncomputable def o_127 (P : Params) : Obj := ⟨(.type "frame"), none, .plain, #[(some (.ref 85)), (some (.ref 3)), (some (.ref 82)), none, (some (.str "emacs.errors" 300)), none, (some (.ref 0))]⟩
noncomputable def o_128 (P : Params) : Obj := ⟨(.type "tuple"), none, (.seq #[] 0), #[]⟩
noncomputable def o_129 (P : Params) : Obj := ⟨.none, none, (.fields #[]), #[]⟩
noncomputable def o_130 (P : Params) : Obj := ⟨(.type "tuple"), none, (.seq #[(.str "self" 317), (.str "symbol" 318), (.str "data" 319)] 0), #[]⟩
noncomputable def o_131 (P : Params) : Obj := ⟨(.type "tuple"), none, (.seq #[] 0), #[]⟩
noncomputable def o_132 (P : Params) : Obj := ⟨.none, none, .func ⟨"__init__", "LispSignal.__init__", hd.fnA (hd.scAt 5 0), .stmts (hd.fnB (hd.scAt 5 0)), hd.fnS (hd.scAt 5 0), 0, [], .none, .none, .none, .none, none, .none, .none, 0⟩, #[]⟩
noncomputable def o_133 (P : Params) : Obj := ⟨(.type "code"), none, (.fields #[(.str "__init__" 314), (.str "LispSignal.__init__" 315), (.str "/claim/cut.py" 316), (.int 39 0), (.int 3 0), (.int 0 0), (.int 0 0), (.int 3 0), (.ref 87), (.bool .true), (.int 181 0), (.ref 88), .none, (.ref 89), (.ref 90), (.ref 91), (.int 320 0), (.int 39 0), (.str "/claim/cut.py" 321)]), #[]⟩
noncomputable def o_134 (P : Params) : Obj := ⟨(.type "function"), none, .func ⟨"__init__", "LispSignal.__init__", hd.fnA (hd.scAt 5 0), .stmts (hd.fnB (hd.scAt 5 0)), hd.fnS (hd.scAt 5 0), 3, [], .none, .none, .none, (.str "emacs.errors" 300), none, (.ref 92), .none, 0⟩, #[]⟩
noncomputable def o_135 (P : Params) : Obj := ⟨(.type "tuple"), none, (.seq #[(.str "data" 323), (.str "symbol" 324)] 0), #[]⟩
noncomputable def o_136 (P : Params) : Obj := ⟨(.type "dict"), none, (.dict #[⟨(PyData.keyHash P "__module__"), (.str "__module__" 309), (.str "emacs.errors" 300)⟩, ⟨(PyData.keyHash P "__firstlineno__"), (.str "__firstlineno__" 313), (.int 37 312)⟩, ⟨(PyData.keyHash P "__init__"), (.str "__init__" 322), (.ref 93)⟩, ⟨(PyData.keyHash P "__static_attributes__"), (.str "__static_attributes__" 325), (.ref 94)⟩, ⟨(PyData.keyHash P "__weakref__"), (.str "__weakref__" 327), (.ref 97)⟩, ⟨(PyData.keyHash P "__doc__"), (.str "__doc__" 328), .none⟩] 3), #[]⟩
noncomputable def o_137 (P : Params) : Obj := ⟨(.type "type"), none, (.cls ⟨"LispSignal", [(.type "Exception")], [(.ref 96), (.type "Exception"), (.type "BaseException"), (.type "object")], 95, "LispSignal", .true, [], [], .false, none, .false⟩), #[(some (.ref 80)), none, (some (.str "LispSignal" 302)), (some (.str "LispSignal" 310)), (some (.builtin "Exception.__new__")), (some (.bool .true))]⟩
noncomputable def o_138 (P : Params) : Obj := ⟨(.type "getset_descriptor"), none, (.fields #[(.str "__weakref__" 326), (.ref 96), (.builtin "ExceptionGroup.__weakref__"), .none]), #[]⟩
noncomputable def o_139 (P : Params) : Obj := ⟨(.type "super"), none, (.fields #[(.ref 96), (.ref 96), (.ref 96)]), #[]⟩
noncomputable def o_140 (P : Params) : Obj := ⟨(.type "builtin_function_or_method"), none, (.fields #[(.builtin "object.__init_subclass__"), (.ref 96)]), #[]⟩
noncomputable def o_143 (P : Params) : Obj := ⟨(.type "tuple"), none, (.seq #[] 0), #[]⟩
noncomputable def o_144 (P : Params) : Obj := ⟨(.type "builtin_function_or_method"), none, (.fields #[(.builtin "type.__prepare__"), (.type "type")]), #[]⟩
noncomputable def o_145 (P : Params) : Obj := ⟨(.type "dict"), none, (.dict #[⟨(PyData.keyHash P "__module__"), (.str "__module__" 376), (.str "emacs.syntax" 333)⟩, ⟨(PyData.keyHash P "__qualname__"), (.str "__qualname__" 378), (.str "Syntax" 377)⟩, ⟨(PyData.keyHash P "__firstlineno__"), (.str "__firstlineno__" 380), (.int 60 379)⟩, ⟨(PyData.keyHash P "__init__"), (.str "__init__" 390), (.ref 113)⟩, ⟨(PyData.keyHash P "has"), (.str "has" 398), (.ref 120)⟩, ⟨(PyData.keyHash P "is_escape"), (.str "is_escape" 405), (.ref 127)⟩, ⟨(PyData.keyHash P "is_word_part"), (.str "is_word_part" 412), (.ref 134)⟩, ⟨(PyData.keyHash P "style"), (.str "style" 419), (.ref 141)⟩, ⟨(PyData.keyHash P "__static_attributes__"), (.str "__static_attributes__" 423), (.ref 142)⟩] 9), #[]⟩
noncomputable def o_146 (P : Params) : Obj := ⟨(.type "tuple"), none, (.seq #[] 0), #[]⟩
noncomputable def o_147 (P : Params) : Obj := ⟨.none, none, (.fields #[(.int 62 0), (.int 4 0), (.ref 112), (.int 67 0), (.int 4 0), (.ref 119), (.int 70 0), (.int 4 0), (.ref 126), (.int 73 0), (.int 4 0), (.ref 133), (.int 76 0), (.int 4 0), (.ref 140)]), #[]⟩
noncomputable def o_148 (P : Params) : Obj := ⟨(.type "code"), none, (.fields #[(.str "Syntax" 371), (.str "Syntax" 372), (.str "/claim/cut.py" 373), (.int 60 0), (.int 0 0), (.int 0 0), (.int 0 0), (.int 0 0), (.ref 103), (.bool .false), (.int 181 0), (.ref 104), .none, .none, .none, .none, (.int 374 0), (.int 60 0), (.str "/claim/cut.py" 375)]), #[]⟩
noncomputable def o_149 (P : Params) : Obj := ⟨(.type "frame"), none, .plain, #[(some (.ref 105)), (some (.ref 3)), (some (.ref 102)), none, (some (.str "emacs.syntax" 333)), none, (some (.ref 0))]⟩
noncomputable def o_150 (P : Params) : Obj := ⟨(.type "tuple"), none, (.seq #[] 0), #[]⟩
noncomputable def o_151 (P : Params) : Obj := ⟨.none, none, (.fields #[]), #[]⟩
noncomputable def o_152 (P : Params) : Obj := ⟨(.type "tuple"), none, (.seq #[(.str "self" 384), (.str "kind" 385), (.str "match" 386), (.str "flags" 387)] 0), #[]⟩
noncomputable def o_153 (P : Params) : Obj := ⟨(.type "tuple"), none, (.seq #[] 0), #[]⟩
noncomputable def o_154 (P : Params) : Obj := ⟨.none, none, .func ⟨"__init__", "Syntax.__init__", hd.fnA (hd.scAt 24 0), .stmts (hd.fnB (hd.scAt 24 0)), hd.fnS (hd.scAt 24 0), 0, [], .none, .none, .none, .none, none, .none, .none, 0⟩, #[]⟩
noncomputable def o_155 (P : Params) : Obj := ⟨(.type "code"), none, (.fields #[(.str "__init__" 381), (.str "Syntax.__init__" 382), (.str "/claim/cut.py" 383), (.int 62 0), (.int 4 0), (.int 0 0), (.int 0 0), (.int 3 0), (.ref 107), (.bool .true), (.int 181 0), (.ref 108), .none, (.ref 109), (.ref 110), (.ref 111), (.int 388 0), (.int 62 0), (.str "/claim/cut.py" 389)]), #[]⟩
noncomputable def o_156 (P : Params) : Obj := ⟨(.type "function"), none, .func ⟨"__init__", "Syntax.__init__", hd.fnA (hd.scAt 24 0), .stmts (hd.fnB (hd.scAt 24 0)), hd.fnS (hd.scAt 24 0), 3, [], .none, .none, .none, (.str "emacs.syntax" 333), none, (.ref 112), .none, 0⟩, #[]⟩
noncomputable def o_157 (P : Params) : Obj := ⟨(.type "tuple"), none, (.seq #[] 0), #[]⟩
noncomputable def o_158 (P : Params) : Obj := ⟨.none, none, (.fields #[]), #[]⟩
noncomputable def o_159 (P : Params) : Obj := ⟨(.type "tuple"), none, (.seq #[(.str "self" 394), (.str "flag" 395)] 0), #[]⟩
noncomputable def o_160 (P : Params) : Obj := ⟨(.type "tuple"), none, (.seq #[] 0), #[]⟩
noncomputable def o_161 (P : Params) : Obj := ⟨.none, none, .func ⟨"has", "Syntax.has", hd.fnA (hd.scAt 24 1), .stmts (hd.fnB (hd.scAt 24 1)), hd.fnS (hd.scAt 24 1), 0, [], .none, .none, .none, .none, none, .none, .none, 0⟩, #[]⟩
noncomputable def o_162 (P : Params) : Obj := ⟨(.type "code"), none, (.fields #[(.str "has" 391), (.str "Syntax.has" 392), (.str "/claim/cut.py" 393), (.int 67 0), (.int 2 0), (.int 0 0), (.int 0 0), (.int 3 0), (.ref 114), (.bool .true), (.int 181 0), (.ref 115), .none, (.ref 116), (.ref 117), (.ref 118), (.int 396 0), (.int 67 0), (.str "/claim/cut.py" 397)]), #[]⟩
noncomputable def o_163 (P : Params) : Obj := ⟨(.type "function"), none, .func ⟨"has", "Syntax.has", hd.fnA (hd.scAt 24 1), .stmts (hd.fnB (hd.scAt 24 1)), hd.fnS (hd.scAt 24 1), 3, [], .none, .none, .none, (.str "emacs.syntax" 333), none, (.ref 119), .none, 0⟩, #[]⟩
noncomputable def o_164 (P : Params) : Obj := ⟨(.type "tuple"), none, (.seq #[] 0), #[]⟩
noncomputable def o_165 (P : Params) : Obj := ⟨.none, none, (.fields #[]), #[]⟩
noncomputable def o_166 (P : Params) : Obj := ⟨(.type "tuple"), none, (.seq #[(.str "self" 402)] 0), #[]⟩
noncomputable def o_167 (P : Params) : Obj := ⟨(.type "tuple"), none, (.seq #[] 0), #[]⟩
noncomputable def o_168 (P : Params) : Obj := ⟨.none, none, .func ⟨"is_escape", "Syntax.is_escape", hd.fnA (hd.scAt 24 2), .stmts (hd.fnB (hd.scAt 24 2)), hd.fnS (hd.scAt 24 2), 0, [], .none, .none, .none, .none, none, .none, .none, 0⟩, #[]⟩
noncomputable def o_169 (P : Params) : Obj := ⟨(.type "code"), none, (.fields #[(.str "is_escape" 399), (.str "Syntax.is_escape" 400), (.str "/claim/cut.py" 401), (.int 70 0), (.int 1 0), (.int 0 0), (.int 0 0), (.int 3 0), (.ref 121), (.bool .true), (.int 181 0), (.ref 122), .none, (.ref 123), (.ref 124), (.ref 125), (.int 403 0), (.int 70 0), (.str "/claim/cut.py" 404)]), #[]⟩
noncomputable def o_170 (P : Params) : Obj := ⟨(.type "function"), none, .func ⟨"is_escape", "Syntax.is_escape", hd.fnA (hd.scAt 24 2), .stmts (hd.fnB (hd.scAt 24 2)), hd.fnS (hd.scAt 24 2), 3, [], .none, .none, .none, (.str "emacs.syntax" 333), none, (.ref 126), .none, 0⟩, #[]⟩
noncomputable def o_171 (P : Params) : Obj := ⟨(.type "tuple"), none, (.seq #[] 0), #[]⟩
noncomputable def o_172 (P : Params) : Obj := ⟨.none, none, (.fields #[]), #[]⟩
noncomputable def o_173 (P : Params) : Obj := ⟨(.type "tuple"), none, (.seq #[(.str "self" 409)] 0), #[]⟩
noncomputable def o_174 (P : Params) : Obj := ⟨(.type "tuple"), none, (.seq #[] 0), #[]⟩
noncomputable def o_175 (P : Params) : Obj := ⟨.none, none, .func ⟨"is_word_part", "Syntax.is_word_part", hd.fnA (hd.scAt 24 3), .stmts (hd.fnB (hd.scAt 24 3)), hd.fnS (hd.scAt 24 3), 0, [], .none, .none, .none, .none, none, .none, .none, 0⟩, #[]⟩
noncomputable def o_176 (P : Params) : Obj := ⟨(.type "code"), none, (.fields #[(.str "is_word_part" 406), (.str "Syntax.is_word_part" 407), (.str "/claim/cut.py" 408), (.int 73 0), (.int 1 0), (.int 0 0), (.int 0 0), (.int 3 0), (.ref 128), (.bool .true), (.int 181 0), (.ref 129), .none, (.ref 130), (.ref 131), (.ref 132), (.int 410 0), (.int 73 0), (.str "/claim/cut.py" 411)]), #[]⟩
noncomputable def o_177 (P : Params) : Obj := ⟨(.type "function"), none, .func ⟨"is_word_part", "Syntax.is_word_part", hd.fnA (hd.scAt 24 3), .stmts (hd.fnB (hd.scAt 24 3)), hd.fnS (hd.scAt 24 3), 3, [], .none, .none, .none, (.str "emacs.syntax" 333), none, (.ref 133), .none, 0⟩, #[]⟩
noncomputable def o_178 (P : Params) : Obj := ⟨(.type "tuple"), none, (.seq #[] 0), #[]⟩
noncomputable def o_179 (P : Params) : Obj := ⟨.none, none, (.fields #[]), #[]⟩
noncomputable def o_180 (P : Params) : Obj := ⟨(.type "tuple"), none, (.seq #[(.str "self" 416)] 0), #[]⟩
noncomputable def o_181 (P : Params) : Obj := ⟨(.type "tuple"), none, (.seq #[] 0), #[]⟩
noncomputable def o_182 (P : Params) : Obj := ⟨.none, none, .func ⟨"style", "Syntax.style", hd.fnA (hd.scAt 24 4), .stmts (hd.fnB (hd.scAt 24 4)), hd.fnS (hd.scAt 24 4), 0, [], .none, .none, .none, .none, none, .none, .none, 0⟩, #[]⟩
noncomputable def o_183 (P : Params) : Obj := ⟨(.type "code"), none, (.fields #[(.str "style" 413), (.str "Syntax.style" 414), (.str "/claim/cut.py" 415), (.int 76 0), (.int 1 0), (.int 0 0), (.int 0 0), (.int 3 0), (.ref 135), (.bool .true), (.int 181 0), (.ref 136), .none, (.ref 137), (.ref 138), (.ref 139), (.int 417 0), (.int 76 0), (.str "/claim/cut.py" 418)]), #[]⟩
noncomputable def o_184 (P : Params) : Obj := ⟨(.type "function"), none, .func ⟨"style", "Syntax.style", hd.fnA (hd.scAt 24 4), .stmts (hd.fnB (hd.scAt 24 4)), hd.fnS (hd.scAt 24 4), 3, [], .none, .none, .none, (.str "emacs.syntax" 333), none, (.ref 140), .none, 0⟩, #[]⟩
noncomputable def o_185 (P : Params) : Obj := ⟨(.type "tuple"), none, (.seq #[(.str "flags" 420), (.str "kind" 421), (.str "match" 422)] 0), #[]⟩
noncomputable def o_186 (P : Params) : Obj := ⟨(.type "dict"), none, (.dict #[⟨(PyData.keyHash P "__module__"), (.str "__module__" 376), (.str "emacs.syntax" 333)⟩, ⟨(PyData.keyHash P "__firstlineno__"), (.str "__firstlineno__" 380), (.int 60 379)⟩, ⟨(PyData.keyHash P "__init__"), (.str "__init__" 390), (.ref 113)⟩, ⟨(PyData.keyHash P "has"), (.str "has" 398), (.ref 120)⟩, ⟨(PyData.keyHash P "is_escape"), (.str "is_escape" 405), (.ref 127)⟩, ⟨(PyData.keyHash P "is_word_part"), (.str "is_word_part" 412), (.ref 134)⟩, ⟨(PyData.keyHash P "style"), (.str "style" 419), (.ref 141)⟩, ⟨(PyData.keyHash P "__static_attributes__"), (.str "__static_attributes__" 423), (.ref 142)⟩, ⟨(PyData.keyHash P "__dict__"), (.str "__dict__" 425), (.ref 145)⟩, ⟨(PyData.keyHash P "__weakref__"), (.str "__weakref__" 427), (.ref 146)⟩, ⟨(PyData.keyHash P "__doc__"), (.str "__doc__" 428), .none⟩] 4), #[]⟩
noncomputable def o_187 (P : Params) : Obj := ⟨(.type "type"), none, (.cls ⟨"Syntax", [(.type "object")], [(.ref 144), (.type "object")], 143, "Syntax", .true, [], [], .false, none, .false⟩), #[none, none, (some (.str "Syntax" 369)), (some (.str "Syntax" 377)), (some (.builtin "object.__new__")), (some (.bool .true))]⟩
noncomputable def o_188 (P : Params) : Obj := ⟨(.type "getset_descriptor"), none, (.fields #[(.str "__dict__" 424), (.ref 144), (.builtin "function.__dict__"), (.builtin "function.__dict__#set")]), #[]⟩
noncomputable def o_189 (P : Params) : Obj := ⟨(.type "getset_descriptor"), none, (.fields #[(.str "__weakref__" 426), (.ref 144), (.builtin "ExceptionGroup.__weakref__"), .none]), #[]⟩
noncomputable def o_190 (P : Params) : Obj := ⟨(.type "super"), none, (.fields #[(.ref 144), (.ref 144), (.ref 144)]), #[]⟩
noncomputable def o_191 (P : Params) : Obj := ⟨(.type "builtin_function_or_method"), none, (.fields #[(.builtin "object.__init_subclass__"), (.ref 144)]), #[]⟩
noncomputable def o_335 (P : Params) : Obj := ⟨(.type "dict"), none, (.dict #[⟨(PyData.keyHash P "__name__"), (.str "__name__" 165), (.str "emacs.parse" 647)⟩, ⟨(PyData.keyHash P "__doc__"), (.str "__doc__" 166), .none⟩, ⟨(PyData.keyHash P "__package__"), (.str "__package__" 167), .none⟩, ⟨(PyData.keyHash P "__loader__"), (.str "__loader__" 168), (.builtin "__main__.__loader__#opaque")⟩, ⟨(PyData.keyHash P "__spec__"), (.str "__spec__" 169), .none⟩, ⟨(PyData.keyHash P "__annotations__"), (.str "__annotations__" 170), (.ref 6)⟩, ⟨(PyData.keyHash P "__builtins__"), (.str "__builtins__" 171), (.ref 4)⟩, ⟨(PyData.keyHash P "__file__"), (.str "__file__" 173), (.str "/claim/cut.py" 172)⟩, ⟨(PyData.keyHash P "__cached__"), (.str "__cached__" 174), .none⟩, ⟨(PyData.keyHash P "_wall"), (.str "_wall" 193), (.ref 21)⟩, ⟨(PyData.keyHash P "ParseState"), (.str "ParseState" 280), (.ref 68)⟩, ⟨(PyData.keyHash P "state_of"), (.str "state_of" 299), (.ref 79)⟩, ⟨(PyData.keyHash P "LispSignal"), (.str "LispSignal" 332), (.ref 96)⟩, ⟨(PyData.keyHash P "WHITESPACE"), (.str "WHITESPACE" 336), (.str " " 335)⟩, ⟨(PyData.keyHash P "WORD"), (.str "WORD" 338), (.str "w" 337)⟩, ⟨(PyData.keyHash P "SYMBOL"), (.str "SYMBOL" 340), (.str "_" 339)⟩, ⟨(PyData.keyHash P "PUNCTUATION"), (.str "PUNCTUATION" 342), (.str "." 341)⟩, ⟨(PyData.keyHash P "OPENS"), (.str "OPENS" 344), (.str "(" 343)⟩, ⟨(PyData.keyHash P "CLOSES"), (.str "CLOSES" 346), (.str ")" 345)⟩, ⟨(PyData.keyHash P "PREFIX"), (.str "PREFIX" 348), (.str "'" 347)⟩, ⟨(PyData.keyHash P "STRING"), (.str "STRING" 350), (.str "\"" 349)⟩, ⟨(PyData.keyHash P "ESCAPE"), (.str "ESCAPE" 352), (.str "\\" 351)⟩, ⟨(PyData.keyHash P "QUOTES"), (.str "QUOTES" 354), (.str "/" 353)⟩, ⟨(PyData.keyHash P "BEGINS"), (.str "BEGINS" 356), (.str "<" 355)⟩, ⟨(PyData.keyHash P "ENDS"), (.str "ENDS" 358), (.str ">" 357)⟩, ⟨(PyData.keyHash P "INHERITS"), (.str "INHERITS" 360), (.str "@" 359)⟩, ⟨(PyData.keyHash P "COMMENT_FENCE"), (.str "COMMENT_FENCE" 362), (.str "!" 361)⟩, ⟨(PyData.keyHash P "STRING_FENCE"), (.str "STRING_FENCE" 364), (.str "|" 363)⟩, ⟨(PyData.keyHash P "KINDS"), (.str "KINDS" 366), (.str " w_.()'\"\\/$<>@!|" 365)⟩, ⟨(PyData.keyHash P "FLAGS"), (.str "FLAGS" 368), (.str "1234bcnp" 367)⟩, ⟨(PyData.keyHash P "Syntax"), (.str "Syntax" 430), (.ref 144)⟩, ⟨(PyData.keyHash P "sorted_flags"), (.str "sorted_flags" 436), (.ref 153)⟩, ⟨(PyData.keyHash P "read_syntax"), (.str "read_syntax" 442), (.ref 158)⟩, ⟨(PyData.keyHash P "SyntaxTable"), (.str "SyntaxTable" 536), (.ref 225)⟩, ⟨(PyData.keyHash P "letters"), (.str "letters" 542), (.ref 236)⟩, ⟨(PyData.keyHash P "standard_table"), (.str "standard_table" 551), (.ref 243)⟩, ⟨(PyData.keyHash P "slash_table"), (.str "slash_table" 558), (.ref 250)⟩, ⟨(PyData.keyHash P "Mark"), (.str "Mark" 595), (.ref 267)⟩, ⟨(PyData.keyHash P "syntax_at"), (.str "syntax_at" 605), (.ref 278)⟩, ⟨(PyData.keyHash P "pair_style"), (.str "pair_style" 614), (.ref 285)⟩, ⟨(PyData.keyHash P "begin_mark"), (.str "begin_mark" 625), (.ref 292)⟩, ⟨(PyData.keyHash P "end_mark"), (.str "end_mark" 636), (.ref 299)⟩, ⟨(PyData.keyHash P "fits"), (.str "fits" 646), (.ref 306)⟩] 43), #[]⟩
noncomputable def o_336 (P : Params) : Obj := ⟨.none, none, (.fields #[(.int 1 0), (.int 0 0), (.ref 20), (.int 5 0), (.int 0 0), (.ref 27), (.int 33 0), (.int 0 0), (.ref 78), (.int 37 0), (.int 0 0), (.ref 85), (.int 60 0), (.int 0 0), (.ref 105), (.int 78 0), (.int 0 0), (.ref 152), (.int 80 0), (.int 0 0), (.ref 157), (.int 89 0), (.int 0 0), (.ref 164), (.int 124 0), (.int 0 0), (.ref 235), (.int 126 0), (.int 0 0), (.ref 242), (.int 138 0), (.int 0 0), (.ref 249), (.int 148 0), (.int 0 0), (.ref 256), (.int 155 0), (.int 0 0), (.ref 277), (.int 158 0), (.int 0 0), (.ref 284), (.int 161 0), (.int 0 0), (.ref 291), (.int 170 0), (.int 0 0), (.ref 298), (.int 179 0), (.int 0 0), (.ref 305)]), #[]⟩
noncomputable def o_194 (P : Params) : Obj := ⟨(.type "tuple"), none, (.seq #[] 0), #[]⟩
noncomputable def o_195 (P : Params) : Obj := ⟨.none, none, (.fields #[]), #[]⟩
noncomputable def o_196 (P : Params) : Obj := ⟨.none, none, .func ⟨"sorted_flags", "sorted_flags", hd.fnA (hd.stAt 25), .stmts (hd.fnB (hd.stAt 25)), hd.fnS (hd.stAt 25), 0, [], .none, .none, .none, .none, none, .none, .none, 0⟩, #[]⟩
noncomputable def o_197 (P : Params) : Obj := ⟨(.type "code"), none, (.fields #[(.str "sorted_flags" 431), (.str "sorted_flags" 432), (.str "/claim/cut.py" 433), (.int 78 0), (.int 1 0), (.int 0 0), (.int 0 0), (.int 3 0), (.ref 149), (.bool .true), (.int 181 0), (.ref 150), .none, .none, .none, (.ref 151), (.int 434 0), (.int 78 0), (.str "/claim/cut.py" 435)]), #[]⟩
noncomputable def o_198 (P : Params) : Obj := ⟨(.type "function"), none, .func ⟨"sorted_flags", "sorted_flags", hd.fnA (hd.stAt 25), .stmts (hd.fnB (hd.stAt 25)), hd.fnS (hd.stAt 25), 3, [], .none, .none, .none, (.str "emacs.syntax" 333), none, (.ref 152), .none, 0⟩, #[]⟩
noncomputable def o_199 (P : Params) : Obj := ⟨(.type "tuple"), none, (.seq #[] 0), #[]⟩
noncomputable def o_200 (P : Params) : Obj := ⟨.none, none, (.fields #[]), #[]⟩
noncomputable def o_201 (P : Params) : Obj := ⟨.none, none, .func ⟨"read_syntax", "read_syntax", hd.fnA (hd.stAt 26), .stmts (hd.fnB (hd.stAt 26)), hd.fnS (hd.stAt 26), 0, [], .none, .none, .none, .none, none, .none, .none, 0⟩, #[]⟩
noncomputable def o_202 (P : Params) : Obj := ⟨(.type "code"), none, (.fields #[(.str "read_syntax" 437), (.str "read_syntax" 438), (.str "/claim/cut.py" 439), (.int 80 0), (.int 1 0), (.int 0 0), (.int 0 0), (.int 3 0), (.ref 154), (.bool .true), (.int 181 0), (.ref 155), .none, .none, .none, (.ref 156), (.int 440 0), (.int 80 0), (.str "/claim/cut.py" 441)]), #[]⟩
noncomputable def o_203 (P : Params) : Obj := ⟨(.type "function"), none, .func ⟨"read_syntax", "read_syntax", hd.fnA (hd.stAt 26), .stmts (hd.fnB (hd.stAt 26)), hd.fnS (hd.stAt 26), 3, [], .none, .none, .none, (.str "emacs.syntax" 333), none, (.ref 157), .none, 0⟩, #[]⟩
noncomputable def o_206 (P : Params) : Obj := ⟨(.type "tuple"), none, (.seq #[] 0), #[]⟩
noncomputable def o_207 (P : Params) : Obj := ⟨(.type "builtin_function_or_method"), none, (.fields #[(.builtin "type.__prepare__"), (.type "type")]), #[]⟩
noncomputable def o_208 (P : Params) : Obj := ⟨(.type "dict"), none, (.dict #[⟨(PyData.keyHash P "__module__"), (.str "__module__" 450), (.str "emacs.syntax" 333)⟩, ⟨(PyData.keyHash P "__qualname__"), (.str "__qualname__" 452), (.str "SyntaxTable" 451)⟩, ⟨(PyData.keyHash P "__firstlineno__"), (.str "__firstlineno__" 454), (.int 89 453)⟩, ⟨(PyData.keyHash P "__init__"), (.str "__init__" 462), (.ref 173)⟩, ⟨(PyData.keyHash P "modify"), (.str "modify" 471), (.ref 180)⟩, ⟨(PyData.keyHash P "modify_all"), (.str "modify_all" 482), (.ref 187)⟩, ⟨(PyData.keyHash P "modify_range"), (.str "modify_range" 492), (.ref 194)⟩, ⟨(PyData.keyHash P "own"), (.str "own" 501), (.ref 201)⟩, ⟨(PyData.keyHash P "at"), (.str "at" 511), (.ref 208)⟩, ⟨(PyData.keyHash P "kind_of"), (.str "kind_of" 519), (.ref 215)⟩, ⟨(PyData.keyHash P "copy"), (.str "copy" 526), (.ref 222)⟩, ⟨(PyData.keyHash P "__static_attributes__"), (.str "__static_attributes__" 529), (.ref 223)⟩] 12), #[]⟩
noncomputable def o_209 (P : Params) : Obj := ⟨(.type "tuple"), none, (.seq #[] 0), #[]⟩
noncomputable def o_210 (P : Params) : Obj := ⟨.none, none, (.fields #[(.int 91 0), (.int 4 0), (.ref 172), (.int 95 0), (.int 4 0), (.ref 179), (.int 98 0), (.int 4 0), (.ref 186), (.int 103 0), (.int 4 0), (.ref 193), (.int 106 0), (.int 4 0), (.ref 200), (.int 110 0), (.int 4 0), (.ref 207), (.int 119 0), (.int 4 0), (.ref 214), (.int 122 0), (.int 4 0), (.ref 221)]), #[]⟩
noncomputable def o_211 (P : Params) : Obj := ⟨(.type "code"), none, (.fields #[(.str "SyntaxTable" 445), (.str "SyntaxTable" 446), (.str "/claim/cut.py" 447), (.int 89 0), (.int 0 0), (.int 0 0), (.int 0 0), (.int 0 0), (.ref 162), (.bool .false), (.int 181 0), (.ref 163), .none, .none, .none, .none, (.int 448 0), (.int 89 0), (.str "/claim/cut.py" 449)]), #[]⟩
noncomputable def o_212 (P : Params) : Obj := ⟨(.type "frame"), none, .plain, #[(some (.ref 164)), (some (.ref 3)), (some (.ref 161)), none, (some (.str "emacs.syntax" 333)), none, (some (.ref 0))]⟩
noncomputable def o_213 (P : Params) : Obj := ⟨(.type "tuple"), none, (.seq #[.none] 0), #[]⟩
noncomputable def o_214 (P : Params) : Obj := ⟨(.type "tuple"), none, (.seq #[] 0), #[]⟩
noncomputable def o_215 (P : Params) : Obj := ⟨.none, none, (.fields #[]), #[]⟩
noncomputable def o_216 (P : Params) : Obj := ⟨(.type "tuple"), none, (.seq #[(.str "self" 458), (.str "parent" 459)] 0), #[]⟩
noncomputable def o_217 (P : Params) : Obj := ⟨(.type "tuple"), none, (.seq #[] 0), #[]⟩
noncomputable def o_218 (P : Params) : Obj := ⟨.none, none, .func ⟨"__init__", "SyntaxTable.__init__", hd.fnA (hd.scAt 27 0), .stmts (hd.fnB (hd.scAt 27 0)), hd.fnS (hd.scAt 27 0), 0, [], .none, .none, .none, .none, none, .none, .none, 0⟩, #[]⟩
noncomputable def o_219 (P : Params) : Obj := ⟨(.type "code"), none, (.fields #[(.str "__init__" 455), (.str "SyntaxTable.__init__" 456), (.str "/claim/cut.py" 457), (.int 91 0), (.int 2 0), (.int 0 0), (.int 0 0), (.int 3 0), (.ref 167), (.bool .true), (.int 181 0), (.ref 168), .none, (.ref 169), (.ref 170), (.ref 171), (.int 460 0), (.int 91 0), (.str "/claim/cut.py" 461)]), #[]⟩
noncomputable def o_220 (P : Params) : Obj := ⟨(.type "function"), none, .func ⟨"__init__", "SyntaxTable.__init__", hd.fnA (hd.scAt 27 0), .stmts (hd.fnB (hd.scAt 27 0)), hd.fnS (hd.scAt 27 0), 3, [], (.ref 166), .none, .none, (.str "emacs.syntax" 333), none, (.ref 172), .none, 0⟩, #[]⟩
noncomputable def o_221 (P : Params) : Obj := ⟨(.type "tuple"), none, (.seq #[] 0), #[]⟩
noncomputable def o_222 (P : Params) : Obj := ⟨.none, none, (.fields #[]), #[]⟩
noncomputable def o_223 (P : Params) : Obj := ⟨(.type "tuple"), none, (.seq #[(.str "self" 466), (.str "code" 467), (.str "syntax" 468)] 0), #[]⟩
noncomputable def o_224 (P : Params) : Obj := ⟨(.type "tuple"), none, (.seq #[] 0), #[]⟩
noncomputable def o_225 (P : Params) : Obj := ⟨.none, none, .func ⟨"modify", "SyntaxTable.modify", hd.fnA (hd.scAt 27 1), .stmts (hd.fnB (hd.scAt 27 1)), hd.fnS (hd.scAt 27 1), 0, [], .none, .none, .none, .none, none, .none, .none, 0⟩, #[]⟩
noncomputable def o_226 (P : Params) : Obj := ⟨(.type "code"), none, (.fields #[(.str "modify" 463), (.str "SyntaxTable.modify" 464), (.str "/claim/cut.py" 465), (.int 95 0), (.int 3 0), (.int 0 0), (.int 0 0), (.int 3 0), (.ref 174), (.bool .true), (.int 181 0), (.ref 175), .none, (.ref 176), (.ref 177), (.ref 178), (.int 469 0), (.int 95 0), (.str "/claim/cut.py" 470)]), #[]⟩
noncomputable def o_227 (P : Params) : Obj := ⟨(.type "function"), none, .func ⟨"modify", "SyntaxTable.modify", hd.fnA (hd.scAt 27 1), .stmts (hd.fnB (hd.scAt 27 1)), hd.fnS (hd.scAt 27 1), 3, [], .none, .none, .none, (.str "emacs.syntax" 333), none, (.ref 179), .none, 0⟩, #[]⟩
noncomputable def o_228 (P : Params) : Obj := ⟨(.type "tuple"), none, (.seq #[] 0), #[]⟩
noncomputable def o_229 (P : Params) : Obj := ⟨.none, none, (.fields #[]), #[]⟩
noncomputable def o_230 (P : Params) : Obj := ⟨(.type "tuple"), none, (.seq #[(.str "self" 475), (.str "text" 476), (.str "description" 477), (.str "syntax" 478), (.str "sign" 479)] 0), #[]⟩
noncomputable def o_231 (P : Params) : Obj := ⟨(.type "tuple"), none, (.seq #[] 0), #[]⟩
noncomputable def o_232 (P : Params) : Obj := ⟨.none, none, .func ⟨"modify_all", "SyntaxTable.modify_all", hd.fnA (hd.scAt 27 2), .stmts (hd.fnB (hd.scAt 27 2)), hd.fnS (hd.scAt 27 2), 0, [], .none, .none, .none, .none, none, .none, .none, 0⟩, #[]⟩
noncomputable def o_233 (P : Params) : Obj := ⟨(.type "code"), none, (.fields #[(.str "modify_all" 472), (.str "SyntaxTable.modify_all" 473), (.str "/claim/cut.py" 474), (.int 98 0), (.int 3 0), (.int 0 0), (.int 0 0), (.int 3 0), (.ref 181), (.bool .true), (.int 181 0), (.ref 182), .none, (.ref 183), (.ref 184), (.ref 185), (.int 480 0), (.int 98 0), (.str "/claim/cut.py" 481)]), #[]⟩
noncomputable def o_234 (P : Params) : Obj := ⟨(.type "function"), none, .func ⟨"modify_all", "SyntaxTable.modify_all", hd.fnA (hd.scAt 27 2), .stmts (hd.fnB (hd.scAt 27 2)), hd.fnS (hd.scAt 27 2), 3, [], .none, .none, .none, (.str "emacs.syntax" 333), none, (.ref 186), .none, 0⟩, #[]⟩
noncomputable def o_235 (P : Params) : Obj := ⟨(.type "tuple"), none, (.seq #[] 0), #[]⟩
noncomputable def o_236 (P : Params) : Obj := ⟨.none, none, (.fields #[]), #[]⟩
noncomputable def o_237 (P : Params) : Obj := ⟨(.type "tuple"), none, (.seq #[(.str "self" 486), (.str "first" 487), (.str "last" 488), (.str "syntax" 489)] 0), #[]⟩
noncomputable def o_238 (P : Params) : Obj := ⟨(.type "tuple"), none, (.seq #[] 0), #[]⟩
noncomputable def o_239 (P : Params) : Obj := ⟨.none, none, .func ⟨"modify_range", "SyntaxTable.modify_range", hd.fnA (hd.scAt 27 3), .stmts (hd.fnB (hd.scAt 27 3)), hd.fnS (hd.scAt 27 3), 0, [], .none, .none, .none, .none, none, .none, .none, 0⟩, #[]⟩
noncomputable def o_240 (P : Params) : Obj := ⟨(.type "code"), none, (.fields #[(.str "modify_range" 483), (.str "SyntaxTable.modify_range" 484), (.str "/claim/cut.py" 485), (.int 103 0), (.int 4 0), (.int 0 0), (.int 0 0), (.int 3 0), (.ref 188), (.bool .true), (.int 181 0), (.ref 189), .none, (.ref 190), (.ref 191), (.ref 192), (.int 490 0), (.int 103 0), (.str "/claim/cut.py" 491)]), #[]⟩
noncomputable def o_241 (P : Params) : Obj := ⟨(.type "function"), none, .func ⟨"modify_range", "SyntaxTable.modify_range", hd.fnA (hd.scAt 27 3), .stmts (hd.fnB (hd.scAt 27 3)), hd.fnS (hd.scAt 27 3), 3, [], .none, .none, .none, (.str "emacs.syntax" 333), none, (.ref 193), .none, 0⟩, #[]⟩
noncomputable def o_242 (P : Params) : Obj := ⟨(.type "tuple"), none, (.seq #[] 0), #[]⟩
noncomputable def o_243 (P : Params) : Obj := ⟨.none, none, (.fields #[]), #[]⟩
noncomputable def o_244 (P : Params) : Obj := ⟨(.type "tuple"), none, (.seq #[(.str "self" 496), (.str "code" 497), (.str "found" 498)] 0), #[]⟩
noncomputable def o_245 (P : Params) : Obj := ⟨(.type "tuple"), none, (.seq #[] 0), #[]⟩
noncomputable def o_246 (P : Params) : Obj := ⟨.none, none, .func ⟨"own", "SyntaxTable.own", hd.fnA (hd.scAt 27 4), .stmts (hd.fnB (hd.scAt 27 4)), hd.fnS (hd.scAt 27 4), 0, [], .none, .none, .none, .none, none, .none, .none, 0⟩, #[]⟩
noncomputable def o_247 (P : Params) : Obj := ⟨(.type "code"), none, (.fields #[(.str "own" 493), (.str "SyntaxTable.own" 494), (.str "/claim/cut.py" 495), (.int 106 0), (.int 2 0), (.int 0 0), (.int 0 0), (.int 3 0), (.ref 195), (.bool .true), (.int 181 0), (.ref 196), .none, (.ref 197), (.ref 198), (.ref 199), (.int 499 0), (.int 106 0), (.str "/claim/cut.py" 500)]), #[]⟩
noncomputable def o_248 (P : Params) : Obj := ⟨(.type "function"), none, .func ⟨"own", "SyntaxTable.own", hd.fnA (hd.scAt 27 4), .stmts (hd.fnB (hd.scAt 27 4)), hd.fnS (hd.scAt 27 4), 3, [], .none, .none, .none, (.str "emacs.syntax" 333), none, (.ref 200), .none, 0⟩, #[]⟩
noncomputable def o_249 (P : Params) : Obj := ⟨(.type "tuple"), none, (.seq #[] 0), #[]⟩
noncomputable def o_250 (P : Params) : Obj := ⟨.none, none, (.fields #[]), #[]⟩
noncomputable def o_251 (P : Params) : Obj := ⟨(.type "tuple"), none, (.seq #[(.str "self" 505), (.str "code" 506), (.str "table" 507), (.str "found" 508)] 0), #[]⟩
noncomputable def o_252 (P : Params) : Obj := ⟨(.type "tuple"), none, (.seq #[] 0), #[]⟩
noncomputable def o_253 (P : Params) : Obj := ⟨.none, none, .func ⟨"at", "SyntaxTable.at", hd.fnA (hd.scAt 27 5), .stmts (hd.fnB (hd.scAt 27 5)), hd.fnS (hd.scAt 27 5), 0, [], .none, .none, .none, .none, none, .none, .none, 0⟩, #[]⟩
noncomputable def o_254 (P : Params) : Obj := ⟨(.type "code"), none, (.fields #[(.str "at" 502), (.str "SyntaxTable.at" 503), (.str "/claim/cut.py" 504), (.int 110 0), (.int 2 0), (.int 0 0), (.int 0 0), (.int 3 0), (.ref 202), (.bool .true), (.int 181 0), (.ref 203), .none, (.ref 204), (.ref 205), (.ref 206), (.int 509 0), (.int 110 0), (.str "/claim/cut.py" 510)]), #[]⟩
noncomputable def o_255 (P : Params) : Obj := ⟨(.type "function"), none, .func ⟨"at", "SyntaxTable.at", hd.fnA (hd.scAt 27 5), .stmts (hd.fnB (hd.scAt 27 5)), hd.fnS (hd.scAt 27 5), 3, [], .none, .none, .none, (.str "emacs.syntax" 333), none, (.ref 207), .none, 0⟩, #[]⟩
noncomputable def o_256 (P : Params) : Obj := ⟨(.type "tuple"), none, (.seq #[] 0), #[]⟩
noncomputable def o_257 (P : Params) : Obj := ⟨.none, none, (.fields #[]), #[]⟩
noncomputable def o_258 (P : Params) : Obj := ⟨(.type "tuple"), none, (.seq #[(.str "self" 515), (.str "code" 516)] 0), #[]⟩
noncomputable def o_259 (P : Params) : Obj := ⟨(.type "tuple"), none, (.seq #[] 0), #[]⟩
noncomputable def o_260 (P : Params) : Obj := ⟨.none, none, .func ⟨"kind_of", "SyntaxTable.kind_of", hd.fnA (hd.scAt 27 6), .stmts (hd.fnB (hd.scAt 27 6)), hd.fnS (hd.scAt 27 6), 0, [], .none, .none, .none, .none, none, .none, .none, 0⟩, #[]⟩
noncomputable def o_261 (P : Params) : Obj := ⟨(.type "code"), none, (.fields #[(.str "kind_of" 512), (.str "SyntaxTable.kind_of" 513), (.str "/claim/cut.py" 514), (.int 119 0), (.int 2 0), (.int 0 0), (.int 0 0), (.int 3 0), (.ref 209), (.bool .true), (.int 181 0), (.ref 210), .none, (.ref 211), (.ref 212), (.ref 213), (.int 517 0), (.int 119 0), (.str "/claim/cut.py" 518)]), #[]⟩
noncomputable def o_262 (P : Params) : Obj := ⟨(.type "function"), none, .func ⟨"kind_of", "SyntaxTable.kind_of", hd.fnA (hd.scAt 27 6), .stmts (hd.fnB (hd.scAt 27 6)), hd.fnS (hd.scAt 27 6), 3, [], .none, .none, .none, (.str "emacs.syntax" 333), none, (.ref 214), .none, 0⟩, #[]⟩
noncomputable def o_263 (P : Params) : Obj := ⟨(.type "tuple"), none, (.seq #[] 0), #[]⟩
noncomputable def o_264 (P : Params) : Obj := ⟨.none, none, (.fields #[]), #[]⟩
noncomputable def o_265 (P : Params) : Obj := ⟨(.type "tuple"), none, (.seq #[(.str "self" 523)] 0), #[]⟩
noncomputable def o_266 (P : Params) : Obj := ⟨(.type "tuple"), none, (.seq #[] 0), #[]⟩
noncomputable def o_267 (P : Params) : Obj := ⟨.none, none, .func ⟨"copy", "SyntaxTable.copy", hd.fnA (hd.scAt 27 7), .stmts (hd.fnB (hd.scAt 27 7)), hd.fnS (hd.scAt 27 7), 0, [], .none, .none, .none, .none, none, .none, .none, 0⟩, #[]⟩
noncomputable def o_268 (P : Params) : Obj := ⟨(.type "code"), none, (.fields #[(.str "copy" 520), (.str "SyntaxTable.copy" 521), (.str "/claim/cut.py" 522), (.int 122 0), (.int 1 0), (.int 0 0), (.int 0 0), (.int 3 0), (.ref 216), (.bool .true), (.int 181 0), (.ref 217), .none, (.ref 218), (.ref 219), (.ref 220), (.int 524 0), (.int 122 0), (.str "/claim/cut.py" 525)]), #[]⟩
noncomputable def o_269 (P : Params) : Obj := ⟨(.type "function"), none, .func ⟨"copy", "SyntaxTable.copy", hd.fnA (hd.scAt 27 7), .stmts (hd.fnB (hd.scAt 27 7)), hd.fnS (hd.scAt 27 7), 3, [], .none, .none, .none, (.str "emacs.syntax" 333), none, (.ref 221), .none, 0⟩, #[]⟩
noncomputable def o_270 (P : Params) : Obj := ⟨(.type "tuple"), none, (.seq #[(.str "parent" 527), (.str "rows" 528)] 0), #[]⟩
noncomputable def o_271 (P : Params) : Obj := ⟨(.type "dict"), none, (.dict #[⟨(PyData.keyHash P "__module__"), (.str "__module__" 450), (.str "emacs.syntax" 333)⟩, ⟨(PyData.keyHash P "__firstlineno__"), (.str "__firstlineno__" 454), (.int 89 453)⟩, ⟨(PyData.keyHash P "__init__"), (.str "__init__" 462), (.ref 173)⟩, ⟨(PyData.keyHash P "modify"), (.str "modify" 471), (.ref 180)⟩, ⟨(PyData.keyHash P "modify_all"), (.str "modify_all" 482), (.ref 187)⟩, ⟨(PyData.keyHash P "modify_range"), (.str "modify_range" 492), (.ref 194)⟩, ⟨(PyData.keyHash P "own"), (.str "own" 501), (.ref 201)⟩, ⟨(PyData.keyHash P "at"), (.str "at" 511), (.ref 208)⟩, ⟨(PyData.keyHash P "kind_of"), (.str "kind_of" 519), (.ref 215)⟩, ⟨(PyData.keyHash P "copy"), (.str "copy" 526), (.ref 222)⟩, ⟨(PyData.keyHash P "__static_attributes__"), (.str "__static_attributes__" 529), (.ref 223)⟩, ⟨(PyData.keyHash P "__dict__"), (.str "__dict__" 531), (.ref 226)⟩, ⟨(PyData.keyHash P "__weakref__"), (.str "__weakref__" 533), (.ref 227)⟩, ⟨(PyData.keyHash P "__doc__"), (.str "__doc__" 534), .none⟩] 4), #[]⟩
noncomputable def o_272 (P : Params) : Obj := ⟨(.type "type"), none, (.cls ⟨"SyntaxTable", [(.type "object")], [(.ref 225), (.type "object")], 224, "SyntaxTable", .true, [], [], .false, none, .false⟩), #[none, none, (some (.str "SyntaxTable" 443)), (some (.str "SyntaxTable" 451)), (some (.builtin "object.__new__")), (some (.bool .true))]⟩
noncomputable def o_273 (P : Params) : Obj := ⟨(.type "getset_descriptor"), none, (.fields #[(.str "__dict__" 530), (.ref 225), (.builtin "function.__dict__"), (.builtin "function.__dict__#set")]), #[]⟩
noncomputable def o_274 (P : Params) : Obj := ⟨(.type "getset_descriptor"), none, (.fields #[(.str "__weakref__" 532), (.ref 225), (.builtin "ExceptionGroup.__weakref__"), .none]), #[]⟩
noncomputable def o_275 (P : Params) : Obj := ⟨(.type "super"), none, (.fields #[(.ref 225), (.ref 225), (.ref 225)]), #[]⟩
noncomputable def o_276 (P : Params) : Obj := ⟨(.type "builtin_function_or_method"), none, (.fields #[(.builtin "object.__init_subclass__"), (.ref 225)]), #[]⟩
noncomputable def o_279 (P : Params) : Obj := ⟨(.type "tuple"), none, (.seq #[] 0), #[]⟩
noncomputable def o_280 (P : Params) : Obj := ⟨.none, none, (.fields #[]), #[]⟩
noncomputable def o_281 (P : Params) : Obj := ⟨(.type "tuple"), none, (.seq #[] 0), #[]⟩
noncomputable def o_282 (P : Params) : Obj := ⟨(.type "tuple"), none, (.seq #[] 0), #[]⟩
noncomputable def o_283 (P : Params) : Obj := ⟨.none, none, .func ⟨"letters", "letters", hd.fnA (hd.stAt 28), .stmts (hd.fnB (hd.stAt 28)), hd.fnS (hd.stAt 28), 0, [], .none, .none, .none, .none, none, .none, .none, 0⟩, #[]⟩
noncomputable def o_284 (P : Params) : Obj := ⟨(.type "code"), none, (.fields #[(.str "letters" 537), (.str "letters" 538), (.str "/claim/cut.py" 539), (.int 124 0), (.int 0 0), (.int 0 0), (.int 0 0), (.int 3 0), (.ref 230), (.bool .true), (.int 181 0), (.ref 231), .none, (.ref 232), (.ref 233), (.ref 234), (.int 540 0), (.int 124 0), (.str "/claim/cut.py" 541)]), #[]⟩
noncomputable def o_285 (P : Params) : Obj := ⟨(.type "function"), none, .func ⟨"letters", "letters", hd.fnA (hd.stAt 28), .stmts (hd.fnB (hd.stAt 28)), hd.fnS (hd.stAt 28), 3, [], .none, .none, .none, (.str "emacs.syntax" 333), none, (.ref 235), .none, 0⟩, #[]⟩
noncomputable def o_286 (P : Params) : Obj := ⟨(.type "tuple"), none, (.seq #[] 0), #[]⟩
noncomputable def o_287 (P : Params) : Obj := ⟨.none, none, (.fields #[]), #[]⟩
noncomputable def o_288 (P : Params) : Obj := ⟨(.type "tuple"), none, (.seq #[(.str "table" 546), (.str "opens" 547), (.str "closes" 548)] 0), #[]⟩
noncomputable def o_289 (P : Params) : Obj := ⟨(.type "tuple"), none, (.seq #[] 0), #[]⟩
noncomputable def o_290 (P : Params) : Obj := ⟨.none, none, .func ⟨"standard_table", "standard_table", hd.fnA (hd.stAt 29), .stmts (hd.fnB (hd.stAt 29)), hd.fnS (hd.stAt 29), 0, [], .none, .none, .none, .none, none, .none, .none, 0⟩, #[]⟩
noncomputable def o_291 (P : Params) : Obj := ⟨(.type "code"), none, (.fields #[(.str "standard_table" 543), (.str "standard_table" 544), (.str "/claim/cut.py" 545), (.int 126 0), (.int 0 0), (.int 0 0), (.int 0 0), (.int 3 0), (.ref 237), (.bool .true), (.int 181 0), (.ref 238), .none, (.ref 239), (.ref 240), (.ref 241), (.int 549 0), (.int 126 0), (.str "/claim/cut.py" 550)]), #[]⟩
noncomputable def o_292 (P : Params) : Obj := ⟨(.type "function"), none, .func ⟨"standard_table", "standard_table", hd.fnA (hd.stAt 29), .stmts (hd.fnB (hd.stAt 29)), hd.fnS (hd.stAt 29), 3, [], .none, .none, .none, (.str "emacs.syntax" 333), none, (.ref 242), .none, 0⟩, #[]⟩
noncomputable def o_293 (P : Params) : Obj := ⟨(.type "tuple"), none, (.seq #[] 0), #[]⟩
noncomputable def o_294 (P : Params) : Obj := ⟨.none, none, (.fields #[]), #[]⟩
noncomputable def o_295 (P : Params) : Obj := ⟨(.type "tuple"), none, (.seq #[(.str "table" 555)] 0), #[]⟩
noncomputable def o_296 (P : Params) : Obj := ⟨(.type "tuple"), none, (.seq #[] 0), #[]⟩
noncomputable def o_297 (P : Params) : Obj := ⟨.none, none, .func ⟨"slash_table", "slash_table", hd.fnA (hd.stAt 30), .stmts (hd.fnB (hd.stAt 30)), hd.fnS (hd.stAt 30), 0, [], .none, .none, .none, .none, none, .none, .none, 0⟩, #[]⟩
noncomputable def o_298 (P : Params) : Obj := ⟨(.type "code"), none, (.fields #[(.str "slash_table" 552), (.str "slash_table" 553), (.str "/claim/cut.py" 554), (.int 138 0), (.int 0 0), (.int 0 0), (.int 0 0), (.int 3 0), (.ref 244), (.bool .true), (.int 181 0), (.ref 245), .none, (.ref 246), (.ref 247), (.ref 248), (.int 556 0), (.int 138 0), (.str "/claim/cut.py" 557)]), #[]⟩
noncomputable def o_299 (P : Params) : Obj := ⟨(.type "function"), none, .func ⟨"slash_table", "slash_table", hd.fnA (hd.stAt 30), .stmts (hd.fnB (hd.stAt 30)), hd.fnS (hd.stAt 30), 3, [], .none, .none, .none, (.str "emacs.syntax" 333), none, (.ref 249), .none, 0⟩, #[]⟩
noncomputable def o_300 (P : Params) : Obj := ⟨(.type "tuple"), none, (.seq #[] 0), #[]⟩
noncomputable def o_301 (P : Params) : Obj := ⟨(.type "builtin_function_or_method"), none, (.fields #[(.builtin "type.__prepare__"), (.type "type")]), #[]⟩
noncomputable def o_302 (P : Params) : Obj := ⟨(.type "dict"), none, (.dict #[⟨(PyData.keyHash P "__module__"), (.str "__module__" 568), (.str "emacs.syntaxpairs" 559)⟩, ⟨(PyData.keyHash P "__qualname__"), (.str "__qualname__" 570), (.str "Mark" 569)⟩, ⟨(PyData.keyHash P "__firstlineno__"), (.str "__firstlineno__" 572), (.int 148 571)⟩, ⟨(PyData.keyHash P "__init__"), (.str "__init__" 583), (.ref 264)⟩, ⟨(PyData.keyHash P "__static_attributes__"), (.str "__static_attributes__" 588), (.ref 265)⟩] 5), #[]⟩
noncomputable def o_303 (P : Params) : Obj := ⟨(.type "tuple"), none, (.seq #[] 0), #[]⟩
noncomputable def o_304 (P : Params) : Obj := ⟨.none, none, (.fields #[(.int 150 0), (.int 4 0), (.ref 263)]), #[]⟩
noncomputable def o_305 (P : Params) : Obj := ⟨(.type "code"), none, (.fields #[(.str "Mark" 563), (.str "Mark" 564), (.str "/claim/cut.py" 565), (.int 148 0), (.int 0 0), (.int 0 0), (.int 0 0), (.int 0 0), (.ref 254), (.bool .false), (.int 181 0), (.ref 255), .none, .none, .none, .none, (.int 566 0), (.int 148 0), (.str "/claim/cut.py" 567)]), #[]⟩
noncomputable def o_306 (P : Params) : Obj := ⟨(.type "frame"), none, .plain, #[(some (.ref 256)), (some (.ref 3)), (some (.ref 253)), none, (some (.str "emacs.syntaxpairs" 559)), none, (some (.ref 0))]⟩
noncomputable def o_307 (P : Params) : Obj := ⟨(.type "tuple"), none, (.seq #[] 0), #[]⟩
noncomputable def o_308 (P : Params) : Obj := ⟨.none, none, (.fields #[]), #[]⟩
noncomputable def o_309 (P : Params) : Obj := ⟨(.type "tuple"), none, (.seq #[(.str "self" 576), (.str "length" 577), (.str "style" 578), (.str "nests" 579), (.str "is_fence" 580)] 0), #[]⟩
noncomputable def o_310 (P : Params) : Obj := ⟨(.type "tuple"), none, (.seq #[] 0), #[]⟩
noncomputable def o_311 (P : Params) : Obj := ⟨.none, none, .func ⟨"__init__", "Mark.__init__", hd.fnA (hd.scAt 32 0), .stmts (hd.fnB (hd.scAt 32 0)), hd.fnS (hd.scAt 32 0), 0, [], .none, .none, .none, .none, none, .none, .none, 0⟩, #[]⟩
noncomputable def o_312 (P : Params) : Obj := ⟨(.type "code"), none, (.fields #[(.str "__init__" 573), (.str "Mark.__init__" 574), (.str "/claim/cut.py" 575), (.int 150 0), (.int 5 0), (.int 0 0), (.int 0 0), (.int 3 0), (.ref 258), (.bool .true), (.int 181 0), (.ref 259), .none, (.ref 260), (.ref 261), (.ref 262), (.int 581 0), (.int 150 0), (.str "/claim/cut.py" 582)]), #[]⟩
noncomputable def o_313 (P : Params) : Obj := ⟨(.type "function"), none, .func ⟨"__init__", "Mark.__init__", hd.fnA (hd.scAt 32 0), .stmts (hd.fnB (hd.scAt 32 0)), hd.fnS (hd.scAt 32 0), 3, [], .none, .none, .none, (.str "emacs.syntaxpairs" 559), none, (.ref 263), .none, 0⟩, #[]⟩
noncomputable def o_314 (P : Params) : Obj := ⟨(.type "tuple"), none, (.seq #[(.str "is_fence" 584), (.str "length" 585), (.str "nests" 586), (.str "style" 587)] 0), #[]⟩
noncomputable def o_315 (P : Params) : Obj := ⟨(.type "dict"), none, (.dict #[⟨(PyData.keyHash P "__module__"), (.str "__module__" 568), (.str "emacs.syntaxpairs" 559)⟩, ⟨(PyData.keyHash P "__firstlineno__"), (.str "__firstlineno__" 572), (.int 148 571)⟩, ⟨(PyData.keyHash P "__init__"), (.str "__init__" 583), (.ref 264)⟩, ⟨(PyData.keyHash P "__static_attributes__"), (.str "__static_attributes__" 588), (.ref 265)⟩, ⟨(PyData.keyHash P "__dict__"), (.str "__dict__" 590), (.ref 268)⟩, ⟨(PyData.keyHash P "__weakref__"), (.str "__weakref__" 592), (.ref 269)⟩, ⟨(PyData.keyHash P "__doc__"), (.str "__doc__" 593), .none⟩] 4), #[]⟩
noncomputable def o_316 (P : Params) : Obj := ⟨(.type "type"), none, (.cls ⟨"Mark", [(.type "object")], [(.ref 267), (.type "object")], 266, "Mark", .true, [], [], .false, none, .false⟩), #[none, none, (some (.str "Mark" 561)), (some (.str "Mark" 569)), (some (.builtin "object.__new__")), (some (.bool .true))]⟩
noncomputable def o_317 (P : Params) : Obj := ⟨(.type "getset_descriptor"), none, (.fields #[(.str "__dict__" 589), (.ref 267), (.builtin "function.__dict__"), (.builtin "function.__dict__#set")]), #[]⟩
noncomputable def o_318 (P : Params) : Obj := ⟨(.type "getset_descriptor"), none, (.fields #[(.str "__weakref__" 591), (.ref 267), (.builtin "ExceptionGroup.__weakref__"), .none]), #[]⟩
noncomputable def o_319 (P : Params) : Obj := ⟨(.type "super"), none, (.fields #[(.ref 267), (.ref 267), (.ref 267)]), #[]⟩
noncomputable def o_320 (P : Params) : Obj := ⟨(.type "builtin_function_or_method"), none, (.fields #[(.builtin "object.__init_subclass__"), (.ref 267)]), #[]⟩
noncomputable def o_321 (P : Params) : Obj := ⟨(.type "tuple"), none, (.seq #[] 0), #[]⟩
noncomputable def o_322 (P : Params) : Obj := ⟨.none, none, (.fields #[]), #[]⟩
noncomputable def o_323 (P : Params) : Obj := ⟨(.type "tuple"), none, (.seq #[(.str "view" 599), (.str "table" 600), (.str "place" 601), (.str "code" 602)] 0), #[]⟩
noncomputable def o_324 (P : Params) : Obj := ⟨(.type "tuple"), none, (.seq #[] 0), #[]⟩
noncomputable def o_325 (P : Params) : Obj := ⟨.none, none, .func ⟨"syntax_at", "syntax_at", hd.fnA (hd.stAt 33), .stmts (hd.fnB (hd.stAt 33)), hd.fnS (hd.stAt 33), 0, [], .none, .none, .none, .none, none, .none, .none, 0⟩, #[]⟩
noncomputable def o_326 (P : Params) : Obj := ⟨(.type "code"), none, (.fields #[(.str "syntax_at" 596), (.str "syntax_at" 597), (.str "/claim/cut.py" 598), (.int 155 0), (.int 3 0), (.int 0 0), (.int 0 0), (.int 3 0), (.ref 272), (.bool .true), (.int 181 0), (.ref 273), .none, (.ref 274), (.ref 275), (.ref 276), (.int 603 0), (.int 155 0), (.str "/claim/cut.py" 604)]), #[]⟩
noncomputable def o_327 (P : Params) : Obj := ⟨(.type "function"), none, .func ⟨"syntax_at", "syntax_at", hd.fnA (hd.stAt 33), .stmts (hd.fnB (hd.stAt 33)), hd.fnS (hd.stAt 33), 3, [], .none, .none, .none, (.str "emacs.syntaxpairs" 559), none, (.ref 277), .none, 0⟩, #[]⟩
noncomputable def o_328 (P : Params) : Obj := ⟨(.type "tuple"), none, (.seq #[] 0), #[]⟩
noncomputable def o_329 (P : Params) : Obj := ⟨.none, none, (.fields #[]), #[]⟩
noncomputable def o_330 (P : Params) : Obj := ⟨(.type "tuple"), none, (.seq #[(.str "told" 609), (.str "other" 610), (.str "style" 611)] 0), #[]⟩
noncomputable def o_331 (P : Params) : Obj := ⟨(.type "tuple"), none, (.seq #[] 0), #[]⟩
noncomputable def o_332 (P : Params) : Obj := ⟨.none, none, .func ⟨"pair_style", "pair_style", hd.fnA (hd.stAt 34), .stmts (hd.fnB (hd.stAt 34)), hd.fnS (hd.stAt 34), 0, [], .none, .none, .none, .none, none, .none, .none, 0⟩, #[]⟩
noncomputable def o_333 (P : Params) : Obj := ⟨(.type "code"), none, (.fields #[(.str "pair_style" 606), (.str "pair_style" 607), (.str "/claim/cut.py" 608), (.int 158 0), (.int 2 0), (.int 0 0), (.int 0 0), (.int 3 0), (.ref 279), (.bool .true), (.int 181 0), (.ref 280), .none, (.ref 281), (.ref 282), (.ref 283), (.int 612 0), (.int 158 0), (.str "/claim/cut.py" 613)]), #[]⟩
noncomputable def o_334 (P : Params) : Obj := ⟨(.type "function"), none, .func ⟨"pair_style", "pair_style", hd.fnA (hd.stAt 34), .stmts (hd.fnB (hd.stAt 34)), hd.fnS (hd.stAt 34), 3, [], .none, .none, .none, (.str "emacs.syntaxpairs" 559), none, (.ref 284), .none, 0⟩, #[]⟩
noncomputable def o_337 (P : Params) : Obj := ⟨(.type "tuple"), none, (.seq #[] 0), #[]⟩
noncomputable def o_338 (P : Params) : Obj := ⟨.none, none, (.fields #[]), #[]⟩
noncomputable def o_339 (P : Params) : Obj := ⟨(.type "tuple"), none, (.seq #[(.str "view" 618), (.str "table" 619), (.str "place" 620), (.str "one" 621), (.str "other" 622)] 0), #[]⟩
noncomputable def o_340 (P : Params) : Obj := ⟨(.type "tuple"), none, (.seq #[] 0), #[]⟩
noncomputable def o_341 (P : Params) : Obj := ⟨.none, none, .func ⟨"begin_mark", "begin_mark", hd.fnA (hd.stAt 35), .stmts (hd.fnB (hd.stAt 35)), hd.fnS (hd.stAt 35), 0, [], .none, .none, .none, .none, none, .none, .none, 0⟩, #[]⟩
noncomputable def o_342 (P : Params) : Obj := ⟨(.type "code"), none, (.fields #[(.str "begin_mark" 615), (.str "begin_mark" 616), (.str "/claim/cut.py" 617), (.int 161 0), (.int 3 0), (.int 0 0), (.int 0 0), (.int 3 0), (.ref 286), (.bool .true), (.int 181 0), (.ref 287), .none, (.ref 288), (.ref 289), (.ref 290), (.int 623 0), (.int 161 0), (.str "/claim/cut.py" 624)]), #[]⟩
noncomputable def o_343 (P : Params) : Obj := ⟨(.type "function"), none, .func ⟨"begin_mark", "begin_mark", hd.fnA (hd.stAt 35), .stmts (hd.fnB (hd.stAt 35)), hd.fnS (hd.stAt 35), 3, [], .none, .none, .none, (.str "emacs.syntaxpairs" 559), none, (.ref 291), .none, 0⟩, #[]⟩
noncomputable def o_344 (P : Params) : Obj := ⟨(.type "tuple"), none, (.seq #[] 0), #[]⟩
noncomputable def o_345 (P : Params) : Obj := ⟨.none, none, (.fields #[]), #[]⟩
noncomputable def o_346 (P : Params) : Obj := ⟨(.type "tuple"), none, (.seq #[(.str "view" 629), (.str "table" 630), (.str "place" 631), (.str "one" 632), (.str "other" 633)] 0), #[]⟩
noncomputable def o_347 (P : Params) : Obj := ⟨(.type "tuple"), none, (.seq #[] 0), #[]⟩
noncomputable def o_348 (P : Params) : Obj := ⟨.none, none, .func ⟨"end_mark", "end_mark", hd.fnA (hd.stAt 36), .stmts (hd.fnB (hd.stAt 36)), hd.fnS (hd.stAt 36), 0, [], .none, .none, .none, .none, none, .none, .none, 0⟩, #[]⟩
noncomputable def o_349 (P : Params) : Obj := ⟨(.type "code"), none, (.fields #[(.str "end_mark" 626), (.str "end_mark" 627), (.str "/claim/cut.py" 628), (.int 170 0), (.int 3 0), (.int 0 0), (.int 0 0), (.int 3 0), (.ref 293), (.bool .true), (.int 181 0), (.ref 294), .none, (.ref 295), (.ref 296), (.ref 297), (.int 634 0), (.int 170 0), (.str "/claim/cut.py" 635)]), #[]⟩
noncomputable def o_350 (P : Params) : Obj := ⟨(.type "function"), none, .func ⟨"end_mark", "end_mark", hd.fnA (hd.stAt 36), .stmts (hd.fnB (hd.stAt 36)), hd.fnS (hd.stAt 36), 3, [], .none, .none, .none, (.str "emacs.syntaxpairs" 559), none, (.ref 298), .none, 0⟩, #[]⟩
noncomputable def o_351 (P : Params) : Obj := ⟨(.type "tuple"), none, (.seq #[] 0), #[]⟩
noncomputable def o_352 (P : Params) : Obj := ⟨.none, none, (.fields #[]), #[]⟩
noncomputable def o_353 (P : Params) : Obj := ⟨(.type "tuple"), none, (.seq #[(.str "mark" 640), (.str "style" 641), (.str "nests" 642), (.str "is_fence" 643)] 0), #[]⟩
noncomputable def o_354 (P : Params) : Obj := ⟨(.type "tuple"), none, (.seq #[] 0), #[]⟩
noncomputable def o_355 (P : Params) : Obj := ⟨.none, none, .func ⟨"fits", "fits", hd.fnA (hd.stAt 37), .stmts (hd.fnB (hd.stAt 37)), hd.fnS (hd.stAt 37), 0, [], .none, .none, .none, .none, none, .none, .none, 0⟩, #[]⟩
noncomputable def o_356 (P : Params) : Obj := ⟨(.type "code"), none, (.fields #[(.str "fits" 637), (.str "fits" 638), (.str "/claim/cut.py" 639), (.int 179 0), (.int 4 0), (.int 0 0), (.int 0 0), (.int 3 0), (.ref 300), (.bool .true), (.int 181 0), (.ref 301), .none, (.ref 302), (.ref 303), (.ref 304), (.int 644 0), (.int 179 0), (.str "/claim/cut.py" 645)]), #[]⟩
noncomputable def o_357 (P : Params) : Obj := ⟨(.type "function"), none, .func ⟨"fits", "fits", hd.fnA (hd.stAt 37), .stmts (hd.fnB (hd.stAt 37)), hd.fnS (hd.stAt 37), 3, [], .none, .none, .none, (.str "emacs.syntaxpairs" 559), none, (.ref 305), .none, 0⟩, #[]⟩
noncomputable def o_360 (P : Params) : Obj := ⟨(.type "tuple"), none, (.seq #[] 0), #[]⟩
noncomputable def o_361 (P : Params) : Obj := ⟨(.type "builtin_function_or_method"), none, (.fields #[(.builtin "type.__prepare__"), (.type "type")]), #[]⟩
noncomputable def o_362 (P : Params) : Obj := ⟨(.type "dict"), none, (.dict #[⟨(PyData.keyHash P "__module__"), (.str "__module__" 656), (.str "emacs.parse" 647)⟩, ⟨(PyData.keyHash P "__qualname__"), (.str "__qualname__" 658), (.str "Walk" 657)⟩, ⟨(PyData.keyHash P "__firstlineno__"), (.str "__firstlineno__" 660), (.int 184 659)⟩, ⟨(PyData.keyHash P "__init__"), (.str "__init__" 671), (.ref 320)⟩, ⟨(PyData.keyHash P "state"), (.str "state" 679), (.ref 327)⟩, ⟨(PyData.keyHash P "depth"), (.str "depth" 686), (.ref 334)⟩, ⟨(PyData.keyHash P "end_word"), (.str "end_word" 693), (.ref 341)⟩, ⟨(PyData.keyHash P "begin_word"), (.str "begin_word" 700), (.ref 348)⟩, ⟨(PyData.keyHash P "open_at"), (.str "open_at" 708), (.ref 355)⟩, ⟨(PyData.keyHash P "close"), (.str "close" 715), (.ref 362)⟩, ⟨(PyData.keyHash P "begin_comment"), (.str "begin_comment" 724), (.ref 369)⟩, ⟨(PyData.keyHash P "leave_comment"), (.str "leave_comment" 731), (.ref 376)⟩, ⟨(PyData.keyHash P "begin_string"), (.str "begin_string" 739), (.ref 383)⟩, ⟨(PyData.keyHash P "end_string"), (.str "end_string" 746), (.ref 390)⟩, ⟨(PyData.keyHash P "take"), (.str "take" 756), (.ref 397)⟩, ⟨(PyData.keyHash P "step_in_comment"), (.str "step_in_comment" 766), (.ref 404)⟩, ⟨(PyData.keyHash P "step_in_string"), (.str "step_in_string" 775), (.ref 411)⟩, ⟨(PyData.keyHash P "finish_half"), (.str "finish_half" 783), (.ref 418)⟩, ⟨(PyData.keyHash P "step_plain"), (.str "step_plain" 794), (.ref 425)⟩, ⟨(PyData.keyHash P "step_by_kind"), (.str "step_by_kind" 802), (.ref 432)⟩, ⟨(PyData.keyHash P "step"), (.str "step" 810), (.ref 439)⟩, ⟨(PyData.keyHash P "__static_attributes__"), (.str "__static_attributes__" 826), (.ref 440)⟩] 22), #[]⟩
noncomputable def o_363 (P : Params) : Obj := ⟨(.type "tuple"), none, (.seq #[] 0), #[]⟩
noncomputable def o_364 (P : Params) : Obj := ⟨.none, none, (.fields #[(.int 186 0), (.int 4 0), (.ref 319), (.int 203 0), (.int 4 0), (.ref 326), (.int 207 0), (.int 4 0), (.ref 333), (.int 210 0), (.int 4 0), (.ref 340), (.int 215 0), (.int 4 0), (.ref 347), (.int 219 0), (.int 4 0), (.ref 354), (.int 224 0), (.int 4 0), (.ref 361), (.int 233 0), (.int 4 0), (.ref 368), (.int 240 0), (.int 4 0), (.ref 375), (.int 249 0), (.int 4 0), (.ref 382), (.int 254 0), (.int 4 0), (.ref 389), (.int 259 0), (.int 4 0), (.ref 396), (.int 267 0), (.int 4 0), (.ref 403), (.int 280 0), (.int 4 0), (.ref 410), (.int 291 0), (.int 4 0), (.ref 417), (.int 302 0), (.int 4 0), (.ref 424), (.int 320 0), (.int 4 0), (.ref 431), (.int 337 0), (.int 4 0), (.ref 438)]), #[]⟩
noncomputable def o_365 (P : Params) : Obj := ⟨(.type "code"), none, (.fields #[(.str "Walk" 651), (.str "Walk" 652), (.str "/claim/cut.py" 653), (.int 184 0), (.int 0 0), (.int 0 0), (.int 0 0), (.int 0 0), (.ref 310), (.bool .false), (.int 181 0), (.ref 311), .none, .none, .none, .none, (.int 654 0), (.int 184 0), (.str "/claim/cut.py" 655)]), #[]⟩
noncomputable def o_366 (P : Params) : Obj := ⟨(.type "frame"), none, .plain, #[(some (.ref 312)), (some (.ref 3)), (some (.ref 309)), none, (some (.str "emacs.parse" 647)), none, (some (.ref 0))]⟩
noncomputable def o_367 (P : Params) : Obj := ⟨(.type "tuple"), none, (.seq #[] 0), #[]⟩
noncomputable def o_368 (P : Params) : Obj := ⟨.none, none, (.fields #[]), #[]⟩
noncomputable def o_369 (P : Params) : Obj := ⟨(.type "tuple"), none, (.seq #[(.str "self" 664), (.str "view" 665), (.str "table" 666), (.str "place" 667), (.str "state" 668)] 0), #[]⟩
noncomputable def o_370 (P : Params) : Obj := ⟨(.type "tuple"), none, (.seq #[] 0), #[]⟩
noncomputable def o_371 (P : Params) : Obj := ⟨.none, none, .func ⟨"__init__", "Walk.__init__", hd.fnA (hd.scAt 39 0), .stmts (hd.fnB (hd.scAt 39 0)), hd.fnS (hd.scAt 39 0), 0, [], .none, .none, .none, .none, none, .none, .none, 0⟩, #[]⟩
noncomputable def o_372 (P : Params) : Obj := ⟨(.type "code"), none, (.fields #[(.str "__init__" 661), (.str "Walk.__init__" 662), (.str "/claim/cut.py" 663), (.int 186 0), (.int 5 0), (.int 0 0), (.int 0 0), (.int 3 0), (.ref 314), (.bool .true), (.int 181 0), (.ref 315), .none, (.ref 316), (.ref 317), (.ref 318), (.int 669 0), (.int 186 0), (.str "/claim/cut.py" 670)]), #[]⟩
noncomputable def o_373 (P : Params) : Obj := ⟨(.type "function"), none, .func ⟨"__init__", "Walk.__init__", hd.fnA (hd.scAt 39 0), .stmts (hd.fnB (hd.scAt 39 0)), hd.fnS (hd.scAt 39 0), 3, [], .none, .none, .none, (.str "emacs.parse" 647), none, (.ref 319), .none, 0⟩, #[]⟩
noncomputable def o_374 (P : Params) : Obj := ⟨(.type "tuple"), none, (.seq #[] 0), #[]⟩
noncomputable def o_375 (P : Params) : Obj := ⟨.none, none, (.fields #[]), #[]⟩
noncomputable def o_376 (P : Params) : Obj := ⟨(.type "tuple"), none, (.seq #[(.str "self" 675), (.str "inner" 676)] 0), #[]⟩
noncomputable def o_377 (P : Params) : Obj := ⟨(.type "tuple"), none, (.seq #[] 0), #[]⟩
noncomputable def o_378 (P : Params) : Obj := ⟨.none, none, .func ⟨"state", "Walk.state", hd.fnA (hd.scAt 39 1), .stmts (hd.fnB (hd.scAt 39 1)), hd.fnS (hd.scAt 39 1), 0, [], .none, .none, .none, .none, none, .none, .none, 0⟩, #[]⟩
noncomputable def o_379 (P : Params) : Obj := ⟨(.type "code"), none, (.fields #[(.str "state" 672), (.str "Walk.state" 673), (.str "/claim/cut.py" 674), (.int 203 0), (.int 1 0), (.int 0 0), (.int 0 0), (.int 3 0), (.ref 321), (.bool .true), (.int 181 0), (.ref 322), .none, (.ref 323), (.ref 324), (.ref 325), (.int 677 0), (.int 203 0), (.str "/claim/cut.py" 678)]), #[]⟩
noncomputable def o_380 (P : Params) : Obj := ⟨(.type "function"), none, .func ⟨"state", "Walk.state", hd.fnA (hd.scAt 39 1), .stmts (hd.fnB (hd.scAt 39 1)), hd.fnS (hd.scAt 39 1), 3, [], .none, .none, .none, (.str "emacs.parse" 647), none, (.ref 326), .none, 0⟩, #[]⟩
noncomputable def o_381 (P : Params) : Obj := ⟨(.type "tuple"), none, (.seq #[] 0), #[]⟩
noncomputable def o_382 (P : Params) : Obj := ⟨.none, none, (.fields #[]), #[]⟩
noncomputable def o_383 (P : Params) : Obj := ⟨(.type "tuple"), none, (.seq #[(.str "self" 683)] 0), #[]⟩
noncomputable def o_384 (P : Params) : Obj := ⟨(.type "tuple"), none, (.seq #[] 0), #[]⟩
noncomputable def o_385 (P : Params) : Obj := ⟨.none, none, .func ⟨"depth", "Walk.depth", hd.fnA (hd.scAt 39 2), .stmts (hd.fnB (hd.scAt 39 2)), hd.fnS (hd.scAt 39 2), 0, [], .none, .none, .none, .none, none, .none, .none, 0⟩, #[]⟩
noncomputable def o_386 (P : Params) : Obj := ⟨(.type "code"), none, (.fields #[(.str "depth" 680), (.str "Walk.depth" 681), (.str "/claim/cut.py" 682), (.int 207 0), (.int 1 0), (.int 0 0), (.int 0 0), (.int 3 0), (.ref 328), (.bool .true), (.int 181 0), (.ref 329), .none, (.ref 330), (.ref 331), (.ref 332), (.int 684 0), (.int 207 0), (.str "/claim/cut.py" 685)]), #[]⟩
noncomputable def o_387 (P : Params) : Obj := ⟨(.type "function"), none, .func ⟨"depth", "Walk.depth", hd.fnA (hd.scAt 39 2), .stmts (hd.fnB (hd.scAt 39 2)), hd.fnS (hd.scAt 39 2), 3, [], .none, .none, .none, (.str "emacs.parse" 647), none, (.ref 333), .none, 0⟩, #[]⟩
noncomputable def o_388 (P : Params) : Obj := ⟨(.type "tuple"), none, (.seq #[] 0), #[]⟩
noncomputable def o_389 (P : Params) : Obj := ⟨.none, none, (.fields #[]), #[]⟩
noncomputable def o_390 (P : Params) : Obj := ⟨(.type "tuple"), none, (.seq #[(.str "self" 690)] 0), #[]⟩
noncomputable def o_391 (P : Params) : Obj := ⟨(.type "tuple"), none, (.seq #[] 0), #[]⟩
noncomputable def o_392 (P : Params) : Obj := ⟨.none, none, .func ⟨"end_word", "Walk.end_word", hd.fnA (hd.scAt 39 3), .stmts (hd.fnB (hd.scAt 39 3)), hd.fnS (hd.scAt 39 3), 0, [], .none, .none, .none, .none, none, .none, .none, 0⟩, #[]⟩
noncomputable def o_393 (P : Params) : Obj := ⟨(.type "code"), none, (.fields #[(.str "end_word" 687), (.str "Walk.end_word" 688), (.str "/claim/cut.py" 689), (.int 210 0), (.int 1 0), (.int 0 0), (.int 0 0), (.int 3 0), (.ref 335), (.bool .true), (.int 181 0), (.ref 336), .none, (.ref 337), (.ref 338), (.ref 339), (.int 691 0), (.int 210 0), (.str "/claim/cut.py" 692)]), #[]⟩
noncomputable def o_394 (P : Params) : Obj := ⟨(.type "function"), none, .func ⟨"end_word", "Walk.end_word", hd.fnA (hd.scAt 39 3), .stmts (hd.fnB (hd.scAt 39 3)), hd.fnS (hd.scAt 39 3), 3, [], .none, .none, .none, (.str "emacs.parse" 647), none, (.ref 340), .none, 0⟩, #[]⟩
noncomputable def o_395 (P : Params) : Obj := ⟨(.type "tuple"), none, (.seq #[] 0), #[]⟩
noncomputable def o_396 (P : Params) : Obj := ⟨.none, none, (.fields #[]), #[]⟩
noncomputable def o_397 (P : Params) : Obj := ⟨(.type "tuple"), none, (.seq #[(.str "self" 697)] 0), #[]⟩
noncomputable def o_398 (P : Params) : Obj := ⟨(.type "tuple"), none, (.seq #[] 0), #[]⟩
noncomputable def o_399 (P : Params) : Obj := ⟨.none, none, .func ⟨"begin_word", "Walk.begin_word", hd.fnA (hd.scAt 39 4), .stmts (hd.fnB (hd.scAt 39 4)), hd.fnS (hd.scAt 39 4), 0, [], .none, .none, .none, .none, none, .none, .none, 0⟩, #[]⟩
noncomputable def o_400 (P : Params) : Obj := ⟨(.type "code"), none, (.fields #[(.str "begin_word" 694), (.str "Walk.begin_word" 695), (.str "/claim/cut.py" 696), (.int 215 0), (.int 1 0), (.int 0 0), (.int 0 0), (.int 3 0), (.ref 342), (.bool .true), (.int 181 0), (.ref 343), .none, (.ref 344), (.ref 345), (.ref 346), (.int 698 0), (.int 215 0), (.str "/claim/cut.py" 699)]), #[]⟩
noncomputable def o_401 (P : Params) : Obj := ⟨(.type "function"), none, .func ⟨"begin_word", "Walk.begin_word", hd.fnA (hd.scAt 39 4), .stmts (hd.fnB (hd.scAt 39 4)), hd.fnS (hd.scAt 39 4), 3, [], .none, .none, .none, (.str "emacs.parse" 647), none, (.ref 347), .none, 0⟩, #[]⟩
noncomputable def o_402 (P : Params) : Obj := ⟨(.type "tuple"), none, (.seq #[] 0), #[]⟩
noncomputable def o_403 (P : Params) : Obj := ⟨.none, none, (.fields #[]), #[]⟩
noncomputable def o_404 (P : Params) : Obj := ⟨(.type "tuple"), none, (.seq #[(.str "self" 704), (.str "place" 705)] 0), #[]⟩
noncomputable def o_405 (P : Params) : Obj := ⟨(.type "tuple"), none, (.seq #[] 0), #[]⟩
noncomputable def o_406 (P : Params) : Obj := ⟨.none, none, .func ⟨"open_at", "Walk.open_at", hd.fnA (hd.scAt 39 5), .stmts (hd.fnB (hd.scAt 39 5)), hd.fnS (hd.scAt 39 5), 0, [], .none, .none, .none, .none, none, .none, .none, 0⟩, #[]⟩
noncomputable def o_407 (P : Params) : Obj := ⟨(.type "code"), none, (.fields #[(.str "open_at" 701), (.str "Walk.open_at" 702), (.str "/claim/cut.py" 703), (.int 219 0), (.int 2 0), (.int 0 0), (.int 0 0), (.int 3 0), (.ref 349), (.bool .true), (.int 181 0), (.ref 350), .none, (.ref 351), (.ref 352), (.ref 353), (.int 706 0), (.int 219 0), (.str "/claim/cut.py" 707)]), #[]⟩
noncomputable def o_408 (P : Params) : Obj := ⟨(.type "function"), none, .func ⟨"open_at", "Walk.open_at", hd.fnA (hd.scAt 39 5), .stmts (hd.fnB (hd.scAt 39 5)), hd.fnS (hd.scAt 39 5), 3, [], .none, .none, .none, (.str "emacs.parse" 647), none, (.ref 354), .none, 0⟩, #[]⟩
noncomputable def o_409 (P : Params) : Obj := ⟨(.type "tuple"), none, (.seq #[] 0), #[]⟩
noncomputable def o_410 (P : Params) : Obj := ⟨.none, none, (.fields #[]), #[]⟩
noncomputable def o_411 (P : Params) : Obj := ⟨(.type "tuple"), none, (.seq #[(.str "self" 712)] 0), #[]⟩
noncomputable def o_412 (P : Params) : Obj := ⟨(.type "tuple"), none, (.seq #[] 0), #[]⟩
noncomputable def o_413 (P : Params) : Obj := ⟨.none, none, .func ⟨"close", "Walk.close", hd.fnA (hd.scAt 39 6), .stmts (hd.fnB (hd.scAt 39 6)), hd.fnS (hd.scAt 39 6), 0, [], .none, .none, .none, .none, none, .none, .none, 0⟩, #[]⟩
noncomputable def o_414 (P : Params) : Obj := ⟨(.type "code"), none, (.fields #[(.str "close" 709), (.str "Walk.close" 710), (.str "/claim/cut.py" 711), (.int 224 0), (.int 1 0), (.int 0 0), (.int 0 0), (.int 3 0), (.ref 356), (.bool .true), (.int 181 0), (.ref 357), .none, (.ref 358), (.ref 359), (.ref 360), (.int 713 0), (.int 224 0), (.str "/claim/cut.py" 714)]), #[]⟩
noncomputable def o_415 (P : Params) : Obj := ⟨(.type "function"), none, .func ⟨"close", "Walk.close", hd.fnA (hd.scAt 39 6), .stmts (hd.fnB (hd.scAt 39 6)), hd.fnS (hd.scAt 39 6), 3, [], .none, .none, .none, (.str "emacs.parse" 647), none, (.ref 361), .none, 0⟩, #[]⟩
noncomputable def o_416 (P : Params) : Obj := ⟨(.type "tuple"), none, (.seq #[] 0), #[]⟩
noncomputable def o_417 (P : Params) : Obj := ⟨.none, none, (.fields #[]), #[]⟩
noncomputable def o_418 (P : Params) : Obj := ⟨(.type "tuple"), none, (.seq #[(.str "self" 719), (.str "mark" 720), (.str "start" 721)] 0), #[]⟩
noncomputable def o_419 (P : Params) : Obj := ⟨(.type "tuple"), none, (.seq #[] 0), #[]⟩
noncomputable def o_420 (P : Params) : Obj := ⟨.none, none, .func ⟨"begin_comment", "Walk.begin_comment", hd.fnA (hd.scAt 39 7), .stmts (hd.fnB (hd.scAt 39 7)), hd.fnS (hd.scAt 39 7), 0, [], .none, .none, .none, .none, none, .none, .none, 0⟩, #[]⟩
noncomputable def o_421 (P : Params) : Obj := ⟨(.type "code"), none, (.fields #[(.str "begin_comment" 716), (.str "Walk.begin_comment" 717), (.str "/claim/cut.py" 718), (.int 233 0), (.int 3 0), (.int 0 0), (.int 0 0), (.int 3 0), (.ref 363), (.bool .true), (.int 181 0), (.ref 364), .none, (.ref 365), (.ref 366), (.ref 367), (.int 722 0), (.int 233 0), (.str "/claim/cut.py" 723)]), #[]⟩
noncomputable def o_422 (P : Params) : Obj := ⟨(.type "function"), none, .func ⟨"begin_comment", "Walk.begin_comment", hd.fnA (hd.scAt 39 7), .stmts (hd.fnB (hd.scAt 39 7)), hd.fnS (hd.scAt 39 7), 3, [], .none, .none, .none, (.str "emacs.parse" 647), none, (.ref 368), .none, 0⟩, #[]⟩
noncomputable def o_423 (P : Params) : Obj := ⟨(.type "tuple"), none, (.seq #[] 0), #[]⟩
noncomputable def o_424 (P : Params) : Obj := ⟨.none, none, (.fields #[]), #[]⟩
noncomputable def o_425 (P : Params) : Obj := ⟨(.type "tuple"), none, (.seq #[(.str "self" 728)] 0), #[]⟩
noncomputable def o_426 (P : Params) : Obj := ⟨(.type "tuple"), none, (.seq #[] 0), #[]⟩
noncomputable def o_427 (P : Params) : Obj := ⟨.none, none, .func ⟨"leave_comment", "Walk.leave_comment", hd.fnA (hd.scAt 39 8), .stmts (hd.fnB (hd.scAt 39 8)), hd.fnS (hd.scAt 39 8), 0, [], .none, .none, .none, .none, none, .none, .none, 0⟩, #[]⟩
noncomputable def o_428 (P : Params) : Obj := ⟨(.type "code"), none, (.fields #[(.str "leave_comment" 725), (.str "Walk.leave_comment" 726), (.str "/claim/cut.py" 727), (.int 240 0), (.int 1 0), (.int 0 0), (.int 0 0), (.int 3 0), (.ref 370), (.bool .true), (.int 181 0), (.ref 371), .none, (.ref 372), (.ref 373), (.ref 374), (.int 729 0), (.int 240 0), (.str "/claim/cut.py" 730)]), #[]⟩
noncomputable def o_429 (P : Params) : Obj := ⟨(.type "function"), none, .func ⟨"leave_comment", "Walk.leave_comment", hd.fnA (hd.scAt 39 8), .stmts (hd.fnB (hd.scAt 39 8)), hd.fnS (hd.scAt 39 8), 3, [], .none, .none, .none, (.str "emacs.parse" 647), none, (.ref 375), .none, 0⟩, #[]⟩
noncomputable def o_430 (P : Params) : Obj := ⟨(.type "tuple"), none, (.seq #[] 0), #[]⟩
noncomputable def o_431 (P : Params) : Obj := ⟨.none, none, (.fields #[]), #[]⟩
noncomputable def o_432 (P : Params) : Obj := ⟨(.type "tuple"), none, (.seq #[(.str "self" 735), (.str "ender" 736)] 0), #[]⟩
noncomputable def o_433 (P : Params) : Obj := ⟨(.type "tuple"), none, (.seq #[] 0), #[]⟩
noncomputable def o_434 (P : Params) : Obj := ⟨.none, none, .func ⟨"begin_string", "Walk.begin_string", hd.fnA (hd.scAt 39 9), .stmts (hd.fnB (hd.scAt 39 9)), hd.fnS (hd.scAt 39 9), 0, [], .none, .none, .none, .none, none, .none, .none, 0⟩, #[]⟩
noncomputable def o_435 (P : Params) : Obj := ⟨(.type "code"), none, (.fields #[(.str "begin_string" 732), (.str "Walk.begin_string" 733), (.str "/claim/cut.py" 734), (.int 249 0), (.int 2 0), (.int 0 0), (.int 0 0), (.int 3 0), (.ref 377), (.bool .true), (.int 181 0), (.ref 378), .none, (.ref 379), (.ref 380), (.ref 381), (.int 737 0), (.int 249 0), (.str "/claim/cut.py" 738)]), #[]⟩
noncomputable def o_436 (P : Params) : Obj := ⟨(.type "function"), none, .func ⟨"begin_string", "Walk.begin_string", hd.fnA (hd.scAt 39 9), .stmts (hd.fnB (hd.scAt 39 9)), hd.fnS (hd.scAt 39 9), 3, [], .none, .none, .none, (.str "emacs.parse" 647), none, (.ref 382), .none, 0⟩, #[]⟩
noncomputable def o_437 (P : Params) : Obj := ⟨(.type "tuple"), none, (.seq #[] 0), #[]⟩
noncomputable def o_438 (P : Params) : Obj := ⟨.none, none, (.fields #[]), #[]⟩
noncomputable def o_439 (P : Params) : Obj := ⟨(.type "tuple"), none, (.seq #[(.str "self" 743)] 0), #[]⟩
noncomputable def o_440 (P : Params) : Obj := ⟨(.type "tuple"), none, (.seq #[] 0), #[]⟩
noncomputable def o_441 (P : Params) : Obj := ⟨.none, none, .func ⟨"end_string", "Walk.end_string", hd.fnA (hd.scAt 39 10), .stmts (hd.fnB (hd.scAt 39 10)), hd.fnS (hd.scAt 39 10), 0, [], .none, .none, .none, .none, none, .none, .none, 0⟩, #[]⟩
noncomputable def o_442 (P : Params) : Obj := ⟨(.type "code"), none, (.fields #[(.str "end_string" 740), (.str "Walk.end_string" 741), (.str "/claim/cut.py" 742), (.int 254 0), (.int 1 0), (.int 0 0), (.int 0 0), (.int 3 0), (.ref 384), (.bool .true), (.int 181 0), (.ref 385), .none, (.ref 386), (.ref 387), (.ref 388), (.int 744 0), (.int 254 0), (.str "/claim/cut.py" 745)]), #[]⟩
noncomputable def o_443 (P : Params) : Obj := ⟨(.type "function"), none, .func ⟨"end_string", "Walk.end_string", hd.fnA (hd.scAt 39 10), .stmts (hd.fnB (hd.scAt 39 10)), hd.fnS (hd.scAt 39 10), 3, [], .none, .none, .none, (.str "emacs.parse" 647), none, (.ref 389), .none, 0⟩, #[]⟩
noncomputable def o_444 (P : Params) : Obj := ⟨(.type "tuple"), none, (.seq #[] 0), #[]⟩
noncomputable def o_445 (P : Params) : Obj := ⟨.none, none, (.fields #[]), #[]⟩
noncomputable def o_446 (P : Params) : Obj := ⟨(.type "tuple"), none, (.seq #[(.str "self" 750), (.str "mark" 751), (.str "word" 752), (.str "limit" 753)] 0), #[]⟩
noncomputable def o_447 (P : Params) : Obj := ⟨(.type "tuple"), none, (.seq #[] 0), #[]⟩
noncomputable def o_448 (P : Params) : Obj := ⟨.none, none, .func ⟨"take", "Walk.take", hd.fnA (hd.scAt 39 11), .stmts (hd.fnB (hd.scAt 39 11)), hd.fnS (hd.scAt 39 11), 0, [], .none, .none, .none, .none, none, .none, .none, 0⟩, #[]⟩
noncomputable def o_449 (P : Params) : Obj := ⟨(.type "code"), none, (.fields #[(.str "take" 747), (.str "Walk.take" 748), (.str "/claim/cut.py" 749), (.int 259 0), (.int 4 0), (.int 0 0), (.int 0 0), (.int 3 0), (.ref 391), (.bool .true), (.int 181 0), (.ref 392), .none, (.ref 393), (.ref 394), (.ref 395), (.int 754 0), (.int 259 0), (.str "/claim/cut.py" 755)]), #[]⟩
noncomputable def o_450 (P : Params) : Obj := ⟨(.type "function"), none, .func ⟨"take", "Walk.take", hd.fnA (hd.scAt 39 11), .stmts (hd.fnB (hd.scAt 39 11)), hd.fnS (hd.scAt 39 11), 3, [], .none, .none, .none, (.str "emacs.parse" 647), none, (.ref 396), .none, 0⟩, #[]⟩
noncomputable def o_451 (P : Params) : Obj := ⟨(.type "tuple"), none, (.seq #[] 0), #[]⟩
noncomputable def o_452 (P : Params) : Obj := ⟨.none, none, (.fields #[]), #[]⟩
noncomputable def o_453 (P : Params) : Obj := ⟨(.type "tuple"), none, (.seq #[(.str "self" 760), (.str "limit" 761), (.str "is_fence" 762), (.str "mark" 763)] 0), #[]⟩
noncomputable def o_454 (P : Params) : Obj := ⟨(.type "tuple"), none, (.seq #[] 0), #[]⟩
noncomputable def o_455 (P : Params) : Obj := ⟨.none, none, .func ⟨"step_in_comment", "Walk.step_in_comment", hd.fnA (hd.scAt 39 12), .stmts (hd.fnB (hd.scAt 39 12)), hd.fnS (hd.scAt 39 12), 0, [], .none, .none, .none, .none, none, .none, .none, 0⟩, #[]⟩
noncomputable def o_456 (P : Params) : Obj := ⟨(.type "code"), none, (.fields #[(.str "step_in_comment" 757), (.str "Walk.step_in_comment" 758), (.str "/claim/cut.py" 759), (.int 267 0), (.int 2 0), (.int 0 0), (.int 0 0), (.int 3 0), (.ref 398), (.bool .true), (.int 181 0), (.ref 399), .none, (.ref 400), (.ref 401), (.ref 402), (.int 764 0), (.int 267 0), (.str "/claim/cut.py" 765)]), #[]⟩
noncomputable def o_457 (P : Params) : Obj := ⟨(.type "function"), none, .func ⟨"step_in_comment", "Walk.step_in_comment", hd.fnA (hd.scAt 39 12), .stmts (hd.fnB (hd.scAt 39 12)), hd.fnS (hd.scAt 39 12), 3, [], .none, .none, .none, (.str "emacs.parse" 647), none, (.ref 403), .none, 0⟩, #[]⟩
noncomputable def o_458 (P : Params) : Obj := ⟨(.type "tuple"), none, (.seq #[] 0), #[]⟩
noncomputable def o_459 (P : Params) : Obj := ⟨.none, none, (.fields #[]), #[]⟩
noncomputable def o_460 (P : Params) : Obj := ⟨(.type "tuple"), none, (.seq #[(.str "self" 770), (.str "code" 771), (.str "syntax" 772)] 0), #[]⟩
noncomputable def o_461 (P : Params) : Obj := ⟨(.type "tuple"), none, (.seq #[] 0), #[]⟩
noncomputable def o_462 (P : Params) : Obj := ⟨.none, none, .func ⟨"step_in_string", "Walk.step_in_string", hd.fnA (hd.scAt 39 13), .stmts (hd.fnB (hd.scAt 39 13)), hd.fnS (hd.scAt 39 13), 0, [], .none, .none, .none, .none, none, .none, .none, 0⟩, #[]⟩
noncomputable def o_463 (P : Params) : Obj := ⟨(.type "code"), none, (.fields #[(.str "step_in_string" 767), (.str "Walk.step_in_string" 768), (.str "/claim/cut.py" 769), (.int 280 0), (.int 1 0), (.int 0 0), (.int 0 0), (.int 3 0), (.ref 405), (.bool .true), (.int 181 0), (.ref 406), .none, (.ref 407), (.ref 408), (.ref 409), (.int 773 0), (.int 280 0), (.str "/claim/cut.py" 774)]), #[]⟩
noncomputable def o_464 (P : Params) : Obj := ⟨(.type "function"), none, .func ⟨"step_in_string", "Walk.step_in_string", hd.fnA (hd.scAt 39 13), .stmts (hd.fnB (hd.scAt 39 13)), hd.fnS (hd.scAt 39 13), 3, [], .none, .none, .none, (.str "emacs.parse" 647), none, (.ref 410), .none, 0⟩, #[]⟩
noncomputable def o_465 (P : Params) : Obj := ⟨(.type "tuple"), none, (.seq #[] 0), #[]⟩
noncomputable def o_466 (P : Params) : Obj := ⟨.none, none, (.fields #[]), #[]⟩
noncomputable def o_467 (P : Params) : Obj := ⟨(.type "tuple"), none, (.seq #[(.str "self" 779), (.str "word" 780)] 0), #[]⟩
noncomputable def o_468 (P : Params) : Obj := ⟨(.type "tuple"), none, (.seq #[] 0), #[]⟩
noncomputable def o_469 (P : Params) : Obj := ⟨.none, none, .func ⟨"finish_half", "Walk.finish_half", hd.fnA (hd.scAt 39 14), .stmts (hd.fnB (hd.scAt 39 14)), hd.fnS (hd.scAt 39 14), 0, [], .none, .none, .none, .none, none, .none, .none, 0⟩, #[]⟩
noncomputable def o_470 (P : Params) : Obj := ⟨(.type "code"), none, (.fields #[(.str "finish_half" 776), (.str "Walk.finish_half" 777), (.str "/claim/cut.py" 778), (.int 291 0), (.int 1 0), (.int 0 0), (.int 0 0), (.int 3 0), (.ref 412), (.bool .true), (.int 181 0), (.ref 413), .none, (.ref 414), (.ref 415), (.ref 416), (.int 781 0), (.int 291 0), (.str "/claim/cut.py" 782)]), #[]⟩
noncomputable def o_471 (P : Params) : Obj := ⟨(.type "function"), none, .func ⟨"finish_half", "Walk.finish_half", hd.fnA (hd.scAt 39 14), .stmts (hd.fnB (hd.scAt 39 14)), hd.fnS (hd.scAt 39 14), 3, [], .none, .none, .none, (.str "emacs.parse" 647), none, (.ref 417), .none, 0⟩, #[]⟩
noncomputable def o_472 (P : Params) : Obj := ⟨(.type "tuple"), none, (.seq #[] 0), #[]⟩
noncomputable def o_473 (P : Params) : Obj := ⟨.none, none, (.fields #[]), #[]⟩
noncomputable def o_474 (P : Params) : Obj := ⟨(.type "tuple"), none, (.seq #[(.str "self" 787), (.str "limit" 788), (.str "mark" 789), (.str "start" 790), (.str "syntax" 791)] 0), #[]⟩
noncomputable def o_475 (P : Params) : Obj := ⟨(.type "tuple"), none, (.seq #[] 0), #[]⟩
noncomputable def o_476 (P : Params) : Obj := ⟨.none, none, .func ⟨"step_plain", "Walk.step_plain", hd.fnA (hd.scAt 39 15), .stmts (hd.fnB (hd.scAt 39 15)), hd.fnS (hd.scAt 39 15), 0, [], .none, .none, .none, .none, none, .none, .none, 0⟩, #[]⟩
noncomputable def o_477 (P : Params) : Obj := ⟨(.type "code"), none, (.fields #[(.str "step_plain" 784), (.str "Walk.step_plain" 785), (.str "/claim/cut.py" 786), (.int 302 0), (.int 2 0), (.int 0 0), (.int 0 0), (.int 3 0), (.ref 419), (.bool .true), (.int 181 0), (.ref 420), .none, (.ref 421), (.ref 422), (.ref 423), (.int 792 0), (.int 302 0), (.str "/claim/cut.py" 793)]), #[]⟩
noncomputable def o_478 (P : Params) : Obj := ⟨(.type "function"), none, .func ⟨"step_plain", "Walk.step_plain", hd.fnA (hd.scAt 39 15), .stmts (hd.fnB (hd.scAt 39 15)), hd.fnS (hd.scAt 39 15), 3, [], .none, .none, .none, (.str "emacs.parse" 647), none, (.ref 424), .none, 0⟩, #[]⟩
noncomputable def o_479 (P : Params) : Obj := ⟨(.type "tuple"), none, (.seq #[] 0), #[]⟩
noncomputable def o_480 (P : Params) : Obj := ⟨.none, none, (.fields #[]), #[]⟩
noncomputable def o_481 (P : Params) : Obj := ⟨(.type "tuple"), none, (.seq #[(.str "self" 798), (.str "syntax" 799)] 0), #[]⟩
noncomputable def o_482 (P : Params) : Obj := ⟨(.type "tuple"), none, (.seq #[] 0), #[]⟩
noncomputable def o_483 (P : Params) : Obj := ⟨.none, none, .func ⟨"step_by_kind", "Walk.step_by_kind", hd.fnA (hd.scAt 39 16), .stmts (hd.fnB (hd.scAt 39 16)), hd.fnS (hd.scAt 39 16), 0, [], .none, .none, .none, .none, none, .none, .none, 0⟩, #[]⟩
noncomputable def o_484 (P : Params) : Obj := ⟨(.type "code"), none, (.fields #[(.str "step_by_kind" 795), (.str "Walk.step_by_kind" 796), (.str "/claim/cut.py" 797), (.int 320 0), (.int 2 0), (.int 0 0), (.int 0 0), (.int 3 0), (.ref 426), (.bool .true), (.int 181 0), (.ref 427), .none, (.ref 428), (.ref 429), (.ref 430), (.int 800 0), (.int 320 0), (.str "/claim/cut.py" 801)]), #[]⟩
noncomputable def o_485 (P : Params) : Obj := ⟨(.type "function"), none, .func ⟨"step_by_kind", "Walk.step_by_kind", hd.fnA (hd.scAt 39 16), .stmts (hd.fnB (hd.scAt 39 16)), hd.fnS (hd.scAt 39 16), 3, [], .none, .none, .none, (.str "emacs.parse" 647), none, (.ref 431), .none, 0⟩, #[]⟩
noncomputable def o_486 (P : Params) : Obj := ⟨(.type "tuple"), none, (.seq #[] 0), #[]⟩
noncomputable def o_487 (P : Params) : Obj := ⟨.none, none, (.fields #[]), #[]⟩
noncomputable def o_488 (P : Params) : Obj := ⟨(.type "tuple"), none, (.seq #[(.str "self" 806), (.str "limit" 807)] 0), #[]⟩
noncomputable def o_489 (P : Params) : Obj := ⟨(.type "tuple"), none, (.seq #[] 0), #[]⟩
noncomputable def o_490 (P : Params) : Obj := ⟨.none, none, .func ⟨"step", "Walk.step", hd.fnA (hd.scAt 39 17), .stmts (hd.fnB (hd.scAt 39 17)), hd.fnS (hd.scAt 39 17), 0, [], .none, .none, .none, .none, none, .none, .none, 0⟩, #[]⟩
noncomputable def o_491 (P : Params) : Obj := ⟨(.type "code"), none, (.fields #[(.str "step" 803), (.str "Walk.step" 804), (.str "/claim/cut.py" 805), (.int 337 0), (.int 2 0), (.int 0 0), (.int 0 0), (.int 3 0), (.ref 433), (.bool .true), (.int 181 0), (.ref 434), .none, (.ref 435), (.ref 436), (.ref 437), (.int 808 0), (.int 337 0), (.str "/claim/cut.py" 809)]), #[]⟩
noncomputable def o_492 (P : Params) : Obj := ⟨(.type "function"), none, .func ⟨"step", "Walk.step", hd.fnA (hd.scAt 39 17), .stmts (hd.fnB (hd.scAt 39 17)), hd.fnS (hd.scAt 39 17), 3, [], .none, .none, .none, (.str "emacs.parse" 647), none, (.ref 438), .none, 0⟩, #[]⟩
noncomputable def o_493 (P : Params) : Obj := ⟨(.type "tuple"), none, (.seq #[(.str "below" 811), (.str "comment" 812), (.str "half" 813), (.str "least" 814), (.str "nests" 815), (.str "opens" 816), (.str "place" 817), (.str "quoted" 818), (.str "start" 819), (.str "string" 820), (.str "style" 821), (.str "table" 822), (.str "view" 823), (.str "whole" 824), (.str "word" 825)] 0), #[]⟩
noncomputable def o_494 (P : Params) : Obj := ⟨(.type "dict"), none, (.dict #[⟨(PyData.keyHash P "__module__"), (.str "__module__" 656), (.str "emacs.parse" 647)⟩, ⟨(PyData.keyHash P "__firstlineno__"), (.str "__firstlineno__" 660), (.int 184 659)⟩, ⟨(PyData.keyHash P "__init__"), (.str "__init__" 671), (.ref 320)⟩, ⟨(PyData.keyHash P "state"), (.str "state" 679), (.ref 327)⟩, ⟨(PyData.keyHash P "depth"), (.str "depth" 686), (.ref 334)⟩, ⟨(PyData.keyHash P "end_word"), (.str "end_word" 693), (.ref 341)⟩, ⟨(PyData.keyHash P "begin_word"), (.str "begin_word" 700), (.ref 348)⟩, ⟨(PyData.keyHash P "open_at"), (.str "open_at" 708), (.ref 355)⟩, ⟨(PyData.keyHash P "close"), (.str "close" 715), (.ref 362)⟩, ⟨(PyData.keyHash P "begin_comment"), (.str "begin_comment" 724), (.ref 369)⟩, ⟨(PyData.keyHash P "leave_comment"), (.str "leave_comment" 731), (.ref 376)⟩, ⟨(PyData.keyHash P "begin_string"), (.str "begin_string" 739), (.ref 383)⟩, ⟨(PyData.keyHash P "end_string"), (.str "end_string" 746), (.ref 390)⟩, ⟨(PyData.keyHash P "take"), (.str "take" 756), (.ref 397)⟩, ⟨(PyData.keyHash P "step_in_comment"), (.str "step_in_comment" 766), (.ref 404)⟩, ⟨(PyData.keyHash P "step_in_string"), (.str "step_in_string" 775), (.ref 411)⟩, ⟨(PyData.keyHash P "finish_half"), (.str "finish_half" 783), (.ref 418)⟩, ⟨(PyData.keyHash P "step_plain"), (.str "step_plain" 794), (.ref 425)⟩, ⟨(PyData.keyHash P "step_by_kind"), (.str "step_by_kind" 802), (.ref 432)⟩, ⟨(PyData.keyHash P "step"), (.str "step" 810), (.ref 439)⟩, ⟨(PyData.keyHash P "__static_attributes__"), (.str "__static_attributes__" 826), (.ref 440)⟩, ⟨(PyData.keyHash P "__dict__"), (.str "__dict__" 828), (.ref 443)⟩, ⟨(PyData.keyHash P "__weakref__"), (.str "__weakref__" 830), (.ref 444)⟩, ⟨(PyData.keyHash P "__doc__"), (.str "__doc__" 831), .none⟩] 4), #[]⟩
noncomputable def o_495 (P : Params) : Obj := ⟨(.type "type"), none, (.cls ⟨"Walk", [(.type "object")], [(.ref 442), (.type "object")], 441, "Walk", .true, [], [], .false, none, .false⟩), #[none, none, (some (.str "Walk" 649)), (some (.str "Walk" 657)), (some (.builtin "object.__new__")), (some (.bool .true))]⟩
noncomputable def o_496 (P : Params) : Obj := ⟨(.type "getset_descriptor"), none, (.fields #[(.str "__dict__" 827), (.ref 442), (.builtin "function.__dict__"), (.builtin "function.__dict__#set")]), #[]⟩
noncomputable def o_497 (P : Params) : Obj := ⟨(.type "getset_descriptor"), none, (.fields #[(.str "__weakref__" 829), (.ref 442), (.builtin "ExceptionGroup.__weakref__"), .none]), #[]⟩
noncomputable def o_498 (P : Params) : Obj := ⟨(.type "super"), none, (.fields #[(.ref 442), (.ref 442), (.ref 442)]), #[]⟩
noncomputable def o_499 (P : Params) : Obj := ⟨(.type "builtin_function_or_method"), none, (.fields #[(.builtin "object.__init_subclass__"), (.ref 442)]), #[]⟩
noncomputable def o_718 (P : Params) : Obj := ⟨(.type "dict"), none, (.dict #[⟨(PyData.keyHash P "__name__"), (.str "__name__" 165), (.str "law_np0091_01" 1006)⟩, ⟨(PyData.keyHash P "__doc__"), (.str "__doc__" 166), .none⟩, ⟨(PyData.keyHash P "__package__"), (.str "__package__" 167), .none⟩, ⟨(PyData.keyHash P "__loader__"), (.str "__loader__" 168), (.builtin "__main__.__loader__#opaque")⟩, ⟨(PyData.keyHash P "__spec__"), (.str "__spec__" 169), .none⟩, ⟨(PyData.keyHash P "__annotations__"), (.str "__annotations__" 170), (.ref 6)⟩, ⟨(PyData.keyHash P "__builtins__"), (.str "__builtins__" 171), (.ref 4)⟩, ⟨(PyData.keyHash P "__file__"), (.str "__file__" 173), (.str "/claim/cut.py" 172)⟩, ⟨(PyData.keyHash P "__cached__"), (.str "__cached__" 174), .none⟩, ⟨(PyData.keyHash P "_wall"), (.str "_wall" 193), (.ref 21)⟩, ⟨(PyData.keyHash P "ParseState"), (.str "ParseState" 280), (.ref 68)⟩, ⟨(PyData.keyHash P "state_of"), (.str "state_of" 299), (.ref 79)⟩, ⟨(PyData.keyHash P "LispSignal"), (.str "LispSignal" 332), (.ref 96)⟩, ⟨(PyData.keyHash P "WHITESPACE"), (.str "WHITESPACE" 336), (.str " " 335)⟩, ⟨(PyData.keyHash P "WORD"), (.str "WORD" 338), (.str "w" 337)⟩, ⟨(PyData.keyHash P "SYMBOL"), (.str "SYMBOL" 340), (.str "_" 339)⟩, ⟨(PyData.keyHash P "PUNCTUATION"), (.str "PUNCTUATION" 342), (.str "." 341)⟩, ⟨(PyData.keyHash P "OPENS"), (.str "OPENS" 344), (.str "(" 343)⟩, ⟨(PyData.keyHash P "CLOSES"), (.str "CLOSES" 346), (.str ")" 345)⟩, ⟨(PyData.keyHash P "PREFIX"), (.str "PREFIX" 348), (.str "'" 347)⟩, ⟨(PyData.keyHash P "STRING"), (.str "STRING" 350), (.str "\"" 349)⟩, ⟨(PyData.keyHash P "ESCAPE"), (.str "ESCAPE" 352), (.str "\\" 351)⟩, ⟨(PyData.keyHash P "QUOTES"), (.str "QUOTES" 354), (.str "/" 353)⟩, ⟨(PyData.keyHash P "BEGINS"), (.str "BEGINS" 356), (.str "<" 355)⟩, ⟨(PyData.keyHash P "ENDS"), (.str "ENDS" 358), (.str ">" 357)⟩, ⟨(PyData.keyHash P "INHERITS"), (.str "INHERITS" 360), (.str "@" 359)⟩, ⟨(PyData.keyHash P "COMMENT_FENCE"), (.str "COMMENT_FENCE" 362), (.str "!" 361)⟩, ⟨(PyData.keyHash P "STRING_FENCE"), (.str "STRING_FENCE" 364), (.str "|" 363)⟩, ⟨(PyData.keyHash P "KINDS"), (.str "KINDS" 366), (.str " w_.()'\"\\/$<>@!|" 365)⟩, ⟨(PyData.keyHash P "FLAGS"), (.str "FLAGS" 368), (.str "1234bcnp" 367)⟩, ⟨(PyData.keyHash P "Syntax"), (.str "Syntax" 430), (.ref 144)⟩, ⟨(PyData.keyHash P "sorted_flags"), (.str "sorted_flags" 436), (.ref 153)⟩, ⟨(PyData.keyHash P "read_syntax"), (.str "read_syntax" 442), (.ref 158)⟩, ⟨(PyData.keyHash P "SyntaxTable"), (.str "SyntaxTable" 536), (.ref 225)⟩, ⟨(PyData.keyHash P "letters"), (.str "letters" 542), (.ref 236)⟩, ⟨(PyData.keyHash P "standard_table"), (.str "standard_table" 551), (.ref 243)⟩, ⟨(PyData.keyHash P "slash_table"), (.str "slash_table" 558), (.ref 250)⟩, ⟨(PyData.keyHash P "Mark"), (.str "Mark" 595), (.ref 267)⟩, ⟨(PyData.keyHash P "syntax_at"), (.str "syntax_at" 605), (.ref 278)⟩, ⟨(PyData.keyHash P "pair_style"), (.str "pair_style" 614), (.ref 285)⟩, ⟨(PyData.keyHash P "begin_mark"), (.str "begin_mark" 625), (.ref 292)⟩, ⟨(PyData.keyHash P "end_mark"), (.str "end_mark" 636), (.ref 299)⟩, ⟨(PyData.keyHash P "fits"), (.str "fits" 646), (.ref 306)⟩, ⟨(PyData.keyHash P "Walk"), (.str "Walk" 833), (.ref 442)⟩, ⟨(PyData.keyHash P "begins_expression"), (.str "begins_expression" 841), (.ref 453)⟩, ⟨(PyData.keyHash P "parse_partial"), (.str "parse_partial" 858), (.ref 461)⟩, ⟨(PyData.keyHash P "state_at"), (.str "state_at" 867), (.ref 468)⟩, ⟨(PyData.keyHash P "NEW_LINE"), (.str "NEW_LINE" 871), (.int 10 870)⟩, ⟨(PyData.keyHash P "comment_end"), (.str "comment_end" 881), (.ref 475)⟩, ⟨(PyData.keyHash P "spans_to"), (.str "spans_to" 896), (.ref 482)⟩, ⟨(PyData.keyHash P "is_blank"), (.str "is_blank" 906), (.ref 489)⟩, ⟨(PyData.keyHash P "past_comment"), (.str "past_comment" 916), (.ref 496)⟩, ⟨(PyData.keyHash P "before_comment"), (.str "before_comment" 926), (.ref 503)⟩, ⟨(PyData.keyHash P "forward_comment"), (.str "forward_comment" 938), (.ref 510)⟩, ⟨(PyData.keyHash P "comment_bounds"), (.str "comment_bounds" 949), (.ref 517)⟩, ⟨(PyData.keyHash P "TextRow"), (.str "TextRow" 1005), (.ref 556)⟩, ⟨(PyData.keyHash P "_law_deck"), (.str "_law_deck" 1013), (.ref 565)⟩, ⟨(PyData.keyHash P "_law_draw"), (.str "_law_draw" 1023), (.ref 572)⟩, ⟨(PyData.keyHash P "_law_many"), (.str "_law_many" 1029), (.ref 577)⟩, ⟨(PyData.keyHash P "_law_part"), (.str "_law_part" 1035), (.ref 582)⟩, ⟨(PyData.keyHash P "_law_forward"), (.str "_law_forward" 1048), (.ref 589)⟩, ⟨(PyData.keyHash P "_law_backward"), (.str "_law_backward" 1061), (.ref 596)⟩, ⟨(PyData.keyHash P "law"), (.str "law" 1067), (.ref 601)⟩] 63), #[]⟩
noncomputable def o_719 (P : Params) : Obj := ⟨.none, none, (.fields #[(.int 1 0), (.int 0 0), (.ref 20), (.int 5 0), (.int 0 0), (.ref 27), (.int 33 0), (.int 0 0), (.ref 78), (.int 37 0), (.int 0 0), (.ref 85), (.int 60 0), (.int 0 0), (.ref 105), (.int 78 0), (.int 0 0), (.ref 152), (.int 80 0), (.int 0 0), (.ref 157), (.int 89 0), (.int 0 0), (.ref 164), (.int 124 0), (.int 0 0), (.ref 235), (.int 126 0), (.int 0 0), (.ref 242), (.int 138 0), (.int 0 0), (.ref 249), (.int 148 0), (.int 0 0), (.ref 256), (.int 155 0), (.int 0 0), (.ref 277), (.int 158 0), (.int 0 0), (.ref 284), (.int 161 0), (.int 0 0), (.ref 291), (.int 170 0), (.int 0 0), (.ref 298), (.int 179 0), (.int 0 0), (.ref 305), (.int 184 0), (.int 0 0), (.ref 312), (.int 346 0), (.int 0 0), (.ref 452), (.int 355 0), (.int 0 0), (.ref 460), (.int 367 0), (.int 0 0), (.ref 467), (.int 371 0), (.int 0 0), (.ref 474), (.int 379 0), (.int 0 0), (.ref 481), (.int 390 0), (.int 0 0), (.ref 488), (.int 395 0), (.int 0 0), (.ref 495), (.int 402 0), (.int 0 0), (.ref 502), (.int 408 0), (.int 0 0), (.ref 509), (.int 418 0), (.int 0 0), (.ref 516), (.int 427 0), (.int 0 0), (.ref 523), (.int 444 0), (.int 0 0), (.ref 564), (.int 447 0), (.int 0 0), (.ref 571), (.int 458 0), (.int 0 0), (.ref 576), (.int 463 0), (.int 0 0), (.ref 581), (.int 481 0), (.int 0 0), (.ref 588), (.int 490 0), (.int 0 0), (.ref 595), (.int 499 0), (.int 0 0), (.ref 600)]), #[]⟩
noncomputable def o_590 (P : Params) : Obj := ⟨(.type "tuple"), none, (.seq #[] 0), #[]⟩
noncomputable def o_591 (P : Params) : Obj := ⟨.none, none, (.fields #[]), #[]⟩
noncomputable def o_592 (P : Params) : Obj := ⟨(.type "tuple"), none, (.seq #[(.str "walk" 837), (.str "syntax" 838)] 0), #[]⟩
noncomputable def o_593 (P : Params) : Obj := ⟨(.type "tuple"), none, (.seq #[] 0), #[]⟩
noncomputable def o_594 (P : Params) : Obj := ⟨.none, none, .func ⟨"begins_expression", "begins_expression", hd.fnA (hd.stAt 40), .stmts (hd.fnB (hd.stAt 40)), hd.fnS (hd.stAt 40), 0, [], .none, .none, .none, .none, none, .none, .none, 0⟩, #[]⟩
noncomputable def o_595 (P : Params) : Obj := ⟨(.type "code"), none, (.fields #[(.str "begins_expression" 834), (.str "begins_expression" 835), (.str "/claim/cut.py" 836), (.int 346 0), (.int 1 0), (.int 0 0), (.int 0 0), (.int 3 0), (.ref 447), (.bool .true), (.int 181 0), (.ref 448), .none, (.ref 449), (.ref 450), (.ref 451), (.int 839 0), (.int 346 0), (.str "/claim/cut.py" 840)]), #[]⟩
noncomputable def o_596 (P : Params) : Obj := ⟨(.type "function"), none, .func ⟨"begins_expression", "begins_expression", hd.fnA (hd.stAt 40), .stmts (hd.fnB (hd.stAt 40)), hd.fnS (hd.stAt 40), 3, [], .none, .none, .none, (.str "emacs.parse" 647), none, (.ref 452), .none, 0⟩, #[]⟩
noncomputable def o_597 (P : Params) : Obj := ⟨(.type "tuple"), none, (.seq #[.none, .none, (.bool .false), (.bool .false)] 0), #[]⟩
noncomputable def o_598 (P : Params) : Obj := ⟨(.type "tuple"), none, (.seq #[] 0), #[]⟩
noncomputable def o_599 (P : Params) : Obj := ⟨.none, none, (.fields #[]), #[]⟩
noncomputable def o_600 (P : Params) : Obj := ⟨(.type "tuple"), none, (.seq #[(.str "view" 845), (.str "table" 846), (.str "place" 847), (.str "limit" 848), (.str "state" 849), (.str "target" 850), (.str "stop_before" 851), (.str "stop_comment" 852), (.str "walk" 853), (.str "depth" 854), (.str "comment" 855)] 0), #[]⟩
noncomputable def o_601 (P : Params) : Obj := ⟨(.type "tuple"), none, (.seq #[] 0), #[]⟩
noncomputable def o_602 (P : Params) : Obj := ⟨.none, none, .func ⟨"parse_partial", "parse_partial", hd.fnA (hd.stAt 41), .stmts (hd.fnB (hd.stAt 41)), hd.fnS (hd.stAt 41), 0, [], .none, .none, .none, .none, none, .none, .none, 0⟩, #[]⟩
noncomputable def o_603 (P : Params) : Obj := ⟨(.type "code"), none, (.fields #[(.str "parse_partial" 842), (.str "parse_partial" 843), (.str "/claim/cut.py" 844), (.int 355 0), (.int 8 0), (.int 0 0), (.int 0 0), (.int 3 0), (.ref 455), (.bool .true), (.int 181 0), (.ref 456), .none, (.ref 457), (.ref 458), (.ref 459), (.int 856 0), (.int 355 0), (.str "/claim/cut.py" 857)]), #[]⟩
noncomputable def o_604 (P : Params) : Obj := ⟨(.type "function"), none, .func ⟨"parse_partial", "parse_partial", hd.fnA (hd.stAt 41), .stmts (hd.fnB (hd.stAt 41)), hd.fnS (hd.stAt 41), 3, [], (.ref 454), .none, .none, (.str "emacs.parse" 647), none, (.ref 460), .none, 0⟩, #[]⟩
noncomputable def o_605 (P : Params) : Obj := ⟨(.type "tuple"), none, (.seq #[] 0), #[]⟩
noncomputable def o_606 (P : Params) : Obj := ⟨.none, none, (.fields #[]), #[]⟩
noncomputable def o_607 (P : Params) : Obj := ⟨(.type "tuple"), none, (.seq #[(.str "view" 862), (.str "table" 863), (.str "place" 864)] 0), #[]⟩
noncomputable def o_608 (P : Params) : Obj := ⟨(.type "tuple"), none, (.seq #[] 0), #[]⟩
noncomputable def o_609 (P : Params) : Obj := ⟨.none, none, .func ⟨"state_at", "state_at", hd.fnA (hd.stAt 42), .stmts (hd.fnB (hd.stAt 42)), hd.fnS (hd.stAt 42), 0, [], .none, .none, .none, .none, none, .none, .none, 0⟩, #[]⟩
noncomputable def o_610 (P : Params) : Obj := ⟨(.type "code"), none, (.fields #[(.str "state_at" 859), (.str "state_at" 860), (.str "/claim/cut.py" 861), (.int 367 0), (.int 3 0), (.int 0 0), (.int 0 0), (.int 3 0), (.ref 462), (.bool .true), (.int 181 0), (.ref 463), .none, (.ref 464), (.ref 465), (.ref 466), (.int 865 0), (.int 367 0), (.str "/claim/cut.py" 866)]), #[]⟩
noncomputable def o_611 (P : Params) : Obj := ⟨(.type "function"), none, .func ⟨"state_at", "state_at", hd.fnA (hd.stAt 42), .stmts (hd.fnB (hd.stAt 42)), hd.fnS (hd.stAt 42), 3, [], .none, .none, .none, (.str "emacs.parse" 647), none, (.ref 467), .none, 0⟩, #[]⟩
noncomputable def o_612 (P : Params) : Obj := ⟨(.type "tuple"), none, (.seq #[] 0), #[]⟩
noncomputable def o_613 (P : Params) : Obj := ⟨.none, none, (.fields #[]), #[]⟩
noncomputable def o_614 (P : Params) : Obj := ⟨(.type "tuple"), none, (.seq #[(.str "view" 875), (.str "table" 876), (.str "at" 877), (.str "walk" 878)] 0), #[]⟩
noncomputable def o_615 (P : Params) : Obj := ⟨(.type "tuple"), none, (.seq #[] 0), #[]⟩
noncomputable def o_616 (P : Params) : Obj := ⟨.none, none, .func ⟨"comment_end", "comment_end", hd.fnA (hd.stAt 45), .stmts (hd.fnB (hd.stAt 45)), hd.fnS (hd.stAt 45), 0, [], .none, .none, .none, .none, none, .none, .none, 0⟩, #[]⟩
noncomputable def o_617 (P : Params) : Obj := ⟨(.type "code"), none, (.fields #[(.str "comment_end" 872), (.str "comment_end" 873), (.str "/claim/cut.py" 874), (.int 371 0), (.int 3 0), (.int 0 0), (.int 0 0), (.int 3 0), (.ref 469), (.bool .true), (.int 181 0), (.ref 470), .none, (.ref 471), (.ref 472), (.ref 473), (.int 879 0), (.int 371 0), (.str "/claim/cut.py" 880)]), #[]⟩
noncomputable def o_618 (P : Params) : Obj := ⟨(.type "function"), none, .func ⟨"comment_end", "comment_end", hd.fnA (hd.stAt 45), .stmts (hd.fnB (hd.stAt 45)), hd.fnS (hd.stAt 45), 3, [], .none, .none, .none, (.str "emacs.comments" 868), none, (.ref 474), .none, 0⟩, #[]⟩
noncomputable def o_619 (P : Params) : Obj := ⟨(.type "tuple"), none, (.seq #[] 0), #[]⟩
noncomputable def o_620 (P : Params) : Obj := ⟨.none, none, (.fields #[]), #[]⟩
noncomputable def o_621 (P : Params) : Obj := ⟨(.type "tuple"), none, (.seq #[(.str "view" 885), (.str "table" 886), (.str "limit" 887), (.str "walk" 888), (.str "comments" 889), (.str "strings" 890), (.str "start" 891), (.str "comment" 892), (.str "string" 893)] 0), #[]⟩
noncomputable def o_622 (P : Params) : Obj := ⟨(.type "tuple"), none, (.seq #[] 0), #[]⟩
noncomputable def o_623 (P : Params) : Obj := ⟨.none, none, .func ⟨"spans_to", "spans_to", hd.fnA (hd.stAt 46), .stmts (hd.fnB (hd.stAt 46)), hd.fnS (hd.stAt 46), 0, [], .none, .none, .none, .none, none, .none, .none, 0⟩, #[]⟩
noncomputable def o_624 (P : Params) : Obj := ⟨(.type "code"), none, (.fields #[(.str "spans_to" 882), (.str "spans_to" 883), (.str "/claim/cut.py" 884), (.int 379 0), (.int 3 0), (.int 0 0), (.int 0 0), (.int 3 0), (.ref 476), (.bool .true), (.int 181 0), (.ref 477), .none, (.ref 478), (.ref 479), (.ref 480), (.int 894 0), (.int 379 0), (.str "/claim/cut.py" 895)]), #[]⟩
noncomputable def o_625 (P : Params) : Obj := ⟨(.type "function"), none, .func ⟨"spans_to", "spans_to", hd.fnA (hd.stAt 46), .stmts (hd.fnB (hd.stAt 46)), hd.fnS (hd.stAt 46), 3, [], .none, .none, .none, (.str "emacs.comments" 868), none, (.ref 481), .none, 0⟩, #[]⟩
noncomputable def o_626 (P : Params) : Obj := ⟨(.type "tuple"), none, (.seq #[] 0), #[]⟩
noncomputable def o_627 (P : Params) : Obj := ⟨.none, none, (.fields #[]), #[]⟩
noncomputable def o_628 (P : Params) : Obj := ⟨(.type "tuple"), none, (.seq #[(.str "view" 900), (.str "table" 901), (.str "place" 902), (.str "syntax" 903)] 0), #[]⟩
noncomputable def o_629 (P : Params) : Obj := ⟨(.type "tuple"), none, (.seq #[] 0), #[]⟩
noncomputable def o_630 (P : Params) : Obj := ⟨.none, none, .func ⟨"is_blank", "is_blank", hd.fnA (hd.stAt 47), .stmts (hd.fnB (hd.stAt 47)), hd.fnS (hd.stAt 47), 0, [], .none, .none, .none, .none, none, .none, .none, 0⟩, #[]⟩
noncomputable def o_631 (P : Params) : Obj := ⟨(.type "code"), none, (.fields #[(.str "is_blank" 897), (.str "is_blank" 898), (.str "/claim/cut.py" 899), (.int 390 0), (.int 3 0), (.int 0 0), (.int 0 0), (.int 3 0), (.ref 483), (.bool .true), (.int 181 0), (.ref 484), .none, (.ref 485), (.ref 486), (.ref 487), (.int 904 0), (.int 390 0), (.str "/claim/cut.py" 905)]), #[]⟩
noncomputable def o_632 (P : Params) : Obj := ⟨(.type "function"), none, .func ⟨"is_blank", "is_blank", hd.fnA (hd.stAt 47), .stmts (hd.fnB (hd.stAt 47)), hd.fnS (hd.stAt 47), 3, [], .none, .none, .none, (.str "emacs.comments" 868), none, (.ref 488), .none, 0⟩, #[]⟩
noncomputable def o_633 (P : Params) : Obj := ⟨(.type "tuple"), none, (.seq #[] 0), #[]⟩
noncomputable def o_634 (P : Params) : Obj := ⟨.none, none, (.fields #[]), #[]⟩
noncomputable def o_635 (P : Params) : Obj := ⟨(.type "tuple"), none, (.seq #[(.str "view" 910), (.str "table" 911), (.str "at" 912), (.str "end" 913)] 0), #[]⟩
noncomputable def o_636 (P : Params) : Obj := ⟨(.type "tuple"), none, (.seq #[] 0), #[]⟩
noncomputable def o_637 (P : Params) : Obj := ⟨.none, none, .func ⟨"past_comment", "past_comment", hd.fnA (hd.stAt 48), .stmts (hd.fnB (hd.stAt 48)), hd.fnS (hd.stAt 48), 0, [], .none, .none, .none, .none, none, .none, .none, 0⟩, #[]⟩
noncomputable def o_638 (P : Params) : Obj := ⟨(.type "code"), none, (.fields #[(.str "past_comment" 907), (.str "past_comment" 908), (.str "/claim/cut.py" 909), (.int 395 0), (.int 3 0), (.int 0 0), (.int 0 0), (.int 3 0), (.ref 490), (.bool .true), (.int 181 0), (.ref 491), .none, (.ref 492), (.ref 493), (.ref 494), (.int 914 0), (.int 395 0), (.str "/claim/cut.py" 915)]), #[]⟩
noncomputable def o_639 (P : Params) : Obj := ⟨(.type "function"), none, .func ⟨"past_comment", "past_comment", hd.fnA (hd.stAt 48), .stmts (hd.fnB (hd.stAt 48)), hd.fnS (hd.stAt 48), 3, [], .none, .none, .none, (.str "emacs.comments" 868), none, (.ref 495), .none, 0⟩, #[]⟩
noncomputable def o_640 (P : Params) : Obj := ⟨(.type "tuple"), none, (.seq #[] 0), #[]⟩
noncomputable def o_641 (P : Params) : Obj := ⟨.none, none, (.fields #[]), #[]⟩
noncomputable def o_642 (P : Params) : Obj := ⟨(.type "tuple"), none, (.seq #[(.str "view" 920), (.str "table" 921), (.str "at" 922), (.str "comments" 923)] 0), #[]⟩
noncomputable def o_643 (P : Params) : Obj := ⟨(.type "tuple"), none, (.seq #[] 0), #[]⟩
noncomputable def o_644 (P : Params) : Obj := ⟨.none, none, .func ⟨"before_comment", "before_comment", hd.fnA (hd.stAt 49), .stmts (hd.fnB (hd.stAt 49)), hd.fnS (hd.stAt 49), 0, [], .none, .none, .none, .none, none, .none, .none, 0⟩, #[]⟩
noncomputable def o_645 (P : Params) : Obj := ⟨(.type "code"), none, (.fields #[(.str "before_comment" 917), (.str "before_comment" 918), (.str "/claim/cut.py" 919), (.int 402 0), (.int 4 0), (.int 0 0), (.int 0 0), (.int 3 0), (.ref 497), (.bool .true), (.int 181 0), (.ref 498), .none, (.ref 499), (.ref 500), (.ref 501), (.int 924 0), (.int 402 0), (.str "/claim/cut.py" 925)]), #[]⟩
noncomputable def o_646 (P : Params) : Obj := ⟨(.type "function"), none, .func ⟨"before_comment", "before_comment", hd.fnA (hd.stAt 49), .stmts (hd.fnB (hd.stAt 49)), hd.fnS (hd.stAt 49), 3, [], .none, .none, .none, (.str "emacs.comments" 868), none, (.ref 502), .none, 0⟩, #[]⟩
noncomputable def o_647 (P : Params) : Obj := ⟨(.type "tuple"), none, (.seq #[] 0), #[]⟩
noncomputable def o_648 (P : Params) : Obj := ⟨.none, none, (.fields #[]), #[]⟩
noncomputable def o_649 (P : Params) : Obj := ⟨(.type "tuple"), none, (.seq #[(.str "view" 930), (.str "table" 931), (.str "at" 932), (.str "count" 933), (.str "is_there" 934), (.str "comments" 935)] 0), #[]⟩
noncomputable def o_650 (P : Params) : Obj := ⟨(.type "tuple"), none, (.seq #[] 0), #[]⟩
noncomputable def o_651 (P : Params) : Obj := ⟨.none, none, .func ⟨"forward_comment", "forward_comment", hd.fnA (hd.stAt 50), .stmts (hd.fnB (hd.stAt 50)), hd.fnS (hd.stAt 50), 0, [], .none, .none, .none, .none, none, .none, .none, 0⟩, #[]⟩
noncomputable def o_652 (P : Params) : Obj := ⟨(.type "code"), none, (.fields #[(.str "forward_comment" 927), (.str "forward_comment" 928), (.str "/claim/cut.py" 929), (.int 408 0), (.int 4 0), (.int 0 0), (.int 0 0), (.int 3 0), (.ref 504), (.bool .true), (.int 181 0), (.ref 505), .none, (.ref 506), (.ref 507), (.ref 508), (.int 936 0), (.int 408 0), (.str "/claim/cut.py" 937)]), #[]⟩
noncomputable def o_653 (P : Params) : Obj := ⟨(.type "function"), none, .func ⟨"forward_comment", "forward_comment", hd.fnA (hd.stAt 50), .stmts (hd.fnB (hd.stAt 50)), hd.fnS (hd.stAt 50), 3, [], .none, .none, .none, (.str "emacs.comments" 868), none, (.ref 509), .none, 0⟩, #[]⟩
noncomputable def o_654 (P : Params) : Obj := ⟨(.type "tuple"), none, (.seq #[] 0), #[]⟩
noncomputable def o_655 (P : Params) : Obj := ⟨.none, none, (.fields #[]), #[]⟩
noncomputable def o_656 (P : Params) : Obj := ⟨(.type "tuple"), none, (.seq #[(.str "view" 942), (.str "table" 943), (.str "at" 944), (.str "walk" 945), (.str "end" 946)] 0), #[]⟩
noncomputable def o_657 (P : Params) : Obj := ⟨(.type "tuple"), none, (.seq #[] 0), #[]⟩
noncomputable def o_658 (P : Params) : Obj := ⟨.none, none, .func ⟨"comment_bounds", "comment_bounds", hd.fnA (hd.stAt 51), .stmts (hd.fnB (hd.stAt 51)), hd.fnS (hd.stAt 51), 0, [], .none, .none, .none, .none, none, .none, .none, 0⟩, #[]⟩
noncomputable def o_659 (P : Params) : Obj := ⟨(.type "code"), none, (.fields #[(.str "comment_bounds" 939), (.str "comment_bounds" 940), (.str "/claim/cut.py" 941), (.int 418 0), (.int 3 0), (.int 0 0), (.int 0 0), (.int 3 0), (.ref 511), (.bool .true), (.int 181 0), (.ref 512), .none, (.ref 513), (.ref 514), (.ref 515), (.int 947 0), (.int 418 0), (.str "/claim/cut.py" 948)]), #[]⟩
noncomputable def o_660 (P : Params) : Obj := ⟨(.type "function"), none, .func ⟨"comment_bounds", "comment_bounds", hd.fnA (hd.stAt 51), .stmts (hd.fnB (hd.stAt 51)), hd.fnS (hd.stAt 51), 3, [], .none, .none, .none, (.str "emacs.comments" 868), none, (.ref 516), .none, 0⟩, #[]⟩
noncomputable def o_663 (P : Params) : Obj := ⟨(.type "tuple"), none, (.seq #[] 0), #[]⟩
noncomputable def o_664 (P : Params) : Obj := ⟨(.type "builtin_function_or_method"), none, (.fields #[(.builtin "type.__prepare__"), (.type "type")]), #[]⟩
noncomputable def o_665 (P : Params) : Obj := ⟨(.type "dict"), none, (.dict #[⟨(PyData.keyHash P "__module__"), (.str "__module__" 959), (.str "emacs.textrow" 950)⟩, ⟨(PyData.keyHash P "__qualname__"), (.str "__qualname__" 961), (.str "TextRow" 960)⟩, ⟨(PyData.keyHash P "__firstlineno__"), (.str "__firstlineno__" 963), (.int 427 962)⟩, ⟨(PyData.keyHash P "__init__"), (.str "__init__" 973), (.ref 532)⟩, ⟨(PyData.keyHash P "begin"), (.str "begin" 980), (.ref 539)⟩, ⟨(PyData.keyHash P "end"), (.str "end" 987), (.ref 546)⟩, ⟨(PyData.keyHash P "code_at"), (.str "code_at" 995), (.ref 553)⟩, ⟨(PyData.keyHash P "__static_attributes__"), (.str "__static_attributes__" 998), (.ref 554)⟩] 8), #[]⟩
noncomputable def o_666 (P : Params) : Obj := ⟨(.type "tuple"), none, (.seq #[] 0), #[]⟩
noncomputable def o_667 (P : Params) : Obj := ⟨.none, none, (.fields #[(.int 429 0), (.int 4 0), (.ref 531), (.int 433 0), (.int 4 0), (.ref 538), (.int 436 0), (.int 4 0), (.ref 545), (.int 439 0), (.int 4 0), (.ref 552)]), #[]⟩
noncomputable def o_668 (P : Params) : Obj := ⟨(.type "code"), none, (.fields #[(.str "TextRow" 954), (.str "TextRow" 955), (.str "/claim/cut.py" 956), (.int 427 0), (.int 0 0), (.int 0 0), (.int 0 0), (.int 0 0), (.ref 521), (.bool .false), (.int 181 0), (.ref 522), .none, .none, .none, .none, (.int 957 0), (.int 427 0), (.str "/claim/cut.py" 958)]), #[]⟩
noncomputable def o_669 (P : Params) : Obj := ⟨(.type "frame"), none, .plain, #[(some (.ref 523)), (some (.ref 3)), (some (.ref 520)), none, (some (.str "emacs.textrow" 950)), none, (some (.ref 0))]⟩
noncomputable def o_670 (P : Params) : Obj := ⟨(.type "tuple"), none, (.seq #[(.int 1 964)] 0), #[]⟩
noncomputable def o_671 (P : Params) : Obj := ⟨(.type "tuple"), none, (.seq #[] 0), #[]⟩
noncomputable def o_672 (P : Params) : Obj := ⟨.none, none, (.fields #[]), #[]⟩
noncomputable def o_673 (P : Params) : Obj := ⟨(.type "tuple"), none, (.seq #[(.str "self" 968), (.str "codes" 969), (.str "place" 970)] 0), #[]⟩
noncomputable def o_674 (P : Params) : Obj := ⟨(.type "tuple"), none, (.seq #[] 0), #[]⟩
noncomputable def o_675 (P : Params) : Obj := ⟨.none, none, .func ⟨"__init__", "TextRow.__init__", hd.fnA (hd.scAt 53 0), .stmts (hd.fnB (hd.scAt 53 0)), hd.fnS (hd.scAt 53 0), 0, [], .none, .none, .none, .none, none, .none, .none, 0⟩, #[]⟩
noncomputable def o_676 (P : Params) : Obj := ⟨(.type "code"), none, (.fields #[(.str "__init__" 965), (.str "TextRow.__init__" 966), (.str "/claim/cut.py" 967), (.int 429 0), (.int 3 0), (.int 0 0), (.int 0 0), (.int 3 0), (.ref 526), (.bool .true), (.int 181 0), (.ref 527), .none, (.ref 528), (.ref 529), (.ref 530), (.int 971 0), (.int 429 0), (.str "/claim/cut.py" 972)]), #[]⟩
noncomputable def o_677 (P : Params) : Obj := ⟨(.type "function"), none, .func ⟨"__init__", "TextRow.__init__", hd.fnA (hd.scAt 53 0), .stmts (hd.fnB (hd.scAt 53 0)), hd.fnS (hd.scAt 53 0), 3, [], (.ref 525), .none, .none, (.str "emacs.textrow" 950), none, (.ref 531), .none, 0⟩, #[]⟩
noncomputable def o_678 (P : Params) : Obj := ⟨(.type "tuple"), none, (.seq #[] 0), #[]⟩
noncomputable def o_679 (P : Params) : Obj := ⟨.none, none, (.fields #[]), #[]⟩
noncomputable def o_680 (P : Params) : Obj := ⟨(.type "tuple"), none, (.seq #[(.str "self" 977)] 0), #[]⟩
noncomputable def o_681 (P : Params) : Obj := ⟨(.type "tuple"), none, (.seq #[] 0), #[]⟩
noncomputable def o_682 (P : Params) : Obj := ⟨.none, none, .func ⟨"begin", "TextRow.begin", hd.fnA (hd.scAt 53 1), .stmts (hd.fnB (hd.scAt 53 1)), hd.fnS (hd.scAt 53 1), 0, [], .none, .none, .none, .none, none, .none, .none, 0⟩, #[]⟩
noncomputable def o_683 (P : Params) : Obj := ⟨(.type "code"), none, (.fields #[(.str "begin" 974), (.str "TextRow.begin" 975), (.str "/claim/cut.py" 976), (.int 433 0), (.int 1 0), (.int 0 0), (.int 0 0), (.int 3 0), (.ref 533), (.bool .true), (.int 181 0), (.ref 534), .none, (.ref 535), (.ref 536), (.ref 537), (.int 978 0), (.int 433 0), (.str "/claim/cut.py" 979)]), #[]⟩
noncomputable def o_684 (P : Params) : Obj := ⟨(.type "function"), none, .func ⟨"begin", "TextRow.begin", hd.fnA (hd.scAt 53 1), .stmts (hd.fnB (hd.scAt 53 1)), hd.fnS (hd.scAt 53 1), 3, [], .none, .none, .none, (.str "emacs.textrow" 950), none, (.ref 538), .none, 0⟩, #[]⟩
noncomputable def o_685 (P : Params) : Obj := ⟨(.type "tuple"), none, (.seq #[] 0), #[]⟩
noncomputable def o_686 (P : Params) : Obj := ⟨.none, none, (.fields #[]), #[]⟩
noncomputable def o_687 (P : Params) : Obj := ⟨(.type "tuple"), none, (.seq #[(.str "self" 984)] 0), #[]⟩
noncomputable def o_688 (P : Params) : Obj := ⟨(.type "tuple"), none, (.seq #[] 0), #[]⟩
noncomputable def o_689 (P : Params) : Obj := ⟨.none, none, .func ⟨"end", "TextRow.end", hd.fnA (hd.scAt 53 2), .stmts (hd.fnB (hd.scAt 53 2)), hd.fnS (hd.scAt 53 2), 0, [], .none, .none, .none, .none, none, .none, .none, 0⟩, #[]⟩
noncomputable def o_690 (P : Params) : Obj := ⟨(.type "code"), none, (.fields #[(.str "end" 981), (.str "TextRow.end" 982), (.str "/claim/cut.py" 983), (.int 436 0), (.int 1 0), (.int 0 0), (.int 0 0), (.int 3 0), (.ref 540), (.bool .true), (.int 181 0), (.ref 541), .none, (.ref 542), (.ref 543), (.ref 544), (.int 985 0), (.int 436 0), (.str "/claim/cut.py" 986)]), #[]⟩
noncomputable def o_691 (P : Params) : Obj := ⟨(.type "function"), none, .func ⟨"end", "TextRow.end", hd.fnA (hd.scAt 53 2), .stmts (hd.fnB (hd.scAt 53 2)), hd.fnS (hd.scAt 53 2), 3, [], .none, .none, .none, (.str "emacs.textrow" 950), none, (.ref 545), .none, 0⟩, #[]⟩
noncomputable def o_692 (P : Params) : Obj := ⟨(.type "tuple"), none, (.seq #[] 0), #[]⟩
noncomputable def o_693 (P : Params) : Obj := ⟨.none, none, (.fields #[]), #[]⟩
noncomputable def o_694 (P : Params) : Obj := ⟨(.type "tuple"), none, (.seq #[(.str "self" 991), (.str "place" 992)] 0), #[]⟩
noncomputable def o_695 (P : Params) : Obj := ⟨(.type "tuple"), none, (.seq #[] 0), #[]⟩
noncomputable def o_696 (P : Params) : Obj := ⟨.none, none, .func ⟨"code_at", "TextRow.code_at", hd.fnA (hd.scAt 53 3), .stmts (hd.fnB (hd.scAt 53 3)), hd.fnS (hd.scAt 53 3), 0, [], .none, .none, .none, .none, none, .none, .none, 0⟩, #[]⟩
noncomputable def o_697 (P : Params) : Obj := ⟨(.type "code"), none, (.fields #[(.str "code_at" 988), (.str "TextRow.code_at" 989), (.str "/claim/cut.py" 990), (.int 439 0), (.int 2 0), (.int 0 0), (.int 0 0), (.int 3 0), (.ref 547), (.bool .true), (.int 181 0), (.ref 548), .none, (.ref 549), (.ref 550), (.ref 551), (.int 993 0), (.int 439 0), (.str "/claim/cut.py" 994)]), #[]⟩
noncomputable def o_698 (P : Params) : Obj := ⟨(.type "function"), none, .func ⟨"code_at", "TextRow.code_at", hd.fnA (hd.scAt 53 3), .stmts (hd.fnB (hd.scAt 53 3)), hd.fnS (hd.scAt 53 3), 3, [], .none, .none, .none, (.str "emacs.textrow" 950), none, (.ref 552), .none, 0⟩, #[]⟩
noncomputable def o_699 (P : Params) : Obj := ⟨(.type "tuple"), none, (.seq #[(.str "codes" 996), (.str "place" 997)] 0), #[]⟩
noncomputable def o_700 (P : Params) : Obj := ⟨(.type "dict"), none, (.dict #[⟨(PyData.keyHash P "__module__"), (.str "__module__" 959), (.str "emacs.textrow" 950)⟩, ⟨(PyData.keyHash P "__firstlineno__"), (.str "__firstlineno__" 963), (.int 427 962)⟩, ⟨(PyData.keyHash P "__init__"), (.str "__init__" 973), (.ref 532)⟩, ⟨(PyData.keyHash P "begin"), (.str "begin" 980), (.ref 539)⟩, ⟨(PyData.keyHash P "end"), (.str "end" 987), (.ref 546)⟩, ⟨(PyData.keyHash P "code_at"), (.str "code_at" 995), (.ref 553)⟩, ⟨(PyData.keyHash P "__static_attributes__"), (.str "__static_attributes__" 998), (.ref 554)⟩, ⟨(PyData.keyHash P "__dict__"), (.str "__dict__" 1000), (.ref 557)⟩, ⟨(PyData.keyHash P "__weakref__"), (.str "__weakref__" 1002), (.ref 558)⟩, ⟨(PyData.keyHash P "__doc__"), (.str "__doc__" 1003), .none⟩] 4), #[]⟩
noncomputable def o_701 (P : Params) : Obj := ⟨(.type "type"), none, (.cls ⟨"TextRow", [(.type "object")], [(.ref 556), (.type "object")], 555, "TextRow", .true, [], [], .false, none, .false⟩), #[none, none, (some (.str "TextRow" 952)), (some (.str "TextRow" 960)), (some (.builtin "object.__new__")), (some (.bool .true))]⟩
noncomputable def o_702 (P : Params) : Obj := ⟨(.type "getset_descriptor"), none, (.fields #[(.str "__dict__" 999), (.ref 556), (.builtin "function.__dict__"), (.builtin "function.__dict__#set")]), #[]⟩
noncomputable def o_703 (P : Params) : Obj := ⟨(.type "getset_descriptor"), none, (.fields #[(.str "__weakref__" 1001), (.ref 556), (.builtin "ExceptionGroup.__weakref__"), .none]), #[]⟩
noncomputable def o_704 (P : Params) : Obj := ⟨(.type "super"), none, (.fields #[(.ref 556), (.ref 556), (.ref 556)]), #[]⟩
noncomputable def o_705 (P : Params) : Obj := ⟨(.type "builtin_function_or_method"), none, (.fields #[(.builtin "object.__init_subclass__"), (.ref 556)]), #[]⟩
noncomputable def o_706 (P : Params) : Obj := ⟨(.type "tuple"), none, (.seq #[] 0), #[]⟩
noncomputable def o_707 (P : Params) : Obj := ⟨.none, none, (.fields #[]), #[]⟩
noncomputable def o_708 (P : Params) : Obj := ⟨.none, none, .func ⟨"_law_deck", "_law_deck", hd.fnA (hd.stAt 55), .stmts (hd.fnB (hd.stAt 55)), hd.fnS (hd.stAt 55), 0, [], .none, .none, .none, .none, none, .none, .none, 0⟩, #[]⟩
noncomputable def o_709 (P : Params) : Obj := ⟨(.type "code"), none, (.fields #[(.str "_law_deck" 1008), (.str "_law_deck" 1009), (.str "/claim/cut.py" 1010), (.int 444 0), (.int 1 0), (.int 0 0), (.int 0 0), (.int 3 0), (.ref 561), (.bool .true), (.int 181 0), (.ref 562), .none, .none, .none, (.ref 563), (.int 1011 0), (.int 444 0), (.str "/claim/cut.py" 1012)]), #[]⟩
noncomputable def o_710 (P : Params) : Obj := ⟨(.type "function"), none, .func ⟨"_law_deck", "_law_deck", hd.fnA (hd.stAt 55), .stmts (hd.fnB (hd.stAt 55)), hd.fnS (hd.stAt 55), 3, [], .none, .none, .none, (.str "law_np0091_01" 1006), none, (.ref 564), .none, 0⟩, #[]⟩
noncomputable def o_711 (P : Params) : Obj := ⟨(.type "tuple"), none, (.seq #[] 0), #[]⟩
noncomputable def o_712 (P : Params) : Obj := ⟨.none, none, (.fields #[]), #[]⟩
noncomputable def o_713 (P : Params) : Obj := ⟨(.type "tuple"), none, (.seq #[(.str "deck" 1017), (.str "many" 1018), (.str "rest" 1019), (.str "mixed" 1020)] 0), #[]⟩
noncomputable def o_714 (P : Params) : Obj := ⟨(.type "tuple"), none, (.seq #[] 0), #[]⟩
noncomputable def o_715 (P : Params) : Obj := ⟨.none, none, .func ⟨"_law_draw", "_law_draw", hd.fnA (hd.stAt 56), .stmts (hd.fnB (hd.stAt 56)), hd.fnS (hd.stAt 56), 0, [], .none, .none, .none, .none, none, .none, .none, 0⟩, #[]⟩
noncomputable def o_716 (P : Params) : Obj := ⟨(.type "code"), none, (.fields #[(.str "_law_draw" 1014), (.str "_law_draw" 1015), (.str "/claim/cut.py" 1016), (.int 447 0), (.int 2 0), (.int 0 0), (.int 0 0), (.int 3 0), (.ref 566), (.bool .true), (.int 181 0), (.ref 567), .none, (.ref 568), (.ref 569), (.ref 570), (.int 1021 0), (.int 447 0), (.str "/claim/cut.py" 1022)]), #[]⟩
noncomputable def o_717 (P : Params) : Obj := ⟨(.type "function"), none, .func ⟨"_law_draw", "_law_draw", hd.fnA (hd.stAt 56), .stmts (hd.fnB (hd.stAt 56)), hd.fnS (hd.stAt 56), 3, [], .none, .none, .none, (.str "law_np0091_01" 1006), none, (.ref 571), .none, 0⟩, #[]⟩
noncomputable def o_720 (P : Params) : Obj := ⟨(.type "tuple"), none, (.seq #[] 0), #[]⟩
noncomputable def o_721 (P : Params) : Obj := ⟨.none, none, (.fields #[]), #[]⟩
noncomputable def o_722 (P : Params) : Obj := ⟨.none, none, .func ⟨"_law_many", "_law_many", hd.fnA (hd.stAt 57), .stmts (hd.fnB (hd.stAt 57)), hd.fnS (hd.stAt 57), 0, [], .none, .none, .none, .none, none, .none, .none, 0⟩, #[]⟩
noncomputable def o_723 (P : Params) : Obj := ⟨(.type "code"), none, (.fields #[(.str "_law_many" 1024), (.str "_law_many" 1025), (.str "/claim/cut.py" 1026), (.int 458 0), (.int 3 0), (.int 0 0), (.int 0 0), (.int 3 0), (.ref 573), (.bool .true), (.int 181 0), (.ref 574), .none, .none, .none, (.ref 575), (.int 1027 0), (.int 458 0), (.str "/claim/cut.py" 1028)]), #[]⟩
noncomputable def o_724 (P : Params) : Obj := ⟨(.type "function"), none, .func ⟨"_law_many", "_law_many", hd.fnA (hd.stAt 57), .stmts (hd.fnB (hd.stAt 57)), hd.fnS (hd.stAt 57), 3, [], .none, .none, .none, (.str "law_np0091_01" 1006), none, (.ref 576), .none, 0⟩, #[]⟩
noncomputable def o_725 (P : Params) : Obj := ⟨(.type "tuple"), none, (.seq #[] 0), #[]⟩
noncomputable def o_726 (P : Params) : Obj := ⟨.none, none, (.fields #[]), #[]⟩
noncomputable def o_727 (P : Params) : Obj := ⟨.none, none, .func ⟨"_law_part", "_law_part", hd.fnA (hd.stAt 58), .stmts (hd.fnB (hd.stAt 58)), hd.fnS (hd.stAt 58), 0, [], .none, .none, .none, .none, none, .none, .none, 0⟩, #[]⟩
noncomputable def o_728 (P : Params) : Obj := ⟨(.type "code"), none, (.fields #[(.str "_law_part" 1030), (.str "_law_part" 1031), (.str "/claim/cut.py" 1032), (.int 463 0), (.int 3 0), (.int 0 0), (.int 0 0), (.int 3 0), (.ref 578), (.bool .true), (.int 181 0), (.ref 579), .none, .none, .none, (.ref 580), (.int 1033 0), (.int 463 0), (.str "/claim/cut.py" 1034)]), #[]⟩
noncomputable def o_729 (P : Params) : Obj := ⟨(.type "function"), none, .func ⟨"_law_part", "_law_part", hd.fnA (hd.stAt 58), .stmts (hd.fnB (hd.stAt 58)), hd.fnS (hd.stAt 58), 3, [], .none, .none, .none, (.str "law_np0091_01" 1006), none, (.ref 581), .none, 0⟩, #[]⟩
noncomputable def o_730 (P : Params) : Obj := ⟨(.type "tuple"), none, (.seq #[] 0), #[]⟩
noncomputable def o_731 (P : Params) : Obj := ⟨.none, none, (.fields #[]), #[]⟩
noncomputable def o_732 (P : Params) : Obj := ⟨(.type "tuple"), none, (.seq #[(.str "pieces" 1039), (.str "at" 1040), (.str "end" 1041), (.str "count" 1042), (.str "sort" 1043), (.str "first" 1044), (.str "behind" 1045)] 0), #[]⟩
noncomputable def o_733 (P : Params) : Obj := ⟨(.type "tuple"), none, (.seq #[] 0), #[]⟩
noncomputable def o_734 (P : Params) : Obj := ⟨.none, none, .func ⟨"_law_forward", "_law_forward", hd.fnA (hd.stAt 59), .stmts (hd.fnB (hd.stAt 59)), hd.fnS (hd.stAt 59), 0, [], .none, .none, .none, .none, none, .none, .none, 0⟩, #[]⟩
noncomputable def o_735 (P : Params) : Obj := ⟨(.type "code"), none, (.fields #[(.str "_law_forward" 1036), (.str "_law_forward" 1037), (.str "/claim/cut.py" 1038), (.int 481 0), (.int 4 0), (.int 0 0), (.int 0 0), (.int 3 0), (.ref 583), (.bool .true), (.int 181 0), (.ref 584), .none, (.ref 585), (.ref 586), (.ref 587), (.int 1046 0), (.int 481 0), (.str "/claim/cut.py" 1047)]), #[]⟩
noncomputable def o_736 (P : Params) : Obj := ⟨(.type "function"), none, .func ⟨"_law_forward", "_law_forward", hd.fnA (hd.stAt 59), .stmts (hd.fnB (hd.stAt 59)), hd.fnS (hd.stAt 59), 3, [], .none, .none, .none, (.str "law_np0091_01" 1006), none, (.ref 588), .none, 0⟩, #[]⟩
noncomputable def o_737 (P : Params) : Obj := ⟨(.type "tuple"), none, (.seq #[] 0), #[]⟩
noncomputable def o_738 (P : Params) : Obj := ⟨.none, none, (.fields #[]), #[]⟩
noncomputable def o_739 (P : Params) : Obj := ⟨(.type "tuple"), none, (.seq #[(.str "pieces" 1052), (.str "at" 1053), (.str "begin" 1054), (.str "count" 1055), (.str "sort" 1056), (.str "first" 1057), (.str "behind" 1058)] 0), #[]⟩
noncomputable def o_740 (P : Params) : Obj := ⟨(.type "tuple"), none, (.seq #[] 0), #[]⟩
noncomputable def o_741 (P : Params) : Obj := ⟨.none, none, .func ⟨"_law_backward", "_law_backward", hd.fnA (hd.stAt 60), .stmts (hd.fnB (hd.stAt 60)), hd.fnS (hd.stAt 60), 0, [], .none, .none, .none, .none, none, .none, .none, 0⟩, #[]⟩
noncomputable def o_742 (P : Params) : Obj := ⟨(.type "code"), none, (.fields #[(.str "_law_backward" 1049), (.str "_law_backward" 1050), (.str "/claim/cut.py" 1051), (.int 490 0), (.int 4 0), (.int 0 0), (.int 0 0), (.int 3 0), (.ref 590), (.bool .true), (.int 181 0), (.ref 591), .none, (.ref 592), (.ref 593), (.ref 594), (.int 1059 0), (.int 490 0), (.str "/claim/cut.py" 1060)]), #[]⟩
noncomputable def o_743 (P : Params) : Obj := ⟨(.type "function"), none, .func ⟨"_law_backward", "_law_backward", hd.fnA (hd.stAt 60), .stmts (hd.fnB (hd.stAt 60)), hd.fnS (hd.stAt 60), 3, [], .none, .none, .none, (.str "law_np0091_01" 1006), none, (.ref 595), .none, 0⟩, #[]⟩
noncomputable def o_744 (P : Params) : Obj := ⟨(.type "tuple"), none, (.seq #[] 0), #[]⟩
noncomputable def o_745 (P : Params) : Obj := ⟨.none, none, (.fields #[]), #[]⟩
noncomputable def o_746 (P : Params) : Obj := ⟨.none, none, .func ⟨"law", "law", hd.fnA (hd.stAt 61), .stmts (hd.fnB (hd.stAt 61)), hd.fnS (hd.stAt 61), 0, [], .none, .none, .none, .none, none, .none, .none, 0⟩, #[]⟩
noncomputable def o_747 (P : Params) : Obj := ⟨(.type "code"), none, (.fields #[(.str "law" 1062), (.str "law" 1063), (.str "/claim/cut.py" 1064), (.int 499 0), (.int 1 0), (.int 0 0), (.int 0 0), (.int 3 0), (.ref 597), (.bool .true), (.int 181 0), (.ref 598), .none, .none, .none, (.ref 599), (.int 1065 0), (.int 499 0), (.str "/claim/cut.py" 1066)]), #[]⟩
noncomputable def o_748 (P : Params) : Obj := ⟨(.type "function"), none, .func ⟨"law", "law", hd.fnA (hd.stAt 61), .stmts (hd.fnB (hd.stAt 61)), hd.fnS (hd.stAt 61), 3, [], .none, .none, .none, (.str "law_np0091_01" 1006), none, (.ref 600), .none, 0⟩, #[]⟩
noncomputable def hd.heap0 : Params → Heap := fun P => ⟨⟨[W.boot_o_0 P, W.boot_o_1 P, W.boot_o_2 P, W.boot_o_3 P, W.boot_o_4 P, W.boot_o_5 P, W.boot_o_6 P, W.boot_o_7 P, W.boot_o_8 P, W.boot_o_9 P, W.boot_o_10 P, o_43 P, o_44 P, o_45 P, o_46 P]⟩, {}⟩
noncomputable def hd.tree0 : Params → BT := fun P => (.node (W.boot_o_0 P) (.node (W.boot_o_1 P) (.node (W.boot_o_3 P) (.node (W.boot_o_7 P) .nil .nil) (.node (o_43 P) .nil .nil)) (.node (W.boot_o_5 P) (.node (W.boot_o_9 P) .nil .nil) (.node (o_45 P) .nil .nil))) (.node (W.boot_o_2 P) (.node (W.boot_o_4 P) (.node (W.boot_o_8 P) .nil .nil) (.node (o_44 P) .nil .nil)) (.node (W.boot_o_6 P) (.node (W.boot_o_10 P) .nil .nil) (.node (o_46 P) .nil .nil))))
noncomputable def hd.treeB : Params → BT := fun P => (.node (W.boot_o_0 P) (.node (W.boot_o_1 P) (.node (o_335 P) (.node (W.boot_o_7 P) (.node (o_51 P) (.node (o_69 P) (.node (o_101 P) (.node (o_170 P) (.node (o_304 P) .nil .nil) .nil) (.node (o_238 P) .nil .nil)) (.node (o_136 P) (.node (o_206 P) (.node (o_338 P) .nil .nil) .nil) (.node (o_270 P) .nil .nil))) (.node (o_85 P) (.node (o_120 P) (.node (o_186 P) (.node (o_320 P) .nil .nil) .nil) (.node (o_254 P) .nil .nil)) (.node (o_154 P) (.node (o_222 P) (.node (o_354 P) .nil .nil) .nil) (.node (o_288 P) .nil .nil)))) (.node (o_61 P) (.node (o_77 P) (.node (o_109 P) (.node (o_178 P) (.node (o_312 P) .nil .nil) .nil) (.node (o_246 P) .nil .nil)) (.node (o_146 P) (.node (o_214 P) (.node (o_346 P) .nil .nil) .nil) (.node (o_280 P) .nil .nil))) (.node (o_93 P) (.node (o_128 P) (.node (o_196 P) (.node (o_328 P) .nil .nil) .nil) (.node (o_262 P) .nil .nil)) (.node (o_162 P) (.node (o_230 P) .nil .nil) (.node (o_296 P) .nil .nil))))) (.node (o_43 P) (.node (o_55 P) (.node (o_73 P) (.node (o_105 P) (.node (o_174 P) (.node (o_308 P) .nil .nil) .nil) (.node (o_242 P) .nil .nil)) (.node (o_140 P) (.node (o_210 P) (.node (o_342 P) .nil .nil) .nil) (.node (o_274 P) .nil .nil))) (.node (o_89 P) (.node (o_124 P) (.node (o_190 P) (.node (o_324 P) .nil .nil) .nil) (.node (o_258 P) .nil .nil)) (.node (o_158 P) (.node (o_226 P) .nil .nil) (.node (o_292 P) .nil .nil)))) (.node (o_65 P) (.node (o_81 P) (.node (o_116 P) (.node (o_182 P) (.node (o_316 P) .nil .nil) .nil) (.node (o_250 P) .nil .nil)) (.node (o_150 P) (.node (o_218 P) (.node (o_350 P) .nil .nil) .nil) (.node (o_284 P) .nil .nil))) (.node (o_97 P) (.node (o_132 P) (.node (o_200 P) (.node (o_332 P) .nil .nil) .nil) (.node (o_266 P) .nil .nil)) (.node (o_166 P) (.node (o_234 P) .nil .nil) (.node (o_300 P) .nil .nil)))))) (.node (W.boot_o_5 P) (.node (W.boot_o_9 P) (.node (o_53 P) (.node (o_71 P) (.node (o_103 P) (.node (o_172 P) (.node (o_306 P) .nil .nil) .nil) (.node (o_240 P) .nil .nil)) (.node (o_138 P) (.node (o_208 P) (.node (o_340 P) .nil .nil) .nil) (.node (o_272 P) .nil .nil))) (.node (o_87 P) (.node (o_122 P) (.node (o_188 P) (.node (o_322 P) .nil .nil) .nil) (.node (o_256 P) .nil .nil)) (.node (o_156 P) (.node (o_224 P) (.node (o_356 P) .nil .nil) .nil) (.node (o_290 P) .nil .nil)))) (.node (o_63 P) (.node (o_79 P) (.node (o_114 P) (.node (o_180 P) (.node (o_314 P) .nil .nil) .nil) (.node (o_248 P) .nil .nil)) (.node (o_148 P) (.node (o_216 P) (.node (o_348 P) .nil .nil) .nil) (.node (o_282 P) .nil .nil))) (.node (o_95 P) (.node (o_130 P) (.node (o_198 P) (.node (o_330 P) .nil .nil) .nil) (.node (o_264 P) .nil .nil)) (.node (o_164 P) (.node (o_232 P) .nil .nil) (.node (o_298 P) .nil .nil))))) (.node (o_45 P) (.node (o_57 P) (.node (o_75 P) (.node (o_107 P) (.node (o_176 P) (.node (o_310 P) .nil .nil) .nil) (.node (o_244 P) .nil .nil)) (.node (o_144 P) (.node (o_212 P) (.node (o_344 P) .nil .nil) .nil) (.node (o_276 P) .nil .nil))) (.node (o_91 P) (.node (o_126 P) (.node (o_194 P) (.node (o_326 P) .nil .nil) .nil) (.node (o_260 P) .nil .nil)) (.node (o_160 P) (.node (o_228 P) .nil .nil) (.node (o_294 P) .nil .nil)))) (.node (o_67 P) (.node (o_83 P) (.node (o_118 P) (.node (o_184 P) (.node (o_318 P) .nil .nil) .nil) (.node (o_252 P) .nil .nil)) (.node (o_152 P) (.node (o_220 P) (.node (o_352 P) .nil .nil) .nil) (.node (o_286 P) .nil .nil))) (.node (o_99 P) (.node (o_134 P) (.node (o_202 P) (.node (o_334 P) .nil .nil) .nil) (.node (o_268 P) .nil .nil)) (.node (o_168 P) (.node (o_236 P) .nil .nil) (.node (o_302 P) .nil .nil))))))) (.node (o_111 P) (.node (W.boot_o_4 P) (.node (W.boot_o_8 P) (.node (o_52 P) (.node (o_70 P) (.node (o_102 P) (.node (o_171 P) (.node (o_305 P) .nil .nil) .nil) (.node (o_239 P) .nil .nil)) (.node (o_137 P) (.node (o_207 P) (.node (o_339 P) .nil .nil) .nil) (.node (o_271 P) .nil .nil))) (.node (o_86 P) (.node (o_121 P) (.node (o_187 P) (.node (o_321 P) .nil .nil) .nil) (.node (o_255 P) .nil .nil)) (.node (o_155 P) (.node (o_223 P) (.node (o_355 P) .nil .nil) .nil) (.node (o_289 P) .nil .nil)))) (.node (o_62 P) (.node (o_78 P) (.node (o_110 P) (.node (o_179 P) (.node (o_313 P) .nil .nil) .nil) (.node (o_247 P) .nil .nil)) (.node (o_147 P) (.node (o_215 P) (.node (o_347 P) .nil .nil) .nil) (.node (o_281 P) .nil .nil))) (.node (o_94 P) (.node (o_129 P) (.node (o_197 P) (.node (o_329 P) .nil .nil) .nil) (.node (o_263 P) .nil .nil)) (.node (o_163 P) (.node (o_231 P) .nil .nil) (.node (o_297 P) .nil .nil))))) (.node (o_336 P) (.node (o_56 P) (.node (o_74 P) (.node (o_106 P) (.node (o_175 P) (.node (o_309 P) .nil .nil) .nil) (.node (o_243 P) .nil .nil)) (.node (o_143 P) (.node (o_211 P) (.node (o_343 P) .nil .nil) .nil) (.node (o_275 P) .nil .nil))) (.node (o_90 P) (.node (o_125 P) (.node (o_191 P) (.node (o_325 P) .nil .nil) .nil) (.node (o_259 P) .nil .nil)) (.node (o_159 P) (.node (o_227 P) .nil .nil) (.node (o_293 P) .nil .nil)))) (.node (o_66 P) (.node (o_82 P) (.node (o_117 P) (.node (o_183 P) (.node (o_317 P) .nil .nil) .nil) (.node (o_251 P) .nil .nil)) (.node (o_151 P) (.node (o_219 P) (.node (o_351 P) .nil .nil) .nil) (.node (o_285 P) .nil .nil))) (.node (o_98 P) (.node (o_133 P) (.node (o_201 P) (.node (o_333 P) .nil .nil) .nil) (.node (o_267 P) .nil .nil)) (.node (o_167 P) (.node (o_235 P) .nil .nil) (.node (o_301 P) .nil .nil)))))) (.node (W.boot_o_6 P) (.node (W.boot_o_10 P) (.node (o_54 P) (.node (o_72 P) (.node (o_104 P) (.node (o_173 P) (.node (o_307 P) .nil .nil) .nil) (.node (o_241 P) .nil .nil)) (.node (o_139 P) (.node (o_209 P) (.node (o_341 P) .nil .nil) .nil) (.node (o_273 P) .nil .nil))) (.node (o_88 P) (.node (o_123 P) (.node (o_189 P) (.node (o_323 P) .nil .nil) .nil) (.node (o_257 P) .nil .nil)) (.node (o_157 P) (.node (o_225 P) (.node (o_357 P) .nil .nil) .nil) (.node (o_291 P) .nil .nil)))) (.node (o_64 P) (.node (o_80 P) (.node (o_115 P) (.node (o_181 P) (.node (o_315 P) .nil .nil) .nil) (.node (o_249 P) .nil .nil)) (.node (o_149 P) (.node (o_217 P) (.node (o_349 P) .nil .nil) .nil) (.node (o_283 P) .nil .nil))) (.node (o_96 P) (.node (o_131 P) (.node (o_199 P) (.node (o_331 P) .nil .nil) .nil) (.node (o_265 P) .nil .nil)) (.node (o_165 P) (.node (o_233 P) .nil .nil) (.node (o_299 P) .nil .nil))))) (.node (o_46 P) (.node (o_60 P) (.node (o_76 P) (.node (o_108 P) (.node (o_177 P) (.node (o_311 P) .nil .nil) .nil) (.node (o_245 P) .nil .nil)) (.node (o_145 P) (.node (o_213 P) (.node (o_345 P) .nil .nil) .nil) (.node (o_279 P) .nil .nil))) (.node (o_92 P) (.node (o_127 P) (.node (o_195 P) (.node (o_327 P) .nil .nil) .nil) (.node (o_261 P) .nil .nil)) (.node (o_161 P) (.node (o_229 P) .nil .nil) (.node (o_295 P) .nil .nil)))) (.node (o_68 P) (.node (o_84 P) (.node (o_119 P) (.node (o_185 P) (.node (o_319 P) .nil .nil) .nil) (.node (o_253 P) .nil .nil)) (.node (o_153 P) (.node (o_221 P) (.node (o_353 P) .nil .nil) .nil) (.node (o_287 P) .nil .nil))) (.node (o_100 P) (.node (o_135 P) (.node (o_203 P) (.node (o_337 P) .nil .nil) .nil) (.node (o_269 P) .nil .nil)) (.node (o_169 P) (.node (o_237 P) .nil .nil) (.node (o_303 P) .nil .nil))))))))
noncomputable def hd.heap1 : Params → Heap := fun P => ⟨⟨[W.boot_o_0 P, W.boot_o_1 P, o_111 P, o_718 P, W.boot_o_4 P, W.boot_o_5 P, W.boot_o_6 P, W.boot_o_7 P, W.boot_o_8 P, W.boot_o_9 P, W.boot_o_10 P, o_43 P, o_719 P, o_45 P, o_46 P, o_51 P, o_52 P, o_53 P, o_54 P, o_55 P, o_56 P, o_57 P, o_60 P, o_61 P, o_62 P, o_63 P, o_64 P, o_65 P, o_66 P, o_67 P, o_68 P, o_69 P, o_70 P, o_71 P, o_72 P, o_73 P, o_74 P, o_75 P, o_76 P, o_77 P, o_78 P, o_79 P, o_80 P, o_81 P, o_82 P, o_83 P, o_84 P, o_85 P, o_86 P, o_87 P, o_88 P, o_89 P, o_90 P, o_91 P, o_92 P, o_93 P, o_94 P, o_95 P, o_96 P, o_97 P, o_98 P, o_99 P, o_100 P, o_101 P, o_102 P, o_103 P, o_104 P, o_105 P, o_106 P, o_107 P, o_108 P, o_109 P, o_110 P, o_114 P, o_115 P, o_116 P, o_117 P, o_118 P, o_119 P, o_120 P, o_121 P, o_122 P, o_123 P, o_124 P, o_125 P, o_126 P, o_127 P, o_128 P, o_129 P, o_130 P, o_131 P, o_132 P, o_133 P, o_134 P, o_135 P, o_136 P, o_137 P, o_138 P, o_139 P, o_140 P, o_143 P, o_144 P, o_145 P, o_146 P, o_147 P, o_148 P, o_149 P, o_150 P, o_151 P, o_152 P, o_153 P, o_154 P, o_155 P, o_156 P, o_157 P, o_158 P, o_159 P, o_160 P, o_161 P, o_162 P, o_163 P, o_164 P, o_165 P, o_166 P, o_167 P, o_168 P, o_169 P, o_170 P, o_171 P, o_172 P, o_173 P, o_174 P, o_175 P, o_176 P, o_177 P, o_178 P, o_179 P, o_180 P, o_181 P, o_182 P, o_183 P, o_184 P, o_185 P, o_186 P, o_187 P, o_188 P, o_189 P, o_190 P, o_191 P, o_194 P, o_195 P, o_196 P, o_197 P, o_198 P, o_199 P, o_200 P, o_201 P, o_202 P, o_203 P, o_206 P, o_207 P, o_208 P, o_209 P, o_210 P, o_211 P, o_212 P, o_213 P, o_214 P, o_215 P, o_216 P, o_217 P, o_218 P, o_219 P, o_220 P, o_221 P, o_222 P, o_223 P, o_224 P, o_225 P, o_226 P, o_227 P, o_228 P, o_229 P, o_230 P, o_231 P, o_232 P, o_233 P, o_234 P, o_235 P, o_236 P, o_237 P, o_238 P, o_239 P, o_240 P, o_241 P, o_242 P, o_243 P, o_244 P, o_245 P, o_246 P, o_247 P, o_248 P, o_249 P, o_250 P, o_251 P, o_252 P, o_253 P, o_254 P, o_255 P, o_256 P, o_257 P, o_258 P, o_259 P, o_260 P, o_261 P, o_262 P, o_263 P, o_264 P, o_265 P, o_266 P, o_267 P, o_268 P, o_269 P, o_270 P, o_271 P, o_272 P, o_273 P, o_274 P, o_275 P, o_276 P, o_279 P, o_280 P, o_281 P, o_282 P, o_283 P, o_284 P, o_285 P, o_286 P, o_287 P, o_288 P, o_289 P, o_290 P, o_291 P, o_292 P, o_293 P, o_294 P, o_295 P, o_296 P, o_297 P, o_298 P, o_299 P, o_300 P, o_301 P, o_302 P, o_303 P, o_304 P, o_305 P, o_306 P, o_307 P, o_308 P, o_309 P, o_310 P, o_311 P, o_312 P, o_313 P, o_314 P, o_315 P, o_316 P, o_317 P, o_318 P, o_319 P, o_320 P, o_321 P, o_322 P, o_323 P, o_324 P, o_325 P, o_326 P, o_327 P, o_328 P, o_329 P, o_330 P, o_331 P, o_332 P, o_333 P, o_334 P, o_337 P, o_338 P, o_339 P, o_340 P, o_341 P, o_342 P, o_343 P, o_344 P, o_345 P, o_346 P, o_347 P, o_348 P, o_349 P, o_350 P, o_351 P, o_352 P, o_353 P, o_354 P, o_355 P, o_356 P, o_357 P, o_360 P, o_361 P, o_362 P, o_363 P, o_364 P, o_365 P, o_366 P, o_367 P, o_368 P, o_369 P, o_370 P, o_371 P, o_372 P, o_373 P, o_374 P, o_375 P, o_376 P, o_377 P, o_378 P, o_379 P, o_380 P, o_381 P, o_382 P, o_383 P, o_384 P, o_385 P, o_386 P, o_387 P, o_388 P, o_389 P, o_390 P, o_391 P, o_392 P, o_393 P, o_394 P, o_395 P, o_396 P, o_397 P, o_398 P, o_399 P, o_400 P, o_401 P, o_402 P, o_403 P, o_404 P, o_405 P, o_406 P, o_407 P, o_408 P, o_409 P, o_410 P, o_411 P, o_412 P, o_413 P, o_414 P, o_415 P, o_416 P, o_417 P, o_418 P, o_419 P, o_420 P, o_421 P, o_422 P, o_423 P, o_424 P, o_425 P, o_426 P, o_427 P, o_428 P, o_429 P, o_430 P, o_431 P, o_432 P, o_433 P, o_434 P, o_435 P, o_436 P, o_437 P, o_438 P, o_439 P, o_440 P, o_441 P, o_442 P, o_443 P, o_444 P, o_445 P, o_446 P, o_447 P, o_448 P, o_449 P, o_450 P, o_451 P, o_452 P, o_453 P, o_454 P, o_455 P, o_456 P, o_457 P, o_458 P, o_459 P, o_460 P, o_461 P, o_462 P, o_463 P, o_464 P, o_465 P, o_466 P, o_467 P, o_468 P, o_469 P, o_470 P, o_471 P, o_472 P, o_473 P, o_474 P, o_475 P, o_476 P, o_477 P, o_478 P, o_479 P, o_480 P, o_481 P, o_482 P, o_483 P, o_484 P, o_485 P, o_486 P, o_487 P, o_488 P, o_489 P, o_490 P, o_491 P, o_492 P, o_493 P, o_494 P, o_495 P, o_496 P, o_497 P, o_498 P, o_499 P, o_590 P, o_591 P, o_592 P, o_593 P, o_594 P, o_595 P, o_596 P, o_597 P, o_598 P, o_599 P, o_600 P, o_601 P, o_602 P, o_603 P, o_604 P, o_605 P, o_606 P, o_607 P, o_608 P, o_609 P, o_610 P, o_611 P, o_612 P, o_613 P, o_614 P, o_615 P, o_616 P, o_617 P, o_618 P, o_619 P, o_620 P, o_621 P, o_622 P, o_623 P, o_624 P, o_625 P, o_626 P, o_627 P, o_628 P, o_629 P, o_630 P, o_631 P, o_632 P, o_633 P, o_634 P, o_635 P, o_636 P, o_637 P, o_638 P, o_639 P, o_640 P, o_641 P, o_642 P, o_643 P, o_644 P, o_645 P, o_646 P, o_647 P, o_648 P, o_649 P, o_650 P, o_651 P, o_652 P, o_653 P, o_654 P, o_655 P, o_656 P, o_657 P, o_658 P, o_659 P, o_660 P, o_663 P, o_664 P, o_665 P, o_666 P, o_667 P, o_668 P, o_669 P, o_670 P, o_671 P, o_672 P, o_673 P, o_674 P, o_675 P, o_676 P, o_677 P, o_678 P, o_679 P, o_680 P, o_681 P, o_682 P, o_683 P, o_684 P, o_685 P, o_686 P, o_687 P, o_688 P, o_689 P, o_690 P, o_691 P, o_692 P, o_693 P, o_694 P, o_695 P, o_696 P, o_697 P, o_698 P, o_699 P, o_700 P, o_701 P, o_702 P, o_703 P, o_704 P, o_705 P, o_706 P, o_707 P, o_708 P, o_709 P, o_710 P, o_711 P, o_712 P, o_713 P, o_714 P, o_715 P, o_716 P, o_717 P, o_720 P, o_721 P, o_722 P, o_723 P, o_724 P, o_725 P, o_726 P, o_727 P, o_728 P, o_729 P, o_730 P, o_731 P, o_732 P, o_733 P, o_734 P, o_735 P, o_736 P, o_737 P, o_738 P, o_739 P, o_740 P, o_741 P, o_742 P, o_743 P, o_744 P, o_745 P, o_746 P, o_747 P, o_748 P]⟩, {}⟩
noncomputable def hd.tree1 : Params → BT := fun P => (.node (W.boot_o_0 P) (.node (W.boot_o_1 P) (.node (o_718 P) (.node (W.boot_o_7 P) (.node (o_51 P) (.node (o_69 P) (.node (o_101 P) (.node (o_170 P) (.node (o_304 P) (.node (o_654 P) .nil .nil) .nil) (.node (o_436 P) .nil .nil)) (.node (o_238 P) (.node (o_372 P) (.node (o_722 P) .nil .nil) .nil) (.node (o_590 P) .nil .nil))) (.node (o_136 P) (.node (o_206 P) (.node (o_338 P) (.node (o_688 P) .nil .nil) .nil) (.node (o_468 P) .nil .nil)) (.node (o_270 P) (.node (o_404 P) .nil .nil) (.node (o_622 P) .nil .nil)))) (.node (o_85 P) (.node (o_120 P) (.node (o_186 P) (.node (o_320 P) (.node (o_672 P) .nil .nil) .nil) (.node (o_452 P) .nil .nil)) (.node (o_254 P) (.node (o_388 P) (.node (o_738 P) .nil .nil) .nil) (.node (o_606 P) .nil .nil))) (.node (o_154 P) (.node (o_222 P) (.node (o_354 P) (.node (o_704 P) .nil .nil) .nil) (.node (o_484 P) .nil .nil)) (.node (o_288 P) (.node (o_420 P) .nil .nil) (.node (o_638 P) .nil .nil))))) (.node (o_61 P) (.node (o_77 P) (.node (o_109 P) (.node (o_178 P) (.node (o_312 P) (.node (o_664 P) .nil .nil) .nil) (.node (o_444 P) .nil .nil)) (.node (o_246 P) (.node (o_380 P) (.node (o_730 P) .nil .nil) .nil) (.node (o_598 P) .nil .nil))) (.node (o_146 P) (.node (o_214 P) (.node (o_346 P) (.node (o_696 P) .nil .nil) .nil) (.node (o_476 P) .nil .nil)) (.node (o_280 P) (.node (o_412 P) .nil .nil) (.node (o_630 P) .nil .nil)))) (.node (o_93 P) (.node (o_128 P) (.node (o_196 P) (.node (o_328 P) (.node (o_680 P) .nil .nil) .nil) (.node (o_460 P) .nil .nil)) (.node (o_262 P) (.node (o_396 P) (.node (o_746 P) .nil .nil) .nil) (.node (o_614 P) .nil .nil))) (.node (o_162 P) (.node (o_230 P) (.node (o_364 P) (.node (o_712 P) .nil .nil) .nil) (.node (o_492 P) .nil .nil)) (.node (o_296 P) (.node (o_428 P) .nil .nil) (.node (o_646 P) .nil .nil)))))) (.node (o_43 P) (.node (o_55 P) (.node (o_73 P) (.node (o_105 P) (.node (o_174 P) (.node (o_308 P) (.node (o_658 P) .nil .nil) .nil) (.node (o_440 P) .nil .nil)) (.node (o_242 P) (.node (o_376 P) (.node (o_726 P) .nil .nil) .nil) (.node (o_594 P) .nil .nil))) (.node (o_140 P) (.node (o_210 P) (.node (o_342 P) (.node (o_692 P) .nil .nil) .nil) (.node (o_472 P) .nil .nil)) (.node (o_274 P) (.node (o_408 P) .nil .nil) (.node (o_626 P) .nil .nil)))) (.node (o_89 P) (.node (o_124 P) (.node (o_190 P) (.node (o_324 P) (.node (o_676 P) .nil .nil) .nil) (.node (o_456 P) .nil .nil)) (.node (o_258 P) (.node (o_392 P) (.node (o_742 P) .nil .nil) .nil) (.node (o_610 P) .nil .nil))) (.node (o_158 P) (.node (o_226 P) (.node (o_360 P) (.node (o_708 P) .nil .nil) .nil) (.node (o_488 P) .nil .nil)) (.node (o_292 P) (.node (o_424 P) .nil .nil) (.node (o_642 P) .nil .nil))))) (.node (o_65 P) (.node (o_81 P) (.node (o_116 P) (.node (o_182 P) (.node (o_316 P) (.node (o_668 P) .nil .nil) .nil) (.node (o_448 P) .nil .nil)) (.node (o_250 P) (.node (o_384 P) (.node (o_734 P) .nil .nil) .nil) (.node (o_602 P) .nil .nil))) (.node (o_150 P) (.node (o_218 P) (.node (o_350 P) (.node (o_700 P) .nil .nil) .nil) (.node (o_480 P) .nil .nil)) (.node (o_284 P) (.node (o_416 P) .nil .nil) (.node (o_634 P) .nil .nil)))) (.node (o_97 P) (.node (o_132 P) (.node (o_200 P) (.node (o_332 P) (.node (o_684 P) .nil .nil) .nil) (.node (o_464 P) .nil .nil)) (.node (o_266 P) (.node (o_400 P) .nil .nil) (.node (o_618 P) .nil .nil))) (.node (o_166 P) (.node (o_234 P) (.node (o_368 P) (.node (o_716 P) .nil .nil) .nil) (.node (o_496 P) .nil .nil)) (.node (o_300 P) (.node (o_432 P) .nil .nil) (.node (o_650 P) .nil .nil))))))) (.node (W.boot_o_5 P) (.node (W.boot_o_9 P) (.node (o_53 P) (.node (o_71 P) (.node (o_103 P) (.node (o_172 P) (.node (o_306 P) (.node (o_656 P) .nil .nil) .nil) (.node (o_438 P) .nil .nil)) (.node (o_240 P) (.node (o_374 P) (.node (o_724 P) .nil .nil) .nil) (.node (o_592 P) .nil .nil))) (.node (o_138 P) (.node (o_208 P) (.node (o_340 P) (.node (o_690 P) .nil .nil) .nil) (.node (o_470 P) .nil .nil)) (.node (o_272 P) (.node (o_406 P) .nil .nil) (.node (o_624 P) .nil .nil)))) (.node (o_87 P) (.node (o_122 P) (.node (o_188 P) (.node (o_322 P) (.node (o_674 P) .nil .nil) .nil) (.node (o_454 P) .nil .nil)) (.node (o_256 P) (.node (o_390 P) (.node (o_740 P) .nil .nil) .nil) (.node (o_608 P) .nil .nil))) (.node (o_156 P) (.node (o_224 P) (.node (o_356 P) (.node (o_706 P) .nil .nil) .nil) (.node (o_486 P) .nil .nil)) (.node (o_290 P) (.node (o_422 P) .nil .nil) (.node (o_640 P) .nil .nil))))) (.node (o_63 P) (.node (o_79 P) (.node (o_114 P) (.node (o_180 P) (.node (o_314 P) (.node (o_666 P) .nil .nil) .nil) (.node (o_446 P) .nil .nil)) (.node (o_248 P) (.node (o_382 P) (.node (o_732 P) .nil .nil) .nil) (.node (o_600 P) .nil .nil))) (.node (o_148 P) (.node (o_216 P) (.node (o_348 P) (.node (o_698 P) .nil .nil) .nil) (.node (o_478 P) .nil .nil)) (.node (o_282 P) (.node (o_414 P) .nil .nil) (.node (o_632 P) .nil .nil)))) (.node (o_95 P) (.node (o_130 P) (.node (o_198 P) (.node (o_330 P) (.node (o_682 P) .nil .nil) .nil) (.node (o_462 P) .nil .nil)) (.node (o_264 P) (.node (o_398 P) (.node (o_748 P) .nil .nil) .nil) (.node (o_616 P) .nil .nil))) (.node (o_164 P) (.node (o_232 P) (.node (o_366 P) (.node (o_714 P) .nil .nil) .nil) (.node (o_494 P) .nil .nil)) (.node (o_298 P) (.node (o_430 P) .nil .nil) (.node (o_648 P) .nil .nil)))))) (.node (o_45 P) (.node (o_57 P) (.node (o_75 P) (.node (o_107 P) (.node (o_176 P) (.node (o_310 P) (.node (o_660 P) .nil .nil) .nil) (.node (o_442 P) .nil .nil)) (.node (o_244 P) (.node (o_378 P) (.node (o_728 P) .nil .nil) .nil) (.node (o_596 P) .nil .nil))) (.node (o_144 P) (.node (o_212 P) (.node (o_344 P) (.node (o_694 P) .nil .nil) .nil) (.node (o_474 P) .nil .nil)) (.node (o_276 P) (.node (o_410 P) .nil .nil) (.node (o_628 P) .nil .nil)))) (.node (o_91 P) (.node (o_126 P) (.node (o_194 P) (.node (o_326 P) (.node (o_678 P) .nil .nil) .nil) (.node (o_458 P) .nil .nil)) (.node (o_260 P) (.node (o_394 P) (.node (o_744 P) .nil .nil) .nil) (.node (o_612 P) .nil .nil))) (.node (o_160 P) (.node (o_228 P) (.node (o_362 P) (.node (o_710 P) .nil .nil) .nil) (.node (o_490 P) .nil .nil)) (.node (o_294 P) (.node (o_426 P) .nil .nil) (.node (o_644 P) .nil .nil))))) (.node (o_67 P) (.node (o_83 P) (.node (o_118 P) (.node (o_184 P) (.node (o_318 P) (.node (o_670 P) .nil .nil) .nil) (.node (o_450 P) .nil .nil)) (.node (o_252 P) (.node (o_386 P) (.node (o_736 P) .nil .nil) .nil) (.node (o_604 P) .nil .nil))) (.node (o_152 P) (.node (o_220 P) (.node (o_352 P) (.node (o_702 P) .nil .nil) .nil) (.node (o_482 P) .nil .nil)) (.node (o_286 P) (.node (o_418 P) .nil .nil) (.node (o_636 P) .nil .nil)))) (.node (o_99 P) (.node (o_134 P) (.node (o_202 P) (.node (o_334 P) (.node (o_686 P) .nil .nil) .nil) (.node (o_466 P) .nil .nil)) (.node (o_268 P) (.node (o_402 P) .nil .nil) (.node (o_620 P) .nil .nil))) (.node (o_168 P) (.node (o_236 P) (.node (o_370 P) (.node (o_720 P) .nil .nil) .nil) (.node (o_498 P) .nil .nil)) (.node (o_302 P) (.node (o_434 P) .nil .nil) (.node (o_652 P) .nil .nil)))))))) (.node (o_111 P) (.node (W.boot_o_4 P) (.node (W.boot_o_8 P) (.node (o_52 P) (.node (o_70 P) (.node (o_102 P) (.node (o_171 P) (.node (o_305 P) (.node (o_655 P) .nil .nil) .nil) (.node (o_437 P) .nil .nil)) (.node (o_239 P) (.node (o_373 P) (.node (o_723 P) .nil .nil) .nil) (.node (o_591 P) .nil .nil))) (.node (o_137 P) (.node (o_207 P) (.node (o_339 P) (.node (o_689 P) .nil .nil) .nil) (.node (o_469 P) .nil .nil)) (.node (o_271 P) (.node (o_405 P) .nil .nil) (.node (o_623 P) .nil .nil)))) (.node (o_86 P) (.node (o_121 P) (.node (o_187 P) (.node (o_321 P) (.node (o_673 P) .nil .nil) .nil) (.node (o_453 P) .nil .nil)) (.node (o_255 P) (.node (o_389 P) (.node (o_739 P) .nil .nil) .nil) (.node (o_607 P) .nil .nil))) (.node (o_155 P) (.node (o_223 P) (.node (o_355 P) (.node (o_705 P) .nil .nil) .nil) (.node (o_485 P) .nil .nil)) (.node (o_289 P) (.node (o_421 P) .nil .nil) (.node (o_639 P) .nil .nil))))) (.node (o_62 P) (.node (o_78 P) (.node (o_110 P) (.node (o_179 P) (.node (o_313 P) (.node (o_665 P) .nil .nil) .nil) (.node (o_445 P) .nil .nil)) (.node (o_247 P) (.node (o_381 P) (.node (o_731 P) .nil .nil) .nil) (.node (o_599 P) .nil .nil))) (.node (o_147 P) (.node (o_215 P) (.node (o_347 P) (.node (o_697 P) .nil .nil) .nil) (.node (o_477 P) .nil .nil)) (.node (o_281 P) (.node (o_413 P) .nil .nil) (.node (o_631 P) .nil .nil)))) (.node (o_94 P) (.node (o_129 P) (.node (o_197 P) (.node (o_329 P) (.node (o_681 P) .nil .nil) .nil) (.node (o_461 P) .nil .nil)) (.node (o_263 P) (.node (o_397 P) (.node (o_747 P) .nil .nil) .nil) (.node (o_615 P) .nil .nil))) (.node (o_163 P) (.node (o_231 P) (.node (o_365 P) (.node (o_713 P) .nil .nil) .nil) (.node (o_493 P) .nil .nil)) (.node (o_297 P) (.node (o_429 P) .nil .nil) (.node (o_647 P) .nil .nil)))))) (.node (o_719 P) (.node (o_56 P) (.node (o_74 P) (.node (o_106 P) (.node (o_175 P) (.node (o_309 P) (.node (o_659 P) .nil .nil) .nil) (.node (o_441 P) .nil .nil)) (.node (o_243 P) (.node (o_377 P) (.node (o_727 P) .nil .nil) .nil) (.node (o_595 P) .nil .nil))) (.node (o_143 P) (.node (o_211 P) (.node (o_343 P) (.node (o_693 P) .nil .nil) .nil) (.node (o_473 P) .nil .nil)) (.node (o_275 P) (.node (o_409 P) .nil .nil) (.node (o_627 P) .nil .nil)))) (.node (o_90 P) (.node (o_125 P) (.node (o_191 P) (.node (o_325 P) (.node (o_677 P) .nil .nil) .nil) (.node (o_457 P) .nil .nil)) (.node (o_259 P) (.node (o_393 P) (.node (o_743 P) .nil .nil) .nil) (.node (o_611 P) .nil .nil))) (.node (o_159 P) (.node (o_227 P) (.node (o_361 P) (.node (o_709 P) .nil .nil) .nil) (.node (o_489 P) .nil .nil)) (.node (o_293 P) (.node (o_425 P) .nil .nil) (.node (o_643 P) .nil .nil))))) (.node (o_66 P) (.node (o_82 P) (.node (o_117 P) (.node (o_183 P) (.node (o_317 P) (.node (o_669 P) .nil .nil) .nil) (.node (o_449 P) .nil .nil)) (.node (o_251 P) (.node (o_385 P) (.node (o_735 P) .nil .nil) .nil) (.node (o_603 P) .nil .nil))) (.node (o_151 P) (.node (o_219 P) (.node (o_351 P) (.node (o_701 P) .nil .nil) .nil) (.node (o_481 P) .nil .nil)) (.node (o_285 P) (.node (o_417 P) .nil .nil) (.node (o_635 P) .nil .nil)))) (.node (o_98 P) (.node (o_133 P) (.node (o_201 P) (.node (o_333 P) (.node (o_685 P) .nil .nil) .nil) (.node (o_465 P) .nil .nil)) (.node (o_267 P) (.node (o_401 P) .nil .nil) (.node (o_619 P) .nil .nil))) (.node (o_167 P) (.node (o_235 P) (.node (o_369 P) (.node (o_717 P) .nil .nil) .nil) (.node (o_497 P) .nil .nil)) (.node (o_301 P) (.node (o_433 P) .nil .nil) (.node (o_651 P) .nil .nil))))))) (.node (W.boot_o_6 P) (.node (W.boot_o_10 P) (.node (o_54 P) (.node (o_72 P) (.node (o_104 P) (.node (o_173 P) (.node (o_307 P) (.node (o_657 P) .nil .nil) .nil) (.node (o_439 P) .nil .nil)) (.node (o_241 P) (.node (o_375 P) (.node (o_725 P) .nil .nil) .nil) (.node (o_593 P) .nil .nil))) (.node (o_139 P) (.node (o_209 P) (.node (o_341 P) (.node (o_691 P) .nil .nil) .nil) (.node (o_471 P) .nil .nil)) (.node (o_273 P) (.node (o_407 P) .nil .nil) (.node (o_625 P) .nil .nil)))) (.node (o_88 P) (.node (o_123 P) (.node (o_189 P) (.node (o_323 P) (.node (o_675 P) .nil .nil) .nil) (.node (o_455 P) .nil .nil)) (.node (o_257 P) (.node (o_391 P) (.node (o_741 P) .nil .nil) .nil) (.node (o_609 P) .nil .nil))) (.node (o_157 P) (.node (o_225 P) (.node (o_357 P) (.node (o_707 P) .nil .nil) .nil) (.node (o_487 P) .nil .nil)) (.node (o_291 P) (.node (o_423 P) .nil .nil) (.node (o_641 P) .nil .nil))))) (.node (o_64 P) (.node (o_80 P) (.node (o_115 P) (.node (o_181 P) (.node (o_315 P) (.node (o_667 P) .nil .nil) .nil) (.node (o_447 P) .nil .nil)) (.node (o_249 P) (.node (o_383 P) (.node (o_733 P) .nil .nil) .nil) (.node (o_601 P) .nil .nil))) (.node (o_149 P) (.node (o_217 P) (.node (o_349 P) (.node (o_699 P) .nil .nil) .nil) (.node (o_479 P) .nil .nil)) (.node (o_283 P) (.node (o_415 P) .nil .nil) (.node (o_633 P) .nil .nil)))) (.node (o_96 P) (.node (o_131 P) (.node (o_199 P) (.node (o_331 P) (.node (o_683 P) .nil .nil) .nil) (.node (o_463 P) .nil .nil)) (.node (o_265 P) (.node (o_399 P) .nil .nil) (.node (o_617 P) .nil .nil))) (.node (o_165 P) (.node (o_233 P) (.node (o_367 P) (.node (o_715 P) .nil .nil) .nil) (.node (o_495 P) .nil .nil)) (.node (o_299 P) (.node (o_431 P) .nil .nil) (.node (o_649 P) .nil .nil)))))) (.node (o_46 P) (.node (o_60 P) (.node (o_76 P) (.node (o_108 P) (.node (o_177 P) (.node (o_311 P) (.node (o_663 P) .nil .nil) .nil) (.node (o_443 P) .nil .nil)) (.node (o_245 P) (.node (o_379 P) (.node (o_729 P) .nil .nil) .nil) (.node (o_597 P) .nil .nil))) (.node (o_145 P) (.node (o_213 P) (.node (o_345 P) (.node (o_695 P) .nil .nil) .nil) (.node (o_475 P) .nil .nil)) (.node (o_279 P) (.node (o_411 P) .nil .nil) (.node (o_629 P) .nil .nil)))) (.node (o_92 P) (.node (o_127 P) (.node (o_195 P) (.node (o_327 P) (.node (o_679 P) .nil .nil) .nil) (.node (o_459 P) .nil .nil)) (.node (o_261 P) (.node (o_395 P) (.node (o_745 P) .nil .nil) .nil) (.node (o_613 P) .nil .nil))) (.node (o_161 P) (.node (o_229 P) (.node (o_363 P) (.node (o_711 P) .nil .nil) .nil) (.node (o_491 P) .nil .nil)) (.node (o_295 P) (.node (o_427 P) .nil .nil) (.node (o_645 P) .nil .nil))))) (.node (o_68 P) (.node (o_84 P) (.node (o_119 P) (.node (o_185 P) (.node (o_319 P) (.node (o_671 P) .nil .nil) .nil) (.node (o_451 P) .nil .nil)) (.node (o_253 P) (.node (o_387 P) (.node (o_737 P) .nil .nil) .nil) (.node (o_605 P) .nil .nil))) (.node (o_153 P) (.node (o_221 P) (.node (o_353 P) (.node (o_703 P) .nil .nil) .nil) (.node (o_483 P) .nil .nil)) (.node (o_287 P) (.node (o_419 P) .nil .nil) (.node (o_637 P) .nil .nil)))) (.node (o_100 P) (.node (o_135 P) (.node (o_203 P) (.node (o_337 P) (.node (o_687 P) .nil .nil) .nil) (.node (o_467 P) .nil .nil)) (.node (o_269 P) (.node (o_403 P) .nil .nil) (.node (o_621 P) .nil .nil))) (.node (o_169 P) (.node (o_237 P) (.node (o_371 P) (.node (o_721 P) .nil .nil) .nil) (.node (o_499 P) .nil .nil)) (.node (o_303 P) (.node (o_435 P) .nil .nil) (.node (o_653 P) .nil .nil)))))))))
noncomputable def hd.heap_39 : Params → Frag := fun P => (nat_lit 2, o_111 P) :: (nat_lit 3, o_718 P) :: (nat_lit 15, o_51 P) :: (nat_lit 17, o_53 P) :: (nat_lit 18, o_54 P) :: (nat_lit 20, o_56 P) :: (nat_lit 21, o_57 P) :: (nat_lit 29, o_67 P) :: (nat_lit 30, o_68 P) :: (nat_lit 31, o_69 P) :: (nat_lit 33, o_71 P) :: (nat_lit 34, o_72 P) :: (nat_lit 36, o_74 P) :: (nat_lit 37, o_75 P) :: (nat_lit 38, o_76 P) :: (nat_lit 40, o_78 P) :: (nat_lit 41, o_79 P) :: (nat_lit 43, o_81 P) :: (nat_lit 44, o_82 P) :: (nat_lit 45, o_83 P) :: (nat_lit 47, o_85 P) :: (nat_lit 48, o_86 P) :: (nat_lit 50, o_88 P) :: (nat_lit 51, o_89 P) :: (nat_lit 52, o_90 P) :: (nat_lit 54, o_92 P) :: (nat_lit 55, o_93 P) :: (nat_lit 57, o_95 P) :: (nat_lit 58, o_96 P) :: (nat_lit 59, o_97 P) :: (nat_lit 61, o_99 P) :: (nat_lit 62, o_100 P) :: (nat_lit 64, o_102 P) :: (nat_lit 65, o_103 P) :: (nat_lit 66, o_104 P) :: (nat_lit 67, o_105 P) :: (nat_lit 68, o_106 P) :: (nat_lit 69, o_107 P) :: (nat_lit 70, o_108 P) :: (nat_lit 73, o_114 P) :: (nat_lit 75, o_116 P) :: (nat_lit 76, o_117 P) :: (nat_lit 78, o_119 P) :: (nat_lit 79, o_120 P) :: (nat_lit 80, o_121 P) :: (nat_lit 87, o_128 P) :: (nat_lit 89, o_130 P) :: (nat_lit 90, o_131 P) :: (nat_lit 92, o_133 P) :: (nat_lit 93, o_134 P) :: (nat_lit 94, o_135 P) :: (nat_lit 95, o_136 P) :: (nat_lit 96, o_137 P) :: (nat_lit 97, o_138 P) :: (nat_lit 107, o_150 P) :: (nat_lit 109, o_152 P) :: (nat_lit 110, o_153 P) :: (nat_lit 112, o_155 P) :: (nat_lit 113, o_156 P) :: (nat_lit 114, o_157 P) :: (nat_lit 116, o_159 P) :: (nat_lit 117, o_160 P) :: (nat_lit 119, o_162 P) :: (nat_lit 120, o_163 P) :: (nat_lit 121, o_164 P) :: (nat_lit 123, o_166 P) :: (nat_lit 124, o_167 P) :: (nat_lit 126, o_169 P) :: (nat_lit 127, o_170 P) :: (nat_lit 128, o_171 P) :: (nat_lit 130, o_173 P) :: (nat_lit 131, o_174 P) :: (nat_lit 133, o_176 P) :: (nat_lit 134, o_177 P) :: (nat_lit 135, o_178 P) :: (nat_lit 137, o_180 P) :: (nat_lit 138, o_181 P) :: (nat_lit 140, o_183 P) :: (nat_lit 141, o_184 P) :: (nat_lit 142, o_185 P) :: (nat_lit 143, o_186 P) :: (nat_lit 144, o_187 P) :: (nat_lit 145, o_188 P) :: (nat_lit 146, o_189 P) :: (nat_lit 149, o_194 P) :: (nat_lit 152, o_197 P) :: (nat_lit 153, o_198 P) :: (nat_lit 154, o_199 P) :: (nat_lit 157, o_202 P) :: (nat_lit 158, o_203 P) :: (nat_lit 166, o_213 P) :: (nat_lit 167, o_214 P) :: (nat_lit 169, o_216 P) :: (nat_lit 170, o_217 P) :: (nat_lit 172, o_219 P) :: (nat_lit 173, o_220 P) :: (nat_lit 174, o_221 P) :: (nat_lit 176, o_223 P) :: (nat_lit 177, o_224 P) :: (nat_lit 179, o_226 P) :: (nat_lit 180, o_227 P) :: (nat_lit 181, o_228 P) :: (nat_lit 183, o_230 P) :: (nat_lit 184, o_231 P) :: (nat_lit 186, o_233 P) :: (nat_lit 187, o_234 P) :: (nat_lit 188, o_235 P) :: (nat_lit 190, o_237 P) :: (nat_lit 191, o_238 P) :: (nat_lit 193, o_240 P) :: (nat_lit 194, o_241 P) :: (nat_lit 195, o_242 P) :: (nat_lit 197, o_244 P) :: (nat_lit 198, o_245 P) :: (nat_lit 200, o_247 P) :: (nat_lit 201, o_248 P) :: (nat_lit 202, o_249 P) :: (nat_lit 204, o_251 P) :: (nat_lit 205, o_252 P) :: (nat_lit 207, o_254 P) :: (nat_lit 208, o_255 P) :: (nat_lit 209, o_256 P) :: (nat_lit 211, o_258 P) :: (nat_lit 212, o_259 P) :: (nat_lit 214, o_261 P) :: (nat_lit 215, o_262 P) :: (nat_lit 216, o_263 P) :: (nat_lit 218, o_265 P) :: (nat_lit 219, o_266 P) :: (nat_lit 221, o_268 P) :: (nat_lit 222, o_269 P) :: (nat_lit 223, o_270 P) :: (nat_lit 224, o_271 P) :: (nat_lit 225, o_272 P) :: (nat_lit 226, o_273 P) :: (nat_lit 227, o_274 P) :: (nat_lit 230, o_279 P) :: (nat_lit 232, o_281 P) :: (nat_lit 233, o_282 P) :: (nat_lit 235, o_284 P) :: (nat_lit 236, o_285 P) :: (nat_lit 237, o_286 P) :: (nat_lit 239, o_288 P) :: (nat_lit 240, o_289 P) :: (nat_lit 242, o_291 P) :: (nat_lit 243, o_292 P) :: (nat_lit 244, o_293 P) :: (nat_lit 246, o_295 P) :: (nat_lit 247, o_296 P) :: (nat_lit 249, o_298 P) :: (nat_lit 250, o_299 P) :: (nat_lit 258, o_307 P) :: (nat_lit 260, o_309 P) :: (nat_lit 261, o_310 P) :: (nat_lit 263, o_312 P) :: (nat_lit 264, o_313 P) :: (nat_lit 265, o_314 P) :: (nat_lit 266, o_315 P) :: (nat_lit 267, o_316 P) :: (nat_lit 268, o_317 P) :: (nat_lit 269, o_318 P) :: (nat_lit 272, o_321 P) :: (nat_lit 274, o_323 P) :: (nat_lit 275, o_324 P) :: (nat_lit 277, o_326 P) :: (nat_lit 278, o_327 P) :: (nat_lit 279, o_328 P) :: (nat_lit 281, o_330 P) :: (nat_lit 282, o_331 P) :: (nat_lit 284, o_333 P) :: (nat_lit 285, o_334 P) :: (nat_lit 286, o_337 P) :: (nat_lit 288, o_339 P) :: (nat_lit 289, o_340 P) :: (nat_lit 291, o_342 P) :: (nat_lit 292, o_343 P) :: (nat_lit 293, o_344 P) :: (nat_lit 295, o_346 P) :: (nat_lit 296, o_347 P) :: (nat_lit 298, o_349 P) :: (nat_lit 299, o_350 P) :: (nat_lit 300, o_351 P) :: (nat_lit 302, o_353 P) :: (nat_lit 303, o_354 P) :: (nat_lit 305, o_356 P) :: (nat_lit 306, o_357 P) :: (nat_lit 314, o_367 P) :: (nat_lit 316, o_369 P) :: (nat_lit 317, o_370 P) :: (nat_lit 319, o_372 P) :: (nat_lit 320, o_373 P) :: (nat_lit 321, o_374 P) :: (nat_lit 323, o_376 P) :: (nat_lit 324, o_377 P) :: (nat_lit 326, o_379 P) :: (nat_lit 327, o_380 P) :: (nat_lit 328, o_381 P) :: (nat_lit 330, o_383 P) :: (nat_lit 331, o_384 P) :: (nat_lit 333, o_386 P) :: (nat_lit 334, o_387 P) :: (nat_lit 335, o_388 P) :: (nat_lit 337, o_390 P) :: (nat_lit 338, o_391 P) :: (nat_lit 340, o_393 P) :: (nat_lit 341, o_394 P) :: (nat_lit 342, o_395 P) :: (nat_lit 344, o_397 P) :: (nat_lit 345, o_398 P) :: (nat_lit 347, o_400 P) :: (nat_lit 348, o_401 P) :: (nat_lit 349, o_402 P) :: (nat_lit 351, o_404 P) :: (nat_lit 352, o_405 P) :: (nat_lit 354, o_407 P) :: (nat_lit 355, o_408 P) :: (nat_lit 356, o_409 P) :: (nat_lit 358, o_411 P) :: (nat_lit 359, o_412 P) :: (nat_lit 361, o_414 P) :: (nat_lit 362, o_415 P) :: (nat_lit 363, o_416 P) :: (nat_lit 365, o_418 P) :: (nat_lit 366, o_419 P) :: (nat_lit 368, o_421 P) :: (nat_lit 369, o_422 P) :: (nat_lit 370, o_423 P) :: (nat_lit 372, o_425 P) :: (nat_lit 373, o_426 P) :: (nat_lit 375, o_428 P) :: (nat_lit 376, o_429 P) :: (nat_lit 377, o_430 P) :: (nat_lit 379, o_432 P) :: (nat_lit 380, o_433 P) :: (nat_lit 382, o_435 P) :: (nat_lit 383, o_436 P) :: (nat_lit 384, o_437 P) :: (nat_lit 386, o_439 P) :: (nat_lit 387, o_440 P) :: (nat_lit 389, o_442 P) :: (nat_lit 390, o_443 P) :: (nat_lit 391, o_444 P) :: (nat_lit 393, o_446 P) :: (nat_lit 394, o_447 P) :: (nat_lit 396, o_449 P) :: (nat_lit 397, o_450 P) :: (nat_lit 398, o_451 P) :: (nat_lit 400, o_453 P) :: (nat_lit 401, o_454 P) :: (nat_lit 403, o_456 P) :: (nat_lit 404, o_457 P) :: (nat_lit 405, o_458 P) :: (nat_lit 407, o_460 P) :: (nat_lit 408, o_461 P) :: (nat_lit 410, o_463 P) :: (nat_lit 411, o_464 P) :: (nat_lit 412, o_465 P) :: (nat_lit 414, o_467 P) :: (nat_lit 415, o_468 P) :: (nat_lit 417, o_470 P) :: (nat_lit 418, o_471 P) :: (nat_lit 419, o_472 P) :: (nat_lit 421, o_474 P) :: (nat_lit 422, o_475 P) :: (nat_lit 424, o_477 P) :: (nat_lit 425, o_478 P) :: (nat_lit 426, o_479 P) :: (nat_lit 428, o_481 P) :: (nat_lit 429, o_482 P) :: (nat_lit 431, o_484 P) :: (nat_lit 432, o_485 P) :: (nat_lit 433, o_486 P) :: (nat_lit 435, o_488 P) :: (nat_lit 436, o_489 P) :: (nat_lit 438, o_491 P) :: (nat_lit 439, o_492 P) :: (nat_lit 440, o_493 P) :: (nat_lit 441, o_494 P) :: (nat_lit 442, o_495 P) :: (nat_lit 443, o_496 P) :: (nat_lit 444, o_497 P) :: (nat_lit 447, o_590 P) :: (nat_lit 449, o_592 P) :: (nat_lit 450, o_593 P) :: (nat_lit 452, o_595 P) :: (nat_lit 453, o_596 P) :: (nat_lit 454, o_597 P) :: (nat_lit 455, o_598 P) :: (nat_lit 457, o_600 P) :: (nat_lit 458, o_601 P) :: (nat_lit 460, o_603 P) :: (nat_lit 461, o_604 P) :: (nat_lit 462, o_605 P) :: (nat_lit 464, o_607 P) :: (nat_lit 465, o_608 P) :: (nat_lit 467, o_610 P) :: (nat_lit 468, o_611 P) :: (nat_lit 469, o_612 P) :: (nat_lit 471, o_614 P) :: (nat_lit 472, o_615 P) :: (nat_lit 474, o_617 P) :: (nat_lit 475, o_618 P) :: (nat_lit 476, o_619 P) :: (nat_lit 478, o_621 P) :: (nat_lit 479, o_622 P) :: (nat_lit 481, o_624 P) :: (nat_lit 482, o_625 P) :: (nat_lit 483, o_626 P) :: (nat_lit 485, o_628 P) :: (nat_lit 486, o_629 P) :: (nat_lit 488, o_631 P) :: (nat_lit 489, o_632 P) :: (nat_lit 490, o_633 P) :: (nat_lit 492, o_635 P) :: (nat_lit 493, o_636 P) :: (nat_lit 495, o_638 P) :: (nat_lit 496, o_639 P) :: (nat_lit 497, o_640 P) :: (nat_lit 499, o_642 P) :: (nat_lit 500, o_643 P) :: (nat_lit 502, o_645 P) :: (nat_lit 503, o_646 P) :: (nat_lit 504, o_647 P) :: (nat_lit 506, o_649 P) :: (nat_lit 507, o_650 P) :: (nat_lit 509, o_652 P) :: (nat_lit 510, o_653 P) :: (nat_lit 511, o_654 P) :: (nat_lit 513, o_656 P) :: (nat_lit 514, o_657 P) :: (nat_lit 516, o_659 P) :: (nat_lit 517, o_660 P) :: (nat_lit 525, o_670 P) :: (nat_lit 526, o_671 P) :: (nat_lit 528, o_673 P) :: (nat_lit 529, o_674 P) :: (nat_lit 531, o_676 P) :: (nat_lit 532, o_677 P) :: (nat_lit 533, o_678 P) :: (nat_lit 535, o_680 P) :: (nat_lit 536, o_681 P) :: (nat_lit 538, o_683 P) :: (nat_lit 539, o_684 P) :: (nat_lit 540, o_685 P) :: (nat_lit 542, o_687 P) :: (nat_lit 543, o_688 P) :: (nat_lit 545, o_690 P) :: (nat_lit 546, o_691 P) :: (nat_lit 547, o_692 P) :: (nat_lit 549, o_694 P) :: (nat_lit 550, o_695 P) :: (nat_lit 552, o_697 P) :: (nat_lit 553, o_698 P) :: (nat_lit 554, o_699 P) :: (nat_lit 555, o_700 P) :: (nat_lit 556, o_701 P) :: (nat_lit 557, o_702 P) :: (nat_lit 558, o_703 P) :: (nat_lit 561, o_706 P) :: (nat_lit 564, o_709 P) :: (nat_lit 565, o_710 P) :: (nat_lit 566, o_711 P) :: (nat_lit 568, o_713 P) :: (nat_lit 569, o_714 P) :: (nat_lit 571, o_716 P) :: (nat_lit 572, o_717 P) :: (nat_lit 573, o_720 P) :: (nat_lit 576, o_723 P) :: (nat_lit 577, o_724 P) :: (nat_lit 578, o_725 P) :: (nat_lit 581, o_728 P) :: (nat_lit 582, o_729 P) :: (nat_lit 583, o_730 P) :: (nat_lit 585, o_732 P) :: (nat_lit 586, o_733 P) :: (nat_lit 588, o_735 P) :: (nat_lit 589, o_736 P) :: (nat_lit 590, o_737 P) :: (nat_lit 592, o_739 P) :: (nat_lit 593, o_740 P) :: (nat_lit 595, o_742 P) :: (nat_lit 596, o_743 P) :: (nat_lit 597, o_744 P) :: (nat_lit 600, o_747 P) :: (nat_lit 601, o_748 P) :: []
noncomputable def hd.view_39 : Program := { hd.PP with main := { hd.PP.main with body := [hd.stAt 0, hd.stAt 2, hd.stAt 3, hd.stAt 5, hd.stAt 7, hd.stAt 8, hd.stAt 9, hd.stAt 10, hd.stAt 11, hd.stAt 12, hd.stAt 13, hd.stAt 14, hd.stAt 15, hd.stAt 16, hd.stAt 17, hd.stAt 18, hd.stAt 19, hd.stAt 20, hd.stAt 21, hd.stAt 22, hd.stAt 23, hd.stAt 24, hd.stAt 25, hd.stAt 26, hd.stAt 27, hd.stAt 28, hd.stAt 29, hd.stAt 30, hd.stAt 32, hd.stAt 33, hd.stAt 34, hd.stAt 35, hd.stAt 36, hd.stAt 37, hd.stAt 39, hd.stAt 40, hd.stAt 42, hd.stAt 44, hd.stAt 45, hd.stAt 46, hd.stAt 47, hd.stAt 48, hd.stAt 49, hd.stAt 50, hd.stAt 51, hd.stAt 53, hd.stAt 55, hd.stAt 56, hd.stAt 57, hd.stAt 58, hd.stAt 59, hd.stAt 60, hd.stAt 61] } }
noncomputable abbrev hd.as : List Addr := [2, 3, 15, 17, 18, 20, 21, 29, 30, 31, 33, 34, 36, 37, 38, 40, 41, 43, 44, 45, 47, 48, 50, 51, 52, 54, 55, 57, 58, 59, 61, 62, 64, 65, 66, 67, 68, 69, 70, 73, 75, 76, 78, 79, 80, 87, 89, 90, 92, 93, 94, 95, 96, 97, 107, 109, 110, 112, 113, 114, 116, 117, 119, 120, 121, 123, 124, 126, 127, 128, 130, 131, 133, 134, 135, 137, 138, 140, 141, 142, 143, 144, 145, 146, 149, 152, 153, 154, 157, 158, 166, 167, 169, 170, 172, 173, 174, 176, 177, 179, 180, 181, 183, 184, 186, 187, 188, 190, 191, 193, 194, 195, 197, 198, 200, 201, 202, 204, 205, 207, 208, 209, 211, 212, 214, 215, 216, 218, 219, 221, 222, 223, 224, 225, 226, 227, 230, 232, 233, 235, 236, 237, 239, 240, 242, 243, 244, 246, 247, 249, 250, 258, 260, 261, 263, 264, 265, 266, 267, 268, 269, 272, 274, 275, 277, 278, 279, 281, 282, 284, 285, 286, 288, 289, 291, 292, 293, 295, 296, 298, 299, 300, 302, 303, 305, 306, 314, 316, 317, 319, 320, 321, 323, 324, 326, 327, 328, 330, 331, 333, 334, 335, 337, 338, 340, 341, 342, 344, 345, 347, 348, 349, 351, 352, 354, 355, 356, 358, 359, 361, 362, 363, 365, 366, 368, 369, 370, 372, 373, 375, 376, 377, 379, 380, 382, 383, 384, 386, 387, 389, 390, 391, 393, 394, 396, 397, 398, 400, 401, 403, 404, 405, 407, 408, 410, 411, 412, 414, 415, 417, 418, 419, 421, 422, 424, 425, 426, 428, 429, 431, 432, 433, 435, 436, 438, 439, 440, 441, 442, 443, 444, 447, 449, 450, 452, 453, 454, 455, 457, 458, 460, 461, 462, 464, 465, 467, 468, 469, 471, 472, 474, 475, 476, 478, 479, 481, 482, 483, 485, 486, 488, 489, 490, 492, 493, 495, 496, 497, 499, 500, 502, 503, 504, 506, 507, 509, 510, 511, 513, 514, 516, 517, 525, 526, 528, 529, 531, 532, 533, 535, 536, 538, 539, 540, 542, 543, 545, 546, 547, 549, 550, 552, 553, 554, 555, 556, 557, 558, 561, 564, 565, 566, 568, 569, 571, 572, 573, 576, 577, 578, 581, 582, 583, 585, 586, 588, 589, 590, 592, 593, 595, 596, 597, 600, 601]
noncomputable def hd.env : Env := { scope := hd.PP.main.scope, locals := mainNs, globals := mainNs, cells := [], code := .ref 13, frame := some 14 }
noncomputable abbrev hd.cE : Code := .body (behindTheImports hd.PP) hd.env
abbrev hd.p0 : Pos := { line := 0, col := 0, endLine := 0, endCol := 0 }
abbrev hd.pB : Pos := { line := 183, col := 0, endLine := 183, endCol := 8 }
abbrev hd.p1 : Pos := { line := 499, col := 0, endLine := 518, endCol := 15 }
theorem hd.pre (w : World) (os : OsState) : topGo treeTable hd.PP w 11 (some (.ref 6)) 12 (Shared.mk (boot_heap w.params) ⟨[]⟩ boot_drawn boot_toks os) (topStub hd.PP) =
    some (Shared.mk (hd.heap0 w.params) ⟨[]⟩ {} 187 os, ⟨denote treeTable hd.cE, hd.cE, hd.p0, [topFrame hd.p0]⟩) := by kernel_rfl
theorem hd.block (w : World) (os : OsState) : segRun treeTable hd.PP w 11 (some (.ref 6)) 1 1 (Shared.mk (hd.heap0 w.params) ⟨[]⟩ {} 187 os) (blockOf (behindTheImports hd.PP) hd.env hd.cE hd.p0 [topFrame hd.p0]) =
    some (.next, (SharedT.mk (hd.tree0 w.params) 15 {} ⟨[]⟩ {} 187 os).abs, hd.cE, hd.p0) := by kernel_rfl
theorem hd.groupA (w : World) (os : OsState) : segRunT treeTable hd.PP w 11 (some (.ref 6)) 1 2213 (SharedT.mk (hd.tree0 w.params) 15 {} ⟨[]⟩ {} 187 os) (piecesOf ((behindTheImports hd.PP).take 39) hd.env hd.cE hd.p0 [topFrame hd.p0]) =
    some (.next, SharedT.mk (hd.treeB w.params) 307 {} ⟨[]⟩ {} 649 os, hd.cE, hd.pB) := by kernel_rfl
theorem hd.groupB (w : World) (os : OsState) : segRunT treeTable hd.PP w 11 (some (.ref 6)) 1 1683 (SharedT.mk (hd.treeB w.params) 307 {} ⟨[]⟩ {} 649 os) (piecesOf ((behindTheImports hd.PP).drop 39) hd.env hd.cE hd.pB [topFrame hd.p0]) =
    some (.next, SharedT.mk (hd.tree1 w.params) 602 {} ⟨[]⟩ {} 1068 os, hd.cE, hd.p1) := by kernel_rfl
theorem hd.fin (w : World) (os : OsState) : topRun treeTable hd.PP w 11 (some (.ref 6)) 2 (SharedT.mk (hd.tree1 w.params) 602 {} ⟨[]⟩ {} 1068 os).abs ⟨doneF .next, hd.cE, hd.p1, [topFrame hd.p0]⟩ =
    some (Shared.mk (hd.heap1 w.params) ⟨[]⟩ {} 1068 os) := by kernel_rfl
theorem hd.run (w : World) (os : OsState) : topRun treeTable hd.PP w 11 (some (.ref 6)) (12 + (1 + (2213 + (1683 + 2)))) (Shared.mk (boot_heap w.params) ⟨[]⟩ boot_drawn boot_toks os) (topStub hd.PP) = some (Shared.mk (hd.heap1 w.params) ⟨[]⟩ {} 1068 os) := by
  refine go_top (hd.pre w os) (piece_block (hd.block w os) ?_)
  have k := piece_app (segRun_of (hd.groupA w os)) (piece_app (rest := []) (segRun_of (hd.groupB w os)) (hd.fin w os))
  rw [List.append_nil, List.take_append_drop] at k
  exact k
theorem hd.eq0 : opening hd.PP = plainProg hd.PP.main.scope.names := by kernel_rfl
theorem hd.fence (s : Shared) : fenceModules? hd.PP s = some s := by kernel_rfl
theorem hd.size (w : World) : ((boot_heap w.params).isNs mainGlobals && (⟨[]⟩ : Array GenState).size == 0, (boot_heap w.params).objs.size, (boot_heap w.params).nsMap mainGlobals "__annotations__") = (true, 11, some (.ref 6)) := by kernel_rfl
noncomputable abbrev hd.H : Hook := kHook hd.heap_39 hd.as (fun _ => by kernel_rfl)
abbrev hd.loose : List Str := ["ParseState", "parse_partial"]
noncomputable abbrev hd.Xt : Shared → Bool := fun s => xlAt hd.view_39 [] s && recOk (RowW.records PySem.Challenge.rw_np0091_01.row.toRowW) s
noncomputable abbrev hd.S1 (w : World) (os : OsState) : Shared := Shared.mk (hd.heap1 w.params) ⟨[]⟩ {} 1068 os
theorem hd.l1 (w : World) (os : OsState) : (staticsOk (importedModules hd.PP.main.body) (boot_heap w.params) (hd.heap1 w.params) && namesBound hd.PP (hd.heap1 w.params) && gensDone (hd.S1 w os) && laidKept (boot_heap w.params) (hd.heap1 w.params)) = true := by kernel_rfl
theorem hd.l2 (w : World) (os : OsState) : seen ((recsOf hd.view_39).map (·.name)) (ownsOf hd.view_39) [] { hd.S1 w os with gens := #[] } = expectedOf hd.view_39 := by kernel_rfl
theorem hd.l3 (w : World) (os : OsState) : ((hd.S1 w os).heap.bltView,
   (hd.S1 w os).heap.keysOk (looseW hd.view_39 hd.loose) ((recsOf hd.view_39).map (·.name)) ((litsOf hd.view_39).map (·.1)) ((clssOf hd.view_39 (looseW hd.view_39 hd.loose)).map (·.name)) && (hd.S1 w os).heap.accountedOkI (importedModules hd.PP.main.body) && (hd.S1 w os).heap.isNs mainGlobals && (hd.S1 w os).heap.isNs builtinsNs && tablesOk hd.view_39 (hd.S1 w os).heap && hd.Xt (hd.S1 w os) && (if true then (hd.S1 w os).gens.size == 0 else !leftWithCleanup (hd.S1 w os).gens)) =
  (bltViewBooted, true) := by kernel_rfl
theorem hd.l4 (w : World) (os : OsState) : (tabsOk hd.view_39 (hd.S1 w os), pinSeenD hd.view_39 (drecsOf hd.view_39) (hd.S1 w os)) = (true, pinGoodD (drecsOf hd.view_39)) := by kernel_rfl
theorem hd.l5 (w : World) (os : OsState) : plainSeenE hd.view_39 (looseW hd.view_39 hd.loose) (hd.S1 w os) = plainGoodE hd.view_39 (looseW hd.view_39 hd.loose) := by kernel_rfl
theorem hd.l6 (w : World) (os : OsState) : (plainSeenD hd.view_39 hd.loose (hd.S1 w os), wideSeen hd.view_39 (hd.S1 w os), clsSeenW hd.view_39 hd.loose (hd.S1 w os)) =
  (plainGoodD hd.view_39 hd.loose, wideGood hd.view_39, clsGoodW hd.view_39 hd.loose) := by kernel_rfl
-- one pass over the list for addresses in rising order
noncomputable def hd.seenO : Obj → Option Obj
  | ⟨_, _, .freed, _⟩ => none
  | o => some o
noncomputable def hd.pick : List Obj → Nat → List Nat → Option (List (Option Obj))
  | _, _, [] => some []
  | [], _, _ :: _ => none
  | o :: l, i, a :: as => match Nat.beq a i with
    | true => match hd.pick l (i + 1) as with
      | some r => some (hd.seenO o :: r)
      | none => none
    | false => hd.pick l (i + 1) (a :: as)
theorem hd.pick_ok (h : Heap) : ∀ (l : List Obj) (i : Nat) (as : List Nat) (r : List (Option Obj)), h.objs.toList.drop i = l → hd.pick l i as = some r → as.map h.get? = r
  | _, _, [], r, _, k => by unfold hd.pick at k; cases k; rfl
  | [], _, _ :: _, r, _, k => by unfold hd.pick at k; cases k
  | o :: l, i, a :: as, r, e, k => by
    unfold hd.pick at k
    have n : h.objs.toList.drop (i + 1) = l := by rw [← List.drop_drop, e]; rfl
    cases q : Nat.beq a i with
    | false => rw [q] at k; exact hd.pick_ok h l (i + 1) (a :: as) r n k
    | true =>
      rw [q] at k
      cases p : hd.pick l (i + 1) as with
      | none => rw [p] at k; cases k
      | some r' =>
        rw [p] at k; cases k
        have z := Nat.eq_of_beq_eq_true q
        subst z
        rw [List.map_cons, hd.pick_ok h l (a + 1) as r' n p]
        have z : h.objs[a]? = some o := by
          have k : (h.objs.toList.drop a)[0]? = some o := by rw [e]; rfl
          rwa [List.getElem?_drop, Nat.add_zero, Array.getElem?_toList] at k
        have y : h.get? a = hd.seenO o := by
          unfold Heap.get? hd.seenO
          rw [z]
          rcases o with ⟨_, _, c, _⟩
          cases c <;> rfl
        rw [y]
theorem hd.l7 (w : World) (os : OsState) : hd.H.obs (hd.S1 w os) = hd.H.val w :=
  hd.pick_ok (hd.heap1 w.params) _ 0 hd.as _ rfl (show hd.pick (hd.heap1 w.params).objs.toList 0 hd.as = some (hd.H.val w) by kernel_rfl)
theorem hd.opn {q : Program} {loose mods : List Str} {Xt : Shared → Bool} {s : Shared} (a : seen ((recsOf q).map (·.name)) (ownsOf q) [] { s with gens := #[] } = expectedOf q)
   (b : (s.heap.bltView, s.heap.keysOk (looseW q loose) ((recsOf q).map (·.name)) ((litsOf q).map (·.1)) ((clssOf q (looseW q loose)).map (·.name)) && s.heap.accountedOkI mods && s.heap.isNs mainGlobals && s.heap.isNs builtinsNs && tablesOk q s.heap && Xt s && (if true then s.gens.size == 0 else !leftWithCleanup s.gens)) = (bltViewBooted, true))
   (c : (tabsOk q s, pinSeenD q (drecsOf q) s) = (true, pinGoodD (drecsOf q))) (d : plainSeenE q (looseW q loose) s = plainGoodE q (looseW q loose))
   (e : (plainSeenD q loose s, wideSeen q s, clsSeenW q loose s) = (plainGoodD q loose, wideGood q, clsGoodW q loose)) : openSeen q loose mods Xt true s = openGood q loose := by
  rw [Prod.mk.injEq] at b c
  unfold openSeen openGood
  rw [a, b.1, b.2, c.1, c.2, d, e]
theorem hd.looks (w : World) : (fun os => ((staticsOk (importedModules hd.PP.main.body) (boot_heap w.params) (hd.heap1 w.params) && namesBound hd.PP (hd.heap1 w.params) && gensDone (Shared.mk (hd.heap1 w.params) ⟨[]⟩ {} 1068 os) && laidKept (boot_heap w.params) (hd.heap1 w.params)),
    openSeen hd.view_39 hd.loose (importedModules hd.PP.main.body) hd.Xt true (Shared.mk (hd.heap1 w.params) ⟨[]⟩ {} 1068 os), hd.H.obs (Shared.mk (hd.heap1 w.params) ⟨[]⟩ {} 1068 os))) = fun _ => (true, openGood hd.view_39 hd.loose, hd.H.val w) :=
  funext fun os => Prod.ext (hd.l1 w os) (Prod.ext (hd.opn (hd.l2 w os) (hd.l3 w os) (hd.l4 w os) (hd.l5 w os) (hd.l6 w os)) (hd.l7 w os))
theorem hd.left : LeftO hd.PP hd.view_39 hd.loose hd.Xt hd.H.obs hd.H.val 7910 :=
  LeftO.of_pieces (boot_open hd.eq0 (by decide +kernel) hd.fence) hd.size hd.run (by decide +kernel) hd.looks
theorem hd.s1 : namesResolve PySem.Challenge.rw_np0091_01.row.prog = true := by kernel_rfl
theorem hd.s2 : (["vars", "dir", "locals"] : List Str).filter (readsOut PySem.Challenge.rw_np0091_01.row.prog PySem.Challenge.rw_np0091_01.row.prog.main.body) = [] := by kernel_rfl
theorem hd.s3 : (importedModules PySem.Challenge.rw_np0091_01.row.prog.main.body).all cThrough.contains = true := by kernel_rfl
theorem hd.s4 : noRoadLSs { strict := !true, foot := none, bare := [] } PySem.Challenge.rw_np0091_01.row.prog.main.body = true := by kernel_rfl
theorem hd.s5 : (namesMeet PySem.Challenge.rw_np0091_01.row.prog PySem.Challenge.rw_np0091_01.row.prog.main.body fun _ n => attrL n) = true := by kernel_rfl
theorem hd.s6 : looksOpen PySem.Challenge.rw_np0091_01.row.prog = true := by
  unfold looksOpen
  rw [hd.s1, hd.s2, hd.s3, hd.s4, hd.s5]
  kernel_rfl
theorem hd.s7 : (PySem.Challenge.rw_np0091_01.bound'.all fun n => !builtinNamed n || PySem.Challenge.rw_np0091_01.about == [n] || !PySem.Challenge.rw_np0091_01.reads n) = true := by kernel_rfl
theorem hd.s8 : (namesMeet PySem.Challenge.rw_np0091_01.prog PySem.Challenge.rw_np0091_01.above (fun _ n => !PySem.Challenge.rw_np0091_01.own.contains n)) = true := by kernel_rfl
theorem hd.said : PySem.Challenge.rw_np0091_01.wellSaid = true := by
  unfold OpenLaw.wellSaid OpenRow.wellSaid OpenRow.partSaid
  rw [hd.s6, hd.s7, hd.s8]
  kernel_rfl
end
section
theorem fill_ (p : Params) : ((hd.heap_39 p).In default → PySem.Challenge.rw_np0091_01.prog = PySem.Challenge.rw_np0091_01.prog) := by
  k_fill
  intro _; rfl
abbrev P : Program := PySem.Challenge.rw_np0091_01.prog
section
variable (w : World)
def fParseState : List Str := ["opens", "below", "least", "whole", "word", "string", "comment", "style", "nests", "start", "quoted", "half"]
theorem C_ParseState : Cls (hd.heap_39 w.params) 68 fParseState := ⟨by decide, by k_is, by k_is, by k_is, by k_is, by
  intro x hx
  rcases List.mem_cons.mp hx with rfl | hx
  · k_is
  rcases List.mem_cons.mp hx with rfl | hx
  · k_is
  rcases List.mem_cons.mp hx with rfl | hx
  · k_is
  rcases List.mem_cons.mp hx with rfl | hx
  · k_is
  rcases List.mem_cons.mp hx with rfl | hx
  · k_is
  rcases List.mem_cons.mp hx with rfl | hx
  · k_is
  rcases List.mem_cons.mp hx with rfl | hx
  · k_is
  rcases List.mem_cons.mp hx with rfl | hx
  · k_is
  rcases List.mem_cons.mp hx with rfl | hx
  · k_is
  rcases List.mem_cons.mp hx with rfl | hx
  · k_is
  rcases List.mem_cons.mp hx with rfl | hx
  · k_is
  rcases List.mem_cons.mp hx with rfl | hx
  · k_is
  cases hx⟩
theorem M_ParseState_depth : Meth (hd.heap_39 w.params) 68 fParseState "depth" 44 := ⟨by k_is, by k_is, by decide⟩
theorem M_ParseState_is_plain : Meth (hd.heap_39 w.params) 68 fParseState "is_plain" 58 := ⟨by k_is, by k_is, by decide⟩
theorem KM_ParseState_depth : keepIn (hd.heap_39 w.params) (.ref 44) = true := by k_is
theorem KM_ParseState_is_plain : keepIn (hd.heap_39 w.params) (.ref 58) = true := by k_is
theorem MK_ParseState : makesIn (hd.heap_39 w.params) 68 = true ∧ findIn (hd.heap_39 w.params) (.ref 68) "__init__" = some (some (.ref 37)) ∧ isFn (hd.heap_39 w.params) (.ref 37) = true := ⟨by k_is, by k_is, by k_is⟩
def fSyntax : List Str := ["kind", "match", "flags"]
theorem C_Syntax : Cls (hd.heap_39 w.params) 144 fSyntax := ⟨by decide, by k_is, by k_is, by k_is, by k_is, by
  intro x hx
  rcases List.mem_cons.mp hx with rfl | hx
  · k_is
  rcases List.mem_cons.mp hx with rfl | hx
  · k_is
  rcases List.mem_cons.mp hx with rfl | hx
  · k_is
  cases hx⟩
theorem M_Syntax_has : Meth (hd.heap_39 w.params) 144 fSyntax "has" 120 := ⟨by k_is, by k_is, by decide⟩
theorem M_Syntax_is_escape : Meth (hd.heap_39 w.params) 144 fSyntax "is_escape" 127 := ⟨by k_is, by k_is, by decide⟩
theorem M_Syntax_is_word_part : Meth (hd.heap_39 w.params) 144 fSyntax "is_word_part" 134 := ⟨by k_is, by k_is, by decide⟩
theorem M_Syntax_style : Meth (hd.heap_39 w.params) 144 fSyntax "style" 141 := ⟨by k_is, by k_is, by decide⟩
theorem KM_Syntax_has : keepIn (hd.heap_39 w.params) (.ref 120) = true := by k_is
theorem KM_Syntax_is_escape : keepIn (hd.heap_39 w.params) (.ref 127) = true := by k_is
theorem KM_Syntax_is_word_part : keepIn (hd.heap_39 w.params) (.ref 134) = true := by k_is
theorem KM_Syntax_style : keepIn (hd.heap_39 w.params) (.ref 141) = true := by k_is
theorem MK_Syntax : makesIn (hd.heap_39 w.params) 144 = true ∧ findIn (hd.heap_39 w.params) (.ref 144) "__init__" = some (some (.ref 113)) ∧ isFn (hd.heap_39 w.params) (.ref 113) = true := ⟨by k_is, by k_is, by k_is⟩
def fSyntaxTable : List Str := ["parent", "rows"]
theorem C_SyntaxTable : Cls (hd.heap_39 w.params) 225 fSyntaxTable := ⟨by decide, by k_is, by k_is, by k_is, by k_is, by
  intro x hx
  rcases List.mem_cons.mp hx with rfl | hx
  · k_is
  rcases List.mem_cons.mp hx with rfl | hx
  · k_is
  cases hx⟩
theorem M_SyntaxTable_modify_all : Meth (hd.heap_39 w.params) 225 fSyntaxTable "modify_all" 187 := ⟨by k_is, by k_is, by decide⟩
theorem M_SyntaxTable_own : Meth (hd.heap_39 w.params) 225 fSyntaxTable "own" 201 := ⟨by k_is, by k_is, by decide⟩
theorem M_SyntaxTable_at : Meth (hd.heap_39 w.params) 225 fSyntaxTable "at" 208 := ⟨by k_is, by k_is, by decide⟩
theorem KM_SyntaxTable_modify_all : keepIn (hd.heap_39 w.params) (.ref 187) = true := by k_is
theorem KM_SyntaxTable_own : keepIn (hd.heap_39 w.params) (.ref 201) = true := by k_is
theorem KM_SyntaxTable_at : keepIn (hd.heap_39 w.params) (.ref 208) = true := by k_is
theorem MK_SyntaxTable : makesIn (hd.heap_39 w.params) 225 = true ∧ findIn (hd.heap_39 w.params) (.ref 225) "__init__" = some (some (.ref 173)) ∧ isFn (hd.heap_39 w.params) (.ref 173) = true := ⟨by k_is, by k_is, by k_is⟩
def fMark : List Str := ["length", "style", "nests", "is_fence"]
theorem C_Mark : Cls (hd.heap_39 w.params) 267 fMark := ⟨by decide, by k_is, by k_is, by k_is, by k_is, by
  intro x hx
  rcases List.mem_cons.mp hx with rfl | hx
  · k_is
  rcases List.mem_cons.mp hx with rfl | hx
  · k_is
  rcases List.mem_cons.mp hx with rfl | hx
  · k_is
  rcases List.mem_cons.mp hx with rfl | hx
  · k_is
  cases hx⟩
theorem MK_Mark : makesIn (hd.heap_39 w.params) 267 = true ∧ findIn (hd.heap_39 w.params) (.ref 267) "__init__" = some (some (.ref 264)) ∧ isFn (hd.heap_39 w.params) (.ref 264) = true := ⟨by k_is, by k_is, by k_is⟩
def fWalk : List Str := ["view", "table", "place", "opens", "below", "least", "whole", "word", "string", "comment", "style", "nests", "start", "quoted", "half"]
theorem C_Walk : Cls (hd.heap_39 w.params) 442 fWalk := ⟨by decide, by k_is, by k_is, by k_is, by k_is, by
  intro x hx
  rcases List.mem_cons.mp hx with rfl | hx
  · k_is
  rcases List.mem_cons.mp hx with rfl | hx
  · k_is
  rcases List.mem_cons.mp hx with rfl | hx
  · k_is
  rcases List.mem_cons.mp hx with rfl | hx
  · k_is
  rcases List.mem_cons.mp hx with rfl | hx
  · k_is
  rcases List.mem_cons.mp hx with rfl | hx
  · k_is
  rcases List.mem_cons.mp hx with rfl | hx
  · k_is
  rcases List.mem_cons.mp hx with rfl | hx
  · k_is
  rcases List.mem_cons.mp hx with rfl | hx
  · k_is
  rcases List.mem_cons.mp hx with rfl | hx
  · k_is
  rcases List.mem_cons.mp hx with rfl | hx
  · k_is
  rcases List.mem_cons.mp hx with rfl | hx
  · k_is
  rcases List.mem_cons.mp hx with rfl | hx
  · k_is
  rcases List.mem_cons.mp hx with rfl | hx
  · k_is
  rcases List.mem_cons.mp hx with rfl | hx
  · k_is
  cases hx⟩
theorem M_Walk_state : Meth (hd.heap_39 w.params) 442 fWalk "state" 327 := ⟨by k_is, by k_is, by decide⟩
theorem M_Walk_depth : Meth (hd.heap_39 w.params) 442 fWalk "depth" 334 := ⟨by k_is, by k_is, by decide⟩
theorem M_Walk_end_word : Meth (hd.heap_39 w.params) 442 fWalk "end_word" 341 := ⟨by k_is, by k_is, by decide⟩
theorem M_Walk_begin_word : Meth (hd.heap_39 w.params) 442 fWalk "begin_word" 348 := ⟨by k_is, by k_is, by decide⟩
theorem M_Walk_open_at : Meth (hd.heap_39 w.params) 442 fWalk "open_at" 355 := ⟨by k_is, by k_is, by decide⟩
theorem M_Walk_begin_comment : Meth (hd.heap_39 w.params) 442 fWalk "begin_comment" 369 := ⟨by k_is, by k_is, by decide⟩
theorem M_Walk_leave_comment : Meth (hd.heap_39 w.params) 442 fWalk "leave_comment" 376 := ⟨by k_is, by k_is, by decide⟩
theorem M_Walk_begin_string : Meth (hd.heap_39 w.params) 442 fWalk "begin_string" 383 := ⟨by k_is, by k_is, by decide⟩
theorem M_Walk_end_string : Meth (hd.heap_39 w.params) 442 fWalk "end_string" 390 := ⟨by k_is, by k_is, by decide⟩
theorem M_Walk_take : Meth (hd.heap_39 w.params) 442 fWalk "take" 397 := ⟨by k_is, by k_is, by decide⟩
theorem M_Walk_step_in_comment : Meth (hd.heap_39 w.params) 442 fWalk "step_in_comment" 404 := ⟨by k_is, by k_is, by decide⟩
theorem M_Walk_step_in_string : Meth (hd.heap_39 w.params) 442 fWalk "step_in_string" 411 := ⟨by k_is, by k_is, by decide⟩
theorem M_Walk_step_plain : Meth (hd.heap_39 w.params) 442 fWalk "step_plain" 425 := ⟨by k_is, by k_is, by decide⟩
theorem M_Walk_step_by_kind : Meth (hd.heap_39 w.params) 442 fWalk "step_by_kind" 432 := ⟨by k_is, by k_is, by decide⟩
theorem M_Walk_step : Meth (hd.heap_39 w.params) 442 fWalk "step" 439 := ⟨by k_is, by k_is, by decide⟩
theorem KM_Walk_state : keepIn (hd.heap_39 w.params) (.ref 327) = true := by k_is
theorem KM_Walk_depth : keepIn (hd.heap_39 w.params) (.ref 334) = true := by k_is
theorem KM_Walk_end_word : keepIn (hd.heap_39 w.params) (.ref 341) = true := by k_is
theorem KM_Walk_begin_word : keepIn (hd.heap_39 w.params) (.ref 348) = true := by k_is
theorem KM_Walk_open_at : keepIn (hd.heap_39 w.params) (.ref 355) = true := by k_is
theorem KM_Walk_begin_comment : keepIn (hd.heap_39 w.params) (.ref 369) = true := by k_is
theorem KM_Walk_leave_comment : keepIn (hd.heap_39 w.params) (.ref 376) = true := by k_is
theorem KM_Walk_begin_string : keepIn (hd.heap_39 w.params) (.ref 383) = true := by k_is
theorem KM_Walk_end_string : keepIn (hd.heap_39 w.params) (.ref 390) = true := by k_is
theorem KM_Walk_take : keepIn (hd.heap_39 w.params) (.ref 397) = true := by k_is
theorem KM_Walk_step_in_comment : keepIn (hd.heap_39 w.params) (.ref 404) = true := by k_is
theorem KM_Walk_step_in_string : keepIn (hd.heap_39 w.params) (.ref 411) = true := by k_is
theorem KM_Walk_step_plain : keepIn (hd.heap_39 w.params) (.ref 425) = true := by k_is
theorem KM_Walk_step_by_kind : keepIn (hd.heap_39 w.params) (.ref 432) = true := by k_is
theorem KM_Walk_step : keepIn (hd.heap_39 w.params) (.ref 439) = true := by k_is
theorem MK_Walk : makesIn (hd.heap_39 w.params) 442 = true ∧ findIn (hd.heap_39 w.params) (.ref 442) "__init__" = some (some (.ref 320)) ∧ isFn (hd.heap_39 w.params) (.ref 320) = true := ⟨by k_is, by k_is, by k_is⟩
def fTextRow : List Str := ["codes", "place"]
theorem C_TextRow : Cls (hd.heap_39 w.params) 556 fTextRow := ⟨by decide, by k_is, by k_is, by k_is, by k_is, by
  intro x hx
  rcases List.mem_cons.mp hx with rfl | hx
  · k_is
  rcases List.mem_cons.mp hx with rfl | hx
  · k_is
  cases hx⟩
theorem M_TextRow_begin : Meth (hd.heap_39 w.params) 556 fTextRow "begin" 539 := ⟨by k_is, by k_is, by decide⟩
theorem M_TextRow_end : Meth (hd.heap_39 w.params) 556 fTextRow "end" 546 := ⟨by k_is, by k_is, by decide⟩
theorem M_TextRow_code_at : Meth (hd.heap_39 w.params) 556 fTextRow "code_at" 553 := ⟨by k_is, by k_is, by decide⟩
theorem KM_TextRow_begin : keepIn (hd.heap_39 w.params) (.ref 539) = true := by k_is
theorem KM_TextRow_end : keepIn (hd.heap_39 w.params) (.ref 546) = true := by k_is
theorem KM_TextRow_code_at : keepIn (hd.heap_39 w.params) (.ref 553) = true := by k_is
theorem MK_TextRow : makesIn (hd.heap_39 w.params) 556 = true ∧ findIn (hd.heap_39 w.params) (.ref 556) "__init__" = some (some (.ref 532)) ∧ isFn (hd.heap_39 w.params) (.ref 532) = true := ⟨by k_is, by k_is, by k_is⟩
theorem G_state_of : GFun (hd.heap_39 w.params) "state_of" 79 := ⟨by k_is, by k_is⟩
theorem G_sorted_flags : GFun (hd.heap_39 w.params) "sorted_flags" 153 := ⟨by k_is, by k_is⟩
theorem G_read_syntax : GFun (hd.heap_39 w.params) "read_syntax" 158 := ⟨by k_is, by k_is⟩
theorem G_letters : GFun (hd.heap_39 w.params) "letters" 236 := ⟨by k_is, by k_is⟩
theorem G_standard_table : GFun (hd.heap_39 w.params) "standard_table" 243 := ⟨by k_is, by k_is⟩
theorem G_slash_table : GFun (hd.heap_39 w.params) "slash_table" 250 := ⟨by k_is, by k_is⟩
theorem G_syntax_at : GFun (hd.heap_39 w.params) "syntax_at" 278 := ⟨by k_is, by k_is⟩
theorem G_pair_style : GFun (hd.heap_39 w.params) "pair_style" 285 := ⟨by k_is, by k_is⟩
theorem G_begin_mark : GFun (hd.heap_39 w.params) "begin_mark" 292 := ⟨by k_is, by k_is⟩
theorem G_end_mark : GFun (hd.heap_39 w.params) "end_mark" 299 := ⟨by k_is, by k_is⟩
theorem G_fits : GFun (hd.heap_39 w.params) "fits" 306 := ⟨by k_is, by k_is⟩
theorem G_parse_partial : GFun (hd.heap_39 w.params) "parse_partial" 461 := ⟨by k_is, by k_is⟩
theorem G_state_at : GFun (hd.heap_39 w.params) "state_at" 468 := ⟨by k_is, by k_is⟩
theorem G_comment_end : GFun (hd.heap_39 w.params) "comment_end" 475 := ⟨by k_is, by k_is⟩
theorem G_spans_to : GFun (hd.heap_39 w.params) "spans_to" 482 := ⟨by k_is, by k_is⟩
theorem G_is_blank : GFun (hd.heap_39 w.params) "is_blank" 489 := ⟨by k_is, by k_is⟩
theorem G_past_comment : GFun (hd.heap_39 w.params) "past_comment" 496 := ⟨by k_is, by k_is⟩
theorem G_before_comment : GFun (hd.heap_39 w.params) "before_comment" 503 := ⟨by k_is, by k_is⟩
theorem G_forward_comment : GFun (hd.heap_39 w.params) "forward_comment" 510 := ⟨by k_is, by k_is⟩
theorem G_comment_bounds : GFun (hd.heap_39 w.params) "comment_bounds" 517 := ⟨by k_is, by k_is⟩
theorem G_law_deck : GFun (hd.heap_39 w.params) "_law_deck" 565 := ⟨by k_is, by k_is⟩
theorem G_law_draw : GFun (hd.heap_39 w.params) "_law_draw" 572 := ⟨by k_is, by k_is⟩
theorem G_law_many : GFun (hd.heap_39 w.params) "_law_many" 577 := ⟨by k_is, by k_is⟩
theorem G_law_part : GFun (hd.heap_39 w.params) "_law_part" 582 := ⟨by k_is, by k_is⟩
theorem G_law_forward : GFun (hd.heap_39 w.params) "_law_forward" 589 := ⟨by k_is, by k_is⟩
theorem G_law_backward : GFun (hd.heap_39 w.params) "_law_backward" 596 := ⟨by k_is, by k_is⟩
theorem G_ParseState : GFun (hd.heap_39 w.params) "ParseState" 68 := ⟨by k_is, by k_is⟩
theorem G_Syntax : GFun (hd.heap_39 w.params) "Syntax" 144 := ⟨by k_is, by k_is⟩
theorem G_SyntaxTable : GFun (hd.heap_39 w.params) "SyntaxTable" 225 := ⟨by k_is, by k_is⟩
theorem G_Mark : GFun (hd.heap_39 w.params) "Mark" 267 := ⟨by k_is, by k_is⟩
theorem G_Walk : GFun (hd.heap_39 w.params) "Walk" 442 := ⟨by k_is, by k_is⟩
theorem G_TextRow : GFun (hd.heap_39 w.params) "TextRow" 556 := ⟨by k_is, by k_is⟩
theorem V_WHITESPACE : nsIn (hd.heap_39 w.params) mainGlobals "WHITESPACE" = some (some (.str " " 335)) := by k_is
theorem V_WORD : nsIn (hd.heap_39 w.params) mainGlobals "WORD" = some (some (.str "w" 337)) := by k_is
theorem V_SYMBOL : nsIn (hd.heap_39 w.params) mainGlobals "SYMBOL" = some (some (.str "_" 339)) := by k_is
theorem V_PUNCTUATION : nsIn (hd.heap_39 w.params) mainGlobals "PUNCTUATION" = some (some (.str "." 341)) := by k_is
theorem V_OPENS : nsIn (hd.heap_39 w.params) mainGlobals "OPENS" = some (some (.str "(" 343)) := by k_is
theorem V_CLOSES : nsIn (hd.heap_39 w.params) mainGlobals "CLOSES" = some (some (.str ")" 345)) := by k_is
theorem V_PREFIX : nsIn (hd.heap_39 w.params) mainGlobals "PREFIX" = some (some (.str "'" 347)) := by k_is
theorem V_STRING : nsIn (hd.heap_39 w.params) mainGlobals "STRING" = some (some (.str "\"" 349)) := by k_is
theorem V_ESCAPE : nsIn (hd.heap_39 w.params) mainGlobals "ESCAPE" = some (some (.str "\\" 351)) := by k_is
theorem V_QUOTES : nsIn (hd.heap_39 w.params) mainGlobals "QUOTES" = some (some (.str "/" 353)) := by k_is
theorem V_BEGINS : nsIn (hd.heap_39 w.params) mainGlobals "BEGINS" = some (some (.str "<" 355)) := by k_is
theorem V_ENDS : nsIn (hd.heap_39 w.params) mainGlobals "ENDS" = some (some (.str ">" 357)) := by k_is
theorem V_INHERITS : nsIn (hd.heap_39 w.params) mainGlobals "INHERITS" = some (some (.str "@" 359)) := by k_is
theorem V_COMMENT_FENCE : nsIn (hd.heap_39 w.params) mainGlobals "COMMENT_FENCE" = some (some (.str "!" 361)) := by k_is
theorem V_STRING_FENCE : nsIn (hd.heap_39 w.params) mainGlobals "STRING_FENCE" = some (some (.str "|" 363)) := by k_is
theorem V_KINDS : nsIn (hd.heap_39 w.params) mainGlobals "KINDS" = some (some (.str " w_.()'\"\\/$<>@!|" 365)) := by k_is
theorem V_FLAGS : nsIn (hd.heap_39 w.params) mainGlobals "FLAGS" = some (some (.str "1234bcnp" 367)) := by k_is
theorem V_NEW_LINE : nsIn (hd.heap_39 w.params) mainGlobals "NEW_LINE" = some (some (.int 10 870)) := by k_is
theorem B_len : nsIn (hd.heap_39 w.params) mainGlobals "len" = some none := by k_is
theorem BB_len : bootBuiltins "len" = some (.builtin "len") := by boot_by_name
theorem B_list : nsIn (hd.heap_39 w.params) mainGlobals "list" = some none := by k_is
theorem BB_list : bootBuiltins "list" = some (.type "list") := by boot_by_name
theorem B_tuple : nsIn (hd.heap_39 w.params) mainGlobals "tuple" = some none := by k_is
theorem BB_tuple : bootBuiltins "tuple" = some (.type "tuple") := by boot_by_name
theorem B_ord : nsIn (hd.heap_39 w.params) mainGlobals "ord" = some none := by k_is
theorem BB_ord : bootBuiltins "ord" = some (.builtin "ord") := by boot_by_name
theorem B_all : nsIn (hd.heap_39 w.params) mainGlobals "all" = some none := by k_is
theorem BB_all : bootBuiltins "all" = some (.builtin "all") := by boot_by_name
theorem B_range : nsIn (hd.heap_39 w.params) mainGlobals "range" = some none := by k_is
theorem BB_range : bootBuiltins "range" = some (.type "range") := by boot_by_name
end
end
section
local macro_rules | `(tactic| kit_nb) => `(tactic| first | with_reducible exact Mem.head | ((with_reducible refine' Mem.tail ?a); (case a => kit_nb)))
local macro_rules | `(tactic| k_cls) => `(tactic| first | with_reducible exact Upd.head | ((with_reducible refine' Upd.tail ?a); (case a => k_cls)))
local macro_rules | `(tactic| k_ne) => `(tactic| first | with_reducible exact Put.head | ((with_reducible refine' Put.tail ?a); (case a => k_ne)))
local macro_rules | `(tactic| k_same) => `(tactic| first | with_reducible assumption | with_reducible exact in_head | ((with_reducible refine' in_tail ?a); (case a => k_same)))
local macro_rules | `(tactic| k_same2) => `(tactic| first | with_reducible exact sin_head | ((with_reducible refine' sin_tail ?a); (case a => k_same2)))
local macro_rules | `(tactic| subst $ts*) => do
  let ts ← ts.mapM kq_stp
  `(tactic| first $[| $ts:tactic]* | fail)
local macro_rules | `(tactic| kba_same) => `(tactic| subst (C_ParseState _) (C_Syntax _) (C_SyntaxTable _) (C_Mark _) (C_Walk _) (C_TextRow _))
local macro_rules | `(tactic| kd_above) => `(tactic| subst (G_state_of _) (G_sorted_flags _) (G_read_syntax _) (G_letters _) (G_standard_table _) (G_slash_table _) (G_syntax_at _) (G_pair_style _) (G_begin_mark _) (G_end_mark _) (G_fits _) (G_parse_partial _) (G_state_at _) (G_comment_end _) (G_spans_to _) (G_is_blank _) (G_past_comment _) (G_before_comment _) (G_forward_comment _) (G_comment_bounds _) (G_law_deck _) (G_law_draw _) (G_law_many _) (G_law_part _) (G_law_forward _) (G_law_backward _) (G_ParseState _) (G_Syntax _) (G_SyntaxTable _) (G_Mark _) (G_Walk _) (G_TextRow _))
local macro_rules | `(tactic| fold_side) => `(tactic| subst (M_ParseState_depth _) (M_ParseState_is_plain _) (M_Syntax_has _) (M_Syntax_is_escape _) (M_Syntax_is_word_part _) (M_Syntax_style _) (M_SyntaxTable_modify_all _) (M_SyntaxTable_own _) (M_SyntaxTable_at _) (M_Walk_state _) (M_Walk_depth _) (M_Walk_end_word _) (M_Walk_begin_word _) (M_Walk_open_at _) (M_Walk_begin_comment _) (M_Walk_leave_comment _) (M_Walk_begin_string _) (M_Walk_end_string _) (M_Walk_take _) (M_Walk_step_in_comment _) (M_Walk_step_in_string _) (M_Walk_step_plain _) (M_Walk_step_by_kind _) (M_Walk_step _) (M_TextRow_begin _) (M_TextRow_end _) (M_TextRow_code_at _))
local macro_rules | `(tactic| fold_adds) => `(tactic| subst (KM_ParseState_depth _) (KM_ParseState_is_plain _) (KM_Syntax_has _) (KM_Syntax_is_escape _) (KM_Syntax_is_word_part _) (KM_Syntax_style _) (KM_SyntaxTable_modify_all _) (KM_SyntaxTable_own _) (KM_SyntaxTable_at _) (KM_Walk_state _) (KM_Walk_depth _) (KM_Walk_end_word _) (KM_Walk_begin_word _) (KM_Walk_open_at _) (KM_Walk_begin_comment _) (KM_Walk_leave_comment _) (KM_Walk_begin_string _) (KM_Walk_end_string _) (KM_Walk_take _) (KM_Walk_step_in_comment _) (KM_Walk_step_in_string _) (KM_Walk_step_plain _) (KM_Walk_step_by_kind _) (KM_Walk_step _) (KM_TextRow_begin _) (KM_TextRow_end _) (KM_TextRow_code_at _))
local macro_rules | `(tactic| ki_rest) => `(tactic| subst (V_WHITESPACE _) (V_WORD _) (V_SYMBOL _) (V_PUNCTUATION _) (V_OPENS _) (V_CLOSES _) (V_PREFIX _) (V_STRING _) (V_ESCAPE _) (V_QUOTES _) (V_BEGINS _) (V_ENDS _) (V_INHERITS _) (V_COMMENT_FENCE _) (V_STRING_FENCE _) (V_KINDS _) (V_FLAGS _) (V_NEW_LINE _))
local macro_rules | `(tactic| kby_none) => `(tactic| first
  | ((with_reducible refine (?_ : EV _ _ _ _ _)); (first
    | ((with_reducible refine (?_ : EV _ (eval _ _) _ _ _)); (first
      | subst (ev_local "an_") (ev_int "_!") (ev_str "_!") ev_none ev_bool ev_attrN ev_attrA (ev_cmp "_r") (neg_const "_!") ev_binop ev_unop ev_ifexp ev_and2 ev_or2 (ev_fun "aavt_rr") (ev_fun0 "aavt_")
      | ((with_reducible refine' ev_callM2 ?_ ?h2 ?h3 ?h4); (case h2 => first | with_reducible exact ab_name | with_reducible exact ab_attr | with_reducible exact ab_sub | with_reducible exact ab_const | with_reducible exact ab_call); (case h3 => exact rfl); (case h4 => exact rfl))
      | subst (ev_const "aatk_") ev_tuple ev_list (ev_dctNew "a_!") (ev_strFromN "anO_UU!") ev_sub ev_callN
      | ((with_reducible refine' ev_boot ?h1 ?h2 ?h3 ?h4 ?h5 ?h6 ?_); (case h1 => assumption); (case h2 => assumption); (case h3 => k_same2); (case h4 => first | exact B_len _ | exact B_list _ | exact B_tuple _ | exact B_ord _ | exact B_all _ | exact B_range _); (case h5 => first | exact BB_len | exact BB_list | exact BB_tuple | exact BB_ord | exact BB_all | exact BB_range); (case h6 => decide))
      | fail "no step"))
    | ((with_reducible refine (?_ : EV _ (call _ _) _ _ _)); (first
      | subst ev_app0 ev_app1 ev_app2 ev_app3 ev_app4 ev_app10 ev_app11 ev_app12 ev_app13 ev_appN (ev_dctGetN "sa_") (ev_dctGetS "sa_") (ev_len "sp_!") (ev_lenS "p_!") (ev_ord "_!") (ev_listL "s_p!") (ev_listT "s_q!") (ev_tupL "s_p!")
      | ((with_reducible refine' ev_append (id := "list.append") ?h1 ?_ ?h2); (case h1 => k_ne); (case h2 => first | with_reducible assumption | exact Nat.le_of_ble_eq_true rfl | omega | (simp only [List.length_append, List.length_cons, List.length_nil]; omega)))
      | ((with_reducible refine' ev_pop0 ?h1 ?_ ?h2); (case h1 => k_ne); (case h2 => first | with_reducible assumption | (rw [List.length_cons]; with_reducible assumption)))
      | k_meth
      | fail "no step"))
    | ((with_reducible refine (?_ : EV _ (exec _ _) _ _ _)); (first
      | subst ev_ret ev_ret0 (ev_assign "_r") (ev_assignA "_r") ev_if (ev_expr "a_r") (ev_pair (w1 := .none) (w2 := .none) "acc_drrrrrrr") (ev_trio (w1 := .none) (w2 := .none) (w3 := .none) "accc_dddrrrrrrrrr") (ev_assignT "_rr") (ev_assignS "_r") ev_break ev_pass
      | fail "no step"))
    | ((with_reducible refine (?_ : EV _ (execs _ _) _ _ _)); (first
      | subst ev_cons ev_nil
      | fail "no step"))
    | ((with_reducible refine (?_ : EV _ (isTrue _ _ _) _ _ _)); (first
      | subst (ev_tCmp "_r") (ev_tChain "_r") ev_tNot ev_tBool ev_tCall ev_tAttr ev_tName
      | fail "no step"))
    | ((with_reducible refine (?_ : EV _ (compareOp _ _ _) _ _ _)); (first
      | subst is_nn is_rn is_in is_sn isnt_nn isnt_rn isnt_in isnt_sn (cmp_inK (k := false) "A_") (cmp_inK (k := true) "A_") cmp_in cmp_is cmp_isnt cmp_eq cmp_ne cmp_lt cmp_le cmp_gt cmp_ge (cmp_eqSk (k := false) "A_") (cmp_eqSk (k := true) "A_") cmp_eqS cmp_neS cmp_eqB cmp_neB (cmp_notinN "sA_") (cmp_notinS "sA_") cmp_notin
      | fail "no step"))
    | ((with_reducible refine (?_ : EV _ (callWith _ _ _ _ _) _ _ _)); (first
      | subst (ev_with "aF_rr") (ev_with0 "aF_") (ev_withB "_rr") ev_withB0 (ev_withT "_rr")
      | fail "no step"))
    | subst (ev_get "asbnh_r") (ev_store "ac_") (ev_set "aebc_rQ") ev_andC ev_andN ev_orC ev_orN ev_truth (op_add "_!") (op_catT "ssNN_Q!+") (op_cat "_D!") (op_sub "_!") (op_neg "_!") (ev_splC "_r") ev_splN (ev_meth "asbf_r") (ev_methD "s_") (ev_unp2 "as_") (ev_unp3 "as_") ev_goN (ev_goT "sd_") ev_asgN (ev_newTup "_Q!") (ev_newLst "_Q!") (ev_tupAt "srr_ddu") (ev_new "aebr_Q+") (ev_dctSet "se_A") (ev_dctAt "sA_uU") ev_methS (ev_strAt "ooo_uU!") (ev_lstAt "sddr_u") (op_divP "_oo!") (op_modP "_o!") (op_mulM "_oo!") (op_mulP "_oo!") (ev_lstSet0 "e_") (ev_lstSet2 "e_")
    | ((with_reducible refine' ev_methL (name := "append") ?h1 PySem.F.slot_list_append PySem.F.type_list_append ?_); (case h1 => k_same))
    | ((with_reducible refine' ev_methL (name := "pop") ?h1 PySem.F.slot_list_pop PySem.F.type_list_pop ?_); (case h1 => k_same))
    | ((with_reducible refine' ev_methL (name := "extend") ?h1 PySem.F.slot_list_extend PySem.F.type_list_extend ?_); (case h1 => k_same))
    | fail "no step"))
  | subst seq_next seq_ret seq_brk tst_t tst_f tst_nt tst_nf (tst_tt "A_") (tst_ff "A_") (tst_ntt "A_") (tst_nff "A_") (tst_dt "o_") (tst_df "o_") (tst_et "o_") (tst_ef "o_") (tst_nt' "o_") (tst_nf' "o_")
  | (refine ⟨?_, fun h => absurd h (by decide)⟩; intro _)
  | (refine ⟨fun h => absurd h (by decide), ?_⟩; intro _)
  | ((with_reducible refine And.intro (?_ : _ = true → _) (?_ : _ = false → _)) <;> intro _)
  | subst turn_next turn_brk turn_ret
  | fail "no step")
section
variable {w : World}
abbrev synF (kind mt fl : Value) : FV := [("kind", some kind), ("match", some mt), ("flags", some fl)]
abbrev tabF (p r : Value) : FV := [("parent", some p), ("rows", some r)]
abbrev rowF (l pl : Value) : FV := [("codes", some l), ("place", some pl)]
def alpha : List Int := [47, 42, 40, 41, 32, 34, 10, 97, 98]
def kdOf (c : Int) : Str := if c = 47 ∨ c = 42 then "." else if c = 40 then "(" else if c = 41 then ")" else if c = 32 then " " else if c = 34 then "\"" else if c = 10 then ">" else "w"
def flOf (c : Int) : Str := if c = 47 then "124b" else if c = 42 then "23" else if c = 10 then "b" else ""
theorem alpha_all {p : Int → Bool} (h : alpha.all p = true) {c : Int} (hc : c ∈ alpha) : p c = true := List.all_eq_true.mp h c hc
theorem fl_1 {c : Int} (h : c ∈ alpha) : has (flOf c) "1" = decide (c = 47) := beq_iff_eq.mp (alpha_all (p := fun c => has (flOf c) "1" == decide (c = 47)) (by decide +kernel) h)
theorem fl_2 {c : Int} (h : c ∈ alpha) : has (flOf c) "2" = decide (c = 47 ∨ c = 42) := beq_iff_eq.mp (alpha_all (p := fun c => has (flOf c) "2" == decide (c = 47 ∨ c = 42)) (by decide +kernel) h)
theorem fl_3 {c : Int} (h : c ∈ alpha) : has (flOf c) "3" = decide (c = 42) := beq_iff_eq.mp (alpha_all (p := fun c => has (flOf c) "3" == decide (c = 42)) (by decide +kernel) h)
theorem fl_4 {c : Int} (h : c ∈ alpha) : has (flOf c) "4" = decide (c = 47) := beq_iff_eq.mp (alpha_all (p := fun c => has (flOf c) "4" == decide (c = 47)) (by decide +kernel) h)
theorem fl_b {c : Int} (h : c ∈ alpha) : has (flOf c) "b" = decide (c = 47 ∨ c = 10) := beq_iff_eq.mp (alpha_all (p := fun c => has (flOf c) "b" == decide (c = 47 ∨ c = 10)) (by decide +kernel) h)
theorem fl_c {c : Int} (h : c ∈ alpha) : has (flOf c) "c" = false := beq_iff_eq.mp (alpha_all (p := fun c => has (flOf c) "c" == false) (by decide +kernel) h)
theorem fl_n {c : Int} (h : c ∈ alpha) : has (flOf c) "n" = false := beq_iff_eq.mp (alpha_all (p := fun c => has (flOf c) "n" == false) (by decide +kernel) h)
theorem fl_p {c : Int} (h : c ∈ alpha) : has (flOf c) "p" = false := beq_iff_eq.mp (alpha_all (p := fun c => has (flOf c) "p" == false) (by decide +kernel) h)
theorem kd_is {c : Int} (h : c ∈ alpha) : (kdOf c == "<") = false ∧ (kdOf c == "!") = false ∧ (kdOf c == "@") = false ∧ (kdOf c == ">") = decide (c = 10) ∧ (kdOf c == " ") = decide (c = 32) ∧ (kdOf c == "\"") = decide (c = 34) ∧ (kdOf c == "(") = decide (c = 40) ∧ (kdOf c == ")") = decide (c = 41) := by
  have := alpha_all (p := fun c => (kdOf c == "<") == false && (kdOf c == "!") == false && (kdOf c == "@") == false && (kdOf c == ">") == decide (c = 10) && (kdOf c == " ") == decide (c = 32) && (kdOf c == "\"") == decide (c = 34) && (kdOf c == "(") == decide (c = 40) && (kdOf c == ")") == decide (c = 41)) (by decide +kernel) h
  simp only [Bool.and_eq_true, beq_iff_eq] at this
  obtain ⟨⟨⟨⟨⟨⟨⟨a, b⟩, c⟩, d⟩, e⟩, f⟩, g⟩, i⟩ := this
  exact ⟨a, b, c, d, e, f, g, i⟩
theorem kd_more {c : Int} (h : c ∈ alpha) : (kdOf c == "\\") = false ∧ (kdOf c == "/") = false ∧ (kdOf c == "|") = false ∧ (kdOf c == "'") = false ∧ ((kdOf c == "w") || (kdOf c == "_")) = decide (c = 97 ∨ c = 98) := by
  have := alpha_all (p := fun c => (kdOf c == "\\") == false && (kdOf c == "/") == false && (kdOf c == "|") == false && (kdOf c == "'") == false && ((kdOf c == "w") || (kdOf c == "_")) == decide (c = 97 ∨ c = 98)) (by decide +kernel) h
  simp only [Bool.and_eq_true, beq_iff_eq] at this
  obtain ⟨⟨⟨⟨a, b⟩, c⟩, d⟩, e⟩ := this
  exact ⟨a, b, c, d, e⟩
inductive IsSyn (led : Led) (s : Addr) (c : Int) : Prop
  | mk (tk : Tok) (mt : Value) (tf : Tok) : (s, SO.inst 144 (synF (.str (kdOf c) tk) mt (.str (flOf c) tf))) ∈ led → IsSyn led s c
inductive IsTab (led : Led) (t : Addr) : Prop
  | mk (p r r2 : Addr) (kvs kvs2 : List (Int × Value)) : (t, SO.inst 225 (tabF (.ref p) (.ref r))) ∈ led → (r, SO.dct kvs) ∈ led → (p, SO.inst 225 (tabF .none (.ref r2))) ∈ led → (r2, SO.dct kvs2) ∈ led →
    (∀ c ∈ alpha, ∃ s, IsSyn led s c ∧ (valueAt kvs c = some (.ref s) ∨ (valueAt kvs c = none ∧ valueAt kvs2 c = some (.ref s)))) → IsTab led t
inductive IsView (led : Led) (v : Addr) (cs : List Int) : Prop
  | mk (l : Addr) (vals : List Value) (t : Tok) : (v, SO.inst 556 (rowF (.ref l) (.int 1 t))) ∈ led → (l, SO.lst vals) ∈ led → IntsAre vals cs → IsView led v cs
def codeAt (cs : List Int) (p : Int) : Int := if 1 ≤ p ∧ p < 1 + (cs.length : Int) then cs.getD (p - 1).toNat 0 else -1
theorem c_has {o : Addr} {kind mt : Value} {fl x : Str} {tf t : Tok} {led : Led} (m : (o, SO.inst 144 (synF kind mt (.str fl tf))) ∈ led) :
    Calls P w (hd.heap_39 w.params) 1 120 [.ref o, .str x t] led (fun r led' => r = .bool (has fl x) ∧ led' = led) := by
  refine calls_intro (n := 0) (def_mk (by k_is) (by k_is) (by k_is) (by exact rfl) (by exact rfl) (by exact rfl) (by decide)) [("self", .ref o), ("flag", .str x t)] [] (by intro s X9; first | exact BindsTo.of_eq rfl | exact binds_K X9 rfl (by k_is) rfl rfl rfl) (ns := ["self", "flag"]) (by kernel_rfl) (by exact rfl) ?_
  intro c hc hs hr
  clear hs
  refine' ev_lit ?e0 ?_
  case e0 => conv => lhs; whnf
  dsimp only [fv0, List.map, List.cons_append, List.nil_append]
  repeat' kby_none
  exact ⟨rfl, rfl⟩
end
local macro_rules | `(tactic| k_meth) => `(tactic| subst (ev_callV c_has "s"))
section
variable {prog : Program} {w : World} {K : Frag} {α : Type} {c : Cx prog w K} {fv : FV} {led : Led}
theorem ev_swapW {t : Sem α} {Q : α → FV → Led → Prop} {a b : Addr} {f g : FV} (h : EV c t Q fv ((b, .inst 442 g) :: (a, .inst 267 f) :: led)) : EV c t Q fv ((a, .inst 267 f) :: (b, .inst 442 g) :: led) := EV.swap h
end
section
section
variable {w : World}
theorem c_pair_style {o1 o2 : Addr} {k1 m1 k2 m2 : Value} {f1 f2 : Str} {t1 t2 : Tok} {led : Led} (h1 : (o1, SO.inst 144 (synF k1 m1 (.str f1 t1))) ∈ led) (h2 : (o2, SO.inst 144 (synF k2 m2 (.str f2 t2))) ∈ led) (c1 : has f1 "c" = false) (c2 : has f2 "c" = false) :
    Calls P w (hd.heap_39 w.params) 2 285 [.ref o1, .ref o2] led (fun r led' => (∃ t, r = .str (if has f1 "b" then "b" else "") t) ∧ led' = led) := by
  refine calls_intro (n := 1) (def_mk (by k_is) (by k_is) (by k_is) (by exact rfl) (by exact rfl) (by exact rfl) (by decide)) [("told", .ref o1), ("other", .ref o2)] ["style"] (by intro s X9; first | exact BindsTo.of_eq rfl | exact binds_K X9 rfl (by k_is) rfl rfl rfl) (ns := ["told", "other", "style"]) (by kernel_rfl) (by exact rfl) ?_
  intro c hc hs hr
  clear hs
  refine' ev_lit ?e0 ?_
  case e0 => conv => lhs; whnf
  dsimp only [fv0, List.map, List.cons_append, List.nil_append]
  repeat' kby_none
  all_goals first
    | (exfalso; simp_all; done)
    | (simp only [retOf, and_true, *]; first | exact ⟨_, rfl⟩ | trivial)
theorem c_style {o : Addr} {k m : Value} {f : Str} {t : Tok} {led : Led} (h1 : (o, SO.inst 144 (synF k m (.str f t))) ∈ led) (c1 : has f "c" = false) :
    Calls P w (hd.heap_39 w.params) 2 141 [.ref o] led (fun r led' => (∃ t, r = .str (if has f "b" then "b" else "") t) ∧ led' = led) := by
  refine calls_intro (n := 1) (def_mk (by k_is) (by k_is) (by k_is) (by exact rfl) (by exact rfl) (by exact rfl) (by decide)) [("self", .ref o)] [] (by intro s X9; first | exact BindsTo.of_eq rfl | exact binds_K X9 rfl (by k_is) rfl rfl rfl) (ns := ["self"]) (by kernel_rfl) (by exact rfl) ?_
  intro c hc hs hr
  clear hs
  refine' ev_lit ?e0 ?_
  case e0 => conv => lhs; whnf
  dsimp only [fv0, List.map, List.cons_append, List.nil_append]
  repeat' kby_none
  all_goals first
    | (exfalso; simp_all; done)
    | (simp only [retOf, and_true, *]; first | exact ⟨_, rfl⟩ | trivial)
theorem c_is_escape {o : Addr} {kd : Str} {m f : Value} {t : Tok} {led : Led} (h1 : (o, SO.inst 144 (synF (.str kd t) m f)) ∈ led) :
    Calls P w (hd.heap_39 w.params) 1 127 [.ref o] led (fun r led' => r = .bool ((kd == "\\") || (kd == "/")) ∧ led' = led) := by
  refine calls_intro (n := 0) (def_mk (by k_is) (by k_is) (by k_is) (by exact rfl) (by exact rfl) (by exact rfl) (by decide)) [("self", .ref o)] [] (by intro s X9; first | exact BindsTo.of_eq rfl | exact binds_K X9 rfl (by k_is) rfl rfl rfl) (ns := ["self"]) (by kernel_rfl) (by exact rfl) ?_
  intro c hc hs hr
  have hg : Globs c ["ESCAPE", "QUOTES"] := globs_of (by rw [hs]; kernel_rfl)
  clear hs
  refine' ev_lit ?e0 ?_
  case e0 => conv => lhs; whnf
  dsimp only [fv0, List.map, List.cons_append, List.nil_append]
  repeat' kby_none
  all_goals (refine ⟨?_, rfl⟩; simp only [retOf, *]; simp)
theorem c_is_word_part {o : Addr} {kd : Str} {m f : Value} {t : Tok} {led : Led} (h1 : (o, SO.inst 144 (synF (.str kd t) m f)) ∈ led) :
    Calls P w (hd.heap_39 w.params) 1 134 [.ref o] led (fun r led' => r = .bool ((kd == "w") || (kd == "_")) ∧ led' = led) := by
  refine calls_intro (n := 0) (def_mk (by k_is) (by k_is) (by k_is) (by exact rfl) (by exact rfl) (by exact rfl) (by decide)) [("self", .ref o)] [] (by intro s X9; first | exact BindsTo.of_eq rfl | exact binds_K X9 rfl (by k_is) rfl rfl rfl) (ns := ["self"]) (by kernel_rfl) (by exact rfl) ?_
  intro c hc hs hr
  have hg : Globs c ["WORD", "SYMBOL"] := globs_of (by rw [hs]; kernel_rfl)
  clear hs
  refine' ev_lit ?e0 ?_
  case e0 => conv => lhs; whnf
  dsimp only [fv0, List.map, List.cons_append, List.nil_append]
  repeat' kby_none
  all_goals (refine ⟨?_, rfl⟩; simp only [retOf, *]; simp)
theorem c_own {t r : Addr} {p : Value} {kvs : List (Int × Value)} {cd : Int} {u : Tok} {led : Led} (h1 : (t, SO.inst 225 (tabF p (.ref r))) ∈ led) (h2 : (r, SO.dct kvs) ∈ led)
    (hx : valueAt kvs cd = none ∨ ∃ s c', valueAt kvs cd = some (.ref s) ∧ IsSyn led s c' ∧ c' ∈ alpha) :
    Calls P w (hd.heap_39 w.params) 1 201 [.ref t, .int cd u] led (fun r led' => r = (valueAt kvs cd).getD .none ∧ led' = led) := by
  refine calls_intro (n := 0) (def_mk (by k_is) (by k_is) (by k_is) (by exact rfl) (by exact rfl) (by exact rfl) (by decide)) [("self", .ref t), ("code", .int cd u)] ["found"] (by intro s X9; first | exact BindsTo.of_eq rfl | exact binds_K X9 rfl (by k_is) rfl rfl rfl) (ns := ["self", "code", "found"]) (by kernel_rfl) (by exact rfl) ?_
  intro c hc hs hr
  have hg : Globs c ["INHERITS"] := globs_of (by rw [hs]; kernel_rfl)
  clear hs
  refine' ev_lit ?e0 ?_
  case e0 => conv => lhs; whnf
  dsimp only [fv0, List.map, List.cons_append, List.nil_append]
  rcases hx with hx | ⟨s, c', hx, ⟨tk, mt, tf, hs⟩, hc'⟩
  · repeat' kby_none
    exact ⟨by rw [hx]; rfl, rfl⟩
  · repeat' kby_none
    · rename_i h
      rw [(kd_is hc').2.2.1] at h; cases h
    · exact ⟨by rw [hx]; rfl, rfl⟩
end
theorem c_ownN {w : World} {t r : Addr} {p : Value} {kvs : List (Int × Value)} {cd : Int} {u : Tok} {led : Led} (h1 : (t, SO.inst 225 (tabF p (.ref r))) ∈ led) (h2 : (r, SO.dct kvs) ∈ led) (hx : valueAt kvs cd = none) :
    Calls P w (hd.heap_39 w.params) 1 201 [.ref t, .int cd u] led (fun r led' => r = .none ∧ led' = led) := (c_own h1 h2 (.inl hx)).mono fun r l q => by rw [hx] at q; exact q
theorem c_ownS {w : World} {t r s : Addr} {p : Value} {kvs : List (Int × Value)} {cd c' : Int} {u : Tok} {led : Led} (h1 : (t, SO.inst 225 (tabF p (.ref r))) ∈ led) (h2 : (r, SO.dct kvs) ∈ led) (hx : valueAt kvs cd = some (.ref s)) (hs : IsSyn led s c') (hc : c' ∈ alpha) :
    Calls P w (hd.heap_39 w.params) 1 201 [.ref t, .int cd u] led (fun r led' => r = .ref s ∧ led' = led) := (c_own h1 h2 (.inr ⟨s, c', hx, hs, hc⟩)).mono fun r l q => by rw [hx] at q; exact q
local macro_rules | `(tactic| k_meth) => `(tactic| subst (ev_callV c_ownS "ssaaa") (ev_callV c_ownN "ssa") (ev_callV c_is_word_part "s") (ev_callV c_is_escape "s") (ev_callS c_pair_style "ssaa!") (ev_callS c_style "sa!"))
section
variable {w : World}
theorem c_at {t : Addr} {cd : Int} {u : Tok} {led : Led} (hT : IsTab led t) (hcd : cd ∈ alpha) :
    Calls P w (hd.heap_39 w.params) 3 208 [.ref t, .int cd u] led (fun r led' => (∃ s, r = .ref s ∧ IsSyn led s cd) ∧ led' = led) := by
  obtain ⟨p, r, r2, kvs, kvs2, h1, h2, h3, h4, H⟩ := hT
  obtain ⟨s, hs, hv⟩ := H cd hcd
  refine calls_intro (n := 2) (def_mk (by k_is) (by k_is) (by k_is) (by exact rfl) (by exact rfl) (by exact rfl) (by decide)) [("self", .ref t), ("code", .int cd u)] ["table", "found"] (by intro s X9; first | exact BindsTo.of_eq rfl | exact binds_K X9 rfl (by k_is) rfl rfl rfl) (ns := ["self", "code", "table", "found"]) (by kernel_rfl) (by exact rfl) ?_
  intro c hc hs hr
  have hg : Globs c ["Syntax", "WORD", "PUNCTUATION"] := globs_of (by rw [hs]; kernel_rfl)
  clear hs
  refine' ev_lit ?e0 ?_
  case e0 => conv => lhs; whnf
  dsimp only [fv0, List.map, List.cons_append, List.nil_append]
  iterate 6 kby_none
  refine ev_while (I := fun n fv led' => led' = led ∧ ((n = 2 ∧ fv = ([("self", some (.ref t)), ("code", some (.int cd u)), ("table", some (.ref t)), ("found", none)] : FV)) ∨
    (n = 1 ∧ valueAt kvs cd = none ∧ fv = ([("self", some (.ref t)), ("code", some (.int cd u)), ("table", some (.ref p)), ("found", some (.none))] : FV)))) ?_ 2 ⟨rfl, .inl ⟨rfl, rfl⟩⟩
  rintro n fv led' ⟨rfl, ⟨rfl, rfl⟩ | ⟨rfl, hn, rfl⟩⟩
  · rcases hv with hv | ⟨hv, hv2⟩
    · repeat' kby_none
      exact ⟨⟨s, rfl, hs⟩, rfl⟩
    · repeat' kby_none
      exact ⟨1, by decide, rfl, .inr ⟨rfl, hv, rfl⟩⟩
  · rcases hv with hv | ⟨hv, hv2⟩
    · rw [hn] at hv; cases hv
    · repeat' kby_none
      exact ⟨⟨s, rfl, hs⟩, rfl⟩
theorem c_begin {v : Addr} {cs : List Int} {led : Led} (hV : IsView led v cs) : Calls P w (hd.heap_39 w.params) 1 539 [.ref v] led (fun r led' => (∃ t, r = .int 1 t) ∧ led' = led) := by
  obtain ⟨l, vals, t, h1, h2, h3⟩ := hV
  refine calls_intro (n := 0) (def_mk (by k_is) (by k_is) (by k_is) (by exact rfl) (by exact rfl) (by exact rfl) (by decide)) [("self", .ref v)] [] (by intro s X9; first | exact BindsTo.of_eq rfl | exact binds_K X9 rfl (by k_is) rfl rfl rfl) (ns := ["self"]) (by kernel_rfl) (by exact rfl) ?_
  intro c hc hs hr
  clear hs
  refine' ev_lit ?e0 ?_
  case e0 => conv => lhs; whnf
  dsimp only [fv0, List.map, List.cons_append, List.nil_append]
  repeat' kby_none
  exact ⟨⟨_, rfl⟩, rfl⟩
theorem c_end {v : Addr} {cs : List Int} {led : Led} (hV : IsView led v cs) (hz : cs.length ≤ 1000) : Calls P w (hd.heap_39 w.params) 1 546 [.ref v] led (fun r led' => (∃ t, r = .int (1 + cs.length) t) ∧ led' = led) := by
  obtain ⟨l, vals, t, h1, h2, h3⟩ := hV
  have hl := h3.length
  have hz' : (vals.length : Int) < 2 ^ 63 := by omega
  refine calls_intro (n := 0) (def_mk (by k_is) (by k_is) (by k_is) (by exact rfl) (by exact rfl) (by exact rfl) (by decide)) [("self", .ref v)] [] (by intro s X9; first | exact BindsTo.of_eq rfl | exact binds_K X9 rfl (by k_is) rfl rfl rfl) (ns := ["self"]) (by kernel_rfl) (by exact rfl) ?_
  intro c hc hs hr
  have hg : Globs c ["len"] := globs_of (by rw [hs]; kernel_rfl)
  clear hs
  refine' ev_lit ?e0 ?_
  case e0 => conv => lhs; whnf
  dsimp only [fv0, List.map, List.cons_append, List.nil_append]
  repeat' kby_none
  exact ⟨⟨_, by rw [hl]; rfl⟩, rfl⟩
theorem c_code_at {v : Addr} {cs : List Int} {p : Int} {u : Tok} {led : Led} (hV : IsView led v cs) (hz : cs.length ≤ 1000) : Calls P w (hd.heap_39 w.params) 1 553 [.ref v, .int p u] led (fun r led' => (∃ t, r = .int (codeAt cs p) t) ∧ led' = led) := by
  obtain ⟨l, vals, t, h1, h2, h3⟩ := hV
  have hl := h3.length
  have hz' : (vals.length : Int) < 2 ^ 63 := by omega
  by_cases hp : 1 ≤ p ∧ p < 1 + (cs.length : Int)
  · have hj : (p - 1).toNat < vals.length := by omega
    obtain ⟨k, tk, hk, hk2⟩ := IntsAre.at h3 _ _ (List.getElem?_eq_getElem hj)
    obtain ⟨hp1, hp2⟩ := hp
    refine calls_intro (n := 0) (def_mk (by k_is) (by k_is) (by k_is) (by exact rfl) (by exact rfl) (by exact rfl) (by decide)) [("self", .ref v), ("place", .int p u)] [] (by intro s X9; first | exact BindsTo.of_eq rfl | exact binds_K X9 rfl (by k_is) rfl rfl rfl) (ns := ["self", "place"]) (by kernel_rfl) (by exact rfl) ?_
    intro c hc hs hr
    have hg : Globs c ["len"] := globs_of (by rw [hs]; kernel_rfl)
    clear hs
    refine' ev_lit ?e0 ?_
    case e0 => conv => lhs; whnf
    dsimp only [fv0, List.map, List.cons_append, List.nil_append]
    repeat' kby_none
    refine ev_lstAt h2 (by omega) (by omega) ((List.getElem?_eq_getElem hj).trans (congrArg some hk)) ?_
    repeat' kby_none
    refine ⟨⟨tk, ?_⟩, rfl⟩
    show Value.int k tk = _
    unfold codeAt
    rw [if_pos ⟨hp1, hp2⟩, List.getD_eq_getElem?_getD, hk2]; rfl
  · have e : codeAt cs p = -1 := by unfold codeAt; rw [if_neg hp]
    refine calls_intro (n := 0) (def_mk (by k_is) (by k_is) (by k_is) (by exact rfl) (by exact rfl) (by exact rfl) (by decide)) [("self", .ref v), ("place", .int p u)] [] (by intro s X9; first | exact BindsTo.of_eq rfl | exact binds_K X9 rfl (by k_is) rfl rfl rfl) (ns := ["self", "place"]) (by kernel_rfl) (by exact rfl) ?_
    intro c hc hs hr
    have hg : Globs c ["len"] := globs_of (by rw [hs]; kernel_rfl)
    clear hs
    refine' ev_lit ?e0 ?_
    case e0 => conv => lhs; whnf
    dsimp only [fv0, List.map, List.cons_append, List.nil_append]
    repeat' kby_none
    all_goals first
      | (exact ⟨⟨_, by rw [e]; rfl⟩, rfl⟩)
      | (exfalso; rename_i a _ _ b _; have a := of_decide_eq_true a; have b := of_decide_eq_true b; omega)
end
theorem IsView.cons {led : Led} {v : Addr} {cs : List Int} {x : Addr × SO} (h : IsView led v cs) : IsView (x :: led) v cs := by
  obtain ⟨l, vals, t, h1, h2, h3⟩ := h
  exact ⟨l, vals, t, .tail _ h1, .tail _ h2, h3⟩
theorem IsSyn.cons {led : Led} {s : Addr} {c : Int} {x : Addr × SO} (h : IsSyn led s c) : IsSyn (x :: led) s c := by
  obtain ⟨tk, mt, tf, h1⟩ := h
  exact ⟨tk, mt, tf, .tail _ h1⟩
theorem IsTab.cons {led : Led} {t : Addr} {x : Addr × SO} (h : IsTab led t) : IsTab (x :: led) t := by
  obtain ⟨p, r, r2, kvs, kvs2, h1, h2, h3, h4, H⟩ := h
  exact ⟨p, r, r2, kvs, kvs2, .tail _ h1, .tail _ h2, .tail _ h3, .tail _ h4, fun c hc => by
    obtain ⟨s, hs, q⟩ := H c hc
    exact ⟨s, hs.cons, q⟩⟩
local macro_rules | `(tactic| kl_rest) => `(tactic| first | with_reducible assumption | ((with_reducible refine' IsView.cons ?a); (case a => kl_rest)) | ((with_reducible refine' IsTab.cons ?a); (case a => kl_rest)) | ((with_reducible refine' IsSyn.cons ?a); (case a => kl_rest)))
local macro_rules | `(tactic| k_meth) => `(tactic| ((with_reducible refine' ev_callR ?q1 ?q2 ?q3 (c_at ?q4 ?q5) ?_); (case q1 => assumption); (case q2 => assumption); (case q3 => decide); (case q4 => kl_rest); (case q5 => assumption); intro _ hX; (have ⟨_, _, _, _⟩ := hX)))
local macro_rules | `(tactic| k_meth) => `(tactic| subst (ev_callI c_code_at "la!") (ev_callI c_end "la!") (ev_callI c_begin "l!"))
abbrev markF (l st ne fe : Value) : FV := [("length", some l), ("style", some st), ("nests", some ne), ("is_fence", some fe)]
def styS (b : Bool) : Str := if b then "b" else ""
def bmk (cs : List Int) (p : Int) : Option Bool := if codeAt cs p = 47 then (if codeAt cs (p + 1) = 47 then some true else if codeAt cs (p + 1) = 42 then some false else none) else none
def emk (cs : List Int) (p : Int) : Option (Int × Bool) := if codeAt cs p = 42 ∧ codeAt cs (p + 1) = 47 then some (2, false) else if codeAt cs p = 10 then some (1, true) else none
theorem code_or {cs : List Int} (ha : ∀ c ∈ cs, c ∈ alpha) (p : Int) : codeAt cs p = -1 ∨ codeAt cs p ∈ alpha := by
  unfold codeAt
  split
  · rename_i h
    right
    have hj : (p - 1).toNat < cs.length := by omega
    rw [List.getD_eq_getElem?_getD, List.getElem?_eq_getElem hj]
    exact ha _ (List.getElem_mem _)
  · left; rfl
theorem alpha_pos {c : Int} (h : c ∈ alpha) : 0 ≤ c ∧ c < 128 := by
  have := alpha_all (p := fun c => decide (0 ≤ c) && decide (c < 128)) (by decide +kernel) h
  simpa using this
section
variable {w : World}
theorem c_Mark_init {x : Addr} {l st ne fe : Value} {led : Led} : Calls P w (hd.heap_39 w.params) 1 264 [.ref x, l, st, ne, fe] ((x, .inst 267 []) :: led) (fun r led' => r = .none ∧ led' = (x, .inst 267 (markF l st ne fe)) :: led) := by
  refine calls_intro (n := 0) (def_mk (by k_is) (by k_is) (by k_is) (by exact rfl) (by exact rfl) (by exact rfl) (by decide)) [("self", .ref x), ("length", l), ("style", st), ("nests", ne), ("is_fence", fe)] [] (by intro s X9; first | exact BindsTo.of_eq rfl | exact binds_K X9 rfl (by k_is) rfl rfl rfl) (ns := ["self", "length", "style", "nests", "is_fence"]) (by kernel_rfl) (by exact rfl) ?_
  intro c hc hs hr
  clear hs
  refine' ev_lit ?e0 ?_
  case e0 => conv => lhs; whnf
  dsimp only [fv0, List.map, List.cons_append, List.nil_append]
  repeat' kby_none
  exact ⟨rfl, rfl⟩
theorem c_syntax_atN {v t : Addr} {cs : List Int} {p : Int} {u : Tok} {led : Led} (hV : IsView led v cs) (hz : cs.length ≤ 1000) (hp : codeAt cs p = -1) :
    Calls P w (hd.heap_39 w.params) 4 278 [.ref v, .ref t, .int p u] led (fun r led' => r = .none ∧ led' = led) := by
  obtain ⟨l, vals, tv, v1, v2, v3⟩ := id hV
  refine calls_intro (n := 3) (def_mk (by k_is) (by k_is) (by k_is) (by exact rfl) (by exact rfl) (by exact rfl) (by decide)) [("view", .ref v), ("table", .ref t), ("place", .int p u)] ["code"] (by intro s X9; first | exact BindsTo.of_eq rfl | exact binds_K X9 rfl (by k_is) rfl rfl rfl) (ns := ["view", "table", "place", "code"]) (by kernel_rfl) (by exact rfl) ?_
  intro c hc hs hr
  clear hs
  refine' ev_lit ?e0 ?_
  case e0 => conv => lhs; whnf
  dsimp only [fv0, List.map, List.cons_append, List.nil_append]
  repeat' kby_none
  exact ⟨rfl, rfl⟩
theorem c_syntax_atS {v t : Addr} {cs : List Int} {p : Int} {u : Tok} {led : Led} (hV : IsView led v cs) (hT : IsTab led t) (hz : cs.length ≤ 1000) (hp : codeAt cs p ∈ alpha) :
    Calls P w (hd.heap_39 w.params) 4 278 [.ref v, .ref t, .int p u] led (fun r led' => (∃ s, r = .ref s ∧ IsSyn led s (codeAt cs p)) ∧ led' = led) := by
  obtain ⟨l, vals, tv, v1, v2, v3⟩ := id hV
  obtain ⟨q, r, r2, kvs, kvs2, t1, t2, t3, t4, H⟩ := id hT
  have hp0 := (alpha_pos hp).1
  refine calls_intro (n := 3) (def_mk (by k_is) (by k_is) (by k_is) (by exact rfl) (by exact rfl) (by exact rfl) (by decide)) [("view", .ref v), ("table", .ref t), ("place", .int p u)] ["code"] (by intro s X9; first | exact BindsTo.of_eq rfl | exact binds_K X9 rfl (by k_is) rfl rfl rfl) (ns := ["view", "table", "place", "code"]) (by kernel_rfl) (by exact rfl) ?_
  intro c hc hs hr
  clear hs
  refine' ev_lit ?e0 ?_
  case e0 => conv => lhs; whnf
  dsimp only [fv0, List.map, List.cons_append, List.nil_append]
  repeat' kby_none
  exact ⟨⟨_, rfl, by assumption⟩, rfl⟩
theorem mk_Mark {c : Cx P w (hd.heap_39 w.params)} {fv : FV} {led : Led} {n : Nat} {l st ne fe : Value} {Q : Value → FV → Led → Prop} (hc : c.Ok) (hr : Room c.A n) (hk : 2 ≤ n) (h : ∀ x, Q (.ref x) fv ((x, .inst 267 (markF l st ne fe)) :: led)) : EV c (call (.ref 267) [l, st, ne, fe]) Q fv led :=
  ev_makeC hc hr hk (MK_Mark _) (fun _ => c_Mark_init) h
end
local macro_rules | `(tactic| k_meth) => `(tactic| subst (mk_Mark "aad_!") (ev_callR c_syntax_atS "llaa%") (ev_callV c_syntax_atN "laa"))
section
variable {w : World}
theorem bmk_none {cs : List Int} {p : Int} (h : codeAt cs p ≠ 47) : bmk cs p = none := by unfold bmk; rw [if_neg h]
theorem c_begin_mark {v t : Addr} {cs : List Int} {p : Int} {u : Tok} {led : Led} (hV : IsView led v cs) (hT : IsTab led t) (hz : cs.length ≤ 1000) (ha : ∀ c ∈ cs, c ∈ alpha) :
    Calls P w (hd.heap_39 w.params) 6 292 [.ref v, .ref t, .int p u] led (fun r led' => (bmk cs p = none ∧ r = .none ∧ led' = led) ∨ (∃ b m t1 t2, bmk cs p = some b ∧ r = .ref m ∧ led' = (m, .inst 267 (markF (.int 2 t1) (.str (styS b) t2) (.bool false) (.bool false))) :: led)) := by
  refine calls_intro (n := 5) (def_mk (by k_is) (by k_is) (by k_is) (by exact rfl) (by exact rfl) (by exact rfl) (by decide)) [("view", .ref v), ("table", .ref t), ("place", .int p u)] ["one", "other"] (by intro s X9; first | exact BindsTo.of_eq rfl | exact binds_K X9 rfl (by k_is) rfl rfl rfl) (ns := ["view", "table", "place", "one", "other"]) (by kernel_rfl) (by exact rfl) ?_
  intro c hc hs hr
  have hg : Globs c ["syntax_at", "Mark", "pair_style", "BEGINS", "COMMENT_FENCE"] := globs_of (by rw [hs]; kernel_rfl)
  clear hs
  refine' ev_lit ?e0 ?_
  case e0 => conv => lhs; whnf
  dsimp only [fv0, List.map, List.cons_append, List.nil_append]
  rcases code_or ha p with h1 | h1
  · rcases code_or ha (p + 1) with h2 | h2
    · repeat' kby_none
      exact .inl ⟨bmk_none (by omega), rfl, rfl⟩
    · repeat' kby_none
      exact .inl ⟨bmk_none (by omega), rfl, rfl⟩
  · have k1 := (kd_is h1).1
    have k2 := (kd_is h1).2.1
    have f1 := fl_1 h1
    have f2 := fl_2 h1
    have fn := fl_n h1
    have fc := fl_c h1
    rcases code_or ha (p + 1) with h2 | h2
    · repeat' kby_none
      refine .inl ⟨?_, rfl, rfl⟩
      unfold bmk
      rw [h2]; simp
    · have g2 := fl_2 h2
      have gn := fl_n h2
      have gb := fl_b h2
      have gc := fl_c h2
      by_cases e : codeAt cs p = 47
      · rw [decide_eq_true e] at f1
        by_cases e2 : codeAt cs (p + 1) = 47 ∨ codeAt cs (p + 1) = 42
        · rw [decide_eq_true e2] at g2
          repeat' kby_none
          rw [gn, show (if has (flOf (codeAt cs (p + 1))) "b" then ("b" : Str) else "") = styS (decide (codeAt cs (p + 1) = 47)) by
            rw [gb]
            rcases e2 with e2 | e2 <;> rw [e2] <;> rfl]
          refine .inr ⟨decide (codeAt cs (p + 1) = 47), _, _, _, ?_, rfl, rfl⟩
          unfold bmk
          rw [if_pos e]
          rcases e2 with e2 | e2 <;> rw [e2] <;> rfl
        · rw [decide_eq_false e2] at g2
          repeat' kby_none
          refine .inl ⟨?_, rfl, rfl⟩
          unfold bmk
          rw [if_pos e, if_neg (fun q => e2 (.inl q)), if_neg (fun q => e2 (.inr q))]
      · rw [decide_eq_false e] at f1
        repeat' kby_none
        exact .inl ⟨bmk_none e, rfl, rfl⟩
theorem c_end_mark {v t : Addr} {cs : List Int} {p : Int} {u : Tok} {led : Led} (hV : IsView led v cs) (hT : IsTab led t) (hz : cs.length ≤ 1000) (ha : ∀ c ∈ cs, c ∈ alpha) :
    Calls P w (hd.heap_39 w.params) 6 299 [.ref v, .ref t, .int p u] led (fun r led' => (emk cs p = none ∧ r = .none ∧ led' = led) ∨ (∃ k b m t1 t2, emk cs p = some (k, b) ∧ r = .ref m ∧ led' = (m, .inst 267 (markF (.int k t1) (.str (styS b) t2) (.bool false) (.bool false))) :: led)) := by
  refine calls_intro (n := 5) (def_mk (by k_is) (by k_is) (by k_is) (by exact rfl) (by exact rfl) (by exact rfl) (by decide)) [("view", .ref v), ("table", .ref t), ("place", .int p u)] ["one", "other"] (by intro s X9; first | exact BindsTo.of_eq rfl | exact binds_K X9 rfl (by k_is) rfl rfl rfl) (ns := ["view", "table", "place", "one", "other"]) (by kernel_rfl) (by exact rfl) ?_
  intro c hc hs hr
  have hg : Globs c ["syntax_at", "Mark", "pair_style", "ENDS", "COMMENT_FENCE"] := globs_of (by rw [hs]; kernel_rfl)
  clear hs
  refine' ev_lit ?e0 ?_
  case e0 => conv => lhs; whnf
  dsimp only [fv0, List.map, List.cons_append, List.nil_append]
  rcases code_or ha p with h1 | h1
  · have e0 : emk cs p = none := by unfold emk; rw [if_neg (by omega), if_neg (by omega)]
    rcases code_or ha (p + 1) with h2 | h2
    · repeat' kby_none
      exact .inl ⟨e0, rfl, rfl⟩
    · repeat' kby_none
      exact .inl ⟨e0, rfl, rfl⟩
  · have k2 := (kd_is h1).2.1
    have k3 := (kd_is h1).2.2.2.1
    have f3 := fl_3 h1
    have fn := fl_n h1
    have fc := fl_c h1
    have fb := fl_b h1
    have one_ : codeAt cs p = 10 → (if has (flOf (codeAt cs p)) "b" then ("b" : Str) else "") = styS true := fun e => by rw [fb, e]; rfl
    rcases code_or ha (p + 1) with h2 | h2
    · by_cases e10 : codeAt cs p = 10
      · rw [decide_eq_true e10] at k3
        repeat' kby_none
        rw [fn, one_ e10]
        exact .inr ⟨1, true, _, _, _, by unfold emk; rw [if_neg (by omega), if_pos e10], rfl, rfl⟩
      · rw [decide_eq_false e10] at k3
        repeat' kby_none
        refine .inl ⟨?_, rfl, rfl⟩
        unfold emk; rw [if_neg (by omega), if_neg e10]
    · have g4 := fl_4 h2
      have gn := fl_n h2
      have gb := fl_b h2
      have gc := fl_c h2
      by_cases e : codeAt cs p = 42
      · have e10 : codeAt cs p ≠ 10 := by omega
        rw [decide_eq_false e10] at k3
        rw [decide_eq_true e] at f3
        by_cases e2 : codeAt cs (p + 1) = 47
        · rw [decide_eq_true e2] at g4
          repeat' kby_none
          rw [gn, show (if has (flOf (codeAt cs p)) "b" then ("b" : Str) else "") = styS false by rw [fb, e]; rfl]
          exact .inr ⟨2, false, _, _, _, by unfold emk; rw [if_pos ⟨e, e2⟩], rfl, rfl⟩
        · rw [decide_eq_false e2] at g4
          repeat' kby_none
          refine .inl ⟨?_, rfl, rfl⟩
          unfold emk; rw [if_neg (fun q => e2 q.2), if_neg e10]
      · rw [decide_eq_false e] at f3
        by_cases e10 : codeAt cs p = 10
        · rw [decide_eq_true e10] at k3
          repeat' kby_none
          rw [fn, one_ e10]
          exact .inr ⟨1, true, _, _, _, by unfold emk; rw [if_neg (by omega), if_pos e10], rfl, rfl⟩
        · rw [decide_eq_false e10] at k3
          repeat' kby_none
          refine .inl ⟨?_, rfl, rfl⟩
          unfold emk; rw [if_neg (by omega), if_neg e10]
theorem c_fitsN {st : Str} {ne : Value} {f : Bool} {t1 : Tok} {led : Led} : Calls P w (hd.heap_39 w.params) 1 306 [.none, .str st t1, ne, .bool f] led (fun r led' => r = .bool false ∧ led' = led) := by
  refine calls_intro (n := 0) (def_mk (by k_is) (by k_is) (by k_is) (by exact rfl) (by exact rfl) (by exact rfl) (by decide)) [("mark", .none), ("style", .str st t1), ("nests", ne), ("is_fence", .bool f)] [] (by intro s X9; first | exact BindsTo.of_eq rfl | exact binds_K X9 rfl (by k_is) rfl rfl rfl) (ns := ["mark", "style", "nests", "is_fence"]) (by kernel_rfl) (by exact rfl) ?_
  intro c hc hs hr
  clear hs
  refine' ev_lit ?e0 ?_
  case e0 => conv => lhs; whnf
  dsimp only [fv0, List.map, List.cons_append, List.nil_append]
  repeat' kby_none
  exact ⟨rfl, rfl⟩
theorem c_fitsM {m : Addr} {l : Value} {s1 st : Str} {f n : Bool} {t1 t2 : Tok} {led : Led} (hm : (m, SO.inst 267 (markF l (.str s1 t1) (.bool false) (.bool false))) ∈ led) (hf : f = false) (hn : n = false) :
    Calls P w (hd.heap_39 w.params) 1 306 [.ref m, .str st t2, .bool n, .bool f] led (fun r led' => r = .bool (s1 == st) ∧ led' = led) := by
  subst hf
  subst hn
  refine calls_intro (n := 0) (def_mk (by k_is) (by k_is) (by k_is) (by exact rfl) (by exact rfl) (by exact rfl) (by decide)) [("mark", .ref m), ("style", .str st t2), ("nests", .bool false), ("is_fence", .bool false)] [] (by intro s X9; first | exact BindsTo.of_eq rfl | exact binds_K X9 rfl (by k_is) rfl rfl rfl) (ns := ["mark", "style", "nests", "is_fence"]) (by kernel_rfl) (by exact rfl) ?_
  intro c hc hs hr
  clear hs
  refine' ev_lit ?e0 ?_
  case e0 => conv => lhs; whnf
  dsimp only [fv0, List.map, List.cons_append, List.nil_append]
  repeat' kby_none
  all_goals (refine ⟨?_, rfl⟩; simp only [retOf, *]; try simp)
theorem ev_bmkN {c : Cx P w (hd.heap_39 w.params)} {fv : FV} {led : Led} {n : Nat} {v t : Addr} {cs : List Int} {p : Int} {u : Tok} {Q : Value → FV → Led → Prop} (hc : c.Ok) (hr : Room c.A n) (hk : 6 ≤ n) (hV : IsView led v cs) (hT : IsTab led t) (hz : cs.length ≤ 1000) (ha : ∀ c ∈ cs, c ∈ alpha)
    (he : bmk cs p = none) (h : Q .none fv led) : EV c (call (.ref 292) [.ref v, .ref t, .int p u]) Q fv led :=
  ev_callG hc hr hk (c_begin_mark hV hT hz ha) fun r led' q => by
    rcases q with ⟨_, rfl, rfl⟩ | ⟨b, m, t1, t2, e, _, _⟩
    · exact h
    · rw [he] at e; cases e
theorem ev_bmkS {c : Cx P w (hd.heap_39 w.params)} {fv : FV} {led : Led} {n : Nat} {v t : Addr} {cs : List Int} {p : Int} {b : Bool} {u : Tok} {Q : Value → FV → Led → Prop} (hc : c.Ok) (hr : Room c.A n) (hk : 6 ≤ n) (hV : IsView led v cs) (hT : IsTab led t) (hz : cs.length ≤ 1000) (ha : ∀ c ∈ cs, c ∈ alpha)
    (he : bmk cs p = some b) (h : ∀ m t1 t2, Q (.ref m) fv ((m, .inst 267 (markF (.int 2 t1) (.str (styS b) t2) (.bool false) (.bool false))) :: led)) : EV c (call (.ref 292) [.ref v, .ref t, .int p u]) Q fv led :=
  ev_callG hc hr hk (c_begin_mark hV hT hz ha) fun r led' q => by
    rcases q with ⟨e, rfl, rfl⟩ | ⟨b', m, t1, t2, e, rfl, rfl⟩
    · rw [he] at e; cases e
    · rw [he] at e; cases e; exact h _ _ _
theorem ev_emkN {c : Cx P w (hd.heap_39 w.params)} {fv : FV} {led : Led} {n : Nat} {v t : Addr} {cs : List Int} {p : Int} {u : Tok} {Q : Value → FV → Led → Prop} (hc : c.Ok) (hr : Room c.A n) (hk : 6 ≤ n) (hV : IsView led v cs) (hT : IsTab led t) (hz : cs.length ≤ 1000) (ha : ∀ c ∈ cs, c ∈ alpha)
    (he : emk cs p = none) (h : Q .none fv led) : EV c (call (.ref 299) [.ref v, .ref t, .int p u]) Q fv led :=
  ev_callG hc hr hk (c_end_mark hV hT hz ha) fun r led' q => by
    rcases q with ⟨_, rfl, rfl⟩ | ⟨k, b, m, t1, t2, e, _, _⟩
    · exact h
    · rw [he] at e; cases e
theorem ev_emkS {c : Cx P w (hd.heap_39 w.params)} {fv : FV} {led : Led} {n : Nat} {v t : Addr} {cs : List Int} {p k : Int} {b : Bool} {u : Tok} {Q : Value → FV → Led → Prop} (hc : c.Ok) (hr : Room c.A n) (hk : 6 ≤ n) (hV : IsView led v cs) (hT : IsTab led t) (hz : cs.length ≤ 1000) (ha : ∀ c ∈ cs, c ∈ alpha)
    (he : emk cs p = some (k, b)) (h : ∀ m t1 t2, Q (.ref m) fv ((m, .inst 267 (markF (.int k t1) (.str (styS b) t2) (.bool false) (.bool false))) :: led)) : EV c (call (.ref 299) [.ref v, .ref t, .int p u]) Q fv led :=
  ev_callG hc hr hk (c_end_mark hV hT hz ha) fun r led' q => by
    rcases q with ⟨e, rfl, rfl⟩ | ⟨k', b', m, t1, t2, e, rfl, rfl⟩
    · rw [he] at e; cases e
    · rw [he] at e; cases e; exact h _ _ _
end
local macro_rules | `(tactic| k_meth) => `(tactic| subst (ev_bmkN "aadllaaA_") (ev_callV c_fitsM "sRR") (ev_callV c_fitsN ""))
local macro_rules | `(tactic| k_meth) => `(tactic| ((with_reducible refine' ev_bmkS ?q1 ?q2 ?q3 ?q4 ?q5 ?q6 ?q7 ?q8 ?_); (case q1 => assumption); (case q2 => assumption); (case q3 => decide); (case q4 => kl_rest); (case q5 => kl_rest); (case q6 => assumption); (case q7 => assumption); (case q8 => with_reducible assumption); intro _ _ _; (try with_reducible refine ev_swapW ?_)))
local macro_rules | `(tactic| k_meth) => `(tactic| subst (ev_emkN "aadllaaA_"))
local macro_rules | `(tactic| k_meth) => `(tactic| ((with_reducible refine' ev_emkS ?q1 ?q2 ?q3 ?q4 ?q5 ?q6 ?q7 ?q8 ?_); (case q1 => assumption); (case q2 => assumption); (case q3 => decide); (case q4 => kl_rest); (case q5 => kl_rest); (case q6 => assumption); (case q7 => assumption); (case q8 => with_reducible assumption); intro _ _ _; (try with_reducible refine ev_swapW ?_)))
abbrev walkF (v t : Addr) (pl : Value) (ol : Addr) (be le wh wo st co sy ne sa qu ha : Value) : FV := [("view", some (.ref v)), ("table", some (.ref t)), ("place", some pl), ("opens", some (.ref ol)), ("below", some be), ("least", some le), ("whole", some wh), ("word", some wo), ("string", some st), ("comment", some co), ("style", some sy), ("nests", some ne), ("start", some sa), ("quoted", some qu), ("half", some ha)]
/-- none or an int -/
inductive IntV : Value → Prop
  | none : IntV .none
  | int {i : Int} {t : Tok} : IntV (.int i t)
theorem IntV.handed {v : Value} (h : IntV v) : handedIn v = true := by cases h <;> rfl
def elseV : Value → Value → Value
  | .none, x => x
  | y, _ => y
theorem IntV.els {a b : Value} (h : IntV a) (g : IntV b) : IntV (elseV a b) := by cases h <;> first | exact g | exact .int
section
variable {w : World} {wk v t ol : Addr} {pl be le wh wo st co sy ne sa qu ha : Value} {led : Led}
theorem c_end_word (hw : IntV wo) : Calls P w (hd.heap_39 w.params) 1 341 [.ref wk] ((wk, .inst 442 (walkF v t pl ol be le wh wo st co sy ne sa qu ha)) :: led)
    (fun r led' => r = .none ∧ led' = (wk, .inst 442 (walkF v t pl ol be le (elseV wo wh) .none st co sy ne sa qu ha)) :: led) := by
  cases hw
  · refine calls_intro (n := 0) (def_mk (by k_is) (by k_is) (by k_is) (by exact rfl) (by exact rfl) (by exact rfl) (by decide)) [("self", .ref wk)] [] (by intro s X9; first | exact BindsTo.of_eq rfl | exact binds_K X9 rfl (by k_is) rfl rfl rfl) (ns := ["self"]) (by kernel_rfl) (by exact rfl) ?_
    intro c hc hs hr
    clear hs
    refine' ev_lit ?e0 ?_
    case e0 => conv => lhs; whnf
    dsimp only [fv0, List.map, List.cons_append, List.nil_append]
    repeat' kby_none
    exact ⟨rfl, rfl⟩
  · refine calls_intro (n := 0) (def_mk (by k_is) (by k_is) (by k_is) (by exact rfl) (by exact rfl) (by exact rfl) (by decide)) [("self", .ref wk)] [] (by intro s X9; first | exact BindsTo.of_eq rfl | exact binds_K X9 rfl (by k_is) rfl rfl rfl) (ns := ["self"]) (by kernel_rfl) (by exact rfl) ?_
    intro c hc hs hr
    clear hs
    refine' ev_lit ?e0 ?_
    case e0 => conv => lhs; whnf
    dsimp only [fv0, List.map, List.cons_append, List.nil_append]
    repeat' kby_none
    exact ⟨rfl, rfl⟩
theorem c_begin_word {i : Int} {tk : Tok} (hw : IntV wo) : Calls P w (hd.heap_39 w.params) 1 348 [.ref wk] ((wk, .inst 442 (walkF v t (.int i tk) ol be le wh wo st co sy ne sa qu ha)) :: led)
    (fun r led' => r = .none ∧ led' = (wk, .inst 442 (walkF v t (.int i tk) ol be le wh (elseV wo (.int i tk)) st co sy ne sa qu ha)) :: led) := by
  cases hw
  · refine calls_intro (n := 0) (def_mk (by k_is) (by k_is) (by k_is) (by exact rfl) (by exact rfl) (by exact rfl) (by decide)) [("self", .ref wk)] [] (by intro s X9; first | exact BindsTo.of_eq rfl | exact binds_K X9 rfl (by k_is) rfl rfl rfl) (ns := ["self"]) (by kernel_rfl) (by exact rfl) ?_
    intro c hc hs hr
    clear hs
    refine' ev_lit ?e0 ?_
    case e0 => conv => lhs; whnf
    dsimp only [fv0, List.map, List.cons_append, List.nil_append]
    repeat' kby_none
    exact ⟨rfl, rfl⟩
  · refine calls_intro (n := 0) (def_mk (by k_is) (by k_is) (by k_is) (by exact rfl) (by exact rfl) (by exact rfl) (by decide)) [("self", .ref wk)] [] (by intro s X9; first | exact BindsTo.of_eq rfl | exact binds_K X9 rfl (by k_is) rfl rfl rfl) (ns := ["self"]) (by kernel_rfl) (by exact rfl) ?_
    intro c hc hs hr
    clear hs
    refine' ev_lit ?e0 ?_
    case e0 => conv => lhs; whnf
    dsimp only [fv0, List.map, List.cons_append, List.nil_append]
    repeat' kby_none
    exact ⟨rfl, rfl⟩
theorem c_leave {i : Int} {tk : Tok} (hi : i = 1) : Calls P w (hd.heap_39 w.params) 1 376 [.ref wk] ((wk, .inst 442 (walkF v t pl ol be le wh wo st (.int i tk) sy ne sa qu ha)) :: led)
    (fun r led' => ∃ a : Tok × Tok, r = .none ∧ led' = (wk, .inst 442 (walkF v t pl ol be le wh wo st (.int 0 a.1) (.str "" a.2) (.bool false) .none qu ha)) :: led) := by
  refine calls_intro (n := 0) (def_mk (by k_is) (by k_is) (by k_is) (by exact rfl) (by exact rfl) (by exact rfl) (by decide)) [("self", .ref wk)] [] (by intro s X9; first | exact BindsTo.of_eq rfl | exact binds_K X9 rfl (by k_is) rfl rfl rfl) (ns := ["self"]) (by kernel_rfl) (by exact rfl) ?_
  intro c hc hs hr
  clear hs
  refine' ev_lit ?e0 ?_
  case e0 => conv => lhs; whnf
  dsimp only [fv0, List.map, List.cons_append, List.nil_append]
  repeat' kby_none
  exact ⟨(_, _), rfl, rfl⟩
theorem c_end_string {i : Int} {tk : Tok} : Calls P w (hd.heap_39 w.params) 1 390 [.ref wk] ((wk, .inst 442 (walkF v t pl ol be le wh wo st co sy ne (.int i tk) qu ha)) :: led)
    (fun r led' => r = .none ∧ led' = (wk, .inst 442 (walkF v t pl ol be le (.int i tk) wo .none co sy ne .none qu ha)) :: led) := by
  refine calls_intro (n := 0) (def_mk (by k_is) (by k_is) (by k_is) (by exact rfl) (by exact rfl) (by exact rfl) (by decide)) [("self", .ref wk)] [] (by intro s X9; first | exact BindsTo.of_eq rfl | exact binds_K X9 rfl (by k_is) rfl rfl rfl) (ns := ["self"]) (by kernel_rfl) (by exact rfl) ?_
  intro c hc hs hr
  clear hs
  refine' ev_lit ?e0 ?_
  case e0 => conv => lhs; whnf
  dsimp only [fv0, List.map, List.cons_append, List.nil_append]
  repeat' kby_none
  exact ⟨rfl, rfl⟩
theorem c_take {m : Addr} {k p lim : Int} {tk tp tl u : Tok} {x : Str} {s1 n1 f1 : Value} (hm : (m, SO.inst 267 (markF (.int k tk) s1 n1 f1)) ∈ led) (hk : k = 2 → p + 1 < lim) :
    Calls P w (hd.heap_39 w.params) 1 397 [.ref wk, .ref m, .str x u, .int lim tl] ((wk, .inst 442 (walkF v t (.int p tp) ol be le wh wo st co sy ne sa qu ha)) :: led)
    (fun r led' => ∃ a, r = .bool true ∧ led' = (wk, .inst 442 (walkF v t (.int (p + k) a) ol be le wh wo st co sy ne sa qu ha)) :: led) := by
  by_cases e : k = 2
  · have hk := hk e
    refine calls_intro (n := 0) (def_mk (by k_is) (by k_is) (by k_is) (by exact rfl) (by exact rfl) (by exact rfl) (by decide)) [("self", .ref wk), ("mark", .ref m), ("word", .str x u), ("limit", .int lim tl)] [] (by intro s X9; first | exact BindsTo.of_eq rfl | exact binds_K X9 rfl (by k_is) rfl rfl rfl) (ns := ["self", "mark", "word", "limit"]) (by kernel_rfl) (by exact rfl) ?_
    intro c hc hs hr
    clear hs
    refine' ev_lit ?e0 ?_
    case e0 => conv => lhs; whnf
    dsimp only [fv0, List.map, List.cons_append, List.nil_append]
    repeat' kby_none
    exact ⟨_, rfl, rfl⟩
  · refine calls_intro (n := 0) (def_mk (by k_is) (by k_is) (by k_is) (by exact rfl) (by exact rfl) (by exact rfl) (by decide)) [("self", .ref wk), ("mark", .ref m), ("word", .str x u), ("limit", .int lim tl)] [] (by intro s X9; first | exact BindsTo.of_eq rfl | exact binds_K X9 rfl (by k_is) rfl rfl rfl) (ns := ["self", "mark", "word", "limit"]) (by kernel_rfl) (by exact rfl) ?_
    intro c hc hs hr
    clear hs
    refine' ev_lit ?e0 ?_
    case e0 => conv => lhs; whnf
    dsimp only [fv0, List.map, List.cons_append, List.nil_append]
    repeat' kby_none
    exact ⟨_, rfl, rfl⟩
end
local macro_rules | `(tactic| fold_side6) => `(tactic| first | with_reducible assumption | with_reducible exact IntV.none | with_reducible exact IntV.int | ((with_reducible refine' IntV.els ?a ?b); (case a => fold_side6); (case b => fold_side6)))
local macro_rules | `(tactic| k_meth) => `(tactic| subst (ev_callX c_take "so!") (ev_callL c_end_string "") (ev_callX c_leave "r!") (ev_callL c_begin_word "m") (ev_callL c_end_word "m"))
section
variable {w : World} {wk v t ol : Addr} {pl be le wh wo st co sy ne sa qu ha : Value} {led : Led} {ovs : List Value}
theorem c_open_at {p : Int} {tp : Tok} (hw : IntV wo) (hn : ovs.length ≤ sizeLine) : Calls P w (hd.heap_39 w.params) 2 355 [.ref wk, .int p tp] ((wk, .inst 442 (walkF v t pl ol be le wh wo st co sy ne sa qu ha)) :: (ol, .lst ovs) :: led)
    (fun r led' => r = .none ∧ led' = (wk, .inst 442 (walkF v t pl ol be le .none .none st co sy ne sa qu ha)) :: (ol, .lst (ovs ++ [.int p tp])) :: led) := by
  refine calls_intro (n := 1) (def_mk (by k_is) (by k_is) (by k_is) (by exact rfl) (by exact rfl) (by exact rfl) (by decide)) [("self", .ref wk), ("place", .int p tp)] [] (by intro s X9; first | exact BindsTo.of_eq rfl | exact binds_K X9 rfl (by k_is) rfl rfl rfl) (ns := ["self", "place"]) (by kernel_rfl) (by exact rfl) ?_
  intro c hc hs hr
  clear hs
  refine' ev_lit ?e0 ?_
  case e0 => conv => lhs; whnf
  dsimp only [fv0, List.map, List.cons_append, List.nil_append]
  repeat' kby_none
  exact ⟨rfl, rfl⟩
theorem c_begin_comment {m : Addr} {l : Value} {s1 : Str} {t1 ts : Tok} {s : Int} (hm : (m, SO.inst 267 (markF l (.str s1 t1) (.bool false) (.bool false))) ∈ led) (hw : IntV wo) :
    Calls P w (hd.heap_39 w.params) 2 369 [.ref wk, .ref m, .int s ts] ((wk, .inst 442 (walkF v t pl ol be le wh wo st co sy ne sa qu ha)) :: led)
    (fun r led' => ∃ a, r = .none ∧ led' = (wk, .inst 442 (walkF v t pl ol be le (elseV wo wh) .none st (.int 1 a) (.str s1 t1) (.bool false) (.int s ts) qu ha)) :: led) := by
  refine calls_intro (n := 1) (def_mk (by k_is) (by k_is) (by k_is) (by exact rfl) (by exact rfl) (by exact rfl) (by decide)) [("self", .ref wk), ("mark", .ref m), ("start", .int s ts)] [] (by intro s X9; first | exact BindsTo.of_eq rfl | exact binds_K X9 rfl (by k_is) rfl rfl rfl) (ns := ["self", "mark", "start"]) (by kernel_rfl) (by exact rfl) ?_
  intro c hc hs hr
  clear hs
  refine' ev_lit ?e0 ?_
  case e0 => conv => lhs; whnf
  dsimp only [fv0, List.map, List.cons_append, List.nil_append]
  repeat' kby_none
  exact ⟨_, rfl, rfl⟩
theorem c_begin_string {e i : Int} {te tp : Tok} (hw : IntV wo) : Calls P w (hd.heap_39 w.params) 2 383 [.ref wk, .int e te] ((wk, .inst 442 (walkF v t (.int i tp) ol be le wh wo st co sy ne sa qu ha)) :: led)
    (fun r led' => r = .none ∧ led' = (wk, .inst 442 (walkF v t (.int i tp) ol be le (elseV wo wh) .none (.int e te) co sy ne (.int i tp) qu ha)) :: led) := by
  refine calls_intro (n := 1) (def_mk (by k_is) (by k_is) (by k_is) (by exact rfl) (by exact rfl) (by exact rfl) (by decide)) [("self", .ref wk), ("ender", .int e te)] [] (by intro s X9; first | exact BindsTo.of_eq rfl | exact binds_K X9 rfl (by k_is) rfl rfl rfl) (ns := ["self", "ender"]) (by kernel_rfl) (by exact rfl) ?_
  intro c hc hs hr
  clear hs
  refine' ev_lit ?e0 ?_
  case e0 => conv => lhs; whnf
  dsimp only [fv0, List.map, List.cons_append, List.nil_append]
  repeat' kby_none
  exact ⟨rfl, rfl⟩
end
inductive Mo where
  | plain
  | str (s : Int)
  | com (b : Bool) (s : Int)
/-- one step of the walk -/
def stp (cs : List Int) (p : Int) : Mo → Int × Mo
  | .plain => match bmk cs p with
    | some b => (p + 2, .com b p)
    | none => (p + 1, if codeAt cs p = 34 then .str p else .plain)
  | .str s => (p + 1, if codeAt cs p = 34 then .plain else .str s)
  | .com b s => match emk cs p with
    | some (k, b') => if b' = b then (p + k, .plain) else (p + 1, .com b s)
    | none => (p + 1, .com b s)
theorem stp_str1 {cs : List Int} {p s : Int} (h : codeAt cs p = 34) : stp cs p (.str s) = (p + 1, .plain) := by simp [stp, h]
theorem stp_str0 {cs : List Int} {p s : Int} (h : codeAt cs p ≠ 34) : stp cs p (.str s) = (p + 1, .str s) := by simp [stp, h]
inductive MoV : Mo → Value → Value → Value → Value → Prop
  | plain {a b : Tok} : MoV .plain .none (.int 0 a) (.str "" b) .none
  | str {s : Int} {a b d e : Tok} : MoV (.str s) (.int 34 a) (.int 0 b) (.str "" d) (.int s e)
  | com {b : Bool} {s : Int} {a d e : Tok} : MoV (.com b s) .none (.int 1 a) (.str (styS b) d) (.int s e)
abbrev walkL (wk v t ol : Addr) (ovs : List Value) (p : Int) (tp tb tl th : Tok) (wh wo st co sy sa : Value) (led : Led) : Led :=
  (wk, .inst 442 (walkF v t (.int p tp) ol (.int 0 tb) (.int 0 tl) wh wo st co sy (.bool false) sa (.bool false) (.str "" th))) :: (ol, .lst ovs) :: led
inductive WalkAt (wk v t : Addr) (p : Int) (mo : Mo) (led L : Led) : Prop
  | mk (ol : Addr) (ovs : List Value) (tp tb tl th : Tok) (wh wo st co sy sa : Value) : L = walkL wk v t ol ovs p tp tb tl th wh wo st co sy sa led → IntV wo → IntV wh → MoV mo st co sy sa → (ovs.length : Int) ≤ p → WalkAt wk v t p mo led L
theorem sty_eq (a b : Bool) : (styS a == styS b) = (a == b) := by cases a <;> cases b <;> decide
section
variable {x y : Addr × SO} {m n : Addr} {f g : FV} {led : Led} {post : Led → Prop}
theorem sub_m0 (h : post (x :: y :: led)) : ∃ M : Led, M.Sublist (x :: y :: led) ∧ post M := ⟨_, .refl _, h⟩
theorem sub_m1 (h : post (x :: y :: led)) : ∃ M : Led, M.Sublist (x :: (m, .inst 267 f) :: y :: led) ∧ post M := ⟨_, .cons_cons _ (.cons _ (.refl _)), h⟩
theorem sub_m2 (h : post (x :: y :: led)) : ∃ M : Led, M.Sublist (x :: (m, .inst 267 f) :: (n, .inst 267 g) :: y :: led) ∧ post M := ⟨_, .cons_cons _ (.cons _ (.cons _ (.refl _))), h⟩
theorem sub_m3 {o : Addr} {e : FV} (h : post (x :: y :: led)) : ∃ M : Led, M.Sublist (x :: (m, .inst 267 f) :: (n, .inst 267 g) :: (o, .inst 267 e) :: y :: led) ∧ post M := ⟨_, .cons_cons _ (.cons _ (.cons _ (.cons _ (.refl _)))), h⟩
end
theorem ev_callP {prog : Program} {w : World} {K : Frag} {c : Cx prog w K} {fv : FV} {led : Led} {Q : Value → FV → Led → Prop} {n k : Nat} {g : Addr} {vs : List Value} {V : Value} {X : Led → Prop} (hc : c.Ok) (hr : Room c.A n) (hk : k ≤ n) (C : Calls prog w K k g vs led (fun r led' => r = V ∧ X led')) (h : ∀ led', X led' → Q V fv led') : EV c (call (.ref g) vs) Q fv led :=
  ev_call hc (hr.le hk) C fun r led' p => by obtain ⟨rfl, q⟩ := p; exact h led' q
structure Legal (cs : List Int) (p : Int) (mo : Mo) : Prop where
  al : codeAt cs p ∈ alpha
  no41 : mo = .plain → codeAt cs p ≠ 41
  le : p ≤ 10000
local macro_rules | `(tactic| k_meth) => `(tactic| subst (ev_callL c_begin_string "m") (ev_callX c_begin_comment "sm!") (ev_callL c_open_at "mO"))
local macro_rules | `(tactic| kt_ors) => `(tactic| subst sub_m3 sub_m2 sub_m1 sub_m0)
section
variable {w : World} {wk v t ol : Addr} {wh wo : Value} {led : Led} {ovs : List Value} {cs : List Int} {p lim : Int} {tp tb tl th u : Tok}
theorem c_step_in_comment {b : Bool} {s : Int} {a d e : Tok} (hV : IsView led v cs) (hT : IsTab led t) (hz : cs.length ≤ 1000) (ha : ∀ c ∈ cs, c ∈ alpha) (hl : (stp cs p (.com b s)).1 ≤ lim) (hw : IntV wo) (hw2 : IntV wh) (hn : (ovs.length : Int) ≤ p) :
    Calls P w (hd.heap_39 w.params) 7 404 [.ref wk, .int lim u] (walkL wk v t ol ovs p tp tb tl th wh wo .none (.int 1 a) (.str (styS b) d) (.int s e) led)
    (fun r led' => r = .none ∧ WalkAt wk v t (stp cs p (.com b s)).1 (stp cs p (.com b s)).2 led led') := by
  refine Calls.sub ?_
  have fin : ∀ q : Int, p ≤ q → (ovs.length : Int) ≤ q := fun q h => Int.le_trans hn h
  rcases hE : emk cs p with _ | ⟨k, b'⟩
  · have hs : stp cs p (.com b s) = (p + 1, .com b s) := by unfold stp; rw [hE]
    rw [hs]
    rcases hB : bmk cs p with _ | b2
    · refine calls_intro (n := 6) (def_mk (by k_is) (by k_is) (by k_is) (by exact rfl) (by exact rfl) (by exact rfl) (by decide)) [("self", .ref wk), ("limit", .int lim u)] ["is_fence", "mark"] (by intro s X9; first | exact BindsTo.of_eq rfl | exact binds_K X9 rfl (by k_is) rfl rfl rfl) (ns := ["self", "limit", "is_fence", "mark"]) (by kernel_rfl) (by exact rfl) ?_
      intro c hc hs hr
      have hg : Globs c ["fits", "end_mark", "begin_mark"] := globs_of (by rw [hs]; kernel_rfl)
      clear hs
      refine' ev_lit ?e0 ?_
      case e0 => conv => lhs; whnf
      dsimp only [fv0, List.map, List.cons_append, List.nil_append]
      repeat' kby_none
      kt_ors
      exact ⟨rfl, _, _, _, _, _, _, _, _, _, _, _, _, rfl, hw, hw2, .com, fin _ (by omega)⟩
    · refine calls_intro (n := 6) (def_mk (by k_is) (by k_is) (by k_is) (by exact rfl) (by exact rfl) (by exact rfl) (by decide)) [("self", .ref wk), ("limit", .int lim u)] ["is_fence", "mark"] (by intro s X9; first | exact BindsTo.of_eq rfl | exact binds_K X9 rfl (by k_is) rfl rfl rfl) (ns := ["self", "limit", "is_fence", "mark"]) (by kernel_rfl) (by exact rfl) ?_
      intro c hc hs hr
      have hg : Globs c ["fits", "end_mark", "begin_mark"] := globs_of (by rw [hs]; kernel_rfl)
      clear hs
      refine' ev_lit ?e0 ?_
      case e0 => conv => lhs; whnf
      dsimp only [fv0, List.map, List.cons_append, List.nil_append]
      repeat' kby_none
      kt_ors
      exact ⟨rfl, _, _, _, _, _, _, _, _, _, _, _, _, rfl, hw, hw2, .com, fin _ (by omega)⟩
  · have hq := sty_eq b' b
    by_cases eb : b' = b
    · have hs : stp cs p (.com b s) = (p + k, .plain) := by unfold stp; rw [hE]; exact if_pos eb
      rw [hs] at hl ⊢
      rw [beq_iff_eq.mpr eb] at hq
      have hk : k = 2 ∨ k = 1 := by
        unfold emk at hE
        split at hE
        · cases hE; exact .inl rfl
        · split at hE
          · cases hE; exact .inr rfl
          · cases hE
      have hl' : k = 2 → p + 1 < lim := by intro z; dsimp only at hl; omega
      refine calls_intro (n := 6) (def_mk (by k_is) (by k_is) (by k_is) (by exact rfl) (by exact rfl) (by exact rfl) (by decide)) [("self", .ref wk), ("limit", .int lim u)] ["is_fence", "mark"] (by intro s X9; first | exact BindsTo.of_eq rfl | exact binds_K X9 rfl (by k_is) rfl rfl rfl) (ns := ["self", "limit", "is_fence", "mark"]) (by kernel_rfl) (by exact rfl) ?_
      intro c hc hs hr
      have hg : Globs c ["fits", "end_mark", "begin_mark"] := globs_of (by rw [hs]; kernel_rfl)
      clear hs
      refine' ev_lit ?e0 ?_
      case e0 => conv => lhs; whnf
      dsimp only [fv0, List.map, List.cons_append, List.nil_append]
      repeat' kby_none
      kt_ors
      exact ⟨rfl, _, _, _, _, _, _, _, _, _, _, _, _, rfl, hw, hw2, .plain, fin _ (by omega)⟩
    · have hs : stp cs p (.com b s) = (p + 1, .com b s) := by unfold stp; rw [hE]; exact if_neg eb
      rw [hs]
      rw [beq_false_of_ne eb] at hq
      rcases hB : bmk cs p with _ | b2
      · refine calls_intro (n := 6) (def_mk (by k_is) (by k_is) (by k_is) (by exact rfl) (by exact rfl) (by exact rfl) (by decide)) [("self", .ref wk), ("limit", .int lim u)] ["is_fence", "mark"] (by intro s X9; first | exact BindsTo.of_eq rfl | exact binds_K X9 rfl (by k_is) rfl rfl rfl) (ns := ["self", "limit", "is_fence", "mark"]) (by kernel_rfl) (by exact rfl) ?_
        intro c hc hs hr
        have hg : Globs c ["fits", "end_mark", "begin_mark"] := globs_of (by rw [hs]; kernel_rfl)
        clear hs
        refine' ev_lit ?e0 ?_
        case e0 => conv => lhs; whnf
        dsimp only [fv0, List.map, List.cons_append, List.nil_append]
        repeat' kby_none
        kt_ors
        exact ⟨rfl, _, _, _, _, _, _, _, _, _, _, _, _, rfl, hw, hw2, .com, fin _ (by omega)⟩
      · refine calls_intro (n := 6) (def_mk (by k_is) (by k_is) (by k_is) (by exact rfl) (by exact rfl) (by exact rfl) (by decide)) [("self", .ref wk), ("limit", .int lim u)] ["is_fence", "mark"] (by intro s X9; first | exact BindsTo.of_eq rfl | exact binds_K X9 rfl (by k_is) rfl rfl rfl) (ns := ["self", "limit", "is_fence", "mark"]) (by kernel_rfl) (by exact rfl) ?_
        intro c hc hs hr
        have hg : Globs c ["fits", "end_mark", "begin_mark"] := globs_of (by rw [hs]; kernel_rfl)
        clear hs
        refine' ev_lit ?e0 ?_
        case e0 => conv => lhs; whnf
        dsimp only [fv0, List.map, List.cons_append, List.nil_append]
        repeat' kby_none
        kt_ors
        exact ⟨rfl, _, _, _, _, _, _, _, _, _, _, _, _, rfl, hw, hw2, .com, fin _ (by omega)⟩
end
section
variable {w : World} {wk v t ol : Addr} {wh wo : Value} {led : Led} {ovs : List Value} {cs : List Int} {p lim : Int} {tp tb tl th u : Tok}
theorem c_step_in_string {s : Int} {a b d e : Tok} (hV : IsView led v cs) (hT : IsTab led t) (hz : cs.length ≤ 1000) (hc1 : codeAt cs p ∈ alpha) (hw : IntV wo) (hw2 : IntV wh) (hn : (ovs.length : Int) ≤ p) :
    Calls P w (hd.heap_39 w.params) 7 411 [.ref wk] (walkL wk v t ol ovs p tp tb tl th wh wo (.int 34 a) (.int 0 b) (.str "" d) (.int s e) led)
    (fun r led' => r = .none ∧ WalkAt wk v t (stp cs p (.str s)).1 (stp cs p (.str s)).2 led led') := by
  refine Calls.sub ?_
  have fin : ∀ q : Int, p ≤ q → (ovs.length : Int) ≤ q := fun q h => Int.le_trans hn h
  obtain ⟨l, vals, tv, v1, v2, v3⟩ := id hV
  obtain ⟨q, r, r2, kvs, kvs2, t1, t2, t3, t4, H⟩ := id hT
  have m1 := (kd_more hc1).1
  have m2 := (kd_more hc1).2.1
  have m3 : ((kdOf (codeAt cs p) == "\\") || (kdOf (codeAt cs p) == "/")) = false := by rw [m1, m2]; rfl
  have m4 := (kd_is hc1).2.2.2.2.2.1
  by_cases e34 : codeAt cs p = 34
  · rw [decide_eq_true e34] at m4
    have hs : stp cs p (.str s) = (p + 1, .plain) := stp_str1 e34
    rw [hs]
    refine calls_intro (n := 6) (def_mk (by k_is) (by k_is) (by k_is) (by exact rfl) (by exact rfl) (by exact rfl) (by decide)) [("self", .ref wk)] ["code", "syntax"] (by intro s X9; first | exact BindsTo.of_eq rfl | exact binds_K X9 rfl (by k_is) rfl rfl rfl) (ns := ["self", "code", "syntax"]) (by kernel_rfl) (by exact rfl) ?_
    intro c hc hs hr
    have hg : Globs c ["STRING", "STRING_FENCE"] := globs_of (by rw [hs]; kernel_rfl)
    clear hs
    refine' ev_lit ?e0 ?_
    case e0 => conv => lhs; whnf
    dsimp only [fv0, List.map, List.cons_append, List.nil_append]
    repeat' kby_none
    kt_ors
    exact ⟨rfl, _, _, _, _, _, _, _, _, _, _, _, _, rfl, hw, .int, .plain, fin _ (by omega)⟩
  · rw [decide_eq_false e34] at m4
    have hs : stp cs p (.str s) = (p + 1, .str s) := stp_str0 e34
    rw [hs]
    refine calls_intro (n := 6) (def_mk (by k_is) (by k_is) (by k_is) (by exact rfl) (by exact rfl) (by exact rfl) (by decide)) [("self", .ref wk)] ["code", "syntax"] (by intro s X9; first | exact BindsTo.of_eq rfl | exact binds_K X9 rfl (by k_is) rfl rfl rfl) (ns := ["self", "code", "syntax"]) (by kernel_rfl) (by exact rfl) ?_
    intro c hc hs hr
    have hg : Globs c ["STRING", "STRING_FENCE"] := globs_of (by rw [hs]; kernel_rfl)
    clear hs
    refine' ev_lit ?e0 ?_
    case e0 => conv => lhs; whnf
    dsimp only [fv0, List.map, List.cons_append, List.nil_append]
    repeat' kby_none
    kt_ors
    exact ⟨rfl, _, _, _, _, _, _, _, _, _, _, _, _, rfl, hw, hw2, .str, fin _ (by omega)⟩
section
variable {s : Addr} {mt fl be le st co sy ne sa qu ha : Value} {tk : Tok}
theorem c_sbk_word (hV : IsView led v cs) (hz : cs.length ≤ 1000) (hc1 : codeAt cs p ∈ alpha) (hs : (s, SO.inst 144 (synF (.str (kdOf (codeAt cs p)) tk) mt fl)) ∈ ((wk, .inst 442 (walkF v t (.int p tp) ol be le wh wo st co sy ne sa qu ha)) :: led : Led)) (hw : IntV wo) (h : codeAt cs p = 97 ∨ codeAt cs p = 98) :
    Calls P w (hd.heap_39 w.params) 4 432 [.ref wk, .ref s] ((wk, .inst 442 (walkF v t (.int p tp) ol be le wh wo st co sy ne sa qu ha)) :: led) (fun r led' => r = .none ∧ led' = (wk, .inst 442 (walkF v t (.int p tp) ol be le wh (elseV wo (.int p tp)) st co sy ne sa qu ha)) :: led) := by
  have m1 := (kd_more hc1).1
  have m2 := (kd_more hc1).2.1
  have m3 : ((kdOf (codeAt cs p) == "\\") || (kdOf (codeAt cs p) == "/")) = false := by rw [m1, m2]; rfl
  have m4 := (kd_more hc1).2.2.2.2
  have m5 := (kd_is hc1).2.2.2.2.2.2.1
  have m6 := (kd_is hc1).2.2.2.2.2.2.2
  have m7 := (kd_is hc1).2.2.2.2.2.1
  have m8 := (kd_more hc1).2.2.1
  have m9 : (kdOf (codeAt cs p) != "'") = true := by rw [bne, (kd_more hc1).2.2.2.1]; rfl
  rw [decide_eq_true h] at m4
  refine calls_intro (n := 3) (def_mk (by k_is) (by k_is) (by k_is) (by exact rfl) (by exact rfl) (by exact rfl) (by decide)) [("self", .ref wk), ("syntax", .ref s)] [] (by intro s X9; first | exact BindsTo.of_eq rfl | exact binds_K X9 rfl (by k_is) rfl rfl rfl) (ns := ["self", "syntax"]) (by kernel_rfl) (by exact rfl) ?_
  intro c hc hs hr
  have hg : Globs c ["OPENS", "CLOSES", "STRING", "STRING_FENCE", "PREFIX"] := globs_of (by rw [hs]; kernel_rfl)
  clear hs
  refine' ev_lit ?e0 ?_
  case e0 => conv => lhs; whnf
  dsimp only [fv0, List.map, List.cons_append, List.nil_append]
  repeat' kby_none
  exact ⟨rfl, rfl⟩
theorem c_sbk_open (hV : IsView led v cs) (hz : cs.length ≤ 1000) (hc1 : codeAt cs p ∈ alpha) (hs : (s, SO.inst 144 (synF (.str (kdOf (codeAt cs p)) tk) mt fl)) ∈ ((wk, .inst 442 (walkF v t (.int p tp) ol be le wh wo st co sy ne sa qu ha)) :: (ol, .lst ovs) :: led : Led)) (hw : IntV wo) (hn : ovs.length ≤ sizeLine) (h : codeAt cs p = 40) :
    Calls P w (hd.heap_39 w.params) 4 432 [.ref wk, .ref s] ((wk, .inst 442 (walkF v t (.int p tp) ol be le wh wo st co sy ne sa qu ha)) :: (ol, .lst ovs) :: led) (fun r led' => r = .none ∧ led' = (wk, .inst 442 (walkF v t (.int p tp) ol be le .none .none st co sy ne sa qu ha)) :: (ol, .lst (ovs ++ [.int p tp])) :: led) := by
  have m1 := (kd_more hc1).1
  have m2 := (kd_more hc1).2.1
  have m3 : ((kdOf (codeAt cs p) == "\\") || (kdOf (codeAt cs p) == "/")) = false := by rw [m1, m2]; rfl
  have m4 := (kd_more hc1).2.2.2.2
  have m5 := (kd_is hc1).2.2.2.2.2.2.1
  have m6 := (kd_is hc1).2.2.2.2.2.2.2
  have m7 := (kd_is hc1).2.2.2.2.2.1
  have m8 := (kd_more hc1).2.2.1
  have m9 : (kdOf (codeAt cs p) != "'") = true := by rw [bne, (kd_more hc1).2.2.2.1]; rfl
  rw [decide_eq_false (by omega)] at m4
  rw [decide_eq_true h] at m5
  refine calls_intro (n := 3) (def_mk (by k_is) (by k_is) (by k_is) (by exact rfl) (by exact rfl) (by exact rfl) (by decide)) [("self", .ref wk), ("syntax", .ref s)] [] (by intro s X9; first | exact BindsTo.of_eq rfl | exact binds_K X9 rfl (by k_is) rfl rfl rfl) (ns := ["self", "syntax"]) (by kernel_rfl) (by exact rfl) ?_
  intro c hc hs hr
  have hg : Globs c ["OPENS", "CLOSES", "STRING", "STRING_FENCE", "PREFIX"] := globs_of (by rw [hs]; kernel_rfl)
  clear hs
  refine' ev_lit ?e0 ?_
  case e0 => conv => lhs; whnf
  dsimp only [fv0, List.map, List.cons_append, List.nil_append]
  repeat' kby_none
  exact ⟨rfl, rfl⟩
theorem c_sbk_str (hV : IsView led v cs) (hz : cs.length ≤ 1000) (hc1 : codeAt cs p ∈ alpha) (hs : (s, SO.inst 144 (synF (.str (kdOf (codeAt cs p)) tk) mt fl)) ∈ ((wk, .inst 442 (walkF v t (.int p tp) ol be le wh wo st co sy ne sa qu ha)) :: led : Led)) (hw : IntV wo) (h : codeAt cs p = 34) :
    Calls P w (hd.heap_39 w.params) 4 432 [.ref wk, .ref s] ((wk, .inst 442 (walkF v t (.int p tp) ol be le wh wo st co sy ne sa qu ha)) :: led) (fun r led' => ∃ te, r = .none ∧ led' = (wk, .inst 442 (walkF v t (.int p tp) ol be le (elseV wo wh) .none (.int 34 te) co sy ne (.int p tp) qu ha)) :: led) := by
  obtain ⟨l, vals, tv, v1, v2, v3⟩ := id hV
  have m1 := (kd_more hc1).1
  have m2 := (kd_more hc1).2.1
  have m3 : ((kdOf (codeAt cs p) == "\\") || (kdOf (codeAt cs p) == "/")) = false := by rw [m1, m2]; rfl
  have m4 := (kd_more hc1).2.2.2.2
  have m5 := (kd_is hc1).2.2.2.2.2.2.1
  have m6 := (kd_is hc1).2.2.2.2.2.2.2
  have m7 := (kd_is hc1).2.2.2.2.2.1
  have m8 := (kd_more hc1).2.2.1
  have m9 : (kdOf (codeAt cs p) != "'") = true := by rw [bne, (kd_more hc1).2.2.2.1]; rfl
  rw [decide_eq_false (by omega)] at m4
  rw [decide_eq_false (by omega)] at m5
  rw [decide_eq_false (by omega)] at m6
  rw [decide_eq_true h] at m7
  refine calls_intro (n := 3) (def_mk (by k_is) (by k_is) (by k_is) (by exact rfl) (by exact rfl) (by exact rfl) (by decide)) [("self", .ref wk), ("syntax", .ref s)] [] (by intro s X9; first | exact BindsTo.of_eq rfl | exact binds_K X9 rfl (by k_is) rfl rfl rfl) (ns := ["self", "syntax"]) (by kernel_rfl) (by exact rfl) ?_
  intro c hc hs hr
  have hg : Globs c ["OPENS", "CLOSES", "STRING", "STRING_FENCE", "PREFIX"] := globs_of (by rw [hs]; kernel_rfl)
  clear hs
  refine' ev_lit ?e0 ?_
  case e0 => conv => lhs; whnf
  dsimp only [fv0, List.map, List.cons_append, List.nil_append]
  repeat' kby_none
  rw [h]
  exact ⟨_, rfl, rfl⟩
theorem c_sbk_other (hV : IsView led v cs) (hz : cs.length ≤ 1000) (hc1 : codeAt cs p ∈ alpha) (hs : (s, SO.inst 144 (synF (.str (kdOf (codeAt cs p)) tk) mt fl)) ∈ ((wk, .inst 442 (walkF v t (.int p tp) ol be le wh wo st co sy ne sa qu ha)) :: led : Led)) (hw : IntV wo) (h : codeAt cs p ≠ 97 ∧ codeAt cs p ≠ 98 ∧ codeAt cs p ≠ 40 ∧ codeAt cs p ≠ 34 ∧ codeAt cs p ≠ 41) :
    Calls P w (hd.heap_39 w.params) 4 432 [.ref wk, .ref s] ((wk, .inst 442 (walkF v t (.int p tp) ol be le wh wo st co sy ne sa qu ha)) :: led) (fun r led' => r = .none ∧ led' = (wk, .inst 442 (walkF v t (.int p tp) ol be le (elseV wo wh) .none st co sy ne sa qu ha)) :: led) := by
  have m1 := (kd_more hc1).1
  have m2 := (kd_more hc1).2.1
  have m3 : ((kdOf (codeAt cs p) == "\\") || (kdOf (codeAt cs p) == "/")) = false := by rw [m1, m2]; rfl
  have m4 := (kd_more hc1).2.2.2.2
  have m5 := (kd_is hc1).2.2.2.2.2.2.1
  have m6 := (kd_is hc1).2.2.2.2.2.2.2
  have m7 := (kd_is hc1).2.2.2.2.2.1
  have m8 := (kd_more hc1).2.2.1
  have m9 : (kdOf (codeAt cs p) != "'") = true := by rw [bne, (kd_more hc1).2.2.2.1]; rfl
  rw [decide_eq_false (by omega)] at m4
  rw [decide_eq_false (by omega)] at m5
  rw [decide_eq_false (by omega)] at m6
  rw [decide_eq_false (by omega)] at m7
  refine calls_intro (n := 3) (def_mk (by k_is) (by k_is) (by k_is) (by exact rfl) (by exact rfl) (by exact rfl) (by decide)) [("self", .ref wk), ("syntax", .ref s)] [] (by intro s X9; first | exact BindsTo.of_eq rfl | exact binds_K X9 rfl (by k_is) rfl rfl rfl) (ns := ["self", "syntax"]) (by kernel_rfl) (by exact rfl) ?_
  intro c hc hs hr
  have hg : Globs c ["OPENS", "CLOSES", "STRING", "STRING_FENCE", "PREFIX"] := globs_of (by rw [hs]; kernel_rfl)
  clear hs
  refine' ev_lit ?e0 ?_
  case e0 => conv => lhs; whnf
  dsimp only [fv0, List.map, List.cons_append, List.nil_append]
  repeat' kby_none
  exact ⟨rfl, rfl⟩
end
end
local macro_rules | `(tactic| k_meth) => `(tactic| subst (ev_callL c_sbk_other "laasmA") (ev_callX c_sbk_str "laasmA!") (ev_callL c_sbk_open "laasmaA") (ev_callL c_sbk_word "laasmA"))
section
variable {w : World} {wk v t ol : Addr} {wh wo : Value} {led : Led} {ovs : List Value} {cs : List Int} {p lim : Int} {tp tb tl th u : Tok}
theorem c_step_plain {a b : Tok} (hV : IsView led v cs) (hT : IsTab led t) (hz : cs.length ≤ 1000) (ha : ∀ c ∈ cs, c ∈ alpha) (hc1 : codeAt cs p ∈ alpha) (h41 : codeAt cs p ≠ 41) (hl : (stp cs p .plain).1 ≤ lim) (hw : IntV wo) (hw2 : IntV wh) (hn : (ovs.length : Int) ≤ p) (hp : p ≤ 10000) :
    Calls P w (hd.heap_39 w.params) 9 425 [.ref wk, .int lim u] (walkL wk v t ol ovs p tp tb tl th wh wo .none (.int 0 a) (.str "" b) .none led)
    (fun r led' => r = .none ∧ WalkAt wk v t (stp cs p .plain).1 (stp cs p .plain).2 led led') := by
  refine Calls.sub ?_
  have fin : ∀ q : Int, p ≤ q → (ovs.length : Int) ≤ q := fun q h => Int.le_trans hn h
  have hn2 : ovs.length ≤ sizeLine := Nat.le_trans (m := 10000) (by omega) (by decide)
  rcases hB : bmk cs p with _ | b2
  · have hs : stp cs p .plain = (p + 1, if codeAt cs p = 34 then .str p else .plain) := by unfold stp; rw [hB]
    rw [hs] at hl ⊢
    have f1 := fl_p hc1
    by_cases ew : codeAt cs p = 97 ∨ codeAt cs p = 98
    · rw [if_neg (by omega)]
      refine calls_intro (n := 8) (def_mk (by k_is) (by k_is) (by k_is) (by exact rfl) (by exact rfl) (by exact rfl) (by decide)) [("self", .ref wk), ("limit", .int lim u)] ["mark", "start", "syntax"] (by intro s X9; first | exact BindsTo.of_eq rfl | exact binds_K X9 rfl (by k_is) rfl rfl rfl) (ns := ["self", "limit", "mark", "start", "syntax"]) (by kernel_rfl) (by exact rfl) ?_
      intro c hc hs hr
      have hg : Globs c ["begin_mark", "syntax_at"] := globs_of (by rw [hs]; kernel_rfl)
      clear hs
      refine' ev_lit ?e0 ?_
      case e0 => conv => lhs; whnf
      dsimp only [fv0, List.map, List.cons_append, List.nil_append]
      repeat' kby_none
      kt_ors
      exact ⟨rfl, _, _, _, _, _, _, _, _, _, _, _, _, rfl, hw.els .int, hw2, .plain, fin _ (by omega)⟩
    · by_cases e40 : codeAt cs p = 40
      · rw [if_neg (by omega)]
        refine calls_intro (n := 8) (def_mk (by k_is) (by k_is) (by k_is) (by exact rfl) (by exact rfl) (by exact rfl) (by decide)) [("self", .ref wk), ("limit", .int lim u)] ["mark", "start", "syntax"] (by intro s X9; first | exact BindsTo.of_eq rfl | exact binds_K X9 rfl (by k_is) rfl rfl rfl) (ns := ["self", "limit", "mark", "start", "syntax"]) (by kernel_rfl) (by exact rfl) ?_
        intro c hc hs hr
        have hg : Globs c ["begin_mark", "syntax_at"] := globs_of (by rw [hs]; kernel_rfl)
        clear hs
        refine' ev_lit ?e0 ?_
        case e0 => conv => lhs; whnf
        dsimp only [fv0, List.map, List.cons_append, List.nil_append]
        repeat' kby_none
        kt_ors
        exact ⟨rfl, _, _, _, _, _, _, _, _, _, _, _, _, rfl, .none, .none, .plain, by rw [List.length_append]; show ((ovs.length + 1 : Nat) : Int) ≤ p + 1; omega⟩
      · by_cases e34 : codeAt cs p = 34
        · rw [if_pos e34]
          refine calls_intro (n := 8) (def_mk (by k_is) (by k_is) (by k_is) (by exact rfl) (by exact rfl) (by exact rfl) (by decide)) [("self", .ref wk), ("limit", .int lim u)] ["mark", "start", "syntax"] (by intro s X9; first | exact BindsTo.of_eq rfl | exact binds_K X9 rfl (by k_is) rfl rfl rfl) (ns := ["self", "limit", "mark", "start", "syntax"]) (by kernel_rfl) (by exact rfl) ?_
          intro c hc hs hr
          have hg : Globs c ["begin_mark", "syntax_at"] := globs_of (by rw [hs]; kernel_rfl)
          clear hs
          refine' ev_lit ?e0 ?_
          case e0 => conv => lhs; whnf
          dsimp only [fv0, List.map, List.cons_append, List.nil_append]
          repeat' kby_none
          kt_ors
          exact ⟨rfl, _, _, _, _, _, _, _, _, _, _, _, _, rfl, .none, hw.els hw2, .str, fin _ (by omega)⟩
        · rw [if_neg e34]
          have eo : codeAt cs p ≠ 97 ∧ codeAt cs p ≠ 98 ∧ codeAt cs p ≠ 40 ∧ codeAt cs p ≠ 34 ∧ codeAt cs p ≠ 41 := ⟨fun q => ew (.inl q), fun q => ew (.inr q), e40, e34, h41⟩
          refine calls_intro (n := 8) (def_mk (by k_is) (by k_is) (by k_is) (by exact rfl) (by exact rfl) (by exact rfl) (by decide)) [("self", .ref wk), ("limit", .int lim u)] ["mark", "start", "syntax"] (by intro s X9; first | exact BindsTo.of_eq rfl | exact binds_K X9 rfl (by k_is) rfl rfl rfl) (ns := ["self", "limit", "mark", "start", "syntax"]) (by kernel_rfl) (by exact rfl) ?_
          intro c hc hs hr
          have hg : Globs c ["begin_mark", "syntax_at"] := globs_of (by rw [hs]; kernel_rfl)
          clear hs
          refine' ev_lit ?e0 ?_
          case e0 => conv => lhs; whnf
          dsimp only [fv0, List.map, List.cons_append, List.nil_append]
          repeat' kby_none
          kt_ors
          exact ⟨rfl, _, _, _, _, _, _, _, _, _, _, _, _, rfl, .none, hw.els hw2, .plain, fin _ (by omega)⟩
  · have hs : stp cs p .plain = (p + 2, .com b2 p) := by unfold stp; rw [hB]
    rw [hs] at hl ⊢
    have hl' : (2 : Int) = 2 → p + 1 < lim := by intro _; dsimp only at hl; omega
    refine calls_intro (n := 8) (def_mk (by k_is) (by k_is) (by k_is) (by exact rfl) (by exact rfl) (by exact rfl) (by decide)) [("self", .ref wk), ("limit", .int lim u)] ["mark", "start", "syntax"] (by intro s X9; first | exact BindsTo.of_eq rfl | exact binds_K X9 rfl (by k_is) rfl rfl rfl) (ns := ["self", "limit", "mark", "start", "syntax"]) (by kernel_rfl) (by exact rfl) ?_
    intro c hc hs hr
    have hg : Globs c ["begin_mark", "syntax_at"] := globs_of (by rw [hs]; kernel_rfl)
    clear hs
    refine' ev_lit ?e0 ?_
    case e0 => conv => lhs; whnf
    dsimp only [fv0, List.map, List.cons_append, List.nil_append]
    repeat' kby_none
    kt_ors
    exact ⟨rfl, _, _, _, _, _, _, _, _, _, _, _, _, rfl, .none, hw.els hw2, .com, fin _ (by omega)⟩
end
local macro_rules | `(tactic| k_meth) => `(tactic| subst (ev_callP c_step_plain "llaaAAAAAAA!!") (ev_callP c_step_in_string "llaAAAA!!") (ev_callP c_step_in_comment "llaaAAAA!!"))
section
variable {w : World} {wk v t : Addr} {led L : Led} {cs : List Int} {p lim : Int} {mo : Mo} {u : Tok}
theorem c_step (hV : IsView led v cs) (hT : IsTab led t) (hz : cs.length ≤ 1000) (ha : ∀ c ∈ cs, c ∈ alpha) (hg : Legal cs p mo) (hl : (stp cs p mo).1 ≤ lim) (hW : WalkAt wk v t p mo led L) :
    Calls P w (hd.heap_39 w.params) 10 439 [.ref wk, .int lim u] L (fun r led' => r = .none ∧ WalkAt wk v t (stp cs p mo).1 (stp cs p mo).2 led led') := by
  obtain ⟨hc1, h41, hp⟩ := hg
  obtain ⟨ol, ovs, tp, tb, tl, th, wh, wo, st, co, sy, sa, rfl, h1, h2, h3, h4⟩ := hW
  cases h3
  · have h41 := h41 rfl
    refine calls_intro (n := 9) (def_mk (by k_is) (by k_is) (by k_is) (by exact rfl) (by exact rfl) (by exact rfl) (by decide)) [("self", .ref wk), ("limit", .int lim u)] [] (by intro s X9; first | exact BindsTo.of_eq rfl | exact binds_K X9 rfl (by k_is) rfl rfl rfl) (ns := ["self", "limit"]) (by kernel_rfl) (by exact rfl) ?_
    intro c hc hs hr
    clear hs
    refine' ev_lit ?e0 ?_
    case e0 => conv => lhs; whnf
    dsimp only [fv0, List.map, List.cons_append, List.nil_append]
    repeat' kby_none
    exact ⟨rfl, by assumption⟩
  · refine calls_intro (n := 9) (def_mk (by k_is) (by k_is) (by k_is) (by exact rfl) (by exact rfl) (by exact rfl) (by decide)) [("self", .ref wk), ("limit", .int lim u)] [] (by intro s X9; first | exact BindsTo.of_eq rfl | exact binds_K X9 rfl (by k_is) rfl rfl rfl) (ns := ["self", "limit"]) (by kernel_rfl) (by exact rfl) ?_
    intro c hc hs hr
    clear hs
    refine' ev_lit ?e0 ?_
    case e0 => conv => lhs; whnf
    dsimp only [fv0, List.map, List.cons_append, List.nil_append]
    repeat' kby_none
    exact ⟨rfl, by assumption⟩
  · refine calls_intro (n := 9) (def_mk (by k_is) (by k_is) (by k_is) (by exact rfl) (by exact rfl) (by exact rfl) (by decide)) [("self", .ref wk), ("limit", .int lim u)] [] (by intro s X9; first | exact BindsTo.of_eq rfl | exact binds_K X9 rfl (by k_is) rfl rfl rfl) (ns := ["self", "limit"]) (by kernel_rfl) (by exact rfl) ?_
    intro c hc hs hr
    clear hs
    refine' ev_lit ?e0 ?_
    case e0 => conv => lhs; whnf
    dsimp only [fv0, List.map, List.cons_append, List.nil_append]
    repeat' kby_none
    exact ⟨rfl, by assumption⟩
end
abbrev psF (op be le wh wo st co sy ne sa qu ha : Value) : FV := [("opens", some op), ("below", some be), ("least", some le), ("whole", some wh), ("word", some wo), ("string", some st), ("comment", some co), ("style", some sy), ("nests", some ne), ("start", some sa), ("quoted", some qu), ("half", some ha)]
abbrev psF0 : FV := psF (.ref 29) (.int 0 208) (.int 0 209) .none .none .none (.int 0 210) (.str "" 211) (.bool false) .none (.bool false) (.str "" 212)
section
variable {w : World} {led : Led}
theorem K_29 (w : World) : ∃ o n, (hd.heap_39 w.params).lookup 29 = some o ∧ o.cls = .type "tuple" ∧ o.data = .seq ([] : List Value).toArray n := ⟨_, _, by k_is, rfl, rfl⟩
theorem c_PS_init {x : Addr} {op be le wh wo st co sy ne sa qu ha : Value} : Calls P w (hd.heap_39 w.params) 1 37 [.ref x, op, be, le, wh, wo, st, co, sy, ne, sa, qu, ha] ((x, .inst 68 []) :: led) (fun r led' => r = .none ∧ led' = (x, .inst 68 (psF op be le wh wo st co sy ne sa qu ha)) :: led) := by
  refine calls_intro (n := 0) (def_mk (by k_is) (by k_is) (by k_is) (by exact rfl) (by exact rfl) (by exact rfl) (by decide)) [("self", .ref x), ("opens", op), ("below", be), ("least", le), ("whole", wh), ("word", wo), ("string", st), ("comment", co), ("style", sy), ("nests", ne), ("start", sa), ("quoted", qu), ("half", ha)] [] (by intro s X9; first | exact BindsTo.of_eq rfl | exact binds_K X9 rfl (by k_is) rfl rfl rfl) (ns := ["self", "opens", "below", "least", "whole", "word", "string", "comment", "style", "nests", "start", "quoted", "half"]) (by kernel_rfl) (by exact rfl) ?_
  intro c hc hs hr
  clear hs
  refine' ev_lit ?e0 ?_
  case e0 => conv => lhs; whnf
  dsimp only [fv0, List.map, List.cons_append, List.nil_append]
  repeat' kby_none
  exact ⟨rfl, rfl⟩
theorem c_PS_init0 {x : Addr} : Calls P w (hd.heap_39 w.params) 1 37 [.ref x] ((x, .inst 68 []) :: led) (fun r led' => r = .none ∧ led' = (x, .inst 68 psF0) :: led) := by
  refine calls_intro (n := 0) (def_mk (by k_is) (by k_is) (by k_is) (by exact rfl) (by exact rfl) (by exact rfl) (by decide)) [("self", .ref x), ("opens", .ref 29), ("below", .int 0 208), ("least", .int 0 209), ("whole", .none), ("word", .none), ("string", .none), ("comment", .int 0 210), ("style", .str "" 211), ("nests", .bool false), ("start", .none), ("quoted", .bool false), ("half", .str "" 212)] [] (by intro s X9; first | exact BindsTo.of_eq rfl | exact binds_K X9 rfl (by k_is) rfl rfl rfl) (ns := ["self", "opens", "below", "least", "whole", "word", "string", "comment", "style", "nests", "start", "quoted", "half"]) (by kernel_rfl) (by exact rfl) ?_
  intro c hc hs hr
  clear hs
  refine' ev_lit ?e0 ?_
  case e0 => conv => lhs; whnf
  dsimp only [fv0, List.map, List.cons_append, List.nil_append]
  repeat' kby_none
  exact ⟨rfl, rfl⟩
theorem mk_PS0 {c : Cx P w (hd.heap_39 w.params)} {fv : FV} {n : Nat} {Q : Value → FV → Led → Prop} (hc : c.Ok) (hr : Room c.A n) (hk : 2 ≤ n) (h : ∀ x, Q (.ref x) fv ((x, .inst 68 psF0) :: led)) : EV c (call (.ref 68) []) Q fv led :=
  ev_makeC hc hr hk (MK_ParseState _) (fun _ => c_PS_init0) h
theorem mk_PS {c : Cx P w (hd.heap_39 w.params)} {fv : FV} {n : Nat} {Q : Value → FV → Led → Prop} {op be le wh wo st co sy ne sa qu ha : Value} (hc : c.Ok) (hr : Room c.A n) (hk : 2 ≤ n) (h : ∀ x, Q (.ref x) fv ((x, .inst 68 (psF op be le wh wo st co sy ne sa qu ha)) :: led)) : EV c (call (.ref 68) [op, be, le, wh, wo, st, co, sy, ne, sa, qu, ha]) Q fv led :=
  ev_makeC hc hr hk (MK_ParseState _) (fun _ => c_PS_init) h
theorem c_Walk_init {x ps v t : Addr} {p : Int} {tp : Tok} (hp : 0 ≤ p) : Calls P w (hd.heap_39 w.params) 1 320 [.ref x, .ref v, .ref t, .int p tp, .ref ps] ((x, .inst 442 []) :: (ps, .inst 68 psF0) :: led) (fun r led' => r = .none ∧ WalkAt x v t p .plain led led') := by
  refine Calls.subp ?_
  refine calls_intro (n := 0) (def_mk (by k_is) (by k_is) (by k_is) (by exact rfl) (by exact rfl) (by exact rfl) (by decide)) [("self", .ref x), ("view", .ref v), ("table", .ref t), ("place", .int p tp), ("state", .ref ps)] [] (by intro s X9; first | exact BindsTo.of_eq rfl | exact binds_K X9 rfl (by k_is) rfl rfl rfl) (ns := ["self", "view", "table", "place", "state"]) (by kernel_rfl) (by exact rfl) ?_
  intro c hc hs hr
  have hg : Globs c ["list"] := globs_of (by rw [hs]; kernel_rfl)
  clear hs
  refine' ev_lit ?e0 ?_
  case e0 => conv => lhs; whnf
  dsimp only [fv0, List.map, List.cons_append, List.nil_append]
  repeat' kby_none
  refine ev_listK hc (K_29 w) (fun ol => ?_) (Nat.zero_le _)
  repeat' kby_none
  exact ⟨_, _, .cons_cons _ (.cons_cons _ (.cons _ (.refl _))), List.Perm.swap _ _ _, rfl, _, _, _, _, _, _, _, _, _, _, _, _, rfl, .none, .none, .plain, hp⟩
theorem mk_Walk {c : Cx P w (hd.heap_39 w.params)} {fv : FV} {n : Nat} {Q : Value → FV → Led → Prop} {ps v t : Addr} {p : Int} {tp : Tok} (hc : c.Ok) (hr : Room c.A n) (hk : 2 ≤ n) (hp : 0 ≤ p) (h : ∀ x led', WalkAt x v t p .plain led led' → Q (.ref x) fv led') : EV c (call (.ref 442) [.ref v, .ref t, .int p tp, .ref ps]) Q fv ((ps, .inst 68 psF0) :: led) :=
  ev_make (post := fun x led' => WalkAt x v t p .plain led led') hc (hr.le hk) (MK_Walk _).1 (MK_Walk _).2.1 (MK_Walk _).2.2 (fun _ => c_Walk_init hp) h
theorem c_is_plain {x : Addr} {op be le wh wo sy ne sa qu ha : Value} {tk : Tok} (hm : (x, SO.inst 68 (psF op be le wh wo .none (.int 0 tk) sy ne sa qu ha)) ∈ led) : Calls P w (hd.heap_39 w.params) 1 58 [.ref x] led (fun r led' => r = .bool true ∧ led' = led) := by
  refine calls_intro (n := 0) (def_mk (by k_is) (by k_is) (by k_is) (by exact rfl) (by exact rfl) (by exact rfl) (by decide)) [("self", .ref x)] [] (by intro s X9; first | exact BindsTo.of_eq rfl | exact binds_K X9 rfl (by k_is) rfl rfl rfl) (ns := ["self"]) (by kernel_rfl) (by exact rfl) ?_
  intro c hc hs hr
  clear hs
  refine' ev_lit ?e0 ?_
  case e0 => conv => lhs; whnf
  dsimp only [fv0, List.map, List.cons_append, List.nil_append]
  repeat' kby_none
  exact ⟨rfl, rfl⟩
theorem c_depth {wk v t ol : Addr} {ovs : List Value} {pl le wh wo st co sy ne sa qu ha : Value} {tb : Tok} (h1 : (wk, SO.inst 442 (walkF v t pl ol (.int 0 tb) le wh wo st co sy ne sa qu ha)) ∈ led) (h2 : (ol, SO.lst ovs) ∈ led) (hz : (ovs.length : Int) < 2 ^ 63) :
    Calls P w (hd.heap_39 w.params) 1 334 [.ref wk] led (fun r led' => (∃ tk, r = .int ((ovs.length : Int) - 0) tk) ∧ led' = led) := by
  refine calls_intro (n := 0) (def_mk (by k_is) (by k_is) (by k_is) (by exact rfl) (by exact rfl) (by exact rfl) (by decide)) [("self", .ref wk)] [] (by intro s X9; first | exact BindsTo.of_eq rfl | exact binds_K X9 rfl (by k_is) rfl rfl rfl) (ns := ["self"]) (by kernel_rfl) (by exact rfl) ?_
  intro c hc hs hr
  have hg : Globs c ["len"] := globs_of (by rw [hs]; kernel_rfl)
  clear hs
  refine' ev_lit ?e0 ?_
  case e0 => conv => lhs; whnf
  dsimp only [fv0, List.map, List.cons_append, List.nil_append]
  repeat' kby_none
  exact ⟨⟨_, rfl⟩, rfl⟩
end
local macro_rules | `(tactic| k_meth) => `(tactic| subst (ev_callP c_step "'A'AaaAAA!!"))
local macro_rules | `(tactic| k_meth) => `(tactic| subst (ev_callI c_depth "ssA!") (ev_callV c_is_plain "s") (mk_Walk "aado_!!!") (mk_PS "aad_!") (mk_PS0 "aad_!"))
/-- the walk of one comment to its end -/
inductive ComTo (cs : List Int) : Nat → Int → Mo → Int → Prop
  | nil {q : Int} : ComTo cs 0 q .plain q
  | cons {n : Nat} {p q s : Int} {b : Bool} : p < 1 + (cs.length : Int) → Legal cs p (.com b s) → (stp cs p (.com b s)).1 ≤ 1 + (cs.length : Int) → ComTo cs n (stp cs p (.com b s)).1 (stp cs p (.com b s)).2 q → ComTo cs (n + 1) p (.com b s) q
/-- the walk until the place q is reached -/
inductive Reach (cs : List Int) (q lim : Int) : Nat → Int → Mo → Int → Mo → Prop
  | nil {p : Int} {mo : Mo} : q ≤ p → Reach cs q lim 0 p mo p mo
  | cons {n : Nat} {p p' : Int} {mo mo' : Mo} : p < q → Legal cs p mo → (stp cs p mo).1 ≤ lim → Reach cs q lim n (stp cs p mo).1 (stp cs p mo).2 p' mo' → Reach cs q lim (n + 1) p mo p' mo'
section
variable {w : World} {v t : Addr} {led : Led} {cs : List Int} {q : Int} {n : Nat} {u : Tok}
theorem c_comment_end {at_ : Int} {b : Bool} (hV : IsView led v cs) (hT : IsTab led t) (hz : cs.length ≤ 1000) (ha : ∀ c ∈ cs, c ∈ alpha) (h0 : 0 ≤ at_) (hb : bmk cs at_ = some b) (hg : Legal cs at_ .plain) (hl : at_ + 2 ≤ 1 + (cs.length : Int)) (hC : ComTo cs n (at_ + 2) (.com b at_) q) :
    Calls P w (hd.heap_39 w.params) 12 475 [.ref v, .ref t, .int at_ u] led (fun r led' => (∃ tq, r = .int q tq) ∧ led' = led) := by
  refine Calls.sub ?_
  obtain ⟨l, vals, tv, v1, v2, v3⟩ := id hV
  have hs : stp cs at_ .plain = (at_ + 2, .com b at_) := by unfold stp; rw [hb]
  have hl1 : (stp cs at_ .plain).1 ≤ 1 + (cs.length : Int) := by rw [hs]; exact hl
  refine calls_intro (n := 11) (def_mk (by k_is) (by k_is) (by k_is) (by exact rfl) (by exact rfl) (by exact rfl) (by decide)) [("view", .ref v), ("table", .ref t), ("at", .int at_ u)] ["walk"] (by intro s X9; first | exact BindsTo.of_eq rfl | exact binds_K X9 rfl (by k_is) rfl rfl rfl) (ns := ["view", "table", "at", "walk"]) (by kernel_rfl) (by exact rfl) ?_
  intro c hc hs hr
  have hg : Globs c ["Walk", "ParseState"] := globs_of (by rw [hs]; kernel_rfl)
  clear hs
  refine' ev_lit ?e0 ?_
  case e0 => conv => lhs; whnf
  dsimp only [fv0, List.map, List.cons_append, List.nil_append]
  repeat' kby_none
  rename_i wk L hW
  obtain ⟨ol, ovs, tp, tb, tl, th, wh, wo, st, co, sy, sa, rfl, h1, h2, h3, h4⟩ := id hW
  repeat' kby_none
  rename_i L hW'
  rw [hs] at hW'
  refine ev_while (I := fun n fv L => ∃ p mo, fv = ([("view", some (.ref v)), ("table", some (.ref t)), ("at", some (.int at_ u)), ("walk", some (.ref wk))] : FV) ∧ WalkAt wk v t p mo led L ∧ ComTo cs n p mo q) ?_ n ⟨_, _, rfl, hW', hC⟩
  rintro n fv L ⟨p, mo, rfl, hW, hC⟩
  obtain ⟨ol, ovs, tp, tb, tl, th, wh, wo, st, co, sy, sa, rfl, h1, h2, h3, h4⟩ := id hW
  cases hC
  · cases h3
    repeat' kby_none
    exact ⟨_, .cons _ (.cons _ (.refl _)), ⟨_, rfl⟩, rfl⟩
  · rename_i k1 k2 k3 k4
    cases h3
    repeat' kby_none
    exact ⟨_, Nat.lt_succ_self _, _, _, rfl, by assumption, k4⟩
end
theorem valueAt_cons {K : Type} [DecidableEq K] (a : K) (x : Value) (r : List (K × Value)) (k : K) : valueAt ((a, x) :: r) k = if a = k then some x else valueAt r k := by
  unfold valueAt
  rw [List.find?_cons]
  by_cases e : a = k
  · simp [e]
  · simp [e]
theorem valueAt_map {K : Type} [DecidableEq K] (k : K) (v : Value) (k' : K) : ∀ kvs : List (K × Value), valueAt (kvs.map fun kv => if kv.1 = k then (kv.1, v) else kv) k' = if k' = k then (valueAt kvs k').map (fun _ => v) else valueAt kvs k'
  | [] => by unfold valueAt; simp
  | (a, x) :: r => by
    have ih := valueAt_map k v k' r
    rw [List.map_cons, valueAt_cons]
    by_cases e : a = k
    · rw [if_pos e, valueAt_cons]
      by_cases e2 : a = k'
      · subst e; subst e2; simp
      · rw [if_neg e2, if_neg e2, ih]
    · rw [if_neg e, valueAt_cons]
      by_cases e2 : a = k'
      · subst e2; rw [if_pos rfl, if_neg e, if_pos rfl]
      · rw [if_neg e2, if_neg e2, ih]
theorem valueAt_app {K : Type} [DecidableEq K] (k : K) (v : Value) (k' : K) : ∀ kvs : List (K × Value), valueAt (kvs ++ [(k, v)]) k' = (valueAt kvs k').or (if k' = k then some v else none)
  | [] => by
    rw [List.nil_append, valueAt_cons]
    by_cases e : k = k'
    · subst e; simp [valueAt]
    · rw [if_neg e, if_neg (Ne.symm e)]; rfl
  | (a, x) :: r => by
    rw [List.cons_append, valueAt_cons, valueAt_cons, valueAt_app k v k' r]
    by_cases e : a = k'
    · rw [if_pos e, if_pos e]; rfl
    · rw [if_neg e, if_neg e]
theorem valueAt_any {K : Type} [DecidableEq K] (k : K) : ∀ kvs : List (K × Value), kvs.any (fun kv => kv.1 = k) = (valueAt kvs k).isSome
  | [] => rfl
  | (a, x) :: r => by
    rw [List.any_cons, valueAt_any k r, valueAt_cons]
    by_cases e : a = k
    · simp [e]
    · simp [e]
theorem valueAt_stored {K : Type} [DecidableEq K] (kvs : List (K × Value)) (k : K) (v : Value) (k' : K) : valueAt (stored kvs k v) k' = if k' = k then some v else valueAt kvs k' := by
  unfold stored
  rw [valueAt_any]
  by_cases e : k' = k
  · subst e
    rw [if_pos rfl]
    split
    · rename_i h
      rw [valueAt_map, if_pos rfl]
      obtain ⟨x, hx⟩ := Option.isSome_iff_exists.mp h
      rw [hx]; rfl
    · rename_i h
      rw [valueAt_app, if_pos rfl]
      have : valueAt kvs k' = none := by cases hv : valueAt kvs k' with
        | none => rfl
        | some x => rw [hv] at h; exact absurd rfl h
      rw [this]; rfl
  · rw [if_neg e]
    split
    · rw [valueAt_map, if_neg e]
    · rw [valueAt_app, if_neg e, Option.or_none]
/-- what stands under a key after so many entries -/
def evAt (l : List (Int × Int)) (k : Int) : Option Int := l.foldl (fun o e => if k = e.1 then some e.2 else o) none
theorem evAt_app (l : List (Int × Int)) (e : Int × Int) (k : Int) : evAt (l ++ [e]) k = if k = e.1 then some e.2 else evAt l k := by
  unfold evAt; rw [List.foldl_append]; rfl
def DictOf (kvs : List (Int × Value)) (l : List (Int × Int)) : Prop := ∀ k, (valueAt kvs k = none ∧ evAt l k = none) ∨ ∃ s t, valueAt kvs k = some (.int s t) ∧ evAt l k = some s
theorem DictOf.nil : DictOf [] [] := fun _ => .inl ⟨rfl, rfl⟩
theorem DictOf.store {kvs : List (Int × Value)} {l : List (Int × Int)} (h : DictOf kvs l) (k s : Int) (t : Tok) : DictOf (stored kvs k (.int s t)) (l ++ [(k, s)]) := fun j => by
  rw [valueAt_stored, evAt_app]
  by_cases e : j = k
  · rw [if_pos e, if_pos e]; exact .inr ⟨s, t, rfl, rfl⟩
  · rw [if_neg e, if_neg e]; exact h j
def evOf : Mo → Int × Mo → List (Int × Int)
  | .com _ s, (p', .plain) => [(p', s)]
  | _, _ => []
inductive Spans (cs : List Int) (q : Int) : Nat → Int → Mo → List (Int × Int) → Prop
  | nil {p : Int} {mo : Mo} : q ≤ p → Spans cs q 0 p mo []
  | cons {n : Nat} {p : Int} {mo : Mo} {evs : List (Int × Int)} : p < q → Legal cs p mo → (stp cs p mo).1 ≤ 1 + (cs.length : Int) → Spans cs q n (stp cs p mo).1 (stp cs p mo).2 evs → Spans cs q (n + 1) p mo (evOf mo (stp cs p mo) ++ evs)
local macro_rules | `(tactic| k_meth) => `(tactic| subst (ev_callI c_comment_end "llaaaAAAA!"))
section
variable {w : World} {v t : Addr} {led : Led} {cs : List Int} {at_ : Int} {n : Nat} {u : Tok}
theorem c_bounds0 {p' : Int} (hV : IsView led v cs) (hT : IsTab led t) (hz : cs.length ≤ 1000) (ha : ∀ c ∈ cs, c ∈ alpha) (hR : Reach cs at_ (1 + cs.length) n 1 .plain p' .plain) :
    Calls P w (hd.heap_39 w.params) 14 517 [.ref v, .ref t, .int at_ u] led (fun r led' => r = .none ∧ led' = led) := by
  refine Calls.sub ?_
  obtain ⟨l, vals, tv, v1, v2, v3⟩ := id hV
  refine calls_intro (n := 13) (def_mk (by k_is) (by k_is) (by k_is) (by exact rfl) (by exact rfl) (by exact rfl) (by decide)) [("view", .ref v), ("table", .ref t), ("at", .int at_ u)] ["walk", "end"] (by intro s X9; first | exact BindsTo.of_eq rfl | exact binds_K X9 rfl (by k_is) rfl rfl rfl) (ns := ["view", "table", "at", "walk", "end"]) (by kernel_rfl) (by exact rfl) ?_
  intro c hc hs hr
  have hg : Globs c ["Walk", "ParseState", "comment_end"] := globs_of (by rw [hs]; kernel_rfl)
  clear hs
  refine' ev_lit ?e0 ?_
  case e0 => conv => lhs; whnf
  dsimp only [fv0, List.map, List.cons_append, List.nil_append]
  repeat' kby_none
  rename_i wk L hW
  refine ev_while (I := fun n fv L => ∃ p mo, fv = ([("view", some (.ref v)), ("table", some (.ref t)), ("at", some (.int at_ u)), ("walk", some (.ref wk)), ("end", none)] : FV) ∧ WalkAt wk v t p mo led L ∧ Reach cs at_ (1 + cs.length) n p mo p' .plain) ?_ n ⟨_, _, rfl, hW, hR⟩
  rintro n fv L ⟨p, mo, rfl, hW, hC⟩
  obtain ⟨ol, ovs, tp, tb, tl, th, wh, wo, st, co, sy, sa, rfl, h1, h2, h3, h4⟩ := id hW
  cases hC
  · cases h3
    repeat' kby_none
    exact ⟨_, .cons _ (.cons _ (.refl _)), rfl, rfl⟩
  · rename_i k1 k2 k3 k4
    repeat' kby_none
    exact ⟨_, Nat.lt_succ_self _, _, _, rfl, by assumption, k4⟩
theorem c_bounds1 {b : Bool} {s q : Int} {n2 : Nat} (hV : IsView led v cs) (hT : IsTab led t) (hz : cs.length ≤ 1000) (ha : ∀ c ∈ cs, c ∈ alpha) (hR : Reach cs at_ (1 + cs.length) n 1 .plain at_ (.com b s))
    (h0 : 0 ≤ s) (hb : bmk cs s = some b) (hg : Legal cs s .plain) (hl : s + 2 ≤ 1 + (cs.length : Int)) (hC : ComTo cs n2 (s + 2) (.com b s) q) :
    Calls P w (hd.heap_39 w.params) 14 517 [.ref v, .ref t, .int at_ u] led (fun r led' => ∃ a t1 t2, r = .ref a ∧ led' = (a, .tup [.int s t1, .int q t2]) :: led) := by
  refine Calls.sub ?_
  obtain ⟨l, vals, tv, v1, v2, v3⟩ := id hV
  refine calls_intro (n := 13) (def_mk (by k_is) (by k_is) (by k_is) (by exact rfl) (by exact rfl) (by exact rfl) (by decide)) [("view", .ref v), ("table", .ref t), ("at", .int at_ u)] ["walk", "end"] (by intro s X9; first | exact BindsTo.of_eq rfl | exact binds_K X9 rfl (by k_is) rfl rfl rfl) (ns := ["view", "table", "at", "walk", "end"]) (by kernel_rfl) (by exact rfl) ?_
  intro c hc hs hr
  have hg : Globs c ["Walk", "ParseState", "comment_end"] := globs_of (by rw [hs]; kernel_rfl)
  clear hs
  refine' ev_lit ?e0 ?_
  case e0 => conv => lhs; whnf
  dsimp only [fv0, List.map, List.cons_append, List.nil_append]
  repeat' kby_none
  rename_i wk L hW
  refine ev_while (I := fun n fv L => ∃ p mo, fv = ([("view", some (.ref v)), ("table", some (.ref t)), ("at", some (.int at_ u)), ("walk", some (.ref wk)), ("end", none)] : FV) ∧ WalkAt wk v t p mo led L ∧ Reach cs at_ (1 + cs.length) n p mo at_ (.com b s)) ?_ n ⟨_, _, rfl, hW, hR⟩
  rintro n fv L ⟨p, mo, rfl, hW, hR⟩
  obtain ⟨ol, ovs, tp, tb, tl, th, wh, wo, st, co, sy, sa, rfl, h1, h2, h3, h4⟩ := id hW
  cases hR
  · cases h3
    repeat' kby_none
    exact ⟨_, .cons_cons _ (.cons _ (.cons _ (.refl _))), _, _, _, rfl, rfl⟩
  · rename_i k1 k2 k3 k4
    repeat' kby_none
    exact ⟨_, Nat.lt_succ_self _, _, _, rfl, by assumption, k4⟩
end
section
variable {w : World} {v t : Addr} {led : Led} {cs : List Int} {q : Int} {n : Nat} {u : Tok}
theorem stp_com {p p' s s' : Int} {b : Bool} (h : stp cs p (.com b s) = (p', .str s')) : False := by
  unfold stp at h
  dsimp only at h
  split at h
  · split at h <;> cases h
  · cases h
theorem stp_com2 {p p' s s' : Int} {b b' : Bool} (h : stp cs p (.com b s) = (p', .com b' s')) : b' = b ∧ s' = s := by
  unfold stp at h
  dsimp only at h
  split at h
  · split at h <;> cases h
    exact ⟨rfl, rfl⟩
  · cases h; exact ⟨rfl, rfl⟩
inductive SpI (cs : List Int) (q : Int) (evs : List (Int × Int)) (wk v t d1 d2 : Addr) (u : Tok) (led : Led) (n : Nat) (fv : FV) (L : Led) : Prop
  | mk (p : Int) (mo : Mo) (kvs kvs2 : List (Int × Value)) (acc rest : List (Int × Int)) (o1 o2 o3 : Option Value) :
  fv = ([("view", some (.ref v)), ("table", some (.ref t)), ("limit", some (.int q u)), ("walk", some (.ref wk)), ("comments", some (.ref d1)), ("strings", some (.ref d2)), ("start", o1), ("comment", o2), ("string", o3)] : FV) →
  WalkAt wk v t p mo ((d2, .dct kvs2) :: (d1, .dct kvs) :: led) L → Spans cs q n p mo rest → acc ++ rest = evs → DictOf kvs acc → kvs.length + n ≤ 2000 → kvs2.length + n ≤ 2000 → SpI cs q evs wk v t d1 d2 u led n fv L
theorem c_spans_to {evs : List (Int × Int)} (hV : IsView led v cs) (hT : IsTab led t) (hz : cs.length ≤ 1000) (ha : ∀ c ∈ cs, c ∈ alpha) (hn : n ≤ 2000) (hS : Spans cs q n 1 .plain evs) :
    Calls P w (hd.heap_39 w.params) 12 482 [.ref v, .ref t, .int q u] led (fun r led' => ∃ a d1 d2 kvs, r = .ref a ∧ led' = (a, .tup [.ref d1, .ref d2]) :: (d1, .dct kvs) :: led ∧ DictOf kvs evs) := by
  refine Calls.sub ?_
  obtain ⟨l, vals, tv, v1, v2, v3⟩ := id hV
  refine calls_intro (n := 11) (def_mk (by k_is) (by k_is) (by k_is) (by exact rfl) (by exact rfl) (by exact rfl) (by decide)) [("view", .ref v), ("table", .ref t), ("limit", .int q u)] ["walk", "comments", "strings", "start", "comment", "string"] (by intro s X9; first | exact BindsTo.of_eq rfl | exact binds_K X9 rfl (by k_is) rfl rfl rfl) (ns := ["view", "table", "limit", "walk", "comments", "strings", "start", "comment", "string"]) (by kernel_rfl) (by exact rfl) ?_
  intro c hc hs hr
  have hg : Globs c ["Walk", "ParseState"] := globs_of (by rw [hs]; kernel_rfl)
  clear hs
  refine' ev_lit ?e0 ?_
  case e0 => conv => lhs; whnf
  dsimp only [fv0, List.map, List.cons_append, List.nil_append]
  repeat' kby_none
  rename_i wk L hW d1 d2
  obtain ⟨ol, ovs, tp, tb, tl, th, wh, wo, st, co, sy, sa, rfl, h1, h2, h3, h4⟩ := id hW
  refine EV.perm (List.perm_append_comm_assoc [_, _] [_, _] led) ?_
  refine ev_while (I := SpI cs q evs wk v t d1 d2 u led) ?_ n ⟨1, .plain, [], [], [], evs, _, _, _, rfl, ⟨_, _, _, _, _, _, _, _, _, _, _, _, rfl, h1, h2, h3, h4⟩, hS, rfl, DictOf.nil, by simpa using hn, by simpa using hn⟩
  clear hS hW h1 h2 h3 h4
  rintro n fv L ⟨p, mo, kvs, kvs2, acc, rest, o1, o2, o3, rfl, hW, hS, he, hD, hk1, hk2⟩
  have hV2 : IsView ((d2, .dct kvs2) :: (d1, .dct kvs) :: led) v cs := hV.cons.cons
  have hT2 : IsTab ((d2, .dct kvs2) :: (d1, .dct kvs) :: led) t := hT.cons.cons
  have hs1 : kvs.length ≤ sizeLine := Nat.le_trans (m := 2000) (by omega) (by decide)
  have hs2 : kvs2.length ≤ sizeLine := Nat.le_trans (m := 2000) (by omega) (by decide)
  obtain ⟨ol, ovs, tp, tb, tl, th, wh, wo, st, co, sy, sa, rfl, h1, h2, h3, h4⟩ := id hW
  cases hS
  · repeat' kby_none
    rw [List.append_nil] at he
    subst he
    exact ⟨_, .cons_cons _ (.cons _ (.cons _ (.cons _ (.refl _)))), _, _, _, _, rfl, rfl, hD⟩
  · rename_i n evs' k1 k2 k3 k4
    cases h3
    · repeat' kby_none
      rename WalkAt wk v t (stp cs p Mo.plain).fst _ _ _ => hW'
      exact ⟨_, Nat.lt_succ_self _, _, _, kvs, kvs2, acc, evs', _, _, _, rfl, hW', k4, he, hD, by omega, by omega⟩
    · rename_i s a b d e
      rcases hs : stp cs p (.str s) with ⟨p', mo'⟩
      rw [hs] at k4 he
      repeat' kby_none
      rename WalkAt wk v t (stp cs p (Mo.str s)).fst _ _ _ => hW'
      rw [hs] at hW'
      obtain ⟨ol', ovs', tp', tb', tl', th', wh', wo', st', co', sy', sa', rfl, g1, g2, g3, g4⟩ := id hW'
      clear hW hW'
      cases g3
      · repeat' kby_none
        exact ⟨_, Nat.lt_succ_self _, _, _, _, _, acc, evs', _, _, _, rfl, ⟨_, _, _, _, _, _, _, _, _, _, _, _, rfl, g1, g2, .plain, g4⟩, k4, he, hD, by omega, Nat.le_trans (Nat.add_le_add_right (stored_length_le _ _ _) _) (by omega)⟩
      · repeat' kby_none
        exact ⟨_, Nat.lt_succ_self _, _, _, _, _, acc, evs', _, _, _, rfl, ⟨_, _, _, _, _, _, _, _, _, _, _, _, rfl, g1, g2, .str, g4⟩, k4, he, hD, by omega, by omega⟩
      · repeat' kby_none
        exact ⟨_, Nat.lt_succ_self _, _, _, _, _, acc, evs', _, _, _, rfl, ⟨_, _, _, _, _, _, _, _, _, _, _, _, rfl, g1, g2, .com, g4⟩, k4, he, hD, by omega, Nat.le_trans (Nat.add_le_add_right (stored_length_le _ _ _) _) (by omega)⟩
    · rename_i b s a d e
      rcases hs : stp cs p (.com b s) with ⟨p', mo'⟩
      rw [hs] at k4 he
      repeat' kby_none
      rename WalkAt wk v t (stp cs p (Mo.com b s)).fst _ _ _ => hW'
      rw [hs] at hW'
      obtain ⟨ol', ovs', tp', tb', tl', th', wh', wo', st', co', sy', sa', rfl, g1, g2, g3, g4⟩ := id hW'
      clear hW hW'
      cases g3
      · repeat' kby_none
        exact ⟨_, Nat.lt_succ_self _, _, _, _, _, acc ++ [(p', s)], evs', _, _, _, rfl, ⟨_, _, _, _, _, _, _, _, _, _, _, _, rfl, g1, g2, .plain, g4⟩, k4, by rw [List.append_assoc]; exact he, hD.store p' s _, Nat.le_trans (Nat.add_le_add_right (stored_length_le _ _ _) _) (by omega), by omega⟩
      · exact absurd hs (fun q => stp_com q)
      · repeat' kby_none
        exact ⟨_, Nat.lt_succ_self _, _, _, _, _, acc, evs', _, _, _, rfl, ⟨_, _, _, _, _, _, _, _, _, _, _, _, rfl, g1, g2, .com, g4⟩, k4, he, hD, by omega, by omega⟩
end
inductive StP (led : Led) (r : Value) (led' : Led) : Prop
  | mk (x : Addr) (op be le wh wo : Value) (tk : Tok) (sy ne sa qu ha : Value) : r = .ref x → led' = (x, .inst 68 (psF op be le wh wo .none (.int 0 tk) sy ne sa qu ha)) :: led → StP led r led'
inductive PpP (q : Int) (led : Led) (r : Value) (led' : Led) : Prop
  | mk (a : Addr) (tq : Tok) (x : Addr) (op be le wh wo : Value) (tk : Tok) (sy ne sa qu ha : Value) : r = .ref a → led' = (a, .tup [.int q tq, .ref x]) :: (x, .inst 68 (psF op be le wh wo .none (.int 0 tk) sy ne sa qu ha)) :: led → PpP q led r led'
section
variable {w : World} {v t : Addr} {led : Led} {cs : List Int} {n : Nat} {u : Tok}
theorem c_state_of {a : Addr} {op be le wh wo st co sy ne sa qu ha : Value} (hm : (a, SO.tup [op, be, le, wh, wo, st, co, sy, ne, sa, qu, ha]) ∈ led) :
    Calls P w (hd.heap_39 w.params) 3 79 [.ref a] led (fun r led' => ∃ x, r = .ref x ∧ led' = (x, .inst 68 (psF op be le wh wo st co sy ne sa qu ha)) :: led) := by
  refine calls_intro (n := 2) (def_mk (by k_is) (by k_is) (by k_is) (by exact rfl) (by exact rfl) (by exact rfl) (by decide)) [("items", .ref a)] ["opens", "below", "least", "whole", "word", "string", "comment", "style", "nests", "start", "quoted", "half"] (by intro s X9; first | exact BindsTo.of_eq rfl | exact binds_K X9 rfl (by k_is) rfl rfl rfl) (ns := ["items", "opens", "below", "least", "whole", "word", "string", "comment", "style", "nests", "start", "quoted", "half"]) (by kernel_rfl) (by exact rfl) ?_
  intro c hc hs hr
  have hg : Globs c ["ParseState"] := globs_of (by rw [hs]; kernel_rfl)
  clear hs
  refine' ev_lit ?e0 ?_
  case e0 => conv => lhs; whnf
  dsimp only [fv0, List.map, List.cons_append, List.nil_append]
  iterate 3 kby_none
  refine ev_asgT hc hm rfl rfl ?_
  iterate 12
    refine ev_ordC (ev_asgN ?_)
    kby_none
  refine ev_ordN ?_
  repeat' kby_none
  exact ⟨_, rfl, rfl⟩
theorem c_state {wk : Addr} {p : Int} {L : Led} (hp : p ≤ 10000) (hW : WalkAt wk v t p .plain led L) :
    Calls P w (hd.heap_39 w.params) 4 327 [.ref wk] L (StP led) := by
  refine Calls.sub ?_
  obtain ⟨ol, ovs, tp, tb, tl, th, wh, wo, st, co, sy, sa, rfl, h1, h2, h3, h4⟩ := hW
  have hn2 : ovs.length ≤ sizeLine := Nat.le_trans (m := 10000) (by omega) (by decide)
  have q1 := h1.handed
  have q2 := h2.handed
  cases h3
  refine calls_intro (n := 3) (def_mk (by k_is) (by k_is) (by k_is) (by exact rfl) (by exact rfl) (by exact rfl) (by decide)) [("self", .ref wk)] ["inner"] (by intro s X9; first | exact BindsTo.of_eq rfl | exact binds_K X9 rfl (by k_is) rfl rfl rfl) (ns := ["self", "inner"]) (by kernel_rfl) (by exact rfl) ?_
  intro c hc hs hr
  have hg : Globs c ["state_of", "tuple"] := globs_of (by rw [hs]; kernel_rfl)
  clear hs
  refine' ev_lit ?e0 ?_
  case e0 => conv => lhs; whnf
  dsimp only [fv0, List.map, List.cons_append, List.nil_append]
  repeat' kby_none
  refine ev_callX hc hr (by decide) (c_state_of in_head) (fun x => ?_)
  repeat' kby_none
  exact ⟨_, .cons_cons _ (.cons _ (.cons _ (.cons _ (.cons _ (.cons _ (.cons _ (.refl _))))))), _, _, _, _, _, _, _, _, _, _, _, _, rfl, rfl⟩
theorem c_parse_partial {q : Int} {u2 : Tok} (hV : IsView led v cs) (hT : IsTab led t) (hz : cs.length ≤ 1000) (ha : ∀ c ∈ cs, c ∈ alpha) (hq : q ≤ 1 + (cs.length : Int)) (hR : Reach cs q q n 1 .plain q .plain) :
    Calls P w (hd.heap_39 w.params) 12 461 [.ref v, .ref t, .int 1 u2, .int q u] led (PpP q led) := by
  refine Calls.sub ?_
  obtain ⟨l, vals, tv, v1, v2, v3⟩ := id hV
  refine calls_intro (n := 11) (def_mk (by k_is) (by k_is) (by k_is) (by exact rfl) (by exact rfl) (by exact rfl) (by decide)) [("view", .ref v), ("table", .ref t), ("place", .int 1 u2), ("limit", .int q u), ("state", .none), ("target", .none), ("stop_before", .bool false), ("stop_comment", .bool false)] ["walk", "depth", "comment"] (by intro s X9; first | exact BindsTo.of_eq rfl | exact binds_K X9 rfl (by k_is) rfl rfl rfl) (ns := ["view", "table", "place", "limit", "state", "target", "stop_before", "stop_comment", "walk", "depth", "comment"]) (by kernel_rfl) (by exact rfl) ?_
  intro c hc hs hr
  have hg : Globs c ["Walk", "ParseState", "begins_expression"] := globs_of (by rw [hs]; kernel_rfl)
  clear hs
  refine' ev_lit ?e0 ?_
  case e0 => conv => lhs; whnf
  dsimp only [fv0, List.map, List.cons_append, List.nil_append]
  repeat' kby_none
  rename_i wk L hW
  refine ev_while (I := fun n fv L => ∃ p mo o1 o2, fv = ([("view", some (.ref v)), ("table", some (.ref t)), ("place", some (.int 1 u2)), ("limit", some (.int q u)), ("state", some (.none)), ("target", some (.none)), ("stop_before", some (.bool false)), ("stop_comment", some (.bool false)), ("walk", some (.ref wk)), ("depth", o1), ("comment", o2)] : FV) ∧ WalkAt wk v t p mo led L ∧ Reach cs q q n p mo q .plain) ?_ n ⟨_, _, _, _, rfl, hW, hR⟩
  clear hW hR
  rintro n fv L ⟨p, mo, o1, o2, rfl, hW, hR⟩
  obtain ⟨ol, ovs, tp, tb, tl, th, wh, wo, st, co, sy, sa, rfl, h1, h2, h3, h4⟩ := id hW
  cases hR
  · repeat' kby_none
    refine ev_callG hc hr (by decide) (c_state (by omega) hW) ?_
    rintro r L ⟨x, op, be, le, wh, wo, tk, sy, ne, sa, qu, ha, rfl, rfl⟩
    repeat' kby_none
    exact ⟨_, .refl _, _, _, _, _, _, _, _, _, _, _, _, _, _, _, rfl, rfl⟩
  · rename_i k1 k2 k3 k4
    have hz3 : (ovs.length : Int) < 2 ^ 63 := by omega
    cases h3
    all_goals
      repeat' kby_none
      exact ⟨_, Nat.lt_succ_self _, _, _, _, _, rfl, by assumption, k4⟩
theorem c_state_at {q : Int} (hV : IsView led v cs) (hT : IsTab led t) (hz : cs.length ≤ 1000) (ha : ∀ c ∈ cs, c ∈ alpha) (hq : q ≤ 1 + (cs.length : Int)) (hR : Reach cs q q n 1 .plain q .plain) :
    Calls P w (hd.heap_39 w.params) 13 468 [.ref v, .ref t, .int q u] led (StP led) := by
  refine Calls.sub ?_
  obtain ⟨l, vals, tv, v1, v2, v3⟩ := id hV
  refine calls_intro (n := 12) (def_mk (by k_is) (by k_is) (by k_is) (by exact rfl) (by exact rfl) (by exact rfl) (by decide)) [("view", .ref v), ("table", .ref t), ("place", .int q u)] [] (by intro s X9; first | exact BindsTo.of_eq rfl | exact binds_K X9 rfl (by k_is) rfl rfl rfl) (ns := ["view", "table", "place"]) (by kernel_rfl) (by exact rfl) ?_
  intro c hc hs hr
  have hg : Globs c ["parse_partial"] := globs_of (by rw [hs]; kernel_rfl)
  clear hs
  refine' ev_lit ?e0 ?_
  case e0 => conv => lhs; whnf
  dsimp only [fv0, List.map, List.cons_append, List.nil_append]
  repeat' kby_none
  refine ev_callG hc hr (by decide) (c_parse_partial hV hT hz ha hq hR) ?_
  rintro r L ⟨a, tq, x, op, be, le, wh, wo, tk, sy, ne, sa, qu, ha, rfl, rfl⟩
  repeat' kby_none
  exact ⟨_, .cons _ (.refl _), _, _, _, _, _, _, _, _, _, _, _, _, rfl, rfl⟩
end
def isBl (c : Int) : Bool := decide (c = 32 ∨ c = 10)
section
variable {w : World} {v t : Addr} {led : Led} {cs : List Int} {p : Int} {n : Nat} {u : Tok}
theorem c_is_blank (hV : IsView led v cs) (hT : IsTab led t) (hz : cs.length ≤ 1000) (ha : ∀ c ∈ cs, c ∈ alpha) :
    Calls P w (hd.heap_39 w.params) 5 489 [.ref v, .ref t, .int p u] led (fun r led' => r = .bool (isBl (codeAt cs p)) ∧ led' = led) := by
  obtain ⟨l, vals, tv, v1, v2, v3⟩ := id hV
  refine calls_intro (n := 4) (def_mk (by k_is) (by k_is) (by k_is) (by exact rfl) (by exact rfl) (by exact rfl) (by decide)) [("view", .ref v), ("table", .ref t), ("place", .int p u)] ["syntax"] (by intro s X9; first | exact BindsTo.of_eq rfl | exact binds_K X9 rfl (by k_is) rfl rfl rfl) (ns := ["view", "table", "place", "syntax"]) (by kernel_rfl) (by exact rfl) ?_
  intro c hc hs hr
  have hg : Globs c ["syntax_at", "WHITESPACE", "ENDS", "NEW_LINE"] := globs_of (by rw [hs]; kernel_rfl)
  clear hs
  refine' ev_lit ?e0 ?_
  case e0 => conv => lhs; whnf
  dsimp only [fv0, List.map, List.cons_append, List.nil_append]
  rcases code_or ha p with h1 | h1
  · repeat' kby_none
    refine ⟨?_, rfl⟩
    rw [h1]; rfl
  · have k1 := (kd_is h1).2.2.2.2.1
    have k2 := (kd_is h1).2.2.2.1
    unfold isBl
    by_cases e1 : codeAt cs p = 32
    · rw [decide_eq_true e1] at k1
      repeat' kby_none
      refine ⟨?_, rfl⟩
      rw [e1]; rfl
    · rw [decide_eq_false e1] at k1
      by_cases e2 : codeAt cs p = 10
      · rw [decide_eq_true e2] at k2
        repeat' kby_none
        refine ⟨?_, rfl⟩
        rw [e2]; rfl
      · rw [decide_eq_false e2] at k2
        repeat' kby_none
        refine ⟨?_, rfl⟩
        rw [decide_eq_false (fun q => q.elim e1 e2)]; rfl
end
local macro_rules | `(tactic| k_meth) => `(tactic| subst (ev_callV c_is_blank "llaa"))
/-- over blanks to the next other thing, and over it if it is a comment -/
inductive PastTo (cs : List Int) (p : Int) : Int → Bool → Prop
  | stop {m : Int} : p ≤ m → (∀ i, p ≤ i → i < m → isBl (codeAt cs i) = true) → isBl (codeAt cs m) = false → bmk cs m = none → PastTo cs p m false
  | com {m q : Int} {b : Bool} {n : Nat} : p ≤ m → (∀ i, p ≤ i → i < m → isBl (codeAt cs i) = true) → isBl (codeAt cs m) = false → bmk cs m = some b → Legal cs m .plain → m + 2 ≤ 1 + (cs.length : Int) → ComTo cs n (m + 2) (.com b m) q → PastTo cs p q true
inductive BackTo (cs : List Int) (evs : List (Int × Int)) (p : Int) : Int → Bool → Prop
  | stop {m : Int} : m ≤ p → (∀ i, m < i → i ≤ p → evAt evs i = none ∧ 1 < i ∧ isBl (codeAt cs (i - 1)) = true) → evAt evs m = none → (m ≤ 1 ∨ isBl (codeAt cs (m - 1)) = false) → BackTo cs evs p m false
  | com {m s : Int} : m ≤ p → (∀ i, m < i → i ≤ p → evAt evs i = none ∧ 1 < i ∧ isBl (codeAt cs (i - 1)) = true) → evAt evs m = some s → BackTo cs evs p s true
theorem isBl_bmk {cs : List Int} {p : Int} (h : isBl (codeAt cs p) = true) : bmk cs p = none := bmk_none fun e => by rw [e] at h; exact absurd h (by decide)
section
variable {w : World} {v t : Addr} {led : Led} {cs : List Int} {p p' : Int} {b' : Bool} {n : Nat} {u : Tok}
theorem c_past_comment (hV : IsView led v cs) (hT : IsTab led t) (hz : cs.length ≤ 1000) (ha : ∀ c ∈ cs, c ∈ alpha) (h0 : 0 ≤ p) (hP : PastTo cs p p' b') :
    Calls P w (hd.heap_39 w.params) 14 496 [.ref v, .ref t, .int p u] led (fun r led' => ∃ a tq, r = .ref a ∧ led' = (a, .tup [.int p' tq, .bool b']) :: led) := by
  refine Calls.sub ?_
  obtain ⟨l, vals, tv, v1, v2, v3⟩ := id hV
  cases hP with
  | stop hm hbl hnb hB =>
    refine calls_intro (n := 13) (def_mk (by k_is) (by k_is) (by k_is) (by exact rfl) (by exact rfl) (by exact rfl) (by decide)) [("view", .ref v), ("table", .ref t), ("at", .int p u)] ["end"] (by intro s X9; first | exact BindsTo.of_eq rfl | exact binds_K X9 rfl (by k_is) rfl rfl rfl) (ns := ["view", "table", "at", "end"]) (by kernel_rfl) (by exact rfl) ?_
    intro c hc hs hr
    have hg : Globs c ["is_blank", "begin_mark", "comment_end"] := globs_of (by rw [hs]; kernel_rfl)
    clear hs
    refine' ev_lit ?e0 ?_
    case e0 => conv => lhs; whnf
    dsimp only [fv0, List.map, List.cons_append, List.nil_append]
    repeat' kby_none
    refine ev_while (I := fun n fv L => L = led ∧ ∃ i tk, n = (p' - i).toNat ∧ p ≤ i ∧ i ≤ p' ∧ fv = ([("view", some (.ref v)), ("table", some (.ref t)), ("at", some (.int i tk)), ("end", none)] : FV)) ?_ _ ⟨rfl, p, u, rfl, Int.le_refl _, hm, rfl⟩
    rintro n fv L ⟨rfl, i, tk, rfl, hi1, hi2, rfl⟩
    by_cases hi : i < p'
    · have g1 := hbl i hi1 hi
      have g2 := isBl_bmk g1
      repeat' kby_none
      exact ⟨(p' - (i + 1)).toNat, by omega, rfl, i + 1, _, rfl, by omega, by omega, rfl⟩
    · have e : i = p' := by omega
      subst e
      repeat' kby_none
      exact ⟨_, .refl _, _, _, rfl, rfl⟩
  | @com m_ _ _ _ hm hbl hnb hB hg hl hC =>
    refine calls_intro (n := 13) (def_mk (by k_is) (by k_is) (by k_is) (by exact rfl) (by exact rfl) (by exact rfl) (by decide)) [("view", .ref v), ("table", .ref t), ("at", .int p u)] ["end"] (by intro s X9; first | exact BindsTo.of_eq rfl | exact binds_K X9 rfl (by k_is) rfl rfl rfl) (ns := ["view", "table", "at", "end"]) (by kernel_rfl) (by exact rfl) ?_
    intro c hc hs hr
    have hg : Globs c ["is_blank", "begin_mark", "comment_end"] := globs_of (by rw [hs]; kernel_rfl)
    clear hs
    refine' ev_lit ?e0 ?_
    case e0 => conv => lhs; whnf
    dsimp only [fv0, List.map, List.cons_append, List.nil_append]
    repeat' kby_none
    refine ev_while (I := fun n fv L => L = led ∧ ∃ i tk, n = (m_ - i).toNat ∧ p ≤ i ∧ i ≤ m_ ∧ fv = ([("view", some (.ref v)), ("table", some (.ref t)), ("at", some (.int i tk)), ("end", none)] : FV)) ?_ _ ⟨rfl, p, u, rfl, Int.le_refl _, hm, rfl⟩
    rintro n fv L ⟨rfl, i, tk, rfl, hi1, hi2, rfl⟩
    by_cases hi : i < m_
    · have g1 := hbl i hi1 hi
      have g2 := isBl_bmk g1
      repeat' kby_none
      exact ⟨(m_ - (i + 1)).toNat, by omega, rfl, i + 1, _, rfl, by omega, by omega, rfl⟩
    · have e : i = m_ := by omega
      subst e
      have h00 : 0 ≤ i := by omega
      repeat' kby_none
      exact ⟨_, .cons_cons _ (.cons _ (.refl _)), _, _, rfl, rfl⟩
theorem c_before_comment {d : Addr} {kvs : List (Int × Value)} {evs : List (Int × Int)} (hV : IsView led v cs) (hT : IsTab led t) (hz : cs.length ≤ 1000) (ha : ∀ c ∈ cs, c ∈ alpha) (hdd : (d, SO.dct kvs) ∈ led) (hD : DictOf kvs evs) (hP : BackTo cs evs p p' b') :
    Calls P w (hd.heap_39 w.params) 14 503 [.ref v, .ref t, .int p u, .ref d] led (fun r led' => ∃ a tq, r = .ref a ∧ led' = (a, .tup [.int p' tq, .bool b']) :: led) := by
  obtain ⟨l, vals, tv, v1, v2, v3⟩ := id hV
  cases hP with
  | stop hm hbl hn hB =>
    refine calls_intro (n := 13) (def_mk (by k_is) (by k_is) (by k_is) (by exact rfl) (by exact rfl) (by exact rfl) (by decide)) [("view", .ref v), ("table", .ref t), ("at", .int p u), ("comments", .ref d)] [] (by intro s X9; first | exact BindsTo.of_eq rfl | exact binds_K X9 rfl (by k_is) rfl rfl rfl) (ns := ["view", "table", "at", "comments"]) (by kernel_rfl) (by exact rfl) ?_
    intro c hc hs hr
    have hg : Globs c ["is_blank"] := globs_of (by rw [hs]; kernel_rfl)
    clear hs
    refine' ev_lit ?e0 ?_
    case e0 => conv => lhs; whnf
    dsimp only [fv0, List.map, List.cons_append, List.nil_append]
    repeat' kby_none
    refine ev_while (I := fun n fv L => L = led ∧ ∃ i tk, n = (i - p').toNat ∧ p' ≤ i ∧ i ≤ p ∧ fv = ([("view", some (.ref v)), ("table", some (.ref t)), ("at", some (.int i tk)), ("comments", some (.ref d))] : FV)) ?_ _ ⟨rfl, p, u, rfl, hm, Int.le_refl _, rfl⟩
    rintro n fv L ⟨rfl, i, tk, rfl, hi1, hi2, rfl⟩
    by_cases hi : p' < i
    · obtain ⟨g0, g1, g2⟩ := hbl i hi hi2
      rcases hD i with ⟨g3, _⟩ | ⟨s, t1, _, g3⟩
      · repeat' kby_none
        exact ⟨(i - 1 - p').toNat, by omega, rfl, i - 1, _, rfl, by omega, by omega, rfl⟩
      · rw [g0] at g3; cases g3
    · have e : i = p' := by omega
      subst e
      rcases hD i with ⟨g3, _⟩ | ⟨s, t1, _, g3⟩
      · by_cases g1 : i ≤ 1
        · repeat' kby_none
          exact ⟨_, _, rfl, rfl⟩
        · have g2 := hB.resolve_left g1
          repeat' kby_none
          exact ⟨_, _, rfl, rfl⟩
      · rw [hn] at g3; cases g3
  | @com m s hm hbl hn =>
    refine calls_intro (n := 13) (def_mk (by k_is) (by k_is) (by k_is) (by exact rfl) (by exact rfl) (by exact rfl) (by decide)) [("view", .ref v), ("table", .ref t), ("at", .int p u), ("comments", .ref d)] [] (by intro s X9; first | exact BindsTo.of_eq rfl | exact binds_K X9 rfl (by k_is) rfl rfl rfl) (ns := ["view", "table", "at", "comments"]) (by kernel_rfl) (by exact rfl) ?_
    intro c hc hs hr
    have hg : Globs c ["is_blank"] := globs_of (by rw [hs]; kernel_rfl)
    clear hs
    refine' ev_lit ?e0 ?_
    case e0 => conv => lhs; whnf
    dsimp only [fv0, List.map, List.cons_append, List.nil_append]
    repeat' kby_none
    refine ev_while (I := fun n fv L => L = led ∧ ∃ i tk, n = (i - m).toNat ∧ m ≤ i ∧ i ≤ p ∧ fv = ([("view", some (.ref v)), ("table", some (.ref t)), ("at", some (.int i tk)), ("comments", some (.ref d))] : FV)) ?_ _ ⟨rfl, p, u, rfl, hm, Int.le_refl _, rfl⟩
    rintro n fv L ⟨rfl, i, tk, rfl, hi1, hi2, rfl⟩
    by_cases hi : m < i
    · obtain ⟨g0, g1, g2⟩ := hbl i hi hi2
      rcases hD i with ⟨g3, _⟩ | ⟨s, t1, _, g3⟩
      · repeat' kby_none
        exact ⟨(i - 1 - m).toNat, by omega, rfl, i - 1, _, rfl, by omega, by omega, rfl⟩
      · rw [g0] at g3; cases g3
    · have e : i = m := by omega
      subst e
      rcases hD i with ⟨_, g3⟩ | ⟨s', t1, g4, g3⟩
      · rw [hn] at g3; cases g3
      · rw [hn] at g3
        cases g3
        repeat' kby_none
        exact ⟨_, _, rfl, rfl⟩
end
theorem ev_whileF {prog : Program} {w : World} {K : Frag} {c : Cx prog w K} {fv : FV} {led : Led} {pos : Pos} {Q : Flow → FV → Led → Prop} {test : Expr} {body : List Stmt}
    (h : EV c (isTrue test c.env (eval test c.env)) (fun b fv led => (b = true → False) ∧ (b = false → Q .next fv led)) fv led) : EV c (exec (.While test body [] pos) c.env) Q fv led :=
  ev_while (I := fun _ fv' led' => fv' = fv ∧ led' = led) (fun n fv' led' e => by
    obtain ⟨rfl, rfl⟩ := e
    exact h.mono fun b fv led q => ⟨fun e => (q.1 e).elim, q.2⟩) 0 ⟨rfl, rfl⟩
inductive FwdTo (cs : List Int) : Int → Nat → Int → Bool → Prop
  | done {p : Int} : FwdTo cs p 0 p true
  | stop {p p' : Int} {k : Nat} : 0 ≤ p → PastTo cs p p' false → FwdTo cs p (k + 1) p' false
  | go {p q p' : Int} {k : Nat} {b : Bool} : 0 ≤ p → PastTo cs p q true → FwdTo cs q k p' b → FwdTo cs p (k + 1) p' b
inductive BckTo (cs : List Int) (evs : List (Int × Int)) : Int → Nat → Int → Bool → Prop
  | done {p : Int} : BckTo cs evs p 0 p true
  | stop {p p' : Int} {k : Nat} : BackTo cs evs p p' false → BckTo cs evs p (k + 1) p' false
  | go {p q p' : Int} {k : Nat} {b : Bool} : BackTo cs evs p q true → BckTo cs evs q k p' b → BckTo cs evs p (k + 1) p' b
section
variable {w : World} {v t : Addr} {led : Led} {cs : List Int} {p p' i : Int} {b' : Bool} {k n : Nat} {u u2 : Tok}
theorem c_forward (hV : IsView led v cs) (hT : IsTab led t) (hz : cs.length ≤ 1000) (ha : ∀ c ∈ cs, c ∈ alpha) (hi : i = (k : Int)) (hF : FwdTo cs p k p' b') :
    Calls P w (hd.heap_39 w.params) 16 510 [.ref v, .ref t, .int p u, .int i u2] led (fun r led' => ∃ a tq, r = .ref a ∧ led' = (a, .tup [.int p' tq, .bool b']) :: led) := by
  refine Calls.sub ?_
  refine calls_intro (n := 15) (def_mk (by k_is) (by k_is) (by k_is) (by exact rfl) (by exact rfl) (by exact rfl) (by decide)) [("view", .ref v), ("table", .ref t), ("at", .int p u), ("count", .int i u2)] ["is_there", "comments"] (by intro s X9; first | exact BindsTo.of_eq rfl | exact binds_K X9 rfl (by k_is) rfl rfl rfl) (ns := ["view", "table", "at", "count", "is_there", "comments"]) (by kernel_rfl) (by exact rfl) ?_
  intro c hc hs hr
  have hg : Globs c ["past_comment", "spans_to", "before_comment"] := globs_of (by rw [hs]; kernel_rfl)
  clear hs
  refine' ev_lit ?e0 ?_
  case e0 => conv => lhs; whnf
  dsimp only [fv0, List.map, List.cons_append, List.nil_append]
  repeat' kby_none
  refine ev_while (I := fun n fv L => ∃ p i tk tc b P0, i = (n : Int) ∧ fv = ([("view", some (.ref v)), ("table", some (.ref t)), ("at", some (.int p tk)), ("count", some (.int i tc)), ("is_there", some (.bool b)), ("comments", none)] : FV) ∧ L = P0 ++ led ∧ ((b = true ∧ FwdTo cs p n p' b') ∨ (b = false ∧ p = p' ∧ b' = false))) ?_ k ⟨p, i, u, u2, true, [], hi, rfl, rfl, .inl ⟨rfl, hF⟩⟩
  clear hF hi
  rintro n fv L ⟨p, i, tk, tc, b, P0, hi, rfl, rfl, hF⟩
  refine EV.right ?_
  rcases hF with ⟨rfl, hF⟩ | ⟨rfl, rfl, rfl⟩
  · cases hF with
    | done =>
      repeat' kby_none
      refine ev_whileF ?_
      repeat' kby_none
      exact ⟨_, .cons_cons _ (.cons _ (.refl _)), _, _, rfl, rfl⟩
    | @stop _ _ n h0 hP =>
      repeat' kby_none
      refine ev_callG hc hr (by decide) (c_past_comment hV hT hz ha h0 hP) ?_
      rintro r L ⟨a, tq, rfl, rfl⟩
      repeat' kby_none
      exact ⟨n, Nat.lt_succ_self _, _, _, _, _, _, [_], by omega, rfl, rfl, .inr ⟨rfl, rfl, rfl⟩⟩
    | @go _ q _ n _ h0 hP hF =>
      repeat' kby_none
      refine ev_callG hc hr (by decide) (c_past_comment hV hT hz ha h0 hP) ?_
      rintro r L ⟨a, tq, rfl, rfl⟩
      repeat' kby_none
      exact ⟨n, Nat.lt_succ_self _, _, _, _, _, _, [_], by omega, rfl, rfl, .inl ⟨rfl, hF⟩⟩
  · by_cases h0 : n = 0
    · repeat' kby_none
      refine ev_whileF ?_
      repeat' kby_none
      exact ⟨_, .cons_cons _ (.cons _ (.refl _)), _, _, rfl, rfl⟩
    · repeat' kby_none
      refine ev_whileF ?_
      repeat' kby_none
      exact ⟨_, .cons_cons _ (.cons _ (.refl _)), _, _, rfl, rfl⟩
theorem c_backward {evs : List (Int × Int)} (hV : IsView led v cs) (hT : IsTab led t) (hz : cs.length ≤ 1000) (ha : ∀ c ∈ cs, c ∈ alpha) (hi : i = -(k : Int)) (hk : k ≠ 0) (hn : n ≤ 2000) (hS : Spans cs p n 1 .plain evs) (hF : BckTo cs evs p k p' b') :
    Calls P w (hd.heap_39 w.params) 16 510 [.ref v, .ref t, .int p u, .int i u2] led (fun r led' => ∃ a tq, r = .ref a ∧ led' = (a, .tup [.int p' tq, .bool b']) :: led) := by
  refine Calls.sub ?_
  refine calls_intro (n := 15) (def_mk (by k_is) (by k_is) (by k_is) (by exact rfl) (by exact rfl) (by exact rfl) (by decide)) [("view", .ref v), ("table", .ref t), ("at", .int p u), ("count", .int i u2)] ["is_there", "comments"] (by intro s X9; first | exact BindsTo.of_eq rfl | exact binds_K X9 rfl (by k_is) rfl rfl rfl) (ns := ["view", "table", "at", "count", "is_there", "comments"]) (by kernel_rfl) (by exact rfl) ?_
  intro c hc hs hr
  have hg : Globs c ["past_comment", "spans_to", "before_comment"] := globs_of (by rw [hs]; kernel_rfl)
  clear hs
  refine' ev_lit ?e0 ?_
  case e0 => conv => lhs; whnf
  dsimp only [fv0, List.map, List.cons_append, List.nil_append]
  repeat' kby_none
  refine ev_whileF ?_
  repeat' kby_none
  refine ev_callG hc hr (by decide) (c_spans_to hV hT hz ha hn hS) ?_
  rintro r L ⟨a, d1, d2, kvs, rfl, rfl, hD⟩
  repeat' kby_none
  refine EV.drop ?_
  have hV2 : IsView ((d1, .dct kvs) :: led) v cs := hV.cons
  have hT2 : IsTab ((d1, .dct kvs) :: led) t := hT.cons
  refine ev_while (I := fun n fv L => ∃ p i tk tc b P0, i = -(n : Int) ∧ fv = ([("view", some (.ref v)), ("table", some (.ref t)), ("at", some (.int p tk)), ("count", some (.int i tc)), ("is_there", some (.bool b)), ("comments", some (.ref d1))] : FV) ∧ L = P0 ++ (d1, .dct kvs) :: led ∧ ((b = true ∧ BckTo cs evs p n p' b') ∨ (b = false ∧ p = p' ∧ b' = false))) ?_ k ⟨p, i, u, u2, true, [], hi, rfl, rfl, .inl ⟨rfl, hF⟩⟩
  clear hF hi hS hn hk
  rintro n fv L ⟨p, i, tk, tc, b, P0, hi, rfl, rfl, hF⟩
  refine EV.right ?_
  rcases hF with ⟨rfl, hF⟩ | ⟨rfl, rfl, rfl⟩
  · cases hF with
    | done =>
      repeat' kby_none
      exact ⟨_, .cons_cons _ (.cons _ (.refl _)), _, _, rfl, rfl⟩
    | @stop _ _ n hP =>
      repeat' kby_none
      refine ev_callG hc hr (by decide) (c_before_comment hV2 hT2 hz ha in_head hD hP) ?_
      rintro r L ⟨a, tq, rfl, rfl⟩
      repeat' kby_none
      exact ⟨n, Nat.lt_succ_self _, _, _, _, _, _, [_], by omega, rfl, rfl, .inr ⟨rfl, rfl, rfl⟩⟩
    | @go _ q _ n _ hP hF =>
      repeat' kby_none
      refine ev_callG hc hr (by decide) (c_before_comment hV2 hT2 hz ha in_head hD hP) ?_
      rintro r L ⟨a, tq, rfl, rfl⟩
      repeat' kby_none
      exact ⟨n, Nat.lt_succ_self _, _, _, _, _, _, [_], by omega, rfl, rfl, .inl ⟨rfl, hF⟩⟩
  · by_cases h0 : n = 0
    · repeat' kby_none
      exact ⟨_, .cons_cons _ (.cons _ (.refl _)), _, _, rfl, rfl⟩
    · repeat' kby_none
      exact ⟨_, .cons_cons _ (.cons _ (.refl _)), _, _, rfl, rfl⟩
end
end
section
def strOf : Value → Str
  | .str s _ => s
  | _ => ""
def signsOf (x : Str) : List Str := x.cps.toList.map fun c => ⟨#[c]⟩
def sortF (x : Str) : Str := Txt.join "" ((signsOf "1234bcnp").filter fun s => has x s)
theorem sign_str {x : Str} {i : Nat} {v : Value} (h : SignAt x i v) : ∃ s t, v = .str s t := by
  obtain ⟨c, u, _, rfl⟩ := h
  exact ⟨_, _, rfl⟩
theorem signs_map {x : Str} {vs : List Value} (hl : vs.length = x.cps.size) (h : ∀ j v, vs[j]? = some v → SignAt x j v) : vs.map strOf = signsOf x := by
  unfold signsOf
  refine List.ext_getElem? fun j => ?_
  rw [List.getElem?_map, List.getElem?_map]
  cases e : vs[j]? with
  | none =>
    have h1 := List.getElem?_eq_none_iff.mp e
    rw [List.getElem?_eq_none (by rw [Array.length_toList]; omega)]
    rfl
  | some v =>
    obtain ⟨c, u, hc, rfl⟩ := h j v e
    rw [Array.getElem?_toList, hc]
    rfl
theorem paired_eq : ∀ {vs ys : List Value}, Paired (fun v y => y = v) vs ys → ys = vs
  | _, _, .nil => rfl
  | _, _, .cons h t => by rw [h, paired_eq t]
theorem strs_of : ∀ {vs : List Value}, (∀ v ∈ vs, ∃ s t, v = .str s t) → StrsAre vs (vs.map strOf)
  | [], _ => .nil
  | v :: r, h => by
    obtain ⟨s, t, rfl⟩ := h v (.head _)
    exact .cons _ _ (strs_of fun v hv => h v (.tail _ hv))
theorem filter_map' {q : Str → Bool} : ∀ vs : List Value, (vs.filter fun v => q (strOf v)).map strOf = (vs.map strOf).filter q
  | [] => rfl
  | v :: r => by
    rw [List.filter_cons, List.map_cons, List.filter_cons]
    cases e : q (strOf v) with
    | true =>
      show strOf v :: (List.filter _ r).map strOf = strOf v :: _
      rw [filter_map' r]
    | false => exact filter_map' r
theorem sum_len : ∀ l : List Str, (∀ s ∈ l, s.length = 1) → (l.map (·.length)).sum = l.length
  | [], _ => rfl
  | s :: r, h => by
    rw [List.map_cons, List.sum_cons, sum_len r (fun s hs => h s (.tail _ hs)), h s (.head _), List.length_cons]; omega
section
variable {w : World} {led : Led}
theorem c_sorted_flags {x : Str} {t : Tok} : Calls P w (hd.heap_39 w.params) 1 153 [.str x t] led (fun r led' => (∃ t, r = .str (sortF x) t) ∧ led' = led) := by
  refine Calls.sub ?_
  refine calls_introC1 (n := 0) (x := "text") (by k_is) (by k_is) (by exact rfl) (by exact rfl) (by exact rfl) (by intro s X9; exact BindsTo.of_eq rfl) (by exact rfl) (by intro n; rfl) ?_
  intro c ca o hc hs hcl hgl hbl ho hr
  have hg : Globs c ["FLAGS"] := globs_of (by rw [hs]; kernel_rfl)
  refine' ev_lit ?e0 ?_
  case e0 => conv => lhs; whnf
  repeat' kby_none
  refine ev_compS (cl := [("text", ca)]) (fun v => has x (strOf v)) (fun v y => y = v) hc ?_ (by decide) rfl (by decide) rfl ?_
  · unfold closureFor cellOf
    rw [hcl]
    rfl
  repeat' kby_none
  refine ⟨_, _, rfl, by decide +kernel, by decide +kernel, ?_, ?_⟩
  · intro C v s m E hv S hC hm
    obtain ⟨i, ch, u, hi, rfl⟩ := hv
    refine ⟨ifs_one (wpAny_isTrue_Compare1 (cn_local rfl rfl hC hm rfl ?_)), fun _ => cn_local rfl rfl hC hm rfl ⟨rfl, keeps_self s⟩⟩
    refine wpAny_Name (wpAny_loadName_cell (c := ca) rfl ?_ rfl ⟨o, S.raw in_head, ho⟩ ?_) rfl
    · show (relabel _ c.env).names.lookup _ = _
      unfold relabel Env.kindOf
      rw [hs]
      rfl
    refine @PyProof.Rows.in_str _ _ _ _ _ _ _ _ _ _ (by exact wpAny_truthy_bool ⟨rfl, keeps_self s⟩)
  · intro D ys vs hl hS hP
    have e := paired_eq hP
    subst e
    have hst : StrsAre (vs.filter fun v => has x (strOf v)) ((signsOf "1234bcnp").filter fun s => has x s) := by
      have q := strs_of (vs := vs.filter fun v => has x (strOf v)) fun v hv => by
        obtain ⟨j, hj⟩ := List.getElem?_of_mem (List.mem_filter.mp hv).1
        exact sign_str (hS j v hj)
      rw [filter_map' (q := fun s => has x s), signs_map hl hS] at q
      exact q
    have hlen : ((signsOf "1234bcnp").filter fun s => has x s).length ≤ 8 := List.length_filter_le _ _
    have hsum := sum_len ((signsOf "1234bcnp").filter fun s => has x s) (fun s hs => by
      obtain ⟨c, _, rfl⟩ := List.mem_map.mp (List.mem_filter.mp hs).1
      rfl)
    repeat' kby_none
    refine ev_join in_head hst (by rw [hsum]; show _ + _ * 0 ≤ 16777216; omega) (fun t' => ?_)
    repeat' kby_none
    exact ⟨_, .cons _ (.cons _ (.refl _)), ⟨_, rfl⟩, rfl⟩
end
end
section
local macro_rules | `(tactic| k_meth) => `(tactic| subst (ev_callS c_sorted_flags "!"))
section
variable {w : World} {led : Led}
theorem c_Syntax_init {o : Addr} {k m f : Value} : Calls P w (hd.heap_39 w.params) 1 113 [.ref o, k, m, f] ((o, .inst 144 []) :: led) (fun r led' => r = .none ∧ led' = (o, .inst 144 (synF k m f)) :: led) := by
  refine calls_intro (n := 0) (def_mk (by k_is) (by k_is) (by k_is) (by exact rfl) (by exact rfl) (by exact rfl) (by decide)) [("self", .ref o), ("kind", k), ("match", m), ("flags", f)] [] (by intro s X9; first | exact BindsTo.of_eq rfl | exact binds_K X9 rfl (by k_is) rfl rfl rfl) (ns := ["self", "kind", "match", "flags"]) (by kernel_rfl) (by exact rfl) ?_
  intro c hc hs hr
  clear hs
  refine' ev_lit ?e0 ?_
  case e0 => conv => lhs; whnf
  dsimp only [fv0, List.map, List.cons_append, List.nil_append]
  repeat' kby_none
  exact ⟨rfl, rfl⟩
theorem mk_Syntax {c : Cx P w (hd.heap_39 w.params)} {fv : FV} {n : Nat} {k m f : Value} {Q : Value → FV → Led → Prop} (hc : c.Ok) (hr : Room c.A n) (hk : 2 ≤ n) (h : ∀ x, Q (.ref x) fv ((x, .inst 144 (synF k m f)) :: led)) : EV c (call (.ref 144) [k, m, f]) Q fv led :=
  ev_makeC hc hr hk (MK_Syntax _) (fun _ => c_Syntax_init) h
local macro_rules | `(tactic| k_meth) => `(tactic| subst (mk_Syntax "aad_!"))
theorem paired_all : ∀ {vs ys : List Value}, Paired (fun _ y => y = Value.bool true) vs ys → ys = (List.replicate ys.length true).map .bool
  | _, _, .nil => rfl
  | _, _, .cons h t => by
    rw [h, List.length_cons, List.replicate_succ, List.map_cons, ← paired_all t]
theorem all_rep (n : Nat) : (List.replicate n true).all id = true := by
  induction n with
  | zero => rfl
  | succ n ih => rw [List.replicate_succ, List.all_cons, ih]; rfl
theorem c_read_syntax {x : Str} {t : Tok} (h0 : (x == "") = false) (h1 : (Txt.item x 0 == "-") = false) (hk : has " w_.()'\"\\/$<>@!|" (Txt.item x 0) = true) (hx1 : 1 ≤ x.length) (hx2 : x.length ≤ 100)
    (hm : x.length < 2 ∨ (2 ≤ x.length ∧ (Txt.item x 1 == " ") = true) ∨ (2 ≤ x.length ∧ (Txt.item x 1 == " ") = false ∧ ∃ ch, Txt.item x 1 = ⟨#[ch]⟩))
    (hf : ∀ s ∈ signsOf (Txt.slice x (some 2) none), has "1234bcnp" s = true) (hf2 : (Txt.slice x (some 2) none).cps.all (· < 128) = true) (hf3 : (Txt.slice x (some 2) none).cps.size ≤ 100) :
    Calls P w (hd.heap_39 w.params) 3 158 [.str x t] led (fun r led' => ∃ o mt tk tf, r = .ref o ∧ led' = (o, .inst 144 (synF (.str (Txt.item x 0) tk) mt (.str (sortF (Txt.slice x (some 2) none)) tf))) :: led) := by
  refine Calls.sub ?_
  have hz : sizeLine = 16777216 := by decide
  have hz2 : x.length ≤ sizeLine := by omega
  refine calls_intro (n := 2) (def_mk (by k_is) (by k_is) (by k_is) (by exact rfl) (by exact rfl) (by exact rfl) (by decide)) [("text", .str x t)] ["kind", "match", "flags"] (by intro s X9; first | exact BindsTo.of_eq rfl | exact binds_K X9 rfl (by k_is) rfl rfl rfl) (ns := ["text", "kind", "match", "flags"]) (by kernel_rfl) (by exact rfl) ?_
  intro c hc hs hr
  have hg : Globs c ["WHITESPACE", "len", "ord", "KINDS", "all", "Syntax", "sorted_flags"] := globs_of (by rw [hs]; kernel_rfl)
  clear hs
  refine' ev_lit ?e0 ?_
  case e0 => conv => lhs; whnf
  dsimp only [fv0, List.map, List.cons_append, List.nil_append]
  have hm : x.length < 2 ∨ (2 ≤ x.length ∧ (Txt.item x 1 == " ") = true) ∨ (2 ≤ x.length ∧ (Txt.item x 1 == " ") = false ∧ ∃ ch, Txt.item x 1 = ⟨#[ch]⟩) := hm
  rcases hm with hm | ⟨hm, hm1⟩ | ⟨hm, hm1, ch, hm2⟩
  iterate 2 rotate_left
  · repeat' kby_none
    rw [hm2]
    repeat' kby_none
    refine ev_compS (cl := []) (fun _ => true) (fun _ y => y = Value.bool true) hc (closureFor_none (by decide)) (by decide) rfl (by decide) rfl ?_
    repeat' kby_none
    refine ⟨_, _, rfl, hf2, by omega, ?_, ?_⟩
    · intro C v s m E hv S hC hm
      obtain ⟨i, ch, u, hi, rfl⟩ := hv
      have hin : has "1234bcnp" ⟨#[ch]⟩ = true := hf _ (List.mem_map.mpr ⟨ch, List.mem_of_getElem? (i := i) (by rw [Array.getElem?_toList]; exact hi), rfl⟩)
      refine ⟨ifs_none ⟨rfl, keeps_self s⟩, fun _ => BoolOp_or (wpAny_Compare1 (cn_local rfl rfl hC hm rfl (glob_in hc S (V_FLAGS _) ?_ rfl rfl rfl)))⟩
      exact @PyProof.Rows.in_str _ _ _ _ _ _ _ _ _ _ (by exact wpAny_truthy_bool (by
        show (if has "1234bcnp" ⟨#[ch]⟩ = true then _ else _)
        rw [if_pos hin]
        exact ⟨congrArg Value.bool hin, keeps_self s⟩))
    · intro D ys vs hl hS hP
      have e := paired_all hP
      repeat' kby_none
      refine ev_all hc in_head e ?_
      rw [all_rep]
      repeat' kby_none
      exact ⟨_, .cons_cons _ (.cons _ (.refl _)), _, _, _, _, rfl, rfl⟩
  · repeat' kby_none
    refine ev_compS (cl := []) (fun _ => true) (fun _ y => y = Value.bool true) hc (closureFor_none (by decide)) (by decide) rfl (by decide) rfl ?_
    repeat' kby_none
    refine ⟨_, _, rfl, hf2, by omega, ?_, ?_⟩
    · intro C v s m E hv S hC hm
      obtain ⟨i, ch, u, hi, rfl⟩ := hv
      have hin : has "1234bcnp" ⟨#[ch]⟩ = true := hf _ (List.mem_map.mpr ⟨ch, List.mem_of_getElem? (i := i) (by rw [Array.getElem?_toList]; exact hi), rfl⟩)
      refine ⟨ifs_none ⟨rfl, keeps_self s⟩, fun _ => BoolOp_or (wpAny_Compare1 (cn_local rfl rfl hC hm rfl (glob_in hc S (V_FLAGS _) ?_ rfl rfl rfl)))⟩
      exact @PyProof.Rows.in_str _ _ _ _ _ _ _ _ _ _ (by exact wpAny_truthy_bool (by
        show (if has "1234bcnp" ⟨#[ch]⟩ = true then _ else _)
        rw [if_pos hin]
        exact ⟨congrArg Value.bool hin, keeps_self s⟩))
    · intro D ys vs hl hS hP
      have e := paired_all hP
      repeat' kby_none
      refine ev_all hc in_head e ?_
      rw [all_rep]
      repeat' kby_none
      exact ⟨_, .cons_cons _ (.cons _ (.refl _)), _, _, _, _, rfl, rfl⟩
  · repeat' kby_none
    refine ev_compS (cl := []) (fun _ => true) (fun _ y => y = Value.bool true) hc (closureFor_none (by decide)) (by decide) rfl (by decide) rfl ?_
    repeat' kby_none
    refine ⟨_, _, rfl, hf2, by omega, ?_, ?_⟩
    · intro C v s m E hv S hC hm
      obtain ⟨i, ch, u, hi, rfl⟩ := hv
      have hin : has "1234bcnp" ⟨#[ch]⟩ = true := hf _ (List.mem_map.mpr ⟨ch, List.mem_of_getElem? (i := i) (by rw [Array.getElem?_toList]; exact hi), rfl⟩)
      refine ⟨ifs_none ⟨rfl, keeps_self s⟩, fun _ => BoolOp_or (wpAny_Compare1 (cn_local rfl rfl hC hm rfl (glob_in hc S (V_FLAGS _) ?_ rfl rfl rfl)))⟩
      exact @PyProof.Rows.in_str _ _ _ _ _ _ _ _ _ _ (by exact wpAny_truthy_bool (by
        show (if has "1234bcnp" ⟨#[ch]⟩ = true then _ else _)
        rw [if_pos hin]
        exact ⟨congrArg Value.bool hin, keeps_self s⟩))
    · intro D ys vs hl hS hP
      have e := paired_all hP
      repeat' kby_none
      refine ev_all hc in_head e ?_
      rw [all_rep]
      repeat' kby_none
      exact ⟨_, .cons_cons _ (.cons _ (.refl _)), _, _, _, _, rfl, rfl⟩
end
end
section
local macro_rules | `(tactic| k_meth) => `(tactic| subst (ev_callS c_sorted_flags "!"))
def descOk (x : Str) : Bool := !(x == "") && !(Txt.item x 0 == "-") && has " w_.()'\"\\/$<>@!|" (Txt.item x 0) && decide (1 ≤ x.length) && decide (x.length ≤ 100) &&
  (decide (x.length < 2) || (decide (2 ≤ x.length) && (Txt.item x 1 == " ")) || (decide (2 ≤ x.length) && !(Txt.item x 1 == " ") && decide ((Txt.item x 1).cps.size = 1))) &&
  (signsOf (Txt.slice x (some 2) none)).all (fun s => has "1234bcnp" s) && (Txt.slice x (some 2) none).cps.all (· < 128) && decide ((Txt.slice x (some 2) none).cps.size ≤ 100)
/-- what a table tells of each code -/
abbrev Rows_ := Int → Option (Str × Str)
def modF (M : Rows_) (x d : Str) : Rows_ := fun c => if x.cps.toList.any (fun k => (k : Int) == c) then some (Txt.item d 0, sortF (Txt.slice d (some 2) none)) else M c
def TabR (led : Led) (kvs : List (Int × Value)) (M : Rows_) : Prop := ∀ c, (M c = none ∧ valueAt kvs c = none) ∨ ∃ k f s tk mt tf, M c = some (k, f) ∧ valueAt kvs c = some (.ref s) ∧ (s, SO.inst 144 (synF (.str k tk) mt (.str f tf))) ∈ led
theorem TabR.mono {led led' : Led} {kvs : List (Int × Value)} {M : Rows_} (h : TabR led kvs M) (hs : ∀ e, e ∈ led → e ∈ led') : TabR led' kvs M := fun c => by
  rcases h c with q | ⟨k, f, s, tk, mt, tf, h1, h2, h3⟩
  · exact .inl q
  · exact .inr ⟨k, f, s, tk, mt, tf, h1, h2, hs _ h3⟩
def storeL (kvs : List (Int × Value)) (l : List Nat) (v : Value) : List (Int × Value) := l.foldl (fun (k : List (Int × Value)) (c : Nat) => stored k (c : Int) v) kvs
theorem storeL_app (kvs : List (Int × Value)) (l : List Nat) (c : Nat) (v : Value) : storeL kvs (l ++ [c]) v = stored (storeL kvs l v) (c : Int) v := by
  unfold storeL; rw [List.foldl_append]; rfl
theorem storeL_len (v : Value) : ∀ (l : List Nat) (kvs : List (Int × Value)), (storeL kvs l v).length ≤ kvs.length + l.length
  | [], kvs => Nat.le_refl _
  | c :: l, kvs => by
    have h1 := storeL_len v l (stored kvs (c : Int) v)
    have h2 := stored_length_le kvs (c : Int) v
    show (storeL (stored kvs (c : Int) v) l v).length ≤ _
    rw [List.length_cons]; omega
theorem storeL_at (v : Value) (k : Int) : ∀ (l : List Nat) (kvs : List (Int × Value)), valueAt (storeL kvs l v) k = if l.any (fun c => (c : Int) == k) then some v else valueAt kvs k
  | [], kvs => rfl
  | c :: l, kvs => by
    show valueAt (storeL (stored kvs (c : Int) v) l v) k = _
    rw [storeL_at v k l, valueAt_stored, List.any_cons]
    by_cases e : (c : Int) = k
    · subst e; simp
    · rw [if_neg (fun q : k = (c : Int) => e q.symm), beq_false_of_ne e, Bool.false_or]
theorem TabR.mod {led : Led} {kvs : List (Int × Value)} {M : Rows_} {x d : Str} {o : Addr} {tk tf : Tok} {mt : Value} (h : TabR led kvs M) :
    TabR ((o, .inst 144 (synF (.str (Txt.item d 0) tk) mt (.str (sortF (Txt.slice d (some 2) none)) tf))) :: led) (storeL kvs x.cps.toList (.ref o)) (modF M x d) := fun c => by
  rw [storeL_at]
  unfold modF
  split
  · exact .inr ⟨_, _, _, _, _, _, rfl, rfl, .head _⟩
  · exact h.mono (fun e he => .tail _ he) c
theorem take_one {α : Type} {l : List α} {i : Nat} {a : α} (h : l[i]? = some a) : l.take (i + 1) = l.take i ++ [a] := by
  rw [List.take_add_one, h]; rfl
section
variable {w : World} {led : Led}
theorem c_rs {x : Str} {t : Tok} (h : descOk x = true) : Calls P w (hd.heap_39 w.params) 3 158 [.str x t] led (fun r led' => ∃ o mt tk tf, r = .ref o ∧ led' = (o, .inst 144 (synF (.str (Txt.item x 0) tk) mt (.str (sortF (Txt.slice x (some 2) none)) tf))) :: led) := by
  unfold descOk at h
  simp only [Bool.and_eq_true, Bool.not_eq_true', decide_eq_true_eq, Bool.or_eq_true, List.all_eq_true] at h
  obtain ⟨⟨⟨⟨⟨⟨⟨⟨h1, h2⟩, h3⟩, h4⟩, h5⟩, h6⟩, h7⟩, h8⟩, h9⟩ := h
  refine c_read_syntax h1 h2 h3 h4 h5 ?_ h7 h8 h9
  rcases h6 with (q | q) | q
  · exact .inl q
  · exact .inr (.inl q)
  · refine .inr (.inr ⟨q.1.1, q.1.2, ?_⟩)
    have h := q.2
    generalize Txt.item x 1 = y at h
    obtain ⟨cps⟩ := y
    obtain ⟨l⟩ := cps
    match l, h with
    | [a], _ => exact ⟨a, rfl⟩
theorem c_modify_all {tb r : Addr} {p : Value} {kvs : List (Int × Value)} {M : Rows_} {x d : Str} {t u : Tok} (h1 : (tb, SO.inst 225 (tabF p (.ref r))) ∈ led) (hd_ : descOk d = true) (hx : x.cps.all (· < 128) = true) (hz : kvs.length + x.cps.size ≤ 2000) (hT : TabR led kvs M) :
    Calls P w (hd.heap_39 w.params) 5 187 [.ref tb, .str x t, .str d u] ((r, .dct kvs) :: led) (fun v led' => ∃ kvs' e, v = .none ∧ led' = (r, .dct kvs') :: e :: led ∧ TabR (e :: led) kvs' (modF M x d) ∧ kvs'.length ≤ kvs.length + x.cps.size) := by
  refine calls_intro (n := 4) (def_mk (by k_is) (by k_is) (by k_is) (by exact rfl) (by exact rfl) (by exact rfl) (by decide)) [("self", .ref tb), ("text", .str x t), ("description", .str d u)] ["syntax", "sign"] (by intro s X9; first | exact BindsTo.of_eq rfl | exact binds_K X9 rfl (by k_is) rfl rfl rfl) (ns := ["self", "text", "description", "syntax", "sign"]) (by kernel_rfl) (by exact rfl) ?_
  intro c hc hs hr
  have hg : Globs c ["read_syntax", "ord"] := globs_of (by rw [hs]; kernel_rfl)
  clear hs
  refine' ev_lit ?e0 ?_
  case e0 => conv => lhs; whnf
  dsimp only [fv0, List.map, List.cons_append, List.nil_append]
  repeat' kby_none
  refine ev_callG hc hr (by decide) (c_rs hd_) ?_
  rintro v L ⟨o, mt, tk, tf, rfl, rfl⟩
  refine EV.swap ?_
  repeat' kby_none
  refine ev_forS hc (I := fun i fv L => ∃ sg, fv = ([("self", some (.ref tb)), ("text", some (.str x t)), ("description", some (.str d u)), ("syntax", some (.ref o)), ("sign", sg)] : FV) ∧ L = (r, .dct (storeL kvs (x.cps.toList.take i) (.ref o))) :: (o, .inst 144 (synF (.str (Txt.item d 0) tk) mt (.str (sortF (Txt.slice d (some 2) none)) tf))) :: led) ?_
  repeat' kby_none
  refine ⟨_, _, rfl, hx, ⟨_, rfl, rfl⟩, ?_, ?_⟩
  · rintro i it ch fv L hch ⟨sg, rfl, rfl⟩ u
    have hl := storeL_len (.ref o) (x.cps.toList.take i) kvs
    have hl2 : (x.cps.toList.take i).length ≤ x.cps.size := Nat.le_trans (List.length_take_le' _ _) (by simp)
    have hs : (storeL kvs (x.cps.toList.take i) (.ref o)).length ≤ sizeLine := Nat.le_trans (m := 2000) (by omega) (by decide)
    repeat' kby_none
    refine ⟨_, rfl, _, rfl, ?_⟩
    rw [take_one (by rw [Array.getElem?_toList]; exact hch), storeL_app]
  · rintro fv L ⟨sg, rfl, rfl⟩
    repeat' kby_none
    refine ⟨_, _, rfl, rfl, ?_, ?_⟩
    · rw [List.take_of_length_le (by simp)]
      exact hT.mod
    · rw [List.take_of_length_le (by simp)]
      have := storeL_len (.ref o) x.cps.toList kvs
      rw [Array.length_toList] at this
      exact this
end
end
section
section
variable {w : World} {led : Led}
theorem c_ST_init {x : Addr} {pv : Value} : Calls P w (hd.heap_39 w.params) 1 173 [.ref x, pv] ((x, .inst 225 []) :: led) (fun r led' => r = .none ∧ ∃ d, led' = (d, .dct []) :: (x, .inst 225 (tabF pv (.ref d))) :: led) := by
  refine Calls.subp ?_
  refine calls_intro (n := 0) (def_mk (by k_is) (by k_is) (by k_is) (by exact rfl) (by exact rfl) (by exact rfl) (by decide)) [("self", .ref x), ("parent", pv)] [] (by intro s X9; first | exact BindsTo.of_eq rfl | exact binds_K X9 rfl (by k_is) rfl rfl rfl) (ns := ["self", "parent"]) (by kernel_rfl) (by exact rfl) ?_
  intro c hc hs hr
  clear hs
  refine' ev_lit ?e0 ?_
  case e0 => conv => lhs; whnf
  dsimp only [fv0, List.map, List.cons_append, List.nil_append]
  repeat' kby_none
  exact ⟨_, _, .refl _, List.Perm.refl _, rfl, _, rfl⟩
theorem c_ST_init0 {x : Addr} : Calls P w (hd.heap_39 w.params) 1 173 [.ref x] ((x, .inst 225 []) :: led) (fun r led' => r = .none ∧ ∃ d, led' = (d, .dct []) :: (x, .inst 225 (tabF .none (.ref d))) :: led) := by
  refine Calls.subp ?_
  refine calls_intro (n := 0) (def_mk (by k_is) (by k_is) (by k_is) (by exact rfl) (by exact rfl) (by exact rfl) (by decide)) [("self", .ref x), ("parent", .none)] [] (by intro s X9; first | exact BindsTo.of_eq rfl | exact binds_K X9 rfl (by k_is) rfl rfl rfl) (ns := ["self", "parent"]) (by kernel_rfl) (by exact rfl) ?_
  intro c hc hs hr
  clear hs
  refine' ev_lit ?e0 ?_
  case e0 => conv => lhs; whnf
  dsimp only [fv0, List.map, List.cons_append, List.nil_append]
  repeat' kby_none
  exact ⟨_, _, .refl _, List.Perm.refl _, rfl, _, rfl⟩
section
variable {c : Cx P w (hd.heap_39 w.params)} {fv : FV} {n : Nat} {Q : Value → FV → Led → Prop}
theorem mk_ST {pv : Value} (hc : c.Ok) (hr : Room c.A n) (hk : 2 ≤ n) (h : ∀ x d, Q (.ref x) fv ((d, .dct []) :: (x, .inst 225 (tabF pv (.ref d))) :: led)) : EV c (call (.ref 225) [pv]) Q fv led :=
  ev_make (post := fun x led' => ∃ d, led' = (d, .dct []) :: (x, .inst 225 (tabF pv (.ref d))) :: led) hc (hr.le hk) (MK_SyntaxTable _).1 (MK_SyntaxTable _).2.1 (MK_SyntaxTable _).2.2 (fun _ => c_ST_init) fun x led' ⟨d, e⟩ => by rw [e]; exact h x d
theorem mk_ST0 (hc : c.Ok) (hr : Room c.A n) (hk : 2 ≤ n) (h : ∀ x d, Q (.ref x) fv ((d, .dct []) :: (x, .inst 225 (tabF .none (.ref d))) :: led)) : EV c (call (.ref 225) []) Q fv led :=
  ev_make (post := fun x led' => ∃ d, led' = (d, .dct []) :: (x, .inst 225 (tabF .none (.ref d))) :: led) hc (hr.le hk) (MK_SyntaxTable _).1 (MK_SyntaxTable _).2.1 (MK_SyntaxTable _).2.2 (fun _ => c_ST_init0) fun x led' ⟨d, e⟩ => by rw [e]; exact h x d
theorem ev_mod {tb r : Addr} {p : Value} {kvs : List (Int × Value)} {M : Rows_} {N : Nat} {x d : Str} {t u : Tok} (hc : c.Ok) (hr : Room c.A n) (hk : 5 ≤ n) (h1 : (tb, SO.inst 225 (tabF p (.ref r))) ∈ led) (hd_ : descOk d = true) (hx : x.cps.all (· < 128) = true) (hN : kvs.length ≤ N) (hz : N + x.cps.size ≤ 2000) (hT : TabR led kvs M)
    (h : ∀ kvs' e, TabR (e :: led) kvs' (modF M x d) → kvs'.length ≤ N + x.cps.size → Q .none fv ((r, .dct kvs') :: e :: led)) : EV c (call (.ref 187) [.ref tb, .str x t, .str d u]) Q fv ((r, .dct kvs) :: led) :=
  ev_callG hc hr hk (c_modify_all h1 hd_ hx (by omega) hT) fun r led' q => by
    obtain ⟨kvs', e, rfl, rfl, h2, h3⟩ := q
    exact h kvs' e h2 (by omega)
end
theorem c_letters : Calls P w (hd.heap_39 w.params) 1 236 [] led (fun r led' => (∃ t, r = .str "abcdefghijklmnopqrstuvwxyzABCDEFGHIJKLMNOPQRSTUVWXYZ0123456789" t) ∧ led' = led) := by
  refine calls_intro (n := 0) (def_mk (by k_is) (by k_is) (by k_is) (by exact rfl) (by exact rfl) (by exact rfl) (by decide)) [] [] (by intro s X9; first | exact BindsTo.of_eq rfl | exact binds_K X9 rfl (by k_is) rfl rfl rfl) (ns := []) (by kernel_rfl) (by exact rfl) ?_
  intro c hc hs hr
  clear hs
  refine' ev_lit ?e0 ?_
  case e0 => conv => lhs; whnf
  dsimp only [fv0, List.map, List.cons_append, List.nil_append]
  repeat' kby_none
  exact ⟨⟨_, rfl⟩, rfl⟩
end
end
section
local macro_rules | `(tactic| k_meth) => `(tactic| subst (ev_callS c_letters "!") (mk_ST0 "aad_!!") (mk_ST "aad_!!"))
local macro_rules | `(tactic| k_meth) => `(tactic| ((with_reducible refine' ev_mod ?q1 ?q2 ?q3 ?q4 ?q5 ?q6 ?q7 ?q8 ?q9 ?_); (case q1 => assumption); (case q2 => assumption); (case q3 => decide); (case q4 => k_same); (case q9 => with_reducible assumption); (case q7 => with_reducible assumption); (case q5 => decide +kernel); (case q6 => decide +kernel); (case q8 => decide +kernel); intro _ _ _ _))
def prs : List (Str × Str) := [("(", ")"), ("[", "]"), ("{", "}")]
def M4 : Rows_ := modF (modF (modF (modF (fun _ => none) ("abcdefghijklmnopqrstuvwxyzABCDEFGHIJKLMNOPQRSTUVWXYZ0123456789" ++ "$%") "w") " \t\n\r\x0c" " ") "_-+*/&|<>=" "_") ".,;:?!#@~^'`" "."
def Mst : Nat → Rows_
  | 0 => M4
  | n + 1 => modF (modF (Mst n) (prs.getD n ("", "")).1 ("(" ++ (prs.getD n ("", "")).2)) (prs.getD n ("", "")).2 (")" ++ (prs.getD n ("", "")).1)
def Mstd : Rows_ := modF (modF (Mst 3) "\"" "\"") "\\" "\\"
def Msl : Rows_ := modF (modF (modF (modF (modF (modF (fun _ => none) "+-=%<>&|.,;:?!~^#@" ".") "/" ". 124b") "*" ". 23") "\n" "> b") "'" "\"") "_" "_"
theorem TabR.mono' {led led' : Led} {kvs : List (Int × Value)} {M : Rows_} (h : TabR led kvs M) (hs : ∀ s f, (s, SO.inst 144 f) ∈ led → (s, SO.inst 144 f) ∈ led') : TabR led' kvs M := fun c => by
  rcases h c with q | ⟨k, f, s, tk, mt, tf, h1, h2, h3⟩
  · exact .inl q
  · exact .inr ⟨k, f, s, tk, mt, tf, h1, h2, hs _ _ h3⟩
section
variable {w : World} {led : Led}
theorem TabR.nil {led : Led} : TabR led [] (fun _ => none) := fun _ => .inl ⟨rfl, rfl⟩
theorem TabR.skip {e1 e2 : Addr × SO} {it : Addr} {vs : List Value} {cls : String} {R : Led} {kvs : List (Int × Value)} {M : Rows_} (h : TabR (e1 :: e2 :: (it, .obj cls vs) :: R) kvs M) : TabR (e1 :: e2 :: R) kvs M := h.mono' fun s f h => by
  simp only [List.mem_cons] at h ⊢
  rcases h with h | h | h | h
  · exact .inl h
  · exact .inr (.inl h)
  · cases h
  · exact .inr (.inr h)
theorem c_standard : Calls P w (hd.heap_39 w.params) 8 243 [] led (fun r led' => ∃ tb d kvs E, r = .ref tb ∧ led' = (d, .dct kvs) :: (E ++ (tb, .inst 225 (tabF .none (.ref d))) :: led) ∧ TabR (E ++ (tb, .inst 225 (tabF .none (.ref d))) :: led) kvs Mstd) := by
  refine calls_intro (n := 7) (def_mk (by k_is) (by k_is) (by k_is) (by exact rfl) (by exact rfl) (by exact rfl) (by decide)) [] ["table", "opens", "closes"] (by intro s X9; first | exact BindsTo.of_eq rfl | exact binds_K X9 rfl (by k_is) rfl rfl rfl) (ns := ["table", "opens", "closes"]) (by kernel_rfl) (by exact rfl) ?_
  intro c hc hs hr
  have hg : Globs c ["SyntaxTable", "letters"] := globs_of (by rw [hs]; kernel_rfl)
  clear hs
  refine' ev_lit ?e0 ?_
  case e0 => conv => lhs; whnf
  dsimp only [fv0, List.map, List.cons_append, List.nil_append]
  iterate 12 kby_none
  rename_i tb d
  have hN : ([] : List (Int × Value)).length ≤ 0 := Nat.le_refl _
  have hT : TabR ((tb, .inst 225 (tabF .none (.ref d))) :: led) [] (fun _ => none) := TabR.nil
  repeat' kby_none
  clear hN hT
  rename_i _ _ k1 e1 _ _ _ _ k2 e2 _ _ _ _ k3 e3 _ _ _ _ k4 e4 hT0 hN0
  have hT : TabR (e4 :: e3 :: e2 :: e1 :: (tb, .inst 225 (tabF .none (.ref d))) :: led) k4 (Mst 0) := hT0
  have hN : k4.length ≤ 300 := Nat.le_trans hN0 (by decide +kernel)
  clear hT0 hN0
  refine ev_forTI hc ?_
  repeat' kby_none
  rename_i u1 u2 t1 u3 u4 t2 u5 u6 t3 lo
  have hb : ∃ base : Led, base = (lo, .tup [.ref t1, .ref t2, .ref t3]) :: (t3, .tup [.str "{" u5, .str "}" u6]) :: (t2, .tup [.str "[" u3, .str "]" u4]) :: (t1, .tup [.str "(" u1, .str ")" u2]) :: e4 :: e3 :: e2 :: e1 :: (tb, .inst 225 (tabF .none (.ref d))) :: led := ⟨_, rfl⟩
  obtain ⟨base, hb⟩ := hb
  have b0 : (lo, SO.tup [.ref t1, .ref t2, .ref t3]) ∈ base := by rw [hb]; exact .head _
  have b3 : (t3, SO.tup [.str "{" u5, .str "}" u6]) ∈ base := by rw [hb]; exact .tail _ (.head _)
  have b2 : (t2, SO.tup [.str "[" u3, .str "]" u4]) ∈ base := by rw [hb]; exact .tail _ (.tail _ (.head _))
  have b1 : (t1, SO.tup [.str "(" u1, .str ")" u2]) ∈ base := by rw [hb]; exact .tail _ (.tail _ (.tail _ (.head _)))
  have b9 : (tb, SO.inst 225 (tabF .none (.ref d))) ∈ base := by rw [hb]; simp
  have hTb : TabR base k4 (Mst 0) := hT.mono fun e he => by rw [hb]; exact .tail _ (.tail _ (.tail _ (.tail _ he)))
  have hp0 : List.Perm ((lo, SO.tup [.ref t1, .ref t2, .ref t3]) :: (t3, .tup [.str "{" u5, .str "}" u6]) :: (t2, .tup [.str "[" u3, .str "]" u4]) :: (t1, .tup [.str "(" u1, .str ")" u2]) :: (d, .dct k4) :: e4 :: e3 :: e2 :: e1 :: (tb, .inst 225 (tabF .none (.ref d))) :: led) ((d, .dct k4) :: base) := by
    rw [hb]; exact List.perm_middle (l₁ := [_, _, _, _])
  refine ⟨lo, [.ref t1, .ref t2, .ref t3], fun i fv L => ∃ kvs E op cl, fv = ([("table", some (.ref tb)), ("opens", op), ("closes", cl)] : FV) ∧ List.Perm L ((d, .dct kvs) :: (E ++ base)) ∧ TabR (E ++ base) kvs (Mst i) ∧ kvs.length ≤ 300 + 2 * i, rfl, in_head, ⟨k4, [], none, none, rfl, hp0, hTb, hN⟩, ?_, ?_, ?_⟩
  · rintro i fv L ⟨kvs, E, op, cl, _, hp, _, _⟩
    exact hp.mem_iff.mpr (.tail _ (List.mem_append_right _ b0))
  · rintro i it x fv L hx ⟨kvs, E, op, cl, rfl, hp, hT, hN⟩
    have c1 := List.mem_append_right E b1
    have c2 := List.mem_append_right E b2
    have c3 := List.mem_append_right E b3
    have c9 := List.mem_append_right E b9
    refine EV.perm (List.Perm.cons _ hp) (EV.swap ?_)
    have hT2 : TabR ((it, itT lo (i + 1)) :: (E ++ base)) kvs (Mst i) := hT.mono fun e he => .tail _ he
    clear hT
    rcases i with _ | _ | _ | i
    · cases hx
      iterate 4 kby_none
      refine EV.post ?_
      repeat' kby_none
      rename_i k1 e1 _ _ _ _ k2 e2 g1 g2
      exact ⟨_, _, .refl _, (List.perm_middle (l₁ := [_, _, _])), _, rfl, k2, e2 :: e1 :: E, _, _, rfl, .refl _, TabR.skip g1, Nat.le_trans g2 (by decide +kernel)⟩
    · cases hx
      iterate 4 kby_none
      refine EV.post ?_
      repeat' kby_none
      rename_i k1 e1 _ _ _ _ k2 e2 g1 g2
      exact ⟨_, _, .refl _, (List.perm_middle (l₁ := [_, _, _])), _, rfl, k2, e2 :: e1 :: E, _, _, rfl, .refl _, TabR.skip g1, Nat.le_trans g2 (by decide +kernel)⟩
    · cases hx
      iterate 4 kby_none
      refine EV.post ?_
      repeat' kby_none
      rename_i k1 e1 _ _ _ _ k2 e2 g1 g2
      exact ⟨_, _, .refl _, (List.perm_middle (l₁ := [_, _, _])), _, rfl, k2, e2 :: e1 :: E, _, _, rfl, .refl _, TabR.skip g1, Nat.le_trans g2 (by decide +kernel)⟩
    · simp at hx
  · rintro fv L ⟨kvs, E, op, cl, rfl, hp, hT, hN⟩
    have c9 := List.mem_append_right E b9
    have hN2 : kvs.length ≤ 306 := hN
    have hT2 : TabR (E ++ base) kvs (Mst 3) := hT
    clear hN hT
    refine EV.perm hp ?_
    repeat' kby_none
    rename_i k1 e1 _ _ _ _ k2 e2 g1 g2
    have hB8 : ∃ B8 : Led, base = B8 ++ (tb, .inst 225 (tabF .none (.ref d))) :: led := ⟨[_, _, _, _, _, _, _, _], hb⟩
    obtain ⟨B8, hB8⟩ := hB8
    rw [hB8] at g1 ⊢
    exact ⟨tb, d, k2, e2 :: e1 :: (E ++ B8), rfl, by rw [List.cons_append, List.cons_append, List.append_assoc], by rw [List.cons_append, List.cons_append, List.append_assoc]; exact g1⟩
theorem M_all : ∀ c ∈ alpha, Msl c = some (kdOf c, flOf c) ∨ (Msl c = none ∧ Mstd c = some (kdOf c, flOf c)) := by
  have h : alpha.all (fun c => (Msl c == some (kdOf c, flOf c)) || ((Msl c).isNone && Mstd c == some (kdOf c, flOf c))) = true := by decide +kernel
  intro c hc
  have := alpha_all h hc
  simp only [Bool.or_eq_true, Bool.and_eq_true, beq_iff_eq, Option.isNone_iff_eq_none] at this
  exact this
theorem c_slash : Calls P w (hd.heap_39 w.params) 9 250 [] led (fun r led' => ∃ t E, r = .ref t ∧ led' = E ++ led ∧ IsTab (E ++ led) t) := by
  refine calls_intro (n := 8) (def_mk (by k_is) (by k_is) (by k_is) (by exact rfl) (by exact rfl) (by exact rfl) (by decide)) [] ["table"] (by intro s X9; first | exact BindsTo.of_eq rfl | exact binds_K X9 rfl (by k_is) rfl rfl rfl) (ns := ["table"]) (by kernel_rfl) (by exact rfl) ?_
  intro c hc hs hr
  have hg : Globs c ["SyntaxTable", "standard_table"] := globs_of (by rw [hs]; kernel_rfl)
  clear hs
  refine' ev_lit ?e0 ?_
  case e0 => conv => lhs; whnf
  dsimp only [fv0, List.map, List.cons_append, List.nil_append]
  repeat' kby_none
  refine ev_callG hc hr (by decide) c_standard ?_
  rintro r L ⟨tb, d, kvs, E, rfl, rfl, hT0⟩
  iterate 3 kby_none
  rename_i tb2 d2
  have hN : ([] : List (Int × Value)).length ≤ 0 := Nat.le_refl _
  have hT : TabR ((tb2, .inst 225 (tabF (.ref tb) (.ref d2))) :: (d, .dct kvs) :: (E ++ (tb, .inst 225 (tabF .none (.ref d))) :: led)) [] (fun _ => none) := TabR.nil
  repeat' kby_none
  clear hT hN
  rename_i _ _ k1 e1 _ _ _ _ k2 e2 _ _ _ _ k3 e3 _ _ _ _ k4 e4 _ _ _ _ k5 e5 _ _ _ _ k6 e6 g1 g2
  have g : TabR (e6 :: e5 :: e4 :: e3 :: e2 :: e1 :: (tb2, .inst 225 (tabF (.ref tb) (.ref d2))) :: (d, .dct kvs) :: (E ++ (tb, .inst 225 (tabF .none (.ref d))) :: led)) k6 Msl := g1
  have hbig : (d2, SO.dct k6) :: e6 :: e5 :: e4 :: e3 :: e2 :: e1 :: (tb2, .inst 225 (tabF (.ref tb) (.ref d2))) :: (d, .dct kvs) :: (E ++ (tb, .inst 225 (tabF .none (.ref d))) :: led) =
    ((d2, SO.dct k6) :: e6 :: e5 :: e4 :: e3 :: e2 :: e1 :: (tb2, .inst 225 (tabF (.ref tb) (.ref d2))) :: (d, .dct kvs) :: (E ++ [(tb, .inst 225 (tabF .none (.ref d)))])) ++ led := by simp
  refine ⟨tb2, _, rfl, hbig, ?_⟩
  rw [← hbig]
  refine ⟨tb, d2, d, k6, kvs, by simp, by simp, by simp, by simp, fun c hc => ?_⟩
  rcases M_all c hc with hm | ⟨hm0, hm⟩
  · rcases g c with ⟨q, _⟩ | ⟨k, f, s, tk, mt, tf, q1, q2, q3⟩
    · rw [hm] at q; cases q
    · rw [hm] at q1; cases q1
      exact ⟨s, ⟨tk, mt, tf, .tail _ q3⟩, .inl q2⟩
  · rcases g c with ⟨_, q⟩ | ⟨k, f, s, tk, mt, tf, q1, q2, q3⟩
    · rcases hT0 c with ⟨q', _⟩ | ⟨k, f, s, tk, mt, tf, q1, q2, q3⟩
      · rw [hm] at q'; cases q'
      · rw [hm] at q1; cases q1
        refine ⟨s, ⟨tk, mt, tf, ?_⟩, .inr ⟨q, q2⟩⟩
        exact .tail _ (.tail _ (.tail _ (.tail _ (.tail _ (.tail _ (.tail _ (.tail _ (.tail _ q3))))))))
    · rw [hm0] at q1; cases q1
end
end
section
def Ints (vs : List Value) : Prop := ∀ v ∈ vs, ∃ i t, v = Value.int i t
def datI : Value → PyData
  | .int i _ => .int i
  | _ => .none
theorem reads_ints {h : Heap} : ∀ {vs : List Value}, Ints vs → ReadsAll h vs (vs.map datI) []
  | [], _ => .nil
  | v :: r, H => by
    obtain ⟨i, t, rfl⟩ := H v (.head _)
    exact .cons (as := []) (.int i t) (reads_ints fun v hv => H v (.tail _ hv))
theorem lay_ints : ∀ {vs : List Value}, PyData.canLayAll0 (vs.map datI) = true ∧ PyData.depthAll (vs.map datI) ≤ 1
  | [] => ⟨rfl, Nat.zero_le _⟩
  | v :: r => by
    obtain ⟨a, b⟩ := @lay_ints r
    rw [List.map_cons]
    simp only [PyData.canLayAll0, PyData.depthAll]
    cases v <;> simp [datI, PyData.canLay0, PyData.depth, a] <;> omega
theorem shaped_ints {vs : List Value} : SeqAt.shaped (.list (vs.map datI)) = true := by
  unfold SeqAt.shaped
  have := @lay_ints vs
  rw [PyData.canLay0, PyData.depth, this.1, Bool.true_and]
  exact decide_eq_true (by omega)
theorem Ints.tail {v : Value} {vs : List Value} (h : Ints (v :: vs)) : Ints vs := fun x hx => h x (.tail _ hx)
theorem Ints.cons {i : Int} {t : Tok} {vs : List Value} (h : Ints vs) : Ints (.int i t :: vs) := fun x hx => by
  rcases List.mem_cons.mp hx with rfl | hx
  · exact ⟨i, t, rfl⟩
  · exact h x hx
abbrev DeckL (dk d0 : Addr) (vals : List Value) (S k : Int) (ts tk : Tok) (led : Led) : Led := (dk, .lst [.ref d0, .int S ts, .int k tk]) :: (d0, .lst vals) :: led
inductive Deck (dk d0 : Addr) (B : Int) (led L : Led) : Prop
  | mk (vals : List Value) (S k : Int) (ts tk : Tok) : L = DeckL dk d0 vals S k ts tk led → Ints vals → vals.length ≤ 100 → 0 ≤ k → k ≤ B → Deck dk d0 B led L
section
variable {prog : Program} {w : World} {K : Frag} {c : Cx prog w K} {fv : FV} {led : Led} {Q : Value → FV → Led → Prop} {a b : Addr} {n : Nat}
theorem cmp_ne_e (hr : Room c.A n) (h1 : (a, SO.lst []) ∈ led) (h2 : (b, SO.lst []) ∈ led) (h : Q (.bool false) fv led) : EV c (compareOp .NotEq (.ref a) (.ref b)) Q fv led :=
  cmp_neD (dx := .list []) (dy := .list []) hr (Rd.lst h1 fun _ => .nil) (Rd.lst h2 fun _ => .nil) rfl rfl rfl h
theorem cmp_ne_c {v : Value} {vs : List Value} (hI : Ints (v :: vs)) (hr : Room c.A n) (h1 : (a, SO.lst (v :: vs)) ∈ led) (h2 : (b, SO.lst []) ∈ led) (h : Q (.bool true) fv led) : EV c (compareOp .NotEq (.ref a) (.ref b)) Q fv led :=
  cmp_neD (dx := .list ((v :: vs).map datI)) (dy := .list []) hr (Rd.lst h1 fun _ => reads_ints hI) (Rd.lst h2 fun _ => .nil) shaped_ints rfl rfl h
end
section
variable {w : World} {led L : Led} {dk d0 : Addr}
theorem c_draw {B m : Int} {tm : Tok} (hW : Deck dk d0 B led L) (hB : B ≤ 100000) (hm : 0 < m) (hm2 : m < 1000000) :
    Calls P w (hd.heap_39 w.params) 1 572 [.ref dk, .int m tm] L (fun r led' => ∃ v tv, r = .int v tv ∧ 0 ≤ v ∧ v < m ∧ Deck dk d0 (B + 1) led led') := by
  obtain ⟨vals, S, k, ts, tk, rfl, hI, hl, hk0, hk1⟩ := hW
  refine Calls.trim ?_
  rcases vals with _ | ⟨v0, vals⟩
  · refine calls_intro (n := 0) (def_mk (by k_is) (by k_is) (by k_is) (by exact rfl) (by exact rfl) (by exact rfl) (by decide)) [("deck", .ref dk), ("many", .int m tm)] ["rest", "mixed"] (by intro s X9; first | exact BindsTo.of_eq rfl | exact binds_K X9 rfl (by k_is) rfl rfl rfl) (ns := ["deck", "many", "rest", "mixed"]) (by kernel_rfl) (by exact rfl) ?_
    intro c hc hs hr
    clear hs
    refine' ev_lit ?e0 ?_
    case e0 => conv => lhs; whnf
    dsimp only [fv0, List.map, List.cons_append, List.nil_append]
    repeat' kby_none
    refine cmp_ne_e hr (in_tail (in_tail in_head)) in_head ?_
    repeat' kby_none
    exact ⟨[_], _, rfl, _, _, rfl, Int.fmod_nonneg_of_pos _ hm, Int.fmod_lt_of_pos _ hm, _, _, _, _, _, rfl, hI, hl, by omega, by omega⟩
  · obtain ⟨i, ti, rfl⟩ := hI v0 (.head _)
    have hz : vals.length + 1 ≤ sizeLine := Nat.le_trans hl (by decide)
    refine calls_intro (n := 0) (def_mk (by k_is) (by k_is) (by k_is) (by exact rfl) (by exact rfl) (by exact rfl) (by decide)) [("deck", .ref dk), ("many", .int m tm)] ["rest", "mixed"] (by intro s X9; first | exact BindsTo.of_eq rfl | exact binds_K X9 rfl (by k_is) rfl rfl rfl) (ns := ["deck", "many", "rest", "mixed"]) (by kernel_rfl) (by exact rfl) ?_
    intro c hc hs hr
    clear hs
    refine' ev_lit ?e0 ?_
    case e0 => conv => lhs; whnf
    dsimp only [fv0, List.map, List.cons_append, List.nil_append]
    repeat' kby_none
    refine cmp_ne_c hI hr (in_tail (in_tail in_head)) in_head ?_
    repeat' kby_none
    · exact ⟨[_], _, rfl, _, _, rfl, Int.fmod_nonneg_of_pos _ hm, Int.fmod_lt_of_pos _ hm, _, _, _, _, _, rfl, hI.tail, by rw [List.length_cons] at hl; omega, by omega, by omega⟩
    · exact ⟨[_], _, rfl, _, _, rfl, Int.fmod_nonneg_of_pos _ hm, Int.fmod_lt_of_pos _ hm, _, _, _, _, _, rfl, hI.tail.cons, hl, by omega, by omega⟩
end
end
section
abbrev Part := Nat × List Int
def codesOf (x : Str) : List Int := x.cps.toList.map fun (n : Nat) => (n : Int)
def coms : List (List Int) := (["/**/", "/*(*/", "/*a //*/", "/*\"*/", "/*/**/", "/** /*/", "//\n", "//a)\n", "///*\n", "//\"\n", "//*/\n", "////\n"] : List Str).map codesOf
def blks : List (List Int) := ([" ", "\n", "  ", "\n "] : List Str).map codesOf
def oths : List (List Int) := (["a", "\"/*\"", "b(", "\"//\""] : List Str).map codesOf
def PartOk (p : Part) : Prop := (p.1 = 0 ∧ p.2 ∈ coms) ∨ (p.1 = 1 ∧ p.2 ∈ blks) ∨ (p.1 = 2 ∧ p.2 ∈ oths)
def sortS : Nat → Str
  | 0 => "comment"
  | 1 => "blank"
  | _ => "other"
def textOf (ps : List Part) : List Int := ps.flatMap (·.2)
def piecesOf : List Part → Int → List (Nat × Int × Int)
  | [], _ => []
  | p :: r, f => (p.1, f, f + (p.2.length : Int)) :: piecesOf r (f + (p.2.length : Int))
theorem pieces_snoc (p : Part) : ∀ (ps : List Part) (f : Int), piecesOf (ps ++ [p]) f = piecesOf ps f ++ [(p.1, f + ((textOf ps).length : Int), f + ((textOf ps).length : Int) + (p.2.length : Int))]
  | [], f => by simp [piecesOf, textOf]
  | q :: r, f => by
    rw [List.cons_append]
    show _ :: piecesOf (r ++ [p]) _ = _ :: (piecesOf r _ ++ _)
    rw [pieces_snoc p r]
    have e : ((textOf (q :: r)).length : Int) = (q.2.length : Int) + ((textOf r).length : Int) := by
      show (((q.2 ++ textOf r).length : Nat) : Int) = _
      rw [List.length_append]; omega
    rw [e, Int.add_assoc f]
theorem text_snoc (p : Part) (ps : List Part) : textOf (ps ++ [p]) = textOf ps ++ p.2 := by simp [textOf]
inductive PcsAre (T : Led) : List Value → List (Nat × Int × Int) → Prop
  | nil : PcsAre T [] []
  | cons {a : Addr} {s : Nat} {f b : Int} {ts tf tb : Tok} {vs : List Value} {ps : List (Nat × Int × Int)} : (a, SO.tup [.str (sortS s) ts, .int f tf, .int b tb]) ∈ T → PcsAre T vs ps → PcsAre T (.ref a :: vs) ((s, f, b) :: ps)
theorem PcsAre.mono {T T' : Led} (hs : ∀ e, e ∈ T → e ∈ T') : ∀ {vs ps}, PcsAre T vs ps → PcsAre T' vs ps
  | _, _, .nil => .nil
  | _, _, .cons h r => .cons (hs _ h) (r.mono hs)
theorem PcsAre.snoc {T : Led} {a : Addr} {s : Nat} {f b : Int} {ts tf tb : Tok} : ∀ {vs ps}, PcsAre T vs ps → (a, SO.tup [.str (sortS s) ts, .int f tf, .int b tb]) ∈ T → PcsAre T (vs ++ [.ref a]) (ps ++ [(s, f, b)])
  | _, _, .nil, h => .cons h .nil
  | _, _, .cons h r, h' => .cons h (r.snoc h')
theorem PcsAre.length {T : Led} : ∀ {vs ps}, PcsAre T vs ps → vs.length = ps.length
  | _, _, .nil => rfl
  | _, _, .cons _ r => by rw [List.length_cons, List.length_cons, r.length]
def okText (wv : Int) (x : Str) : Prop := (wv < 4 ∧ codesOf x ∈ coms) ∨ (4 ≤ wv ∧ wv < 6 ∧ codesOf x ∈ blks) ∨ (6 ≤ wv ∧ ∃ y ∈ oths, codesOf x = y ++ [32])
theorem ok_facts {wv : Int} {x : Str} (h : okText wv x) : x.cps.all (· < 128) = true ∧ 1 ≤ x.cps.size ∧ x.cps.size ≤ 9 := by
  have key : (codesOf x).all (fun c => decide (c < 128)) = true ∧ 1 ≤ (codesOf x).length ∧ (codesOf x).length ≤ 9 := by
    have l : ∀ l : List (List Int), l.all (fun y => y.all (fun c => decide (c < 128)) && decide (1 ≤ y.length) && decide (y.length ≤ 8)) = true → ∀ y ∈ l, y.all (fun c => decide (c < 128)) = true ∧ 1 ≤ y.length ∧ y.length ≤ 8 := fun l hl y hy => by
      have := List.all_eq_true.mp hl y hy
      simp only [Bool.and_eq_true, decide_eq_true_eq] at this
      exact ⟨this.1.1, this.1.2, this.2⟩
    rcases h with ⟨_, h⟩ | ⟨_, _, h⟩ | ⟨_, y, hy, h⟩
    · obtain ⟨a, b, c⟩ := l coms (by decide +kernel) _ h
      exact ⟨a, b, by omega⟩
    · obtain ⟨a, b, c⟩ := l blks (by decide +kernel) _ h
      exact ⟨a, b, by omega⟩
    · obtain ⟨a, b, c⟩ := l oths (by decide +kernel) _ hy
      rw [h, List.all_append, a, List.length_append]
      exact ⟨rfl, by omega, by show y.length + 1 ≤ 9; omega⟩
  obtain ⟨k1, k2, k3⟩ := key
  unfold codesOf at k1 k2 k3
  rw [List.length_map, Array.length_toList] at k2 k3
  refine ⟨?_, k2, k3⟩
  rw [List.all_map, List.all_eq_true] at k1
  rw [Array.all_eq_true']
  intro n hn
  have := k1 n (Array.mem_toList_iff.mpr hn)
  simp only [Function.comp, decide_eq_true_eq] at this
  exact decide_eq_true (by omega)
theorem ords_of : ∀ {vs ys : List Value} {l : List Nat}, Paired (fun v y => ∃ c u t, v = Value.str ⟨#[c]⟩ u ∧ y = Value.int (c : Nat) t) vs ys → vs.map strOf = l.map (fun c => (⟨#[c]⟩ : Str)) → IntsAre ys (l.map fun (n : Nat) => (n : Int))
  | _, _, [], .nil, _ => .nil
  | _, _, c :: l, .cons ⟨c', u, t, h1, h2⟩ r, h => by
    subst h1
    subst h2
    rw [List.map_cons, List.map_cons] at h
    obtain ⟨h3, h4⟩ := List.cons.inj h
    have e : c' = c := by
      have : (⟨#[c']⟩ : Str) = ⟨#[c]⟩ := h3
      simpa using this
    subst e
    exact .cons _ _ (ords_of r h4)
  | _, _, _ :: _, .nil, h => by cases h
  | _, _, [], .cons _ _, h => by cases h
theorem EV.neq {prog : Program} {w : World} {K : Frag} {α : Type} {c : Cx prog w K} {t : Sem α} {Q : α → FV → Led → Prop} {fv : FV} {led : Led} {a b : Addr} {s1 s2 : SO} (hb : (b, s2) ∈ led) (e : a ≠ b → EV c t Q fv ((a, s1) :: led)) : EV c t Q fv ((a, s1) :: led) :=
  .mk fun s S => by
    have hd1 : ∀ (a : Addr) (so : SO) (raw : Raw), Rl prog w a so raw → a ∈ raw.map (·.1) := by
      intro a so raw h
      cases so with
      | inst C fs => obtain ⟨d, es, n, rfl, _⟩ := h; exact .head _
      | lst vs => obtain ⟨n, rfl⟩ := h; exact .head _
      | tup vs => obtain ⟨n, rfl⟩ := h; exact .head _
      | dct kvs => obtain ⟨o, rfl, _⟩ := h; exact .head _
      | obj cls vs => obtain ⟨o, rfl, _⟩ := h; exact .head _
      | raw o => have h : raw = [(a, o)] := h; rw [h]; exact .head _
    refine (e fun q => ?_).run s S
    subst q
    obtain ⟨raw, ⟨r1, r2, rfl, x1, x2⟩, nd, N⟩ := S.O
    obtain ⟨P, Q', rfl⟩ := List.append_of_mem hb
    obtain ⟨r3, r4, rfl, _, r5, r6, rfl, x5, _⟩ := Rls.append.mp x2
    rw [List.map_append] at nd
    refine (List.nodup_append.mp nd).2.2 _ (hd1 _ _ _ x1) _ ?_ rfl
    rw [List.map_append, List.map_append]
    exact List.mem_append_right _ (List.mem_append_left _ (hd1 _ _ _ x5))
end
section
inductive Bd (dk d0 cl pl : Addr) (B : Int) (ps : List Part) (T L : Led) : Prop
  | mk (vals : List Value) (S k : Int) (ts tk : Tok) (cv pv : List Value) : L = DeckL dk d0 vals S k ts tk ((cl, .lst cv) :: (pl, .lst pv) :: T) → Ints vals → vals.length ≤ 100 → 0 ≤ k → k ≤ B →
    IntsAre cv (textOf ps) → PcsAre T pv (piecesOf ps 1) → (∀ p ∈ ps, PartOk p) → Bd dk d0 cl pl B ps T L
theorem EV.rot {prog : Program} {w : World} {K : Frag} {α : Type} {c : Cx prog w K} {t : Sem α} {Q : α → FV → Led → Prop} {fv : FV} {led : Led} {x y z : Addr × SO} (e : EV c t Q fv (y :: z :: x :: led)) : EV c t Q fv (x :: y :: z :: led) := .perm (List.perm_append_comm_assoc [x] [y, z] led) e
theorem perm5 {a w x y z : Addr × SO} {T : Led} : (a :: w :: x :: y :: z :: T).Perm (w :: x :: y :: z :: a :: T) := List.perm_append_comm_assoc [a] [w, x, y, z] T
theorem perm6 {a b w x y z : Addr × SO} {T : Led} : (a :: b :: w :: x :: y :: z :: T).Perm (w :: x :: y :: z :: a :: b :: T) := List.perm_append_comm_assoc [a, b] [w, x, y, z] T
inductive MidP (dk d0 cl pl : Addr) (B wv f : Int) (tw tf : Tok) (cv pv : List Value) (T : Led) (fl : Flow) (fv : FV) (L : Led) : Prop
  | mk (_ : fl = .next) (x : Str) (tx : Tok) (vals : List Value) (S k : Int) (ts tk : Tok) : fv = ([("deck", some (.ref dk)), ("codes_so_far", some (.ref cl)), ("pieces", some (.ref pl)), ("way", some (.int wv tw)), ("first", some (.int f tf)), ("text", some (.str x tx)), ("sort", none)] : FV) →
    L = DeckL dk d0 vals S k ts tk ((cl, .lst cv) :: (pl, .lst pv) :: T) → Ints vals → vals.length ≤ 100 → 0 ≤ k → k ≤ B → okText wv x → MidP dk d0 cl pl B wv f tw tf cv pv T fl fv L
section
variable {w : World} {T L : Led} {dk d0 cl pl : Addr} {B : Int} {ps : List Part}
theorem c_part (hW : Bd dk d0 cl pl B ps T L) (hB : B ≤ 1000) (hz : (textOf ps).length ≤ 500) (hz2 : ps.length ≤ 500) :
    Calls P w (hd.heap_39 w.params) 3 582 [.ref dk, .ref cl, .ref pl] L (fun r led' => r = .none ∧ ∃ qs T', Bd dk d0 cl pl (B + 2) (ps ++ qs) T' led' ∧ (∀ e, e ∈ T → e ∈ T') ∧ (textOf (ps ++ qs)).length ≤ (textOf ps).length + 9 ∧ qs.length ≤ 2 ∧ 1 ≤ qs.length) := by
  obtain ⟨vals, S, k, ts, tk, cv, pv, rfl, hI, hl, hk0, hk1, hC, hP, hok⟩ := hW
  have hC2 : (cv.length : Int) < 2 ^ 63 := by have := hC.length; omega
  have hpv : pv.length = (piecesOf ps 1).length := hP.length
  have hpl : ∀ (ps : List Part) (f : Int), (piecesOf ps f).length = ps.length := by
    intro ps
    induction ps with
    | nil => intro f; rfl
    | cons p r ih => intro f; show (piecesOf r _).length + 1 = _; rw [ih]; rfl
  rw [hpl] at hpv
  have hz3 : pv.length ≤ sizeLine := Nat.le_trans (m := 1000) (by omega) (by decide)
  have hz4 : pv.length + 1 ≤ sizeLine := Nat.le_trans (m := 1000) (by omega) (by decide)
  refine Calls.subp ?_
  refine calls_intro (n := 2) (def_mk (by k_is) (by k_is) (by k_is) (by exact rfl) (by exact rfl) (by exact rfl) (by decide)) [("deck", .ref dk), ("codes_so_far", .ref cl), ("pieces", .ref pl)] ["way", "first", "text", "sort"] (by intro s X9; first | exact BindsTo.of_eq rfl | exact binds_K X9 rfl (by k_is) rfl rfl rfl) (ns := ["deck", "codes_so_far", "pieces", "way", "first", "text", "sort"]) (by kernel_rfl) (by exact rfl) ?_
  intro c hc hs hr
  have hg : Globs c ["_law_draw", "len"] := globs_of (by rw [hs]; kernel_rfl)
  clear hs
  refine' ev_lit ?e0 ?_
  case e0 => conv => lhs; whnf
  dsimp only [fv0, List.map, List.cons_append, List.nil_append]
  repeat' kby_none
  refine ev_callG hc hr (by decide) (c_draw ⟨_, _, _, _, _, rfl, hI, hl, hk0, hk1⟩ (by omega) (by decide) (by decide)) ?_
  rintro r L ⟨wv, tw, rfl, hw0, hw1, vals, S, k, ts, tk, rfl, hI, hl, hk0, hk1⟩
  iterate 18 kby_none
  rename_i tf
  refine EV.mono (Q := MidP dk d0 cl pl (B + 2) wv (1 + (cv.length : Int)) tw tf cv pv T) (EV.post ?_) ?_
  · by_cases h2 : wv < 2
    · repeat' kby_none
      refine EV.rot ?_
      refine ev_callG hc hr (by decide) (c_draw ⟨_, _, _, _, _, rfl, hI, hl, hk0, hk1⟩ (by omega) (by decide) (by decide)) ?_
      rintro r L ⟨v, tv, rfl, hv0, hv1, vals, S, k, ts, tk, rfl, hI, hl, hk0, hk1⟩
      have hv : v = 0 ∨ v = 1 ∨ v = 2 ∨ v = 3 ∨ v = 4 ∨ v = 5 := by omega
      rcases hv with rfl | rfl | rfl | rfl | rfl | rfl
      all_goals
        repeat' kby_none
        exact ⟨_, _, .cons_cons _ (.cons_cons _ (.cons _ (.refl _))), .refl _, rfl, _, _, _, _, _, _, _, rfl, rfl, hI, hl, by omega, by omega, .inl ⟨by omega, by decide +kernel⟩⟩
    · by_cases h4 : wv < 4
      · repeat' kby_none
        refine EV.rot ?_
        refine ev_callG hc hr (by decide) (c_draw ⟨_, _, _, _, _, rfl, hI, hl, hk0, hk1⟩ (by omega) (by decide) (by decide)) ?_
        rintro r L ⟨v, tv, rfl, hv0, hv1, vals, S, k, ts, tk, rfl, hI, hl, hk0, hk1⟩
        have hv : v = 0 ∨ v = 1 ∨ v = 2 ∨ v = 3 ∨ v = 4 ∨ v = 5 := by omega
        rcases hv with rfl | rfl | rfl | rfl | rfl | rfl
        all_goals
          repeat' kby_none
          exact ⟨_, _, .cons_cons _ (.cons_cons _ (.cons _ (.refl _))), .refl _, rfl, _, _, _, _, _, _, _, rfl, rfl, hI, hl, by omega, by omega, .inl ⟨by omega, by decide +kernel⟩⟩
      · by_cases h6 : wv < 6
        · repeat' kby_none
          refine EV.rot ?_
          refine ev_callG hc hr (by decide) (c_draw ⟨_, _, _, _, _, rfl, hI, hl, hk0, hk1⟩ (by omega) (by decide) (by decide)) ?_
          rintro r L ⟨v, tv, rfl, hv0, hv1, vals, S, k, ts, tk, rfl, hI, hl, hk0, hk1⟩
          have hv : v = 0 ∨ v = 1 ∨ v = 2 ∨ v = 3 := by omega
          rcases hv with rfl | rfl | rfl | rfl
          all_goals
            repeat' kby_none
            exact ⟨_, _, .cons_cons _ (.cons_cons _ (.cons _ (.refl _))), .refl _, rfl, _, _, _, _, _, _, _, rfl, rfl, hI, hl, by omega, by omega, .inr (.inl ⟨by omega, by omega, by decide +kernel⟩)⟩
        · repeat' kby_none
          refine EV.rot ?_
          refine ev_callG hc hr (by decide) (c_draw ⟨_, _, _, _, _, rfl, hI, hl, hk0, hk1⟩ (by omega) (by decide) (by decide)) ?_
          rintro r L ⟨v, tv, rfl, hv0, hv1, vals, S, k, ts, tk, rfl, hI, hl, hk0, hk1⟩
          have hv : v = 0 ∨ v = 1 ∨ v = 2 ∨ v = 3 := by omega
          rcases hv with rfl | rfl | rfl | rfl
          all_goals
            repeat' kby_none
            exact ⟨_, _, .cons_cons _ (.cons_cons _ (.cons _ (.refl _))), .refl _, rfl, _, _, _, _, _, _, _, rfl, rfl, hI, hl, by omega, by omega, .inr (.inr ⟨by omega, by decide +kernel⟩)⟩
  · rintro fl fv L ⟨rfl, x, tx, vals, S, k, ts, tk, rfl, rfl, hI, hl, hk0, hk1, hx⟩
    obtain ⟨hx1, hx2, hx3⟩ := ok_facts hx
    have hcl : (codesOf x).length = x.cps.size := by unfold codesOf; rw [List.length_map, Array.length_toList]
    have hsx : x.cps.size ≤ sizeLine := Nat.le_trans hx3 (by decide)
    repeat' kby_none
    refine ev_compS (cl := []) (fun _ => true) (fun v y => ∃ c u t, v = Value.str ⟨#[c]⟩ u ∧ y = Value.int (c : Nat) t) hc (closureFor_none (by decide)) (by decide) rfl (by decide) rfl ?_
    repeat' kby_none
    refine ⟨_, _, rfl, hx1, hsx, ?_, ?_⟩
    · intro C v s m E hv S hC hm
      obtain ⟨i, ch, u, hi, rfl⟩ := hv
      refine ⟨ifs_none ⟨rfl, keeps_self s⟩, fun _ => ?_⟩
      refine wpAny_Call_NameR (boot_in hc S (B_ord _) BB_ord (by decide) ?_ rfl rfl rfl)
      refine callWith_method1 (spliced_more (cn_local rfl rfl hC hm rfl (spliced_none ?_)))
      exact @PySem.P.ord_of_char _ _ _ _ _ _ _ _ ⟨⟨ch, u, _, rfl, rfl⟩, keeps_toks s _⟩
    · intro D ys vs hvl hS hPd
      rw [List.filter_eq_self.mpr (fun _ _ => rfl)] at hPd
      have hys : IntsAre ys (codesOf x) := ords_of hPd (signs_map hvl hS)
      have hyl := hys.length
      have hne : ys ≠ [] := fun e => by rw [e] at hyl; simp at hyl; omega
      have hcv := hC.length
      have hap : (cv ++ ys).length = cv.length + ys.length := List.length_append
      have hcy : ((cv ++ ys).length : Int) < 2 ^ 63 := by omega
      refine EV.neq (b := cl) (in_tail (in_tail in_head)) fun hnq => ?_
      repeat' kby_none
      refine ev_extend hne in_head (Ne.symm hnq) (.tail (.tail (.tail .head))) ?_ (by omega)
      have e1 : (1 : Int) + ((textOf ps).length : Int) = 1 + (cv.length : Int) := by omega
      rcases hx with ⟨q1, q2⟩ | ⟨q0, q1, q2⟩ | ⟨q1, y, q2, q3⟩
      · repeat' kby_none
        refine ⟨_, _, .cons_cons _ (.cons _ (.refl _)), perm5, rfl, [(0, codesOf x)], _, ⟨_, _, _, _, _, _, _, rfl, hI, hl, by omega, by omega, ?_, ?_, ?_⟩, fun e he => .tail _ he, ?_, by simp, by simp⟩
        · rw [text_snoc]; exact hC.append hys
        · rw [pieces_snoc]
          have e2 : (1 : Int) + ((textOf ps).length : Int) + ((codesOf x).length : Int) = 1 + ((cv ++ ys).length : Int) := by omega
          show PcsAre _ _ (_ ++ [(0, 1 + ((textOf ps).length : Int), 1 + ((textOf ps).length : Int) + ((codesOf x).length : Int))])
          rw [e2, e1]
          exact PcsAre.snoc (hP.mono fun e he => .tail _ he) in_head
        · intro p hp
          rcases List.mem_append.mp hp with hp | hp
          · exact hok p hp
          · rw [List.mem_singleton.mp hp]; exact .inl ⟨rfl, q2⟩
        · rw [text_snoc, List.length_append]
          show _ + (codesOf x).length ≤ _; omega
      · repeat' kby_none
        refine ⟨_, _, .cons_cons _ (.cons _ (.refl _)), perm5, rfl, [(1, codesOf x)], _, ⟨_, _, _, _, _, _, _, rfl, hI, hl, by omega, by omega, ?_, ?_, ?_⟩, fun e he => .tail _ he, ?_, by simp, by simp⟩
        · rw [text_snoc]; exact hC.append hys
        · rw [pieces_snoc]
          have e2 : (1 : Int) + ((textOf ps).length : Int) + ((codesOf x).length : Int) = 1 + ((cv ++ ys).length : Int) := by omega
          show PcsAre _ _ (_ ++ [(1, 1 + ((textOf ps).length : Int), 1 + ((textOf ps).length : Int) + ((codesOf x).length : Int))])
          rw [e2, e1]
          exact PcsAre.snoc (hP.mono fun e he => .tail _ he) in_head
        · intro p hp
          rcases List.mem_append.mp hp with hp | hp
          · exact hok p hp
          · rw [List.mem_singleton.mp hp]; exact .inr (.inl ⟨rfl, q2⟩)
        · rw [text_snoc, List.length_append]
          show _ + (codesOf x).length ≤ _; omega
      · have hy : (codesOf x).length = y.length + 1 := by rw [q3, List.length_append]; rfl
        repeat' kby_none
        refine ⟨_, _, .cons_cons _ (.cons_cons _ (.cons _ (.refl _))), perm6, rfl, [(2, y), (1, [32])], _, ⟨_, _, _, _, _, _, _, rfl, hI, hl, by omega, by omega, ?_, ?_, ?_⟩, fun e he => .tail _ (.tail _ he), ?_, by simp, by simp⟩
        · rw [show ps ++ [(2, y), (1, [32])] = (ps ++ [(2, y)]) ++ [(1, [32])] by simp, text_snoc, text_snoc, List.append_assoc, ← q3]; exact hC.append hys
        · rw [show ps ++ [(2, y), (1, [32])] = (ps ++ [(2, y)]) ++ [(1, [32])] by simp, pieces_snoc, pieces_snoc, text_snoc]
          have e2 : (1 : Int) + ((textOf ps).length : Int) + (y.length : Int) = ((cv ++ ys).length : Int) := by omega
          have e3 : (1 : Int) + ((textOf ps ++ y).length : Int) = ((cv ++ ys).length : Int) := by rw [List.length_append]; omega
          have e4 : ((cv ++ ys).length : Int) + ((1 : Nat) : Int) = 1 + ((cv ++ ys).length : Int) := by omega
          show PcsAre _ _ (_ ++ [(2, 1 + ((textOf ps).length : Int), 1 + ((textOf ps).length : Int) + (y.length : Int))] ++ [(1, 1 + ((textOf ps ++ y).length : Int), 1 + ((textOf ps ++ y).length : Int) + ((1 : Nat) : Int))])
          rw [e2, e1, e3, e4]
          exact PcsAre.snoc (PcsAre.snoc (hP.mono fun e he => .tail _ (.tail _ he)) (in_tail in_head)) in_head
        · intro p hp
          rcases List.mem_append.mp hp with hp | hp
          · exact hok p hp
          · rcases List.mem_cons.mp hp with rfl | hp
            · exact .inr (.inr ⟨rfl, q2⟩)
            · rw [List.mem_singleton.mp hp]; exact .inr (.inl ⟨rfl, by decide +kernel⟩)
        · rw [show ps ++ [(2, y), (1, [32])] = (ps ++ [(2, y)]) ++ [(1, [32])] by simp, text_snoc, text_snoc, List.length_append, List.length_append]
          show _ + y.length + 1 ≤ _; omega
end
end
section
def lawF : List (Nat × Int × Int) → Int → Int → Int → Int × Bool
  | [], a, en, k => if k = 0 then (a, true) else (en, false)
  | (s, f, b) :: r, a, en, k => if a ≤ f ∧ 0 < k then (if s = 0 then lawF r b en (k - 1) else if s = 1 then lawF r a en k else (f, false)) else lawF r a en k
def lawB : List (Nat × Int × Int) → Int → Int → Int → Int × Bool
  | [], a, en, k => if k = 0 then (a, true) else (en, false)
  | (s, f, b) :: r, a, en, k => if b ≤ a ∧ 0 < k then (if s = 0 then lawB r f en (k - 1) else if s = 1 then lawB r a en k else (b, false)) else lawB r a en k
theorem PcsAre.at_ {T : Led} : ∀ {vs : List Value} {ps : List (Nat × Int × Int)}, PcsAre T vs ps → ∀ {i : Nat} {x : Value}, vs[i]? = some x → ∃ a s f b ts tf tb, x = .ref a ∧ (a, SO.tup [.str (sortS s) ts, .int f tf, .int b tb]) ∈ T ∧ ps[i]? = some (s, f, b)
  | _, _, .nil, i, x, h => by cases h
  | _, _, .cons h r, 0, x, e => by cases e; exact ⟨_, _, _, _, _, _, _, rfl, h, rfl⟩
  | _, _, .cons h r, i + 1, x, e => r.at_ e
theorem PcsAre.append {T : Led} : ∀ {vs ps vs' ps'}, PcsAre T vs ps → PcsAre T vs' ps' → PcsAre T (vs ++ vs') (ps ++ ps')
  | _, _, _, _, .nil, h => h
  | _, _, _, _, .cons h r, h' => .cons h (r.append h')
theorem PcsAre.reverse {T : Led} : ∀ {vs ps}, PcsAre T vs ps → PcsAre T vs.reverse ps.reverse
  | _, _, .nil => .nil
  | _, _, .cons h r => by rw [List.reverse_cons, List.reverse_cons]; exact r.reverse.append (.cons h .nil)
theorem drop_at {α : Type} {l : List α} {i : Nat} {x : α} (h : l[i]? = some x) : l.drop i = x :: l.drop (i + 1) := by
  obtain ⟨hi, e⟩ := List.getElem?_eq_some_iff.mp h
  rw [List.drop_eq_getElem_cons hi, e]
section
variable {w : World} {led : Led} {pl : Addr} {pv : List Value} {ps : List (Nat × Int × Int)} {at_ : Int} {ta : Tok}
theorem c_law_forward {en cnt : Int} {te tc : Tok} (hm : (pl, SO.lst pv) ∈ led) (hP : PcsAre led pv ps) (hz : pv.length ≤ 1000) :
    Calls P w (hd.heap_39 w.params) 2 589 [.ref pl, .int at_ ta, .int en te, .int cnt tc] led (fun r led' => ∃ a tq, r = .ref a ∧ led' = (a, .tup [.int (lawF ps at_ en cnt).1 tq, .bool (lawF ps at_ en cnt).2]) :: led) := by
  refine Calls.sub ?_
  have hz2 : pv.length ≤ sizeLine := Nat.le_trans hz (by decide)
  refine calls_intro (n := 1) (def_mk (by k_is) (by k_is) (by k_is) (by exact rfl) (by exact rfl) (by exact rfl) (by decide)) [("pieces", .ref pl), ("at", .int at_ ta), ("end", .int en te), ("count", .int cnt tc)] ["sort", "first", "behind"] (by intro s X9; first | exact BindsTo.of_eq rfl | exact binds_K X9 rfl (by k_is) rfl rfl rfl) (ns := ["pieces", "at", "end", "count", "sort", "first", "behind"]) (by kernel_rfl) (by exact rfl) ?_
  intro c hc hs hr
  clear hs
  refine' ev_lit ?e0 ?_
  case e0 => conv => lhs; whnf
  dsimp only [fv0, List.map, List.cons_append, List.nil_append]
  repeat' kby_none
  refine ev_forI hc ?_
  repeat' kby_none
  refine ⟨pl, pv, fun i fv L => ∃ a k ta tk s f b, fv = ([("pieces", some (.ref pl)), ("at", some (.int a ta)), ("end", some (.int en te)), ("count", some (.int k tk)), ("sort", s), ("first", f), ("behind", b)] : FV) ∧ led = L ∧ lawF (ps.drop i) a en k = lawF ps at_ en cnt, rfl, hm, ⟨_, _, _, _, _, _, _, rfl, rfl, rfl⟩, ?_, ?_, ?_⟩
  · rintro i fv L ⟨a, k, ta, tk, s, f, b, _, rfl, _⟩
    exact hm
  · rintro i it x fv L hx ⟨a, k, ta, tk, s0, f0, b0, rfl, rfl, hL⟩
    obtain ⟨ra, s, f, b, ts, tf, tb, rfl, hmem, hps⟩ := PcsAre.at_ hP hx
    rw [drop_at hps] at hL
    by_cases h1 : a ≤ f
    · by_cases h2 : 0 < k
      · rcases s with _ | _ | s
        · repeat' kby_none
          refine ⟨_, rfl, _, _, _, _, _, _, _, rfl, rfl, ?_⟩
          rw [← hL, lawF, if_pos ⟨h1, h2⟩, if_pos rfl]
        · repeat' kby_none
          refine ⟨_, rfl, _, _, _, _, _, _, _, rfl, rfl, ?_⟩
          rw [← hL, lawF, if_pos ⟨h1, h2⟩, if_neg (by decide), if_pos rfl]
        · have hs2 : sortS (s + 2) = "other" := rfl
          have hmem : (ra, SO.tup [.str "other" ts, .int f tf, .int b tb]) ∈ (led : Led) := hmem
          repeat' kby_none
          rw [← hL, lawF, if_pos ⟨h1, h2⟩, if_neg (by omega), if_neg (by omega)]
          exact ⟨_, .cons_cons _ (.cons _ (.refl _)), _, _, rfl, rfl⟩
      · repeat' kby_none
        refine ⟨_, rfl, _, _, _, _, _, _, _, rfl, rfl, ?_⟩
        rw [← hL, lawF, if_neg (fun q => h2 q.2)]
    · repeat' kby_none
      refine ⟨_, rfl, _, _, _, _, _, _, _, rfl, rfl, ?_⟩
      rw [← hL, lawF, if_neg (fun q => h1 q.1)]
  · rintro fv L ⟨a, k, ta, tk, s, f, b, rfl, rfl, hL⟩
    have hdr : (ps.drop pv.length) = [] := List.drop_of_length_le (by rw [hP.length]; exact Nat.le_refl _)
    rw [hdr, lawF] at hL
    by_cases h0 : k = 0
    · rw [if_pos h0] at hL
      rw [← hL]
      repeat' kby_none
      exact ⟨_, .cons_cons _ (.refl _), _, _, rfl, rfl⟩
    · rw [if_neg h0] at hL
      rw [← hL]
      repeat' kby_none
      exact ⟨_, .cons_cons _ (.refl _), _, _, rfl, rfl⟩
theorem c_law_backward {en cnt : Int} {te tc : Tok} (hm : (pl, SO.lst pv) ∈ led) (hP : PcsAre led pv ps) (hz : pv.length ≤ 1000) :
    Calls P w (hd.heap_39 w.params) 2 596 [.ref pl, .int at_ ta, .int en te, .int cnt tc] led (fun r led' => ∃ a tq, r = .ref a ∧ led' = (a, .tup [.int (lawB ps.reverse at_ en cnt).1 tq, .bool (lawB ps.reverse at_ en cnt).2]) :: led) := by
  refine Calls.sub ?_
  have hz2 : pv.length ≤ sizeLine := Nat.le_trans hz (by decide)
  refine calls_intro (n := 1) (def_mk (by k_is) (by k_is) (by k_is) (by exact rfl) (by exact rfl) (by exact rfl) (by decide)) [("pieces", .ref pl), ("at", .int at_ ta), ("begin", .int en te), ("count", .int cnt tc)] ["sort", "first", "behind"] (by intro s X9; first | exact BindsTo.of_eq rfl | exact binds_K X9 rfl (by k_is) rfl rfl rfl) (ns := ["pieces", "at", "begin", "count", "sort", "first", "behind"]) (by kernel_rfl) (by exact rfl) ?_
  intro c hc hs hr
  clear hs
  refine' ev_lit ?e0 ?_
  case e0 => conv => lhs; whnf
  dsimp only [fv0, List.map, List.cons_append, List.nil_append]
  repeat' kby_none
  refine ev_forI hc ?_
  refine ev_lstRevO ?_ (by intro _ _; with_unfolding_all rfl)
  repeat' kby_none
  refine ⟨_, _, rfl, hm, hz2, by intro n; with_unfolding_all rfl, fun d => ?_⟩
  refine ⟨d, pv.reverse, fun i fv L => ∃ a k ta tk s f b, fv = ([("pieces", some (.ref pl)), ("at", some (.int a ta)), ("begin", some (.int en te)), ("count", some (.int k tk)), ("sort", s), ("first", f), ("behind", b)] : FV) ∧ (d, .lst pv.reverse) :: led = L ∧ lawB (ps.reverse.drop i) a en k = lawB ps.reverse at_ en cnt, rfl, in_head, ⟨_, _, _, _, _, _, _, rfl, rfl, rfl⟩, ?_, ?_, ?_⟩
  · rintro i fv L ⟨a, k, ta, tk, s, f, b, _, rfl, _⟩
    exact in_head
  · rintro i it x fv L hx ⟨a, k, ta, tk, s0, f0, b0, rfl, rfl, hL⟩
    obtain ⟨ra, s, f, b, ts, tf, tb, rfl, hmem, hps⟩ := PcsAre.at_ hP.reverse hx
    rw [drop_at hps] at hL
    have hmem : (ra, SO.tup [.str (sortS s) ts, .int f tf, .int b tb]) ∈ ((d, .lst pv.reverse) :: led : Led) := .tail _ hmem
    by_cases h1 : b ≤ a
    · by_cases h2 : 0 < k
      · rcases s with _ | _ | s
        · repeat' kby_none
          refine ⟨_, rfl, _, _, _, _, _, _, _, rfl, rfl, ?_⟩
          rw [← hL, lawB, if_pos ⟨h1, h2⟩, if_pos rfl]
        · repeat' kby_none
          refine ⟨_, rfl, _, _, _, _, _, _, _, rfl, rfl, ?_⟩
          rw [← hL, lawB, if_pos ⟨h1, h2⟩, if_neg (by decide), if_pos rfl]
        · have hs2 : sortS (s + 2) = "other" := rfl
          have hmem : (ra, SO.tup [.str "other" ts, .int f tf, .int b tb]) ∈ ((d, .lst pv.reverse) :: led : Led) := hmem
          repeat' kby_none
          rw [← hL, lawB, if_pos ⟨h1, h2⟩, if_neg (by omega), if_neg (by omega)]
          exact ⟨_, .cons_cons _ (.cons _ (.cons _ (.refl _))), _, _, rfl, rfl⟩
      · repeat' kby_none
        refine ⟨_, rfl, _, _, _, _, _, _, _, rfl, rfl, ?_⟩
        rw [← hL, lawB, if_neg (fun q => h2 q.2)]
    · repeat' kby_none
      refine ⟨_, rfl, _, _, _, _, _, _, _, rfl, rfl, ?_⟩
      rw [← hL, lawB, if_neg (fun q => h1 q.1)]
  · rintro fv L ⟨a, k, ta, tk, s, f, b, rfl, rfl, hL⟩
    have hdr : (ps.reverse.drop pv.reverse.length) = [] := List.drop_of_length_le (by rw [List.length_reverse, List.length_reverse, hP.length]; exact Nat.le_refl _)
    rw [hdr, lawB] at hL
    by_cases h0 : k = 0
    · rw [if_pos h0] at hL
      rw [← hL]
      repeat' kby_none
      exact ⟨_, .cons_cons _ (.cons _ (.refl _)), _, _, rfl, rfl⟩
    · rw [if_neg h0] at hL
      rw [← hL]
      repeat' kby_none
      exact ⟨_, .cons_cons _ (.cons _ (.refl _)), _, _, rfl, rfl⟩
end
end
section
theorem paired_ints : ∀ {vs ys : List Value}, Paired (fun _ y => ∃ i t, y = Value.int i t) vs ys → Ints ys ∧ ys.length = vs.length
  | _, _, .nil => ⟨fun v hv => (by cases hv), rfl⟩
  | _, _, .cons h r => ⟨fun v hv => by
      rcases List.mem_cons.mp hv with rfl | hv
      · exact h
      · exact (paired_ints r).1 v hv, by rw [List.length_cons, List.length_cons, (paired_ints r).2]⟩
theorem Ints.are : ∀ {vs : List Value}, Ints vs → ∃ ns, IntsAre vs ns
  | [], _ => ⟨[], .nil⟩
  | v :: r, h => by
    obtain ⟨i, t, rfl⟩ := h v (.head _)
    obtain ⟨ns, q⟩ := Ints.are (vs := r) fun v hv => h v (.tail _ hv)
    exact ⟨_, .cons i t q⟩
theorem Ints.take {vs : List Value} (h : Ints vs) (k : Nat) : Ints (vs.take k) := fun v hv => h v (List.mem_of_mem_take hv)
theorem Ints.filter {vs : List Value} (h : Ints vs) (p : Value → Bool) : Ints (vs.filter p) := fun v hv => h v (List.mem_filter.mp hv).1
theorem IntsAre.ints : ∀ {vs : List Value} {ns : List Int}, IntsAre vs ns → Ints vs
  | _, _, .nil => fun v hv => by cases hv
  | _, _, .cons n t h => fun v hv => by
    rcases List.mem_cons.mp hv with rfl | hv
    · exact ⟨n, t, rfl⟩
    · exact IntsAre.ints h v hv
def bigV : Value → Bool
  | .int i _ => decide ((10 : Int) ^ 18 ≤ i)
  | _ => false
section
variable {w : World} {led : Led} {sc : Addr} {sv : List Value}
theorem B_sum : nsIn (hd.heap_39 w.params) mainGlobals "sum" = some none := by k_is
theorem BB_sum : bootBuiltins "sum" = some (.builtin "sum") := by boot_by_name
theorem B_abs : nsIn (hd.heap_39 w.params) mainGlobals "abs" = some none := by k_is
theorem BB_abs : bootBuiltins "abs" = some (.builtin "abs") := by boot_by_name
theorem c_law_deck (hI : Ints sv) (hz : sv.length ≤ 63) : CallsB (BL sc sv) P w (hd.heap_39 w.params) 1 565 [.ref sc] led (fun r led' => ∃ dk d0, r = .ref dk ∧ Deck dk d0 0 led led') := by
  refine CallsB.sub ?_
  have hz2 : sv.length ≤ sizeLine := Nat.le_trans hz (by decide)
  refine calls_introB BL.keeps (n := 0) (def_mk (by k_is) (by k_is) (by k_is) (by exact rfl) (by exact rfl) (by exact rfl) (by decide)) [("script", .ref sc)] ["cells"] (by intro s X9; first | exact BindsTo.of_eq rfl | exact binds_K X9 rfl (by k_is) rfl rfl rfl) (ns := ["script", "cells"]) (by kernel_rfl) (by exact rfl) ?_
  intro c hc hs hr hB
  have hg : Globs c ["len", "sum"] := globs_of (by rw [hs]; kernel_rfl)
  clear hs
  refine' ev_lit ?e0 ?_
  case e0 => conv => lhs; whnf
  dsimp only [fv0, List.map, List.cons_append, List.nil_append]
  refine ev_cons ?_
  refine ev_asgC (cl := []) (fun _ => true) (fun _ y => ∃ i t, y = Value.int i t) hc (closureFor_none (by decide)) (by decide) rfl (by decide) rfl rfl (by decide) ?_ (hy := .tail _ (.head _))
  refine ev_slB (k := 24) hc (by kit_nb) hB hz2 (fun d => ?_) (by intro n; with_unfolding_all rfl) (by intro r; with_unfolding_all rfl)
  have htk : (sv.take 24).length ≤ 24 := List.length_take_le _ _
  refine ⟨d, _, rfl, in_head, Nat.le_trans htk (by decide), ?_, fun D => ⟨_, by k_cls, ?_⟩⟩
  · intro C v s m E hv S hC hm
    obtain ⟨i, t, rfl⟩ := hI.take 24 v hv
    refine ⟨ifs_none ⟨rfl, keeps_self s⟩, fun _ => ?_⟩
    refine wpAny_BinOp ?_
    refine wpAny_Call_NameR (boot_in hc S B_abs BB_abs (by decide) ?_ rfl rfl rfl)
    refine callWith_method1 (spliced_more (cn_local rfl rfl hC hm rfl (spliced_none ?_)))
    refine call_abs_int fun u tk => ?_
    refine wpAny_BinOp (wpAny_Constant_int (wpAny_Constant_int ?_))
    refine pow_int_small (by decide) (by decide) (by decide) ?_
    refine @PyProof.Rows.mod_int' _ _ _ _ _ _ _ _ _ _ (by exact (by decide)) ?_
    exact ⟨⟨_, _, rfl⟩, keeps_toks s _⟩
  · intro ys hP
    rw [List.filter_eq_self.mpr (fun _ _ => rfl)] at hP
    obtain ⟨hy1, hy2⟩ := paired_ints hP
    have hyl : ys.length ≤ 24 := by omega
    have hyz : ys.length ≤ sizeLine := Nat.le_trans hyl (by decide)
    have hy63 : (ys.length : Int) < 2 ^ 63 := by omega
    obtain ⟨ns, hns⟩ := hy1.are
    repeat' kby_none
    refine ev_compL (cl := []) bigV (fun v y => y = v) hc (closureFor_none (by decide)) (by decide) rfl (by decide) rfl ?_
    repeat' kby_none
    refine ⟨_, _, rfl, in_head, hyz, ?_, ?_⟩
    · intro C v s m E hv S hC hm
      obtain ⟨i, t, rfl⟩ := hy1 v hv
      refine ⟨ifs_one (wpAny_isTrue_Compare1 (cn_local rfl rfl hC hm rfl ?_)), fun _ => cn_local rfl rfl hC hm rfl ⟨rfl, keeps_self s⟩⟩
      refine wpAny_BinOp (wpAny_Constant_int (wpAny_Constant_int ?_))
      refine pow_int_small (by decide) (by decide) (by decide) ?_
      refine @PyProof.Rows.ge_int _ _ _ _ _ _ _ _ _ _ (by exact wpAny_truthy_bool ⟨rfl, keeps_toks s _⟩)
    · intro D2 ys2 hP2
      have e := paired_eq hP2
      subst e
      have hfl : (ys.filter bigV).length ≤ 24 := Nat.le_trans (List.length_filter_le _ _) hyl
      repeat' kby_none
      refine ev_boot hc hg (by k_same2) B_sum BB_sum (by decide) ?_
      repeat' kby_none
      refine ev_sum hc (in_tail in_head) hns fun t => ?_
      repeat' kby_none
      exact ⟨_, .cons_cons _ (.cons_cons _ (.cons _ (.cons _ (.refl _)))), _, _, rfl, _, _, _, _, _, rfl, hy1.filter _, by omega, Int.le_refl _, Int.le_refl _⟩
theorem c_law_many (hI : Ints sv) (hz : sv.length ≤ 63) {t1 t2 : Tok} : CallsB (BL sc sv) P w (hd.heap_39 w.params) 1 577 [.ref sc, .int 2 t1, .int 6 t2] led (fun r led' => (∃ (k : Nat) (t : Tok), r = .int k t ∧ 2 ≤ k ∧ k ≤ 6) ∧ led' = led) := by
  refine CallsB.sub ?_
  have hz2 : sv.length ≤ sizeLine := Nat.le_trans hz (by decide)
  refine calls_introB BL.keeps (n := 0) (def_mk (by k_is) (by k_is) (by k_is) (by exact rfl) (by exact rfl) (by exact rfl) (by decide)) [("script", .ref sc), ("least", .int 2 t1), ("most", .int 6 t2)] ["many", "size"] (by intro s X9; first | exact BindsTo.of_eq rfl | exact binds_K X9 rfl (by k_is) rfl rfl rfl) (ns := ["script", "least", "most", "many", "size"]) (by kernel_rfl) (by exact rfl) ?_
  intro c hc hs hr hB
  have hg : Globs c ["sum"] := globs_of (by rw [hs]; kernel_rfl)
  clear hs
  refine' ev_lit ?e0 ?_
  case e0 => conv => lhs; whnf
  dsimp only [fv0, List.map, List.cons_append, List.nil_append]
  repeat' kby_none
  refine ev_boot hc hg (by k_same2) B_sum BB_sum (by decide) ?_
  repeat' kby_none
  refine ev_compL (cl := []) (fun _ => true) (fun _ y => ∃ i t, y = Value.int i t) hc (closureFor_none (by decide)) (by decide) rfl (by decide) rfl ?_
  refine ev_slB (k := 24) hc (by kit_nb) hB hz2 (fun d => ?_) (by intro n; with_unfolding_all rfl) (by intro r; with_unfolding_all rfl)
  have htk : (sv.take 24).length ≤ 24 := List.length_take_le _ _
  refine ⟨d, _, rfl, in_head, Nat.le_trans htk (by decide), ?_, ?_⟩
  · intro C v s m E hv S hC hm
    obtain ⟨i, t, rfl⟩ := hI.take 24 v hv
    refine ⟨ifs_none ⟨rfl, keeps_self s⟩, fun _ => ?_⟩
    refine wpAny_Call_NameR (boot_in hc S B_abs BB_abs (by decide) ?_ rfl rfl rfl)
    refine callWith_method1 (spliced_more (cn_local rfl rfl hC hm rfl (spliced_none ?_)))
    refine call_abs_int fun u tk => ?_
    exact ⟨⟨_, _, rfl⟩, keeps_toks s _⟩
  · intro D ys hP
    rw [List.filter_eq_self.mpr (fun _ _ => rfl)] at hP
    obtain ⟨hy1, hy2⟩ := paired_ints hP
    obtain ⟨ns, hns⟩ := hy1.are
    repeat' kby_none
    refine ev_sum hc in_head hns fun t => ?_
    repeat' kby_none
    refine ev_while (I := fun n fv L => ∃ (k : Nat) (S : Int) (tk ts : Tok), n = 6 - k ∧ 2 ≤ k ∧ k ≤ 6 ∧ fv = ([("script", some (.ref sc)), ("least", some (.int 2 t1)), ("most", some (.int 6 t2)), ("many", some (.int k tk)), ("size", some (.int S ts))] : FV) ∧ L = (D, .lst ys) :: (d, .lst (sv.take 24)) :: led) ?_ 4 ⟨2, _, _, _, rfl, by decide, by decide, rfl, rfl⟩
    rintro n fv L ⟨k, S, tk, ts, rfl, hk1, hk2, rfl, rfl⟩
    by_cases h6 : k < 6
    · by_cases h1 : 1000 < S
      · repeat' kby_none
        exact ⟨6 - (k + 1), by omega, k + 1, _, _, _, rfl, by omega, by omega, rfl, rfl⟩
      · repeat' kby_none
        exact ⟨_, .cons _ (.cons _ (.refl _)), ⟨k, _, rfl, hk1, hk2⟩, rfl⟩
    · repeat' kby_none
      exact ⟨_, .cons _ (.cons _ (.refl _)), ⟨k, _, rfl, hk1, hk2⟩, rfl⟩
end
end
section
section
variable {w : World} {led : Led}
theorem c_TR_init {x cl : Addr} {vals : List Value} (hm : (cl, SO.lst vals) ∈ led) (hz : vals.length ≤ sizeLine) : Calls P w (hd.heap_39 w.params) 1 532 [.ref x, .ref cl] ((x, .inst 556 []) :: led)
    (fun r led' => r = .none ∧ ∃ l, led' = (l, .lst vals) :: (x, .inst 556 (rowF (.ref l) (.int 1 964))) :: led) := by
  refine calls_intro (n := 0) (def_mk (by k_is) (by k_is) (by k_is) (by exact rfl) (by exact rfl) (by exact rfl) (by decide)) [("self", .ref x), ("codes", .ref cl), ("place", .int 1 964)] [] (by intro s X9; first | exact BindsTo.of_eq rfl | exact binds_K X9 rfl (by k_is) rfl rfl rfl) (ns := ["self", "codes", "place"]) (by kernel_rfl) (by exact rfl) ?_
  intro c hc hs hr
  have hg : Globs c ["list"] := globs_of (by rw [hs]; kernel_rfl)
  clear hs
  refine' ev_lit ?e0 ?_
  case e0 => conv => lhs; whnf
  dsimp only [fv0, List.map, List.cons_append, List.nil_append]
  repeat' kby_none
  exact ⟨rfl, _, rfl⟩
theorem mk_TR {c : Cx P w (hd.heap_39 w.params)} {fv : FV} {n : Nat} {cl : Addr} {vals : List Value} {Q : Value → FV → Led → Prop} (hc : c.Ok) (hr : Room c.A n) (hk : 2 ≤ n) (hm : (cl, SO.lst vals) ∈ led) (hz : vals.length ≤ sizeLine)
    (h : ∀ x l, Q (.ref x) fv ((l, .lst vals) :: (x, .inst 556 (rowF (.ref l) (.int 1 964))) :: led)) : EV c (call (.ref 556) [.ref cl]) Q fv led :=
  ev_make (post := fun x led' => ∃ l, led' = (l, .lst vals) :: (x, .inst 556 (rowF (.ref l) (.int 1 964))) :: led) hc (hr.le hk) (MK_TextRow _).1 (MK_TextRow _).2.1 (MK_TextRow _).2.2 (fun _ => c_TR_init hm hz) fun x led' ⟨l, e⟩ => by rw [e]; exact h x l
end
end
section
inductive Path (cs : List Int) (qb lim : Int) : Nat → Int → Mo → List (Int × Int) → Int → Mo → Prop
  | nil {p : Int} {mo : Mo} : Path cs qb lim 0 p mo [] p mo
  | cons {n : Nat} {p p' : Int} {mo mo' : Mo} {evs : List (Int × Int)} : p < qb → Legal cs p mo → (stp cs p mo).1 ≤ lim → Path cs qb lim n (stp cs p mo).1 (stp cs p mo).2 evs p' mo' → Path cs qb lim (n + 1) p mo (evOf mo (stp cs p mo) ++ evs) p' mo'
section
variable {cs x : List Int} {qb lim q L d : Int} {n m : Nat} {p p' p'' : Int} {mo mo' mo'' : Mo} {evs es : List (Int × Int)}
theorem Path.reach (h : Path cs qb lim n p mo evs p' mo') (h1 : qb ≤ q) (h2 : lim ≤ L) (R : Reach cs q L m p' mo' p'' mo'') : Reach cs q L (n + m) p mo p'' mo'' := by
  induction h with
  | nil => rw [Nat.zero_add]; exact R
  | cons a b c _ ih => rw [Nat.succ_add]; exact .cons (Int.lt_of_lt_of_le a h1) b (Int.le_trans c h2) (ih R)
theorem Path.spans (h : Path cs qb lim n p mo evs p' mo') (h1 : qb ≤ q) (h2 : lim ≤ 1 + (cs.length : Int)) (S : Spans cs q m p' mo' es) : Spans cs q (n + m) p mo (evs ++ es) := by
  induction h with
  | nil => rw [Nat.zero_add]; exact S
  | cons a b c _ ih => rw [Nat.succ_add, List.append_assoc]; exact .cons (Int.lt_of_lt_of_le a h1) b (Int.le_trans c h2) (ih S)
theorem Path.append (h : Path cs qb lim n p mo evs p' mo') (h1 : qb ≤ q) (h2 : lim ≤ L) (R : Path cs q L m p' mo' es p'' mo'') : Path cs q L (n + m) p mo (evs ++ es) p'' mo'' := by
  induction h with
  | nil => rw [Nat.zero_add]; exact R
  | cons a b c _ ih => rw [Nat.succ_add, List.append_assoc]; exact .cons (Int.lt_of_lt_of_le a h1) b (Int.le_trans c h2) (ih R)
def sh (d : Int) : Mo → Mo
  | .plain => .plain
  | .str s => .str (s + d)
  | .com b s => .com b (s + d)
def Agree (cs : List Int) (d : Int) (x : List Int) : Prop := ∀ i : Int, 1 ≤ i → i < 1 + (x.length : Int) → codeAt cs (i + d) = codeAt x i
def look (x : List Int) (p : Int) : Bool := decide (p + 1 < 1 + (x.length : Int)) || (decide (codeAt x p ≠ 47) && decide (codeAt x p ≠ 42))
theorem bmk_sh (hA : Agree cs d x) (h1 : 1 ≤ p) (h2 : p < 1 + (x.length : Int)) (hl : look x p = true) : bmk cs (p + d) = bmk x p := by
  unfold bmk
  rw [hA p h1 h2]
  by_cases e : p + 1 < 1 + (x.length : Int)
  · rw [show p + d + 1 = (p + 1) + d by omega, hA (p + 1) (by omega) e]
  · unfold look at hl
    rw [decide_eq_false e, Bool.false_or, Bool.and_eq_true, decide_eq_true_eq, decide_eq_true_eq] at hl
    rw [if_neg hl.1, if_neg hl.1]
theorem emk_sh (hA : Agree cs d x) (h1 : 1 ≤ p) (h2 : p < 1 + (x.length : Int)) (hl : look x p = true) : emk cs (p + d) = emk x p := by
  unfold emk
  rw [hA p h1 h2]
  by_cases e : p + 1 < 1 + (x.length : Int)
  · rw [show p + d + 1 = (p + 1) + d by omega, hA (p + 1) (by omega) e]
  · unfold look at hl
    rw [decide_eq_false e, Bool.false_or, Bool.and_eq_true, decide_eq_true_eq, decide_eq_true_eq] at hl
    rw [if_neg (show ¬(codeAt x p = 42 ∧ codeAt cs (p + d + 1) = 47) from fun q => hl.2 q.1), if_neg (show ¬(codeAt x p = 42 ∧ codeAt x (p + 1) = 47) from fun q => hl.2 q.1)]
theorem stp_sh (hA : Agree cs d x) (h1 : 1 ≤ p) (h2 : p < 1 + (x.length : Int)) (hl : look x p = true) : stp cs (p + d) (sh d mo) = ((stp x p mo).1 + d, sh d (stp x p mo).2) := by
  have hb := bmk_sh hA h1 h2 hl
  have he := emk_sh hA h1 h2 hl
  have hc := hA p h1 h2
  cases mo with
  | plain =>
    unfold stp sh
    dsimp only
    rw [hb]
    cases bmk x p with
    | some b => dsimp only; rw [show p + d + 2 = p + 2 + d by omega]
    | none =>
      dsimp only
      rw [hc, show p + d + 1 = p + 1 + d by omega]
      by_cases e : codeAt x p = 34
      · rw [if_pos e, if_pos e]
      · rw [if_neg e, if_neg e]
  | str s =>
    unfold stp
    dsimp only [sh]
    rw [hc, show p + d + 1 = p + 1 + d by omega]
    by_cases e : codeAt x p = 34
    · rw [if_pos e, if_pos e]
    · rw [if_neg e, if_neg e]
  | com b s =>
    unfold stp
    dsimp only [sh]
    rw [he]
    cases emk x p with
    | none => dsimp only; rw [show p + d + 1 = p + 1 + d by omega]
    | some kb =>
      obtain ⟨k, b'⟩ := kb
      dsimp only
      by_cases e : b' = b
      · rw [if_pos e, if_pos e]; dsimp only; rw [show p + d + k = p + k + d by omega]
      · rw [if_neg e, if_neg e]; dsimp only; rw [show p + d + 1 = p + 1 + d by omega]
def chk (x : List Int) (qb p : Int) (mo : Mo) : Bool := decide (1 ≤ p) && decide (p < 1 + (x.length : Int)) && decide (p < qb) && alpha.contains (codeAt x p) && (match mo with | .plain => decide (codeAt x p ≠ 41) | _ => true) && look x p && decide ((stp x p mo).1 ≤ 1 + (x.length : Int))
theorem chk_of (h : chk x qb p mo = true) : 1 ≤ p ∧ p < 1 + (x.length : Int) ∧ p < qb ∧ codeAt x p ∈ alpha ∧ (mo = .plain → codeAt x p ≠ 41) ∧ look x p = true ∧ (stp x p mo).1 ≤ 1 + (x.length : Int) := by
  unfold chk at h
  simp only [Bool.and_eq_true, decide_eq_true_eq, List.contains_iff_mem] at h
  obtain ⟨⟨⟨⟨⟨⟨a, b⟩, c⟩, e⟩, f⟩, g⟩, i⟩ := h
  refine ⟨a, b, c, e, fun q => ?_, g, i⟩
  subst q
  simpa using f
def run (x : List Int) (qb : Int) : Nat → Int → Mo → Option (Int × Mo × List (Int × Int))
  | 0, p, mo => some (p, mo, [])
  | n + 1, p, mo => if chk x qb p mo then (match run x qb n (stp x p mo).1 (stp x p mo).2 with
    | some (p', mo', es) => some (p', mo', evOf mo (stp x p mo) ++ es)
    | none => none) else none
theorem evOf_sh {mo : Mo} {r : Int × Mo} : evOf (sh d mo) (r.1 + d, sh d r.2) = (evOf mo r).map fun e => (e.1 + d, e.2 + d) := by
  obtain ⟨a, m⟩ := r
  cases mo <;> cases m <;> rfl
theorem Legal.sh (hA : Agree cs d x) (h1 : 1 ≤ p) (h2 : p < 1 + (x.length : Int)) (hz : (x.length : Int) + d ≤ 9000) (h4 : codeAt x p ∈ alpha) (h5 : mo = .plain → codeAt x p ≠ 41) : Legal cs (p + d) (Mine.sh d mo) := by
  have hc := hA p h1 h2
  refine ⟨hc ▸ h4, fun q => hc ▸ h5 ?_, by omega⟩
  cases mo <;> first | rfl | cases q
theorem run_path (hA : Agree cs d x) (hz : (x.length : Int) + d ≤ 9000) : ∀ {n : Nat} {p : Int} {mo : Mo} {p' : Int} {mo' : Mo} {es : List (Int × Int)}, run x qb n p mo = some (p', mo', es) →
    Path cs (qb + d) (1 + (x.length : Int) + d) n (p + d) (sh d mo) (es.map fun e => (e.1 + d, e.2 + d)) (p' + d) (sh d mo')
  | 0, p, mo, p', mo', es, h => by
    cases h; exact .nil
  | n + 1, p, mo, p', mo', es, h => by
    unfold run at h
    split at h
    · rename_i hc
      obtain ⟨h1, h2, h3, h4, h5, h6, h7⟩ := chk_of hc
      have hs := stp_sh (mo := mo) hA h1 h2 h6
      split at h
      · rename_i p1 mo1 es1 hr
        cases h
        have ih := run_path hA hz hr
        rw [List.map_append, ← evOf_sh, ← hs]
        refine .cons (by omega) (Legal.sh hA h1 h2 hz h4 h5) (by rw [hs]; dsimp only; omega) ?_
        rw [hs]
        exact ih
      · cases h
    · cases h
def runC (x : List Int) : Nat → Int → Mo → Bool
  | 0, p, .plain => decide (p = 1 + (x.length : Int))
  | n + 1, p, .com b s => chk x (1 + (x.length : Int)) p (.com b s) && runC x n (stp x p (.com b s)).1 (stp x p (.com b s)).2
  | _, _, _ => false
theorem runC_to (hA : Agree cs d x) (hz : (x.length : Int) + d ≤ 9000) (hl : (x.length : Int) + d ≤ (cs.length : Int)) : ∀ {n : Nat} {p : Int} {mo : Mo}, runC x n p mo = true → ComTo cs n (p + d) (sh d mo) (1 + (x.length : Int) + d)
  | 0, p, .plain, h => by
    unfold runC at h
    rw [of_decide_eq_true h]; exact .nil
  | n + 1, p, .com b s, h => by
    unfold runC at h
    obtain ⟨hc, h⟩ := Bool.and_eq_true_iff.mp h
    obtain ⟨h1, h2, h3, h4, h5, h6, h7⟩ := chk_of hc
    have hs := stp_sh (mo := .com b s) hA h1 h2 h6
    have ih := runC_to hA hz hl h
    have hs' : stp cs (p + d) (.com b (s + d)) = _ := hs
    refine .cons (b := b) (s := s + d) (by omega) (Legal.sh (mo := .com b s) hA h1 h2 hz h4 h5) (by rw [hs']; dsimp only; omega) ?_
    rw [hs']
    exact ih
  | 0, p, .str _, h => by simp [runC] at h
  | 0, p, .com _ _, h => by simp [runC] at h
  | n + 1, p, .plain, h => by simp [runC] at h
  | n + 1, p, .str _, h => by simp [runC] at h
end
def isPl : Mo → Bool
  | .plain => true
  | _ => false
def isCo (b : Bool) : Mo → Bool
  | .com b' s => b' == b && s == 1
  | _ => false
theorem isPl_of {mo : Mo} (h : isPl mo = true) : mo = .plain := by cases mo <;> first | rfl | cases h
theorem isCo_of {mo : Mo} {b : Bool} (h : isCo b mo = true) : mo = .com b 1 := by
  cases mo with
  | com b' s =>
    simp only [isCo, Bool.and_eq_true, beq_iff_eq] at h
    rw [h.1, h.2]
  | _ => cases h
def endsOk (x : List Int) (c : Bool) : Option (Int × Mo × List (Int × Int)) → Bool
  | some (p', mo, es) => decide (p' = 1 + (x.length : Int)) && isPl mo && es == (if c then [(1 + (x.length : Int), 1)] else [])
  | none => false
def partOk1 (c : Bool) (x : List Int) : Bool := (List.range 9).any fun n => endsOk x c (run x (1 + (x.length : Int)) n 1 .plain)
def inOk (x : List Int) (q : Int) (b : Bool) : Option (Int × Mo × List (Int × Int)) → Bool
  | some (p', mo, es) => (decide (p' = q) && isCo b mo) || (decide (q ≤ p') && isPl mo && decide ((x.length : Int) ≤ 4))
  | none => false
def comOk (b : Bool) (x : List Int) : Bool := bmk x 1 == some b && chk x 2 1 .plain && decide (3 ≤ 1 + (x.length : Int)) && ((List.range 9).any fun n => runC x n 3 (.com b 1)) &&
  ((List.range 9).any fun n => inOk x 3 b (run x 3 n 1 .plain)) && ((List.range 9).any fun n => inOk x 4 b (run x 4 n 1 .plain)) && !isBl (codeAt x 1)
def blkOk (x : List Int) : Bool := (List.range x.length).all fun i => isBl (codeAt x (1 + (i : Int)))
def othOk (x : List Int) : Bool := !isBl (codeAt x 1) && (bmk x 1 == none) && !isBl (codeAt x (x.length : Int)) && decide (codeAt x 1 ≠ 47)
theorem all_coms : coms.all (fun x => partOk1 true x && (comOk true x || comOk false x)) = true := by decide +kernel
theorem all_blks : blks.all (fun x => partOk1 false x && blkOk x) = true := by decide +kernel
theorem all_oths : oths.all (fun x => partOk1 false x && othOk x) = true := by decide +kernel
theorem all_len : (coms ++ blks ++ oths).all (fun x => decide (1 ≤ x.length) && decide (x.length ≤ 8) && x.all fun c => alpha.contains c) = true := by decide +kernel
theorem part_len {p : Part} (h : PartOk p) : 1 ≤ p.2.length ∧ p.2.length ≤ 8 ∧ ∀ c ∈ p.2, c ∈ alpha := by
  have hm : p.2 ∈ coms ++ blks ++ oths := by
    rcases h with ⟨_, h⟩ | ⟨_, h⟩ | ⟨_, h⟩
    · exact List.mem_append_left _ (List.mem_append_left _ h)
    · exact List.mem_append_left _ (List.mem_append_right _ h)
    · exact List.mem_append_right _ h
  have := List.all_eq_true.mp all_len _ hm
  simp only [Bool.and_eq_true, decide_eq_true_eq, List.all_eq_true, List.contains_iff_mem] at this
  exact ⟨this.1.1, this.1.2, this.2⟩
theorem part_run1 {c : Bool} {x : List Int} (h : partOk1 c x = true) : ∃ n, n ≤ 8 ∧ run x (1 + (x.length : Int)) n 1 .plain = some (1 + (x.length : Int), .plain, if c then [(1 + (x.length : Int), 1)] else []) := by
  obtain ⟨n, hn, h⟩ := List.any_eq_true.mp h
  have hn := List.mem_range.mp hn
  refine ⟨n, by omega, ?_⟩
  cases e : run x (1 + (x.length : Int)) n 1 .plain with
  | none => rw [e] at h; cases h
  | some r =>
    obtain ⟨p', mo, es⟩ := r
    rw [e] at h
    simp only [endsOk, Bool.and_eq_true, decide_eq_true_eq, beq_iff_eq] at h
    rw [h.1.1, isPl_of h.1.2, h.2]
theorem part_run {p : Part} (h : PartOk p) : ∃ n, n ≤ 8 ∧ run p.2 (1 + (p.2.length : Int)) n 1 .plain = some (1 + (p.2.length : Int), .plain, if p.1 = 0 then [(1 + (p.2.length : Int), 1)] else []) := by
  rcases h with ⟨e, h⟩ | ⟨e, h⟩ | ⟨e, h⟩
  · obtain ⟨n, hn, h⟩ := part_run1 (Bool.and_eq_true_iff.mp (List.all_eq_true.mp all_coms _ h)).1
    exact ⟨n, hn, by rw [h, if_pos rfl, if_pos e]⟩
  · obtain ⟨n, hn, h⟩ := part_run1 (Bool.and_eq_true_iff.mp (List.all_eq_true.mp all_blks _ h)).1
    exact ⟨n, hn, by rw [h, if_neg (by decide), if_neg (by omega)]⟩
  · obtain ⟨n, hn, h⟩ := part_run1 (Bool.and_eq_true_iff.mp (List.all_eq_true.mp all_oths _ h)).1
    exact ⟨n, hn, by rw [h, if_neg (by decide), if_neg (by omega)]⟩
-- texts
theorem text_app (A B : List Part) : textOf (A ++ B) = textOf A ++ textOf B := by simp [textOf]
theorem text_cons (p : Part) (B : List Part) : textOf (p :: B) = p.2 ++ textOf B := rfl
theorem text_len {ps : List Part} (h : ∀ p ∈ ps, PartOk p) : (textOf ps).length ≤ 8 * ps.length := by
  induction ps with
  | nil => exact Nat.le_refl _
  | cons p r ih =>
    have := (part_len (h p (.head _))).2.1
    have := ih fun p hp => h p (.tail _ hp)
    rw [text_cons, List.length_append, List.length_cons]; omega
theorem text_alpha {ps : List Part} (h : ∀ p ∈ ps, PartOk p) : ∀ c ∈ textOf ps, c ∈ alpha := by
  intro c hc
  obtain ⟨p, hp, hc⟩ := List.mem_flatMap.mp hc
  exact (part_len (h p hp)).2.2 c hc
theorem agree_mid (l x r : List Int) : Agree (l ++ (x ++ r)) (l.length : Int) x := by
  intro i h1 h2
  have hlen : (l ++ (x ++ r)).length = l.length + (x.length + r.length) := by rw [List.length_append, List.length_append]
  unfold codeAt
  rw [if_pos ⟨by omega, by rw [hlen]; omega⟩, if_pos ⟨h1, h2⟩]
  have e : (i + (l.length : Int) - 1).toNat = l.length + (i - 1).toNat := by omega
  rw [e, List.getD_eq_getElem?_getD, List.getD_eq_getElem?_getD, List.getElem?_append_right (by omega), Nat.add_sub_cancel_left, List.getElem?_append_left (by omega)]
theorem agree_part (A R : List Part) (p : Part) : Agree (textOf (A ++ p :: R)) ((textOf A).length : Int) p.2 := by
  rw [text_app, text_cons]; exact agree_mid _ _ _
def evsOf : List Part → Int → List (Int × Int)
  | [], _ => []
  | p :: r, f => (if p.1 = 0 then [(f + (p.2.length : Int), f)] else []) ++ evsOf r (f + (p.2.length : Int))
theorem evsOf_app : ∀ (A B : List Part) (f : Int), evsOf (A ++ B) f = evsOf A f ++ evsOf B (f + ((textOf A).length : Int))
  | [], B, f => by simp [evsOf, textOf]
  | p :: A, B, f => by
    rw [List.cons_append]
    show _ ++ evsOf (A ++ B) _ = (_ ++ evsOf A _) ++ _
    rw [evsOf_app A B, List.append_assoc, text_cons, List.length_append]
    rw [show f + (p.2.length : Int) + ((textOf A).length : Int) = f + ((p.2.length + (textOf A).length : Nat) : Int) by omega]
/-- the walk over whole parts -/
theorem parts_path : ∀ (B A R : List Part), (∀ p ∈ A ++ B ++ R, PartOk p) → (A ++ B ++ R).length ≤ 500 → ∃ n, n ≤ 8 * B.length ∧
    Path (textOf (A ++ B ++ R)) (1 + ((textOf (A ++ B)).length : Int)) (1 + ((textOf (A ++ B)).length : Int)) n (1 + ((textOf A).length : Int)) .plain (evsOf B (1 + ((textOf A).length : Int))) (1 + ((textOf (A ++ B)).length : Int)) .plain
  | [], A, R, h, hz => ⟨0, Nat.le_refl _, by rw [List.append_nil]; exact .nil⟩
  | p :: B, A, R, h, hz => by
    have hp : PartOk p := h p (by simp)
    obtain ⟨n, hn, hr⟩ := part_run hp
    have hA := agree_part A (B ++ R) p
    rw [show A ++ p :: (B ++ R) = A ++ p :: B ++ R by simp] at hA
    have hl := text_len h
    have hs : (textOf (A ++ p :: B ++ R)).length = (textOf A).length + (p.2.length + ((textOf B).length + (textOf R).length)) := by
      rw [show A ++ p :: B ++ R = A ++ p :: (B ++ R) by simp, text_app, text_cons, text_app, List.length_append, List.length_append, List.length_append]
    have P1 := run_path hA (by omega) hr
    obtain ⟨m, hm, P2⟩ := parts_path B (A ++ [p]) R (by simpa using h) (by simpa using hz)
    rw [show A ++ [p] ++ B = A ++ p :: B by simp] at P2
    have e : (textOf (A ++ [p])).length = (textOf A).length + p.2.length := by rw [text_app, List.length_append]; simp [textOf]
    have e2 : (textOf (A ++ p :: B)).length = (textOf A).length + (p.2.length + (textOf B).length) := by rw [text_app, text_cons, List.length_append, List.length_append]
    refine ⟨n + m, by rw [List.length_cons]; omega, ?_⟩
    rw [e] at P2
    rw [show 1 + (((textOf A).length + p.2.length : Nat) : Int) = 1 + (p.2.length : Int) + ((textOf A).length : Int) by omega] at P2
    have := P1.append (q := 1 + ((textOf (A ++ p :: B)).length : Int)) (L := 1 + ((textOf (A ++ p :: B)).length : Int)) (by omega) (by omega) P2
    have ee : evsOf (p :: B) (1 + ((textOf A).length : Int)) = (if p.1 = 0 then [(1 + (p.2.length : Int), (1 : Int))] else []).map (fun e => (e.1 + ((textOf A).length : Int), e.2 + ((textOf A).length : Int))) ++ evsOf B (1 + (p.2.length : Int) + ((textOf A).length : Int)) := by
      show (if p.1 = 0 then [(1 + ((textOf A).length : Int) + (p.2.length : Int), 1 + ((textOf A).length : Int))] else []) ++ evsOf B (1 + ((textOf A).length : Int) + (p.2.length : Int)) = _
      rw [show 1 + ((textOf A).length : Int) + (p.2.length : Int) = 1 + (p.2.length : Int) + ((textOf A).length : Int) by omega]
      split <;> rfl
    rw [ee]
    exact this
theorem border_path (A R : List Part) (h : ∀ p ∈ A ++ R, PartOk p) (hz : (A ++ R).length ≤ 500) : ∃ n, n ≤ 8 * A.length ∧
    Path (textOf (A ++ R)) (1 + ((textOf A).length : Int)) (1 + ((textOf A).length : Int)) n 1 .plain (evsOf A 1) (1 + ((textOf A).length : Int)) .plain := by
  have := parts_path A [] R (by simpa using h) (by simpa using hz)
  simpa [textOf] using this
theorem border_reach (A R : List Part) (h : ∀ p ∈ A ++ R, PartOk p) (hz : (A ++ R).length ≤ 500) {lim : Int} (hl : 1 + ((textOf A).length : Int) ≤ lim) : ∃ n,
    Reach (textOf (A ++ R)) (1 + ((textOf A).length : Int)) lim n 1 .plain (1 + ((textOf A).length : Int)) .plain := by
  obtain ⟨n, _, P⟩ := border_path A R h hz
  exact ⟨_, P.reach (Int.le_refl _) hl (.nil (Int.le_refl _))⟩
theorem border_spans (A R : List Part) (h : ∀ p ∈ A ++ R, PartOk p) (hz : (A ++ R).length ≤ 200) : ∃ n, n ≤ 2000 ∧
    Spans (textOf (A ++ R)) (1 + ((textOf A).length : Int)) n 1 .plain (evsOf A 1) := by
  obtain ⟨n, hn, P⟩ := border_path A R h (by omega)
  have := P.spans (Int.le_refl _) (by rw [text_app, List.length_append]; omega) (.nil (Int.le_refl _))
  rw [List.append_nil] at this
  exact ⟨_, by rw [List.length_append] at hz; omega, this⟩
theorem len_mid (A R : List Part) (p : Part) : (textOf (A ++ p :: R)).length = (textOf A).length + (p.2.length + (textOf R).length) := by rw [text_app, text_cons, List.length_append, List.length_append]
/-- a comment where it stands -/
theorem com_at (A R : List Part) (p : Part) (h : ∀ q ∈ A ++ p :: R, PartOk q) (hz : (A ++ p :: R).length ≤ 500) (h0 : p.1 = 0) : ∃ b n, bmk (textOf (A ++ p :: R)) (1 + ((textOf A).length : Int)) = some b ∧
    isBl (codeAt (textOf (A ++ p :: R)) (1 + ((textOf A).length : Int))) = false ∧ Legal (textOf (A ++ p :: R)) (1 + ((textOf A).length : Int)) .plain ∧ 1 + ((textOf A).length : Int) + 2 ≤ 1 + ((textOf (A ++ p :: R)).length : Int) ∧
    ComTo (textOf (A ++ p :: R)) n (1 + ((textOf A).length : Int) + 2) (.com b (1 + ((textOf A).length : Int))) (1 + ((textOf A).length : Int) + (p.2.length : Int)) ∧
    ∀ dd : Int, 0 ≤ dd → dd < 2 → (∃ m, Reach (textOf (A ++ p :: R)) (1 + ((textOf A).length : Int) + 2 + dd) (1 + ((textOf (A ++ p :: R)).length : Int)) m 1 .plain (1 + ((textOf A).length : Int) + 2 + dd) (.com b (1 + ((textOf A).length : Int)))) ∨
      (p.2.length ≤ 4 ∧ ∃ m q, Reach (textOf (A ++ p :: R)) (1 + ((textOf A).length : Int) + 2 + dd) (1 + ((textOf (A ++ p :: R)).length : Int)) m 1 .plain q .plain) := by
  have hp : p.2 ∈ coms := by
    rcases h p (by simp) with ⟨_, h⟩ | ⟨e, _⟩ | ⟨e, _⟩
    · exact h
    · omega
    · omega
  have hA := agree_part A R p
  have hlen := len_mid A R p
  have hz' := text_len h
  have hbp := border_path A (p :: R) h hz
  generalize hcs : textOf (A ++ p :: R) = cs at *
  generalize hd : ((textOf A).length : Int) = d at *
  have hd0 : 0 ≤ d := by omega
  generalize p.2 = x at *
  have hco : ∃ b, comOk b x = true := by
    have := (Bool.and_eq_true_iff.mp (List.all_eq_true.mp all_coms _ hp)).2
    rcases Bool.or_eq_true_iff.mp this with h | h
    · exact ⟨_, h⟩
    · exact ⟨_, h⟩
  obtain ⟨b, hco⟩ := hco
  unfold comOk at hco
  simp only [Bool.and_eq_true, decide_eq_true_eq, beq_iff_eq, Bool.not_eq_true'] at hco
  obtain ⟨⟨⟨⟨⟨⟨c1, c2⟩, c3⟩, c4⟩, c5⟩, c6⟩, c7⟩ := hco
  obtain ⟨k1, k2, k3, k4, k5, k6, k7⟩ := chk_of c2
  obtain ⟨n, _, hn⟩ := List.any_eq_true.mp c4
  have q1 : bmk cs (1 + d) = some b := by rw [bmk_sh hA k1 k2 k6]; exact c1
  have q2 : isBl (codeAt cs (1 + d)) = false := by rw [hA 1 k1 k2]; exact c7
  have q3 : Legal cs (1 + d) .plain := Legal.sh (mo := .plain) hA k1 k2 (by omega) k4 k5
  have q4 := runC_to (d := d) (cs := cs) hA (by omega) (by omega) hn
  refine ⟨b, n, q1, q2, q3, by omega, ?_, ?_⟩
  · rw [show 1 + d + 2 = 3 + d by omega, show 1 + d + (x.length : Int) = 1 + (x.length : Int) + d by omega]
    exact q4
  · obtain ⟨m, _, hP⟩ := hbp
    have key : ∀ (q : Int), (List.range 9).any (fun n => inOk x q b (run x q n 1 .plain)) = true → 1 ≤ q → (∃ m, Reach cs (q + d) (1 + (cs.length : Int)) m 1 .plain (q + d) (.com b (1 + d))) ∨ (x.length ≤ 4 ∧ ∃ m q', Reach cs (q + d) (1 + (cs.length : Int)) m 1 .plain q' .plain) := by
      intro q hq hq1
      obtain ⟨n, _, hn⟩ := List.any_eq_true.mp hq
      cases e : run x q n 1 .plain with
      | none => rw [e] at hn; cases hn
      | some r =>
        obtain ⟨p', mo, es⟩ := r
        rw [e] at hn
        have P2 := run_path hA (by omega) e
        simp only [inOk, Bool.or_eq_true, Bool.and_eq_true, decide_eq_true_eq] at hn
        rcases hn with ⟨h1, h2⟩ | ⟨⟨h1, h2⟩, h3⟩
        · left
          have h2 := isCo_of h2
          subst h1
          subst h2
          exact ⟨_, hP.reach (by omega) (by omega) (P2.reach (L := 1 + (cs.length : Int)) (Int.le_refl _) (by omega) (.nil (Int.le_refl _)))⟩
        · right
          have h2 := isPl_of h2
          subst h2
          exact ⟨by omega, _, _, hP.reach (by omega) (by omega) (P2.reach (L := 1 + (cs.length : Int)) (Int.le_refl _) (by omega) (.nil (by omega)))⟩
    intro dd hd1 hd2
    have hdd : dd = 0 ∨ dd = 1 := by omega
    rcases hdd with rfl | rfl
    · have := key 3 c5 (by omega)
      rw [show (3 : Int) + d = 1 + d + 2 + 0 by omega] at this
      exact this
    · have := key 4 c6 (by omega)
      rw [show (4 : Int) + d = 1 + d + 2 + 1 by omega] at this
      exact this
theorem blk_at (A R : List Part) (p : Part) (h : PartOk p) (h0 : p.1 = 1) : ∀ i : Int, 1 + ((textOf A).length : Int) ≤ i → i < 1 + ((textOf A).length : Int) + (p.2.length : Int) → isBl (codeAt (textOf (A ++ p :: R)) i) = true := by
  have hp : p.2 ∈ blks := by
    rcases h with ⟨e, _⟩ | ⟨_, h⟩ | ⟨e, _⟩
    · omega
    · exact h
    · omega
  intro i h1 h2
  have := (Bool.and_eq_true_iff.mp (List.all_eq_true.mp all_blks _ hp)).2
  have := List.all_eq_true.mp this (i - ((textOf A).length : Int) - 1).toNat (List.mem_range.mpr (by omega))
  have hA := agree_part A R p (i - ((textOf A).length : Int)) (by omega) (by omega)
  rw [show i - ((textOf A).length : Int) + ((textOf A).length : Int) = i by omega] at hA
  rw [hA]
  rw [show (1 : Int) + (((i - ((textOf A).length : Int) - 1).toNat : Nat) : Int) = i - ((textOf A).length : Int) by omega] at this
  exact this
theorem oth_at (A R : List Part) (p : Part) (h : PartOk p) (h0 : p.1 ≠ 0) (h1 : p.1 ≠ 1) : isBl (codeAt (textOf (A ++ p :: R)) (1 + ((textOf A).length : Int))) = false ∧ bmk (textOf (A ++ p :: R)) (1 + ((textOf A).length : Int)) = none ∧
    isBl (codeAt (textOf (A ++ p :: R)) (((textOf A).length : Int) + (p.2.length : Int))) = false := by
  have hl := part_len h
  have hp : p.2 ∈ oths := by
    rcases h with ⟨e, _⟩ | ⟨e, _⟩ | ⟨_, h⟩
    · omega
    · omega
    · exact h
  have hA := agree_part A R p
  have := (Bool.and_eq_true_iff.mp (List.all_eq_true.mp all_oths _ hp)).2
  unfold othOk at this
  simp only [Bool.and_eq_true, decide_eq_true_eq, beq_iff_eq, Bool.not_eq_true'] at this
  obtain ⟨⟨⟨a, b⟩, c⟩, d⟩ := this
  have e1 := hA 1 (by omega) (by omega)
  have e2 := hA (p.2.length : Int) (by omega) (by omega)
  rw [e1]
  refine ⟨a, ?_, ?_⟩
  · unfold bmk; rw [e1, if_neg d]
  · rw [show ((textOf A).length : Int) + (p.2.length : Int) = (p.2.length : Int) + ((textOf A).length : Int) by omega, e2]; exact c
theorem lawF_zero (en : Int) : ∀ (l : List (Nat × Int × Int)) (a : Int), lawF l a en 0 = (a, true)
  | [], a => rfl
  | (s, f, b) :: r, a => by
    unfold lawF
    rw [if_neg (fun q => by omega)]; exact lawF_zero en r a
theorem lawB_zero (en : Int) : ∀ (l : List (Nat × Int × Int)) (a : Int), lawB l a en 0 = (a, true)
  | [], a => rfl
  | (s, f, b) :: r, a => by
    unfold lawB
    rw [if_neg (fun q => by omega)]; exact lawB_zero en r a
theorem codeAt_end (cs : List Int) : codeAt cs (1 + (cs.length : Int)) = -1 := by
  unfold codeAt; rw [if_neg (by omega)]
theorem fwd_parts : ∀ (B A : List Part) (a : Int) (k : Nat), (∀ p ∈ A ++ B, PartOk p) → (A ++ B).length ≤ 500 → 1 ≤ a → a ≤ 1 + ((textOf A).length : Int) →
    (∀ i, a ≤ i → i < 1 + ((textOf A).length : Int) → isBl (codeAt (textOf (A ++ B)) i) = true) →
    FwdTo (textOf (A ++ B)) a k (lawF (piecesOf B (1 + ((textOf A).length : Int))) a (1 + ((textOf (A ++ B)).length : Int)) (k : Int)).1 (lawF (piecesOf B (1 + ((textOf A).length : Int))) a (1 + ((textOf (A ++ B)).length : Int)) (k : Int)).2
  | B, A, a, 0, h, hz, h1, h2, hb => by
    show FwdTo _ a 0 (lawF _ _ _ 0).1 (lawF _ _ _ 0).2
    rw [lawF_zero]; exact .done
  | [], A, a, k + 1, h, hz, h1, h2, hb => by
    show FwdTo _ a (k + 1) (if ((k + 1 : Nat) : Int) = 0 then (a, true) else (_, false)).1 (if ((k + 1 : Nat) : Int) = 0 then (a, true) else (_, false)).2
    rw [if_neg (by omega)]
    rw [List.append_nil] at *
    refine .stop (by omega) (.stop h2 hb ?_ ?_)
    · rw [codeAt_end]; rfl
    · unfold bmk; rw [codeAt_end, if_neg (by omega)]
  | p :: B, A, a, k + 1, h, hz, h1, h2, hb => by
    have hp : PartOk p := h p (by simp)
    have hpl := part_len hp
    have e1 : ((textOf (A ++ [p])).length : Int) = ((textOf A).length : Int) + (p.2.length : Int) := by rw [len_mid]; simp [textOf]
    have eAB : A ++ [p] ++ B = A ++ p :: B := by simp
    show FwdTo _ a (k + 1) (lawF ((p.1, _, _) :: piecesOf B _) a _ ((k + 1 : Nat) : Int)).1 (lawF ((p.1, _, _) :: piecesOf B _) a _ ((k + 1 : Nat) : Int)).2
    unfold lawF
    rw [if_pos ⟨h2, by omega⟩]
    by_cases s0 : p.1 = 0
    · rw [if_pos s0]
      obtain ⟨b, n, q1, q2, q3, q4, q5, _⟩ := com_at A B p h hz s0
      refine .go (by omega) (.com h2 hb q2 q1 q3 q4 q5) ?_
      have ih := fwd_parts B (A ++ [p]) (1 + ((textOf A).length : Int) + (p.2.length : Int)) k (by rw [eAB]; exact h) (by rw [eAB]; exact hz) (by omega) (by omega) (fun i z1 z2 => by omega)
      rw [eAB, e1, show (1 : Int) + (((textOf A).length : Int) + (p.2.length : Int)) = 1 + ((textOf A).length : Int) + (p.2.length : Int) by omega] at ih
      rw [show ((k + 1 : Nat) : Int) - 1 = (k : Int) by omega]
      exact ih
    · rw [if_neg s0]
      by_cases s1 : p.1 = 1
      · rw [if_pos s1]
        have hbl := blk_at A B p hp s1
        have ih := fwd_parts B (A ++ [p]) a (k + 1) (by rw [eAB]; exact h) (by rw [eAB]; exact hz) h1 (by omega) (fun i z1 z2 => by
          rw [eAB]
          by_cases z : i < 1 + ((textOf A).length : Int)
          · exact hb i z1 z
          · exact hbl i (by omega) (by omega))
        rw [eAB, e1, show (1 : Int) + (((textOf A).length : Int) + (p.2.length : Int)) = 1 + ((textOf A).length : Int) + (p.2.length : Int) by omega] at ih
        exact ih
      · rw [if_neg s1]
        obtain ⟨g1, g2, _⟩ := oth_at A B p hp s0 s1
        exact .stop (by omega) (.stop h2 hb g1 g2)
theorem lawF_skip (en k a : Int) (B : List Part) : ∀ (A : List Part) (f : Int), (∀ p ∈ A, PartOk p) → f + ((textOf A).length : Int) ≤ a → lawF (piecesOf (A ++ B) f) a en k = lawF (piecesOf B (f + ((textOf A).length : Int))) a en k
  | [], f, h, hl => by simp [textOf]
  | p :: A, f, h, hl => by
    have := (part_len (h p (.head _))).1
    rw [text_cons, List.length_append] at *
    show lawF ((p.1, f, _) :: piecesOf (A ++ B) _) a en k = _
    rw [lawF, if_neg (fun q => by omega), lawF_skip en k a B A (f + (p.2.length : Int)) (fun q hq => h q (.tail _ hq)) (by omega)]
    rw [show f + (p.2.length : Int) + ((textOf A).length : Int) = f + ((p.2.length + (textOf A).length : Nat) : Int) by omega]
/-- forward, from a border -/
theorem fwd_law (A B : List Part) (k : Nat) (h : ∀ p ∈ A ++ B, PartOk p) (hz : (A ++ B).length ≤ 500) :
    FwdTo (textOf (A ++ B)) (1 + ((textOf A).length : Int)) k (lawF (piecesOf (A ++ B) 1) (1 + ((textOf A).length : Int)) (1 + ((textOf (A ++ B)).length : Int)) (k : Int)).1 (lawF (piecesOf (A ++ B) 1) (1 + ((textOf A).length : Int)) (1 + ((textOf (A ++ B)).length : Int)) (k : Int)).2 := by
  rw [lawF_skip _ _ _ B A 1 (fun p hp => h p (List.mem_append_left _ hp)) (Int.le_refl _)]
  exact fwd_parts B A _ k h hz (by omega) (Int.le_refl _) (fun i z1 z2 => by omega)
theorem pieces_snoc' (p : Part) : ∀ (ps : List Part) (f : Int), piecesOf (ps ++ [p]) f = piecesOf ps f ++ [(p.1, f + ((textOf ps).length : Int), f + ((textOf ps).length : Int) + (p.2.length : Int))]
  | [], f => by simp [piecesOf, textOf]
  | q :: r, f => by
    rw [List.cons_append]
    show _ :: piecesOf (r ++ [p]) _ = _ :: (piecesOf r _ ++ _)
    rw [pieces_snoc' p r]
    have e : ((textOf (q :: r)).length : Int) = (q.2.length : Int) + ((textOf r).length : Int) := by
      show (((q.2 ++ textOf r).length : Nat) : Int) = _
      rw [List.length_append]; omega
    rw [e, Int.add_assoc f]
theorem ev_fold (k : Int) : ∀ (r : List (Int × Int)) (o : Option Int), r.foldl (fun o e => if k = e.1 then some e.2 else o) o = (evAt r k).or o
  | [], o => rfl
  | e :: r, o => by
    show r.foldl _ (if k = e.1 then some e.2 else o) = (r.foldl _ (if k = e.1 then some e.2 else none)).or o
    rw [ev_fold k r, ev_fold k r (if k = e.1 then some e.2 else none)]
    by_cases h : k = e.1
    · rw [if_pos h, if_pos h]; cases evAt r k <;> rfl
    · rw [if_neg h, if_neg h]; cases evAt r k <;> rfl
theorem evAt_append (l r : List (Int × Int)) (k : Int) : evAt (l ++ r) k = (evAt r k).or (evAt l k) := by
  rw [← ev_fold k r]; unfold evAt; rw [List.foldl_append]
theorem evAt_none {k : Int} : ∀ {l : List (Int × Int)}, (∀ e ∈ l, e.1 ≠ k) → evAt l k = none
  | [], _ => rfl
  | e :: r, h => by
    show r.foldl _ (if k = e.1 then some e.2 else none) = none
    rw [if_neg (fun q => h e (.head _) q.symm)]
    exact evAt_none fun e he => h e (.tail _ he)
theorem evsOf_mem : ∀ {R : List Part} {f : Int}, (∀ p ∈ R, PartOk p) → ∀ e ∈ evsOf R f, f < e.1 ∧ e.1 ≤ f + ((textOf R).length : Int)
  | [], f, h, e, he => by cases he
  | p :: R, f, h, e, he => by
    have := (part_len (h p (.head _))).1
    rw [text_cons, List.length_append]
    rcases List.mem_append.mp he with he | he
    · split at he
      · rw [List.mem_singleton.mp he]; dsimp only; omega
      · cases he
    · have := evsOf_mem (fun q hq => h q (.tail _ hq)) e he
      omega
theorem ev_in (A R : List Part) (p : Part) (h : ∀ q ∈ A ++ p :: R, PartOk q) {i : Int} (h1 : 1 + ((textOf A).length : Int) < i) (h2 : i ≤ 1 + ((textOf A).length : Int) + (p.2.length : Int)) :
    evAt (evsOf (A ++ p :: R) 1) i = if p.1 = 0 ∧ i = 1 + ((textOf A).length : Int) + (p.2.length : Int) then some (1 + ((textOf A).length : Int)) else none := by
  rw [evsOf_app, evAt_append]
  show (evAt ((if p.1 = 0 then [(1 + ((textOf A).length : Int) + (p.2.length : Int), 1 + ((textOf A).length : Int))] else []) ++ evsOf R _) i).or _ = _
  rw [evAt_append, evAt_none (l := evsOf R _) (fun e he => by
    have := evsOf_mem (fun q hq => h q (by simp [hq])) e he
    omega), evAt_none (l := evsOf A 1) (fun e he => by
    have := evsOf_mem (fun q hq => h q (by simp [hq])) e he
    omega)]
  by_cases s0 : p.1 = 0
  · rw [if_pos s0]
    show (Option.or none (if i = _ then some _ else none)).or none = _
    by_cases e : i = 1 + ((textOf A).length : Int) + (p.2.length : Int)
    · rw [if_pos e, if_pos ⟨s0, e⟩]; rfl
    · rw [if_neg e, if_neg (fun q => e q.2)]; rfl
  · rw [if_neg s0, if_neg (fun q => s0 q.1)]; rfl
theorem ev_one (A : List Part) (h : ∀ q ∈ A, PartOk q) : evAt (evsOf A 1) 1 = none := evAt_none fun e he => by
  have := evsOf_mem h e he
  omega
theorem bck_parts (cs : List Int) (evs : List (Int × Int)) (R : List Part) : ∀ (n : Nat) (A R0 : List Part) (a : Int) (k : Nat), A.length = n → (∀ p ∈ A ++ R0 ++ R, PartOk p) → (A ++ R0 ++ R).length ≤ 500 → cs = textOf (A ++ R0 ++ R) → evs = evsOf (A ++ R0) 1 →
    1 + ((textOf A).length : Int) ≤ a → (∀ i, 1 + ((textOf A).length : Int) < i → i ≤ a → evAt evs i = none ∧ 1 < i ∧ isBl (codeAt cs (i - 1)) = true) →
    BckTo cs evs a k (lawB (piecesOf A 1).reverse a 1 (k : Int)).1 (lawB (piecesOf A 1).reverse a 1 (k : Int)).2
  | n, A, R0, a, 0, hn, h, hz, hcs, hev, h1, hb => by
    show BckTo _ _ a 0 (lawB _ _ _ 0).1 (lawB _ _ _ 0).2
    rw [lawB_zero]; exact .done
  | 0, A, R0, a, k + 1, hn, h, hz, hcs, hev, h1, hb => by
      obtain rfl := List.length_eq_zero_iff.mp hn
      show BckTo _ _ a (k + 1) (if ((k + 1 : Nat) : Int) = 0 then (a, true) else ((1 : Int), false)).1 (if ((k + 1 : Nat) : Int) = 0 then (a, true) else ((1 : Int), false)).2
      rw [if_neg (by omega)]
      have e0 : ((textOf []).length : Int) = 0 := rfl
      rw [e0] at h1 hb
      refine .stop (.stop h1 hb ?_ (.inl (Int.le_refl _)))
      rw [hev]
      exact ev_one _ fun q hq => h q (List.mem_append_left _ hq)
  | n + 1, A, R0, a, k + 1, hn, h, hz, hcs, hev, h1, hb => by
    rcases List.eq_nil_or_concat A with rfl | ⟨A', p, rfl⟩
    · cases hn
    · rw [List.concat_eq_append] at hn h hz hcs hev h1 hb ⊢
      have hp : PartOk p := h p (by simp)
      have hpl := part_len hp
      have e1 : ((textOf (A' ++ [p])).length : Int) = ((textOf A').length : Int) + (p.2.length : Int) := by rw [len_mid]; simp [textOf]
      have eA : A' ++ [p] ++ R0 = A' ++ p :: R0 := by simp
      have eAR : A' ++ p :: R0 ++ R = A' ++ p :: (R0 ++ R) := by simp
      rw [eA] at h hz hcs hev
      have hevin := fun i => @ev_in A' R0 p (fun q hq => h q (List.mem_append_left _ hq)) i
      have hn' : A'.length = n := by rw [List.length_append] at hn; exact Nat.succ.inj hn
      rw [e1] at h1 hb
      rw [pieces_snoc', List.reverse_append]
      show BckTo _ _ a (k + 1) (lawB ((p.1, _, _) :: (piecesOf A' 1).reverse) a _ ((k + 1 : Nat) : Int)).1 (lawB ((p.1, _, _) :: (piecesOf A' 1).reverse) a _ ((k + 1 : Nat) : Int)).2
      unfold lawB
      rw [if_pos ⟨by omega, by omega⟩]
      by_cases s0 : p.1 = 0
      · rw [if_pos s0]
        have hv : evAt evs (1 + (((textOf A').length : Int) + (p.2.length : Int))) = some (1 + ((textOf A').length : Int)) := by
          rw [hev, hevin _ (by omega) (by omega), if_pos ⟨s0, by omega⟩]
        refine .go (.com h1 hb hv) ?_
        rw [show ((k + 1 : Nat) : Int) - 1 = (k : Int) by omega]
        exact bck_parts cs evs R n A' (p :: R0) (1 + ((textOf A').length : Int)) k hn' h hz hcs hev (Int.le_refl _) (fun i z1 z2 => by omega)
      · rw [if_neg s0]
        by_cases s1 : p.1 = 1
        · rw [if_pos s1]
          have hbl := blk_at A' (R0 ++ R) p hp s1
          rw [← eAR, ← hcs] at hbl
          refine bck_parts cs evs R n A' (p :: R0) a (k + 1) hn' h hz hcs hev (by omega) (fun i z1 z2 => ?_)
          by_cases z : i ≤ 1 + (((textOf A').length : Int) + (p.2.length : Int))
          · refine ⟨?_, by omega, hbl (i - 1) (by omega) (by omega)⟩
            rw [hev, hevin _ (by omega) (by omega), if_neg (fun q => s0 q.1)]
          · exact hb i (by omega) z2
        · rw [if_neg s1]
          obtain ⟨_, _, g3⟩ := oth_at A' (R0 ++ R) p hp s0 s1
          rw [← eAR, ← hcs] at g3
          have hst : BackTo cs evs a (1 + (((textOf A').length : Int) + (p.2.length : Int))) false := .stop h1 hb (by rw [hev, hevin _ (by omega) (by omega), if_neg (fun q => s0 q.1)]) (.inr (by
            rw [show 1 + (((textOf A').length : Int) + (p.2.length : Int)) - 1 = ((textOf A').length : Int) + (p.2.length : Int) by omega]; exact g3))
          rw [show 1 + (((textOf A').length : Int) + (p.2.length : Int)) = 1 + ((textOf A').length : Int) + (p.2.length : Int) by omega] at hst
          exact .stop hst
theorem lawB_skip (en k a : Int) (r : List (Nat × Int × Int)) : ∀ (l : List (Nat × Int × Int)), (∀ q ∈ l, a < q.2.2) → lawB (l ++ r) a en k = lawB r a en k
  | [], _ => rfl
  | (s, f, b) :: l, h => by
    have : a < b := h _ (.head _)
    rw [List.cons_append, lawB, if_neg (fun q => by omega)]
    exact lawB_skip en k a r l fun q hq => h q (.tail _ hq)
theorem pieces_app : ∀ (A B : List Part) (f : Int), piecesOf (A ++ B) f = piecesOf A f ++ piecesOf B (f + ((textOf A).length : Int))
  | [], B, f => by simp [piecesOf, textOf]
  | p :: A, B, f => by
    rw [List.cons_append]
    show _ :: piecesOf (A ++ B) _ = _ :: (piecesOf A _ ++ _)
    rw [pieces_app A B, text_cons, List.length_append]
    rw [show f + (p.2.length : Int) + ((textOf A).length : Int) = f + ((p.2.length + (textOf A).length : Nat) : Int) by omega]
theorem pieces_mem : ∀ {R : List Part} {f : Int}, (∀ p ∈ R, PartOk p) → ∀ q ∈ piecesOf R f, f < q.2.2
  | [], f, h, q, hq => by cases hq
  | p :: R, f, h, q, hq => by
    have := (part_len (h p (.head _))).1
    rcases List.mem_cons.mp hq with rfl | hq
    · dsimp only; omega
    · have := pieces_mem (fun q hq => h q (.tail _ hq)) q hq
      omega
/-- backward, from a border -/
theorem bck_law (A B : List Part) (k : Nat) (h : ∀ p ∈ A ++ B, PartOk p) (hz : (A ++ B).length ≤ 500) :
    BckTo (textOf (A ++ B)) (evsOf A 1) (1 + ((textOf A).length : Int)) k (lawB (piecesOf (A ++ B) 1).reverse (1 + ((textOf A).length : Int)) 1 (k : Int)).1 (lawB (piecesOf (A ++ B) 1).reverse (1 + ((textOf A).length : Int)) 1 (k : Int)).2 := by
  rw [pieces_app, List.reverse_append, lawB_skip _ _ _ _ _ (fun q hq => pieces_mem (fun p hp => h p (List.mem_append_right _ hp)) q (List.mem_reverse.mp hq))]
  exact bck_parts _ _ B A.length A [] _ k rfl (by simpa using h) (by simpa using hz) (by simp) (by simp) (Int.le_refl _) (fun i z1 z2 => by omega)
end
section
theorem tup_det {prog : Program} {w : World} {K : Frag} {c : Cx prog w K} {h : Heap} {fv : FV} {led : Led} {a : Addr} {xs ys : List Value} (S : St c h fv led) (m1 : (a, SO.tup xs) ∈ led) (m2 : (a, SO.tup ys) ∈ led) : xs = ys := by
  obtain ⟨o1, e1, _, n1, d1⟩ := S.isTup m1
  obtain ⟨o2, e2, _, n2, d2⟩ := S.isTup m2
  rw [e1] at e2
  cases e2
  rw [d1] at d2
  have d2 := (Data.seq.inj d2).1
  simpa using congrArg Array.toList d2
theorem PcsAre.monoT {T T' : Led} (hs : ∀ a vs, (a, SO.tup vs) ∈ T → (a, SO.tup vs) ∈ T') : ∀ {vs ps}, PcsAre T vs ps → PcsAre T' vs ps
  | _, _, .nil => .nil
  | _, _, .cons h r => .cons (hs _ _ h) (r.monoT hs)
theorem IsTab.monoT {T T' : Led} {t : Addr} (h : IsTab T t) (h1 : ∀ a C f, (a, SO.inst C f) ∈ T → (a, SO.inst C f) ∈ T') (h2 : ∀ a k, (a, SO.dct k) ∈ T → (a, SO.dct k) ∈ T') : IsTab T' t := by
  obtain ⟨p, r, r2, kvs, kvs2, a1, a2, a3, a4, H⟩ := h
  refine ⟨p, r, r2, kvs, kvs2, h1 _ _ _ a1, h2 _ _ a2, h1 _ _ _ a3, h2 _ _ a4, fun c hc => ?_⟩
  obtain ⟨s, ⟨tk, mt, tf, hs⟩, hv⟩ := H c hc
  exact ⟨s, ⟨tk, mt, tf, h1 _ _ _ hs⟩, hv⟩
theorem IsView.monoM {T T' : Led} {v : Addr} {cs : List Int} (h : IsView T v cs) (hs : ∀ e, e ∈ T → e ∈ T') : IsView T' v cs := by
  obtain ⟨l, vals, t, a1, a2, a3⟩ := h
  exact ⟨l, vals, t, hs _ a1, hs _ a2, a3⟩
theorem IsTab.monoM {T T' : Led} {t : Addr} (h : IsTab T t) (hs : ∀ e, e ∈ T → e ∈ T') : IsTab T' t := h.monoT (fun _ _ _ => hs _) (fun _ _ => hs _)
/-- the third place of a piece -/
def Third (T : Led) (v y : Value) : Prop := ∀ a s f b ts tf tb, v = Value.ref a → (a, SO.tup [.str s ts, .int f tf, .int b tb]) ∈ T → ∃ t, y = Value.int b t
theorem thirds {T : Led} {vs ys : List Value} (hP : Paired (Third T) vs ys) : ∀ {ps : List (Nat × Int × Int)}, PcsAre T vs ps → IntsAre ys (ps.map (·.2.2)) := by
  induction hP with
  | nil => intro ps q; cases q; exact .nil
  | cons h r ih =>
    intro ps q
    cases q with
    | cons m q =>
      obtain ⟨t, rfl⟩ := h _ _ _ _ _ _ _ rfl m
      exact .cons _ t (ih q)
theorem borders : ∀ (ps : List Part) (f : Int) (i : Nat) (k : Int), (f :: (piecesOf ps f).map (·.2.2))[i]? = some k → ∃ A B, ps = A ++ B ∧ k = f + ((textOf A).length : Int)
  | ps, f, 0, k, h => by
    cases h
    exact ⟨[], ps, rfl, by simp [textOf]⟩
  | [], f, i + 1, k, h => by cases h
  | p :: r, f, i + 1, k, h => by
    obtain ⟨A, B, e, hk⟩ := borders r (f + (p.2.length : Int)) i k h
    refine ⟨p :: A, B, by rw [e]; rfl, ?_⟩
    rw [hk, text_cons, List.length_append]; omega
theorem piece_at : ∀ (ps : List Part) (f : Int) (i : Nat) (q : Nat × Int × Int), (piecesOf ps f)[i]? = some q → ∃ A p B, ps = A ++ p :: B ∧ q = (p.1, f + ((textOf A).length : Int), f + ((textOf A).length : Int) + (p.2.length : Int))
  | [], f, i, q, h => by cases h
  | p :: r, f, 0, q, h => by
    cases h
    exact ⟨[], p, r, rfl, by simp [textOf]⟩
  | p :: r, f, i + 1, q, h => by
    obtain ⟨A, p', B, e, hk⟩ := piece_at r (f + (p.2.length : Int)) i q h
    refine ⟨p :: A, p', B, by rw [e]; rfl, ?_⟩
    rw [hk, text_cons, List.length_append, show f + (p.2.length : Int) + ((textOf A).length : Int) = f + ((p.2.length + (textOf A).length : Nat) : Int) by omega]
section
variable {prog : Program} {w : World} {K : Frag} {c : Cx prog w K} {fv : FV} {led : Led} {Q : Value → FV → Led → Prop} {a b : Addr} {n : Nat} {p q : Int} {x : Bool} {t1 t2 t3 t4 : Tok}
theorem cmp_neT (hr : Room c.A n) (h1 : (a, SO.tup [.int p t1, .bool x]) ∈ led) (h2 : (b, SO.tup [.int p t2, .bool x]) ∈ led) (h : Q (.bool false) fv led) : EV c (compareOp .NotEq (.ref a) (.ref b)) Q fv led :=
  cmp_neD (dx := .tuple [.int p, .bool x]) (dy := .tuple [.int p, .bool x]) hr (Rd.tup h1 fun _ => .cons (as := []) (.int _ _) (.cons (as := []) (.bool _) .nil)) (Rd.tup h2 fun _ => .cons (as := []) (.int _ _) (.cons (as := []) (.bool _) .nil)) rfl rfl rfl (by
    rw [Spec.same_self]; exact h)
theorem cmp_neP (hr : Room c.A n) (h1 : (a, SO.tup [.int p t1, .int q t3]) ∈ led) (h2 : (b, SO.tup [.int p t2, .int q t4]) ∈ led) (h : Q (.bool false) fv led) : EV c (compareOp .NotEq (.ref a) (.ref b)) Q fv led :=
  cmp_neD (dx := .tuple [.int p, .int q]) (dy := .tuple [.int p, .int q]) hr (Rd.tup h1 fun _ => .cons (as := []) (.int _ _) (.cons (as := []) (.int _ _) .nil)) (Rd.tup h2 fun _ => .cons (as := []) (.int _ _) (.cons (as := []) (.int _ _) .nil)) rfl rfl rfl (by
    rw [Spec.same_self]; exact h)
theorem cmp_neN (hr : Room c.A n) (h2 : (b, SO.tup [.int p t2, .int q t4]) ∈ led) (h : Q (.bool true) fv led) : EV c (compareOp .NotEq .none (.ref b)) Q fv led :=
  cmp_neD (dx := .none) (dy := .tuple [.int p, .int q]) hr Rd.none (Rd.tup h2 fun _ => .cons (as := []) (.int _ _) (.cons (as := []) (.int _ _) .nil)) rfl rfl rfl h
end
section
variable {w : World} {v t : Addr} {led : Led} {ps A B : List Part} {u u2 : Tok} {i : Int}
theorem law_fwd (k : Nat) (hV : IsView led v (textOf ps)) (hT : IsTab led t) (ho : ∀ p ∈ ps, PartOk p) (hz : ps.length ≤ 100) (e : ps = A ++ B) (hi : i = (k : Int)) :
    Calls P w (hd.heap_39 w.params) 16 510 [.ref v, .ref t, .int (1 + ((textOf A).length : Int)) u, .int i u2] led (fun r led' => ∃ a tq, r = .ref a ∧ led' = (a, .tup [.int (lawF (piecesOf ps 1) (1 + ((textOf A).length : Int)) (1 + ((textOf ps).length : Int)) i).1 tq, .bool (lawF (piecesOf ps 1) (1 + ((textOf A).length : Int)) (1 + ((textOf ps).length : Int)) i).2]) :: led) := by
  have hl := text_len ho
  have ha := text_alpha ho
  subst hi
  subst e
  exact c_forward hV hT (by omega) ha rfl (fwd_law A B k ho (by omega))
theorem law_bck (k : Nat) {j : Int} (hj : j = (k : Int)) (hV : IsView led v (textOf ps)) (hT : IsTab led t) (ho : ∀ p ∈ ps, PartOk p) (hz : ps.length ≤ 100) (e : ps = A ++ B) (hi : i = -(k : Int)) (hk : k ≠ 0) :
    Calls P w (hd.heap_39 w.params) 16 510 [.ref v, .ref t, .int (1 + ((textOf A).length : Int)) u, .int i u2] led (fun r led' => ∃ a tq, r = .ref a ∧ led' = (a, .tup [.int (lawB (piecesOf ps 1).reverse (1 + ((textOf A).length : Int)) 1 j).1 tq, .bool (lawB (piecesOf ps 1).reverse (1 + ((textOf A).length : Int)) 1 j).2]) :: led) := by
  have hl := text_len ho
  have ha := text_alpha ho
  subst hj
  subst hi
  subst e
  obtain ⟨n, hn, hS⟩ := border_spans A B ho (by omega)
  exact c_backward hV hT (by omega) ha rfl hk hn hS (bck_law A B k ho (by omega))
theorem law_zero (hV : IsView led v (textOf ps)) (hT : IsTab led t) (ho : ∀ p ∈ ps, PartOk p) (hz : ps.length ≤ 100) (hi : i = 0) {p : Int} :
    Calls P w (hd.heap_39 w.params) 16 510 [.ref v, .ref t, .int p u, .int i u2] led (fun r led' => ∃ a tq, r = .ref a ∧ led' = (a, .tup [.int p tq, .bool true]) :: led) := by
  have hl := text_len ho
  exact c_forward (k := 0) hV hT (by omega) (text_alpha ho) hi .done
theorem law_state (hV : IsView led v (textOf ps)) (hT : IsTab led t) (ho : ∀ p ∈ ps, PartOk p) (hz : ps.length ≤ 100) (e : ps = A ++ B) :
    Calls P w (hd.heap_39 w.params) 13 468 [.ref v, .ref t, .int (1 + ((textOf A).length : Int)) u] led (StP led) := by
  have hl := text_len ho
  have ha := text_alpha ho
  subst e
  obtain ⟨n, hR⟩ := border_reach A B ho (by omega) (Int.le_refl _)
  exact c_state_at hV hT (by omega) ha (by rw [text_app, List.length_append]; omega) hR
theorem law_out (hV : IsView led v (textOf ps)) (hT : IsTab led t) (ho : ∀ p ∈ ps, PartOk p) (hz : ps.length ≤ 100) (e : ps = A ++ B) (hi : i = 1 + ((textOf A).length : Int)) :
    Calls P w (hd.heap_39 w.params) 14 517 [.ref v, .ref t, .int i u] led (fun r led' => r = .none ∧ led' = led) := by
  have hl := text_len ho
  have ha := text_alpha ho
  subst hi
  subst e
  obtain ⟨n, hR⟩ := border_reach A B ho (by omega) (lim := 1 + ((textOf (A ++ B)).length : Int)) (by rw [text_app, List.length_append]; omega)
  exact c_bounds0 hV hT (by omega) ha hR
theorem law_in {p : Part} {dd : Int} (hV : IsView led v (textOf ps)) (hT : IsTab led t) (ho : ∀ p ∈ ps, PartOk p) (hz : ps.length ≤ 100) (e : ps = A ++ p :: B) (h0 : p.1 = 0) (hd1 : 0 ≤ dd) (hd2 : dd < 2) (hi : i = 1 + ((textOf A).length : Int) + 2 + dd) :
    Calls P w (hd.heap_39 w.params) 14 517 [.ref v, .ref t, .int i u] led (fun r led' => (∃ a t1 t2, r = .ref a ∧ led' = (a, .tup [.int (1 + ((textOf A).length : Int)) t1, .int (1 + ((textOf A).length : Int) + (p.2.length : Int)) t2]) :: led) ∨ (p.2.length ≤ 4 ∧ r = .none ∧ led' = led)) := by
  have hl := text_len ho
  have ha := text_alpha ho
  subst hi
  subst e
  obtain ⟨b, n, q1, q2, q3, q4, q5, q6⟩ := com_at A B p ho (by omega) h0
  rcases q6 dd hd1 hd2 with ⟨m, hR⟩ | ⟨h4, m, q, hR⟩
  · exact (c_bounds1 hV hT (by omega) ha hR (by omega) q1 q3 q4 q5).mono fun r led' h => .inl h
  · exact (c_bounds0 hV hT (by omega) ha hR).mono fun r led' h => .inr ⟨h4, h.1, h.2⟩
end
end
section
inductive PartI (sc dk d0 cl pl : Addr) (i : Nat) (fv : FV) (L : Led) : Prop
  | mk (ps : List Part) (T : Led) (o : Option Value) : fv = ([("script", some (.ref sc)), ("deck", some (.ref dk)), ("codes_so_far", some (.ref cl)), ("pieces", some (.ref pl)), ("nth", o), ("view", none), ("table", none), ("begin", none), ("end", none), ("at", none), ("count", none), ("sort", none), ("first", none), ("behind", none)] : FV) →
    Bd dk d0 cl pl (2 * (i : Int)) ps T L → (textOf ps).length ≤ 9 * i → ps.length ≤ 2 * i → PartI sc dk d0 cl pl i fv L
theorem Bd.start {dk d0 cl pl : Addr} {vals : List Value} {S k : Int} {ts tk : Tok} {T : Led} (hI : Ints vals) (hl : vals.length ≤ 100) (h0 : 0 ≤ k) (h1 : k ≤ 0) : Bd dk d0 cl pl 0 [] T (DeckL dk d0 vals S k ts tk ((cl, .lst []) :: (pl, .lst []) :: T)) :=
  ⟨vals, S, k, ts, tk, [], [], rfl, hI, hl, h0, h1, .nil, .nil, fun p hp => by cases hp⟩
/-- the iterator to the bottom -/
theorem Bd.put {dk d0 cl pl it : Addr} {B : Int} {ps : List Part} {T L : Led} {so : SO} (h : Bd dk d0 cl pl B ps T L) : ∃ L', ((it, so) :: L).Perm L' ∧ Bd dk d0 cl pl B ps ((it, so) :: T) L' := by
  obtain ⟨vals, S, k, ts, tk, cv, pv, rfl, a, b, c, d, e, f, g⟩ := h
  exact ⟨_, List.perm_append_comm_assoc [_] [_, _, _, _] T, vals, S, k, ts, tk, cv, pv, rfl, a, b, c, d, e, f.mono fun e he => .tail _ he, g⟩
theorem Bd.take {dk d0 cl pl it : Addr} {B : Int} {ps : List Part} {T L : Led} {so : SO} (h : Bd dk d0 cl pl B ps T L) (hm : (it, so) ∈ T) (hn : ∀ vs, so ≠ .tup vs) : ∃ T' L', L.Perm ((it, so) :: L') ∧ Bd dk d0 cl pl B ps T' L' := by
  obtain ⟨vals, S, k, ts, tk, cv, pv, rfl, a, b, c, d, e, f, g⟩ := h
  obtain ⟨P, R, rfl⟩ := List.append_of_mem hm
  refine ⟨P ++ R, _, ?_, vals, S, k, ts, tk, cv, pv, rfl, a, b, c, d, e, f.monoT (fun a vs hx => ?_), g⟩
  · refine List.Perm.trans (l₂ := (it, so) :: ([(dk, .lst [.ref d0, .int S ts, .int k tk]), (d0, .lst vals), (cl, .lst cv), (pl, .lst pv)] ++ (P ++ R))) ?_ (.refl _)
    have := List.perm_middle (a := (it, so)) (l₁ := [(dk, .lst [.ref d0, .int S ts, .int k tk]), (d0, .lst vals), (cl, .lst cv), (pl, .lst pv)] ++ P) (l₂ := R)
    rw [List.append_assoc, List.append_assoc] at this
    exact this
  · rcases List.mem_append.mp hx with hx | hx
    · exact List.mem_append_left _ hx
    · rcases List.mem_cons.mp hx with hx | hx
      · exact absurd (Prod.mk.inj hx).2.symm (hn vs)
      · exact List.mem_append_right _ hx
theorem perm_deck {E R : Led} {l v dk d0 : Addr × SO} : (E ++ l :: v :: dk :: d0 :: R).Perm (dk :: d0 :: (E ++ l :: v :: R)) := by
  have := List.perm_append_comm_assoc (E ++ [l, v]) [dk, d0] R
  rw [List.append_assoc, List.append_assoc] at this
  exact this
theorem IsTab.deck {dk d0 t : Addr} {a b : List Value} {X : Led} (h : IsTab ((dk, .lst a) :: (d0, .lst b) :: X) t) : IsTab X t := h.monoT
  (fun x C f hx => by
    rcases List.mem_cons.mp hx with e | hx
    · cases (Prod.mk.inj e).2
    · rcases List.mem_cons.mp hx with e | hx
      · cases (Prod.mk.inj e).2
      · exact hx)
  (fun x k hx => by
    rcases List.mem_cons.mp hx with e | hx
    · cases (Prod.mk.inj e).2
    · rcases List.mem_cons.mp hx with e | hx
      · cases (Prod.mk.inj e).2
      · exact hx)
/-- what stands below both loops -/
structure Base (X : Led) (v t cl pl : Addr) (cv pv : List Value) (ps : List Part) : Prop where
  V : IsView X v (textOf ps)
  T : IsTab X t
  P : PcsAre X pv (piecesOf ps 1)
  mcl : (cl, SO.lst cv) ∈ X
  mpl : (pl, SO.lst pv) ∈ X
  ok : ∀ p ∈ ps, PartOk p
  len : ps.length ≤ 12
theorem Base.mono {X Y : Led} {v t cl pl : Addr} {cv pv : List Value} {ps : List Part} (h : Base X v t cl pl cv pv ps) (hs : ∀ e, e ∈ X → e ∈ Y) : Base Y v t cl pl cv pv ps :=
  ⟨h.V.monoM hs, h.T.monoM hs, h.P.mono hs, hs _ h.mcl, hs _ h.mpl, h.ok, h.len⟩
theorem base_mk {E T : Led} {l v dk d0 t cl pl : Addr} {a b cv pv : List Value} {ps : List Part} {tk : Tok} (hT : IsTab (E ++ (l, .lst cv) :: (v, .inst 556 (rowF (.ref l) (.int 1 tk))) :: (dk, .lst a) :: (d0, .lst b) :: (cl, .lst cv) :: (pl, .lst pv) :: T) t)
    (hcv : IntsAre cv (textOf ps)) (hpv : PcsAre T pv (piecesOf ps 1)) (hok : ∀ p ∈ ps, PartOk p) (hl : ps.length ≤ 12) :
    ∃ X, (E ++ (l, .lst cv) :: (v, .inst 556 (rowF (.ref l) (.int 1 tk))) :: (dk, .lst a) :: (d0, .lst b) :: (cl, .lst cv) :: (pl, .lst pv) :: T).Perm ((dk, .lst a) :: (d0, .lst b) :: X) ∧ Base X v t cl pl cv pv ps := by
  refine ⟨_, perm_deck, ⟨l, cv, tk, by simp, by simp, hcv⟩, IsTab.deck (hT.monoM fun e he => perm_deck.mem_iff.mp he), hpv.mono fun e he => by simp [he], by simp, by simp, hok, hl⟩
theorem PcsAre.mem {T : Led} : ∀ {vs ps}, PcsAre T vs ps → ∀ v ∈ vs, ∃ a s f b ts tf tb, v = Value.ref a ∧ (a, SO.tup [.str (sortS s) ts, .int f tf, .int b tb]) ∈ T
  | _, _, .nil, v, hv => by cases hv
  | _, _, .cons h r, v, hv => by
    rcases List.mem_cons.mp hv with rfl | hv
    · exact ⟨_, _, _, _, _, _, _, rfl, h⟩
    · exact r.mem v hv
theorem perm4 {a b x y : Addr × SO} {X : Led} : (a :: b :: x :: y :: X).Perm (x :: y :: a :: b :: X) := List.perm_append_comm_assoc [a, b] [x, y] X
theorem perm3 {a x y : Addr × SO} {X : Led} : (a :: x :: y :: X).Perm (x :: y :: a :: X) := List.perm_append_comm_assoc [a] [x, y] X
theorem pieces_len : ∀ (ps : List Part) (f : Int), (piecesOf ps f).length = ps.length
  | [], f => rfl
  | p :: r, f => by show (piecesOf r _).length + 1 = _; rw [pieces_len r]; rfl
end
section
section
variable {w : World} {g h₁ : Heap} {qual : Str} {scope : Scope} {a : Addr} {cd : Value} {body : List Stmt} {s : Shared} {Q : Flow → Shared → Prop} {E : Value → Shared → Prop} {sc : Addr} {p : Program} {loose : List Str} {mean : ExcName → Option Value} {mg mb : Str → Option Value} {m : Str → Option Value}
theorem law_top (K0 : Below callerA g [] g) (F : Fr g g.objs.size s.heap m) (X : (hd.heap_39 w.params).In g) (T : Top p loose mean mg mb g) (hk : scope.kind = .function) (rest : List Str)
    (hm : m = fun x => List.lookup x [(Str.ofString "script", Value.ref sc)]) (hN : namesOk scope ("script" :: rest) = true)
    {sv : List Value} {ns : List Int} (hL : g.IsList sc sv.toArray) (hI : IntsAre sv ns) (hz : ¬ (((63 : Nat) : Int) < (ns.length : Int)))
    (H : ∀ c : Cx P w (hd.heap_39 w.params), c.Ok → c.env.scope = scope → Room c.A 30 → BL sc sv c.g → Ints sv → sv.length ≤ 63 → EV c (execs body c.env) (fun fl _ _ => retOf fl = .bool true) (fv0 [("script", .ref sc)] rest) [])
    (hQ : ∀ fl s' m', Near s s' → Fr g g.objs.size s'.heap m' → retOf fl = .bool true → Q fl s') :
    wpAny (model P w) (callerA.deeper (envOf qual scope g.objs.size a cd)) (execs body (envOf qual scope g.objs.size a cd)) Q E s := by
  have hnodup : (([((Str.ofString "script" : Str), Value.ref sc)] : List (Str × Value)).map (·.1) ++ rest : List Str).Nodup := of_decide_eq_true (Bool.and_eq_true_iff.mp hN).1
  have hc : Cx.Ok (prog := P) (w := w) (K := hd.heap_39 w.params) ⟨callerA.deeper (envOf qual scope g.objs.size a cd), g, g.objs.size, envOf qual scope g.objs.size a cd⟩ :=
    { X := X, top := ⟨p, loose, mean, mg, mb, T⟩, hh := rfl, env := ⟨qual, scope, a, cd, [], rfl, hk⟩, below := ⟨[], callerA, g, rfl, K0⟩ }
  have e := H ⟨callerA.deeper (envOf qual scope g.objs.size a cd), g, g.objs.size, envOf qual scope g.objs.size a cd⟩ hc rfl ⟨by show 1 + 300 + 1 + 2 * 30 + 2 ≤ 900; decide, by show 4 + 3 + 12 * 30 + 30 ≤ 9000; decide⟩ hL (IntsAre.ints hI) (by rw [hI.length]; omega)
  have F0 : Fr g g.objs.size s.heap (fr (fv0 [("script", .ref sc)] rest)) := by
    have : fr (fv0 [("script", .ref sc)] rest) = fun y => [(Str.ofString "script", Value.ref sc)].reverse.lookup y := funext fun y => fr_binds hnodup y
    rw [this]
    rw [hm] at F
    exact F
  refine wpAny_mono (e.run s ⟨F0, Own.nil, ?_⟩) (fun fl s' ⟨n, fv', led', S', q⟩ => hQ fl s' _ n S'.F q) fun _ _ x => x.elim
  rw [fv0_names]; exact names_of hN
end
local macro_rules | `(tactic| k_qdec) => `(tactic| decide +kernel)
theorem law_holds : PySem.Challenge.rw_np0091_01.Holds := by
  refine holds_law hd.said fun said => ?_
  refine holds_open (q := hd.view_39) (loose := hd.loose) (Xt := hd.Xt) (XP := XL hd.view_39 []) (Yf := hd.H.obs) (Ya := hd.H.val) (YP := hd.H.says) (N := 7910) hd.left hd.H.of hd.H.keeps (fun s e => xl_of s (Bool.and_eq_true_iff.mp e).1) XL.keeps (by rfl) (by rfl) (by rfl) (fun s e => recFacts_of (Bool.and_eq_true_iff.mp e).2) (by rfl) (by first | assumption | decide +kernel) (by decide +kernel) ⟨rfl, rfl, rfl, rfl, rfl, by decide +kernel⟩ ?hw ?hc
  case hw => w_witness2
  clear said
  k_go0
  rename Fr _ _ _ _ => F
  rename Heap.IsList _ _ _ => hL
  rename IntsAre _ _ => hI
  rename Below _ _ _ _ => K0
  rename Top _ _ _ _ _ _ => T
  rename Frag.In _ _ => KX
  rename _ = #[] => hg
  rename ¬ (_ < _) => hz
  refine law_top K0 F KX T rfl ["deck", "codes_so_far", "pieces", "nth", "view", "table", "begin", "end", "at", "count", "sort", "first", "behind"] rfl (by kernel_rfl) hL hI hz (fun c hc hs hr hB hIs hlen => ?_) (fun fl s' m' hn F' hb => ?_)
  · have hgl : Globs c ["_law_deck", "range", "_law_many", "_law_part", "TextRow", "slash_table", "len", "_law_draw", "forward_comment", "_law_forward", "_law_backward", "state_at", "comment_bounds"] := globs_of (by rw [hs]; kernel_rfl)
    clear hs
    refine' ev_lit ?e0 ?_
    case e0 => conv => lhs; whnf
    dsimp only [fv0, List.map, List.cons_append, List.nil_append]
    rename_i w s0 s1 mg mb G Y fa o pm doc kV ho X V GL B TE TW w9 w8 M w7 w6 hcd w5 hs' hlay0 hL' hr1 hl2 w4 w3 sc sv ww ra w1 r0 hr' hcond hD h1 N0
    clear N0 F h1 hD K0 hcond hz hr' hI r0 w1 ra hL ww w3 w4 hl2 hr1 hL' hlay0 hs' w5 hcd w6 w7 M w8 w9 TW TE B T GL V X KX hg ho kV doc pm o fa Y G mb mg s1 s0
    repeat' kby_none
    refine ev_callB hc hr (by decide) hB (c_law_deck hIs hlen) ?_
    rintro r L ⟨dk, d0, rfl, vals, S, k, ts, tk, rfl, hI, hl, hk0, hk1⟩
    repeat' kby_none
    rename_i cl pl
    refine EV.perm (led' := DeckL dk d0 vals S k ts tk ((cl, .lst []) :: (pl, .lst []) :: [])) ((List.perm_append_comm (l₁ := [_, _]) (l₂ := [_, _])).trans (.cons _ (.cons _ (.swap _ _ _)))) ?_
    refine ev_forR hc (PartI sc dk d0 cl pl) ?_
    refine EV.post ?_
    repeat' kby_none
    refine ev_callB hc hr (by decide) hB (c_law_many hIs hlen) ?_
    rintro r L ⟨⟨n, tn, rfl, hn1, hn2⟩, rfl⟩
    repeat' kby_none
    refine ev_range1 fun r t1 t2 t3 => ?_
    obtain ⟨L', hp, hBd⟩ := (Bd.start (dk := dk) (d0 := d0) (cl := cl) (pl := pl) (S := S) (ts := ts) (tk := tk) (T := []) hI hl hk0 hk1).put (it := r) (so := .raw (rgO 0 n 1 t1 t2 t3))
    refine ⟨_, L', .refl _, hp, r, t1, t2, t3, n, rfl, hp.mem_iff.mp (.head _), Nat.lt_of_le_of_lt hn2 (by decide), ⟨[], _, _, rfl, hBd, Nat.le_refl _, Nat.le_refl _⟩, ?_, ?_⟩
    · clear hBd hp
      rintro i it fv L hi ⟨ps, T, o, rfl, hBd, hz1, hz2⟩ u
      obtain ⟨L2, hp, hBd⟩ := hBd.put (it := it) (so := itR n (i + 1))
      refine EV.perm hp ?_
      repeat' kby_none
      refine EV.post ?_
      repeat' kby_none
      refine ev_callG hc hr (by decide) (c_part hBd (by omega) (by omega) (by omega)) ?_
      rintro v L3 ⟨rfl, qs, T', hBd, hT, hl1, hl2, hl3⟩
      repeat' kby_none
      obtain ⟨T2, L4, hp2, hBd⟩ := hBd.take (hT _ (.head _)) (fun vs e => by cases e)
      refine ⟨_, _, .refl _, hp2, ?_⟩
      repeat' kby_none
      refine ⟨L4, rfl, ps ++ qs, T2, _, rfl, ?_, by omega, by rw [List.length_append]; omega⟩
      rw [show 2 * ((i + 1 : Nat) : Int) = 2 * (i : Int) + 2 by omega]
      exact hBd
    · clear hBd hp
      rintro fv L ⟨ps, T, o, rfl, hBd, hz1, hz2⟩
      replace hz1 : (textOf ps).length ≤ 54 := by omega
      replace hz2 : ps.length ≤ 12 := by omega
      clear vals S k ts tk hI hl hk0 hk1
      obtain ⟨vals, S, k, ts, tk, cv, pv, rfl, hI, hl, hk0, hk1, hcv, hpv, hok⟩ := hBd
      replace hk1 : k ≤ 12 := by omega
      have hcl := hcv.length
      have hcz : cv.length ≤ sizeLine := Nat.le_trans (m := 54) (by omega) (by decide)
      have hcz2 : (cv.length : Int) < 2 ^ 63 := by omega
      clear hB hIs hlen
      repeat' kby_none
      refine mk_TR hc hr (by decide) (in_tail (in_tail in_head)) hcz fun v l => ?_
      repeat' kby_none
      refine ev_callG hc hr (by decide) c_slash ?_
      rintro r2 L2 ⟨t, E, rfl, rfl, hTab⟩
      obtain ⟨X, hp, hX⟩ := base_mk hTab hcv hpv hok hz2
      clear hTab hpv hok
      refine EV.perm hp ?_
      clear hp E T
      have mcl := hX.mcl
      have mpl := hX.mpl
      repeat' kby_none
      have hpvl : pv.length = ps.length := by rw [hX.P.length, pieces_len]
      have hpz : pv.length ≤ sizeLine := Nat.le_trans (m := 12) (by omega) (by decide)
      refine ev_forI hc ?_
      refine EV.post ?_
      repeat' kby_none
      rename_i tbg tj1 tj2 ten lb
      rw [hcl]
      refine ev_compL (cl := []) (fun _ => true) (Third X) hc (closureFor_none (by decide)) (by decide) rfl (by decide) rfl ?_
      repeat' kby_none
      refine ⟨_, _, rfl, in_tail (in_tail (in_tail mpl)), hpz, ?_, fun D ys hP => ?_⟩
      · intro C v s m E hv S hC hm
        obtain ⟨a, s3, f3, b3, ts, tf, tb, rfl, hmem⟩ := hX.P.mem v hv
        refine ⟨ifs_none ⟨rfl, keeps_self s⟩, fun _ => Subscript_ (cn_local rfl rfl hC hm rfl (wpAny_Constant_int ?_))⟩
        refine item_tupleT (s := { s with toks := s.toks + 1 }) (S.isTup (in_tail (in_tail (in_tail hmem)))) (by decide) (by decide) (j := 2) rfl rfl ?_ (by with_unfolding_all rfl)
        refine ⟨fun a' s' f' b' ts' tf' tb' e hm' => ?_, keeps_toks s _⟩
        cases e
        cases tup_det S (in_tail (in_tail (in_tail hmem))) (in_tail (in_tail (in_tail hm')))
        exact ⟨_, rfl⟩
      · rw [List.filter_eq_self.mpr (fun _ _ => rfl)] at hP
        have hth := thirds hP hX.P
        have hyl := hth.length
        rw [List.length_map, pieces_len] at hyl
        refine op_catL (in_tail in_head) in_head (fun ls => ?_) (Nat.le_trans (m := 13) (by rw [hyl]; show 1 + ps.length ≤ 13; omega) (by decide))
        have hvs : IntsAre ([Value.int 1 tbg] ++ ys) (1 :: (piecesOf ps 1).map (·.2.2)) := .cons 1 tbg hth
        have hvl := hvs.length
        rw [List.length_cons, List.length_map, pieces_len] at hvl
        refine ⟨_, _, .cons_cons _ (.cons _ (.cons _ (.refl _))), .refl _, ls, _, fun i fv L => ∃ vals S k ts tk o1 o2, fv = ([("script", some (.ref sc)), ("deck", some (.ref dk)), ("codes_so_far", some (.ref cl)), ("pieces", some (.ref pl)), ("nth", o), ("view", some (.ref v)), ("table", some (.ref t)), ("begin", some (.int 1 tbg)), ("end", some (.int (1 + ((textOf ps).length : Int)) ten)), ("at", o1), ("count", o2), ("sort", none), ("first", none), ("behind", none)] : FV) ∧ L = (ls, .lst ([Value.int 1 tbg] ++ ys)) :: DeckL dk d0 vals S k ts tk X ∧ Ints vals ∧ vals.length ≤ 100 ∧ 0 ≤ k ∧ k ≤ 12 + (i : Int), rfl, in_head, ⟨_, _, _, _, _, _, _, rfl, rfl, hI, hl, hk0, by omega⟩, ?_, ?_, ?_⟩
        · rintro i fv L ⟨_, _, _, _, _, _, _, _, rfl, _⟩
          exact in_head
        · clear vals S k ts tk hI hl hk0 hk1
          rintro i it x fv L hx ⟨vals, S, k, ts, tk, o1, o2, rfl, rfl, hI, hl, hk0, hk1⟩
          have hil : i < 13 := by
            have := (List.getElem?_eq_some_iff.mp hx).1
            omega
          obtain ⟨kk, tkk, rfl, hk2⟩ := IntsAre.at hvs _ _ hx
          obtain ⟨A, B, eAB, rfl⟩ := borders ps 1 i kk hk2
          refine EV.perm perm4 ?_
          have hY : Base ((it, itL ls (i + 1)) :: (ls, .lst ([Value.int 1 tbg] ++ ys)) :: X) v t cl pl cv pv ps := hX.mono fun e he => .tail _ (.tail _ he)
          have hYe : ∃ Y, Y = (it, itL ls (i + 1)) :: (ls, .lst ([Value.int 1 tbg] ++ ys)) :: X := ⟨_, rfl⟩
          obtain ⟨Y, hYe⟩ := hYe
          rw [← hYe] at hY
          show EV c _ _ _ (DeckL dk d0 vals S k ts tk ((it, itL ls (i + 1)) :: (ls, .lst ([Value.int 1 tbg] ++ ys)) :: X))
          rw [← hYe]
          have mpl2 := hY.mpl
          repeat' kby_none
          refine ev_callG hc hr (by decide) (c_draw ⟨_, _, _, _, _, rfl, hI, hl, hk0, hk1⟩ (by omega) (by decide) (by decide)) ?_
          clear vals S k ts tk hI hl hk0 hk1
          rintro r L ⟨dv, tv, rfl, hv0, hv1, vals, S, k, ts, tk, rfl, hI, hl, hk0, hk1⟩
          have hZ := hY.mono (Y := DeckL dk d0 vals S k ts tk Y) fun e he => .tail _ (.tail _ he)
          have hkk : ((1 + dv).toNat : Int) = 1 + dv := by omega
          repeat' kby_none
          refine ev_callG hc hr (by decide) (law_fwd (1 + dv).toNat hZ.V hZ.T hZ.ok (by omega) eAB hkk.symm) ?_
          rintro r L ⟨a1, tq1, rfl, rfl⟩
          repeat' kby_none
          refine ev_callG hc hr (by decide) (c_law_forward (in_tail hZ.mpl) (hZ.P.mono fun e he => .tail _ he) (by omega)) ?_
          rintro r L ⟨a2, tq2, rfl, rfl⟩
          repeat' kby_none
          refine cmp_neT hr (in_tail in_head) in_head ?_
          repeat' kby_none
          refine EV.drop (EV.drop ?_)
          refine ev_callG hc hr (by decide) (law_bck (1 + dv).toNat hkk.symm hZ.V hZ.T hZ.ok (by omega) eAB (by omega) (by omega)) ?_
          rintro r L ⟨a1, tq1, rfl, rfl⟩
          repeat' kby_none
          refine ev_callG hc hr (by decide) (c_law_backward (in_tail hZ.mpl) (hZ.P.mono fun e he => .tail _ he) (by omega)) ?_
          rintro r L ⟨a2, tq2, rfl, rfl⟩
          repeat' kby_none
          refine cmp_neT hr (in_tail in_head) in_head ?_
          repeat' kby_none
          refine EV.drop (EV.drop ?_)
          refine ev_callM2 ?_ ?h2 ?h3 ?h4
          case h2 => exact rfl
          case h3 => exact rfl
          case h4 => exact rfl
          repeat' kby_none
          refine ev_callG hc hr (by decide) (law_state hZ.V hZ.T hZ.ok (by omega) eAB) ?_
          rintro r L ⟨x, op, be, le, wh, wo, tk1, sy, ne, sa, qu, ha, rfl, rfl⟩
          repeat' kby_none
          refine ev_callV hc hr (by decide) (c_is_plain in_head) ?_
          refine EV.drop ?_
          repeat' kby_none
          refine ev_callG hc hr (by decide) (law_zero hZ.V hZ.T hZ.ok (by omega) rfl) ?_
          rintro r L ⟨a1, tq1, rfl, rfl⟩
          repeat' kby_none
          refine EV.post ?_
          refine cmp_neT hr (in_tail in_head) in_head ?_
          refine ⟨_, _, .cons _ (.cons _ (.refl _)), .refl _, ?_⟩
          subst hYe
          refine EV.perm perm4.symm ?_
          repeat' kby_none
          exact ⟨_, rfl, _, _, _, _, _, _, _, rfl, rfl, hI, hl, hk0, by omega⟩
        · clear vals S k ts tk hI hl hk0 hk1
          rintro fv L ⟨vals, S, k, ts, tk, o1, o2, rfl, rfl, hI, hl, hk0, hk1⟩
          replace hk1 : k ≤ 25 := by omega
          refine EV.drop ?_
          refine ev_cons (ev_forI hc ?_)
          repeat' kby_none
          refine ⟨pl, pv, fun i fv L => ∃ vals S k ts tk o3 o4 o5, fv = ([("script", some (.ref sc)), ("deck", some (.ref dk)), ("codes_so_far", some (.ref cl)), ("pieces", some (.ref pl)), ("nth", o), ("view", some (.ref v)), ("table", some (.ref t)), ("begin", some (.int 1 tbg)), ("end", some (.int (1 + ((textOf ps).length : Int)) ten)), ("at", o1), ("count", o2), ("sort", o3), ("first", o4), ("behind", o5)] : FV) ∧ L = DeckL dk d0 vals S k ts tk X ∧ Ints vals ∧ vals.length ≤ 100 ∧ 0 ≤ k ∧ k ≤ 25 + (i : Int), rfl, in_tail (in_tail mpl), ⟨_, _, _, _, _, _, _, _, rfl, rfl, hI, hl, hk0, by omega⟩, ?_, ?_, ?_⟩
          · rintro i fv L ⟨_, _, _, _, _, _, _, _, _, rfl, _⟩
            exact in_tail (in_tail mpl)
          · clear vals S k ts tk hI hl hk0 hk1
            rintro i it x fv L hx ⟨vals, S, k, ts, tk, o3, o4, o5, rfl, rfl, hI, hl, hk0, hk1⟩
            have hil : i < 13 := by
              have := (List.getElem?_eq_some_iff.mp hx).1
              omega
            obtain ⟨ra, s, f, b, tss, tf, tb, rfl, hmem, hps⟩ := PcsAre.at_ hX.P hx
            obtain ⟨A, p, B, eps, hq⟩ := piece_at ps 1 i _ hps
            cases hq
            clear hps
            refine EV.perm perm3 ?_
            have hYe : ∃ Y, Y = (it, itL pl (i + 1)) :: X := ⟨_, rfl⟩
            obtain ⟨Y, hYe⟩ := hYe
            have hY : Base Y v t cl pl cv pv ps := by rw [hYe]; exact hX.mono fun e he => .tail _ he
            have mit : (it, itL pl (i + 1)) ∈ Y := by rw [hYe]; exact .head _
            have hmem2 : (ra, SO.tup [.str (sortS p.1) tss, .int (1 + ((textOf A).length : Int)) tf, .int (1 + ((textOf A).length : Int) + (p.2.length : Int)) tb]) ∈ Y := by rw [hYe]; exact .tail _ hmem
            show EV c _ _ _ (DeckL dk d0 vals S k ts tk ((it, itL pl (i + 1)) :: X))
            rw [← hYe]
            have hp := hX.ok p (by rw [eps]; simp)
            by_cases h0 : p.1 = 0
            · have hcm : (sortS p.1 == ("comment" : Str)) = true := by rw [h0]; decide
              repeat' kby_none
              refine ev_callG hc hr (by decide) (c_draw ⟨_, _, _, _, _, rfl, hI, hl, hk0, hk1⟩ (by omega) (by decide) (by decide)) ?_
              clear vals S k ts tk hI hl hk0 hk1
              rintro r L ⟨dv, tv, rfl, hv0, hv1, vals, S, k, ts, tk, rfl, hI, hl, hk0, hk1⟩
              have hZ := hY.mono (Y := DeckL dk d0 vals S k ts tk Y) fun e he => .tail _ (.tail _ he)
              repeat' kby_none
              refine ev_callG hc hr (by decide) (law_in hZ.V hZ.T hZ.ok (by omega) eps h0 hv0 hv1 rfl) ?_
              rintro r L (⟨a1, q1, q2, rfl, rfl⟩ | ⟨h4, rfl, rfl⟩)
              · repeat' kby_none
                refine cmp_neP hr (in_tail in_head) in_head ?_
                repeat' kby_none
                refine EV.drop (EV.drop ?_)
                refine ev_callG hc hr (by decide) (law_out hZ.V hZ.T hZ.ok (by omega) eps rfl) ?_
                rintro r L ⟨rfl, rfl⟩
                repeat' kby_none
                subst hYe
                refine EV.perm perm3.symm ?_
                have hW : Base ((it, itL pl (i + 1)) :: DeckL dk d0 vals S k ts tk X) v t cl pl cv pv ps := hX.mono fun e he => .tail _ (.tail _ (.tail _ he))
                refine ev_callG hc hr (by decide) (law_out hW.V hW.T hW.ok (by omega) (A := A ++ [p]) (B := B) (by rw [eps]; simp) (by rw [text_app, List.length_append]; simp [textOf]; omega)) ?_
                rintro r L ⟨rfl, rfl⟩
                repeat' kby_none
                exact ⟨_, rfl, _, _, _, _, _, _, _, _, rfl, rfl, hI, hl, hk0, by omega⟩
              · repeat' kby_none
                refine cmp_neN hr in_head ?_
                repeat' kby_none
                refine EV.drop ?_
                refine ev_callG hc hr (by decide) (law_out hZ.V hZ.T hZ.ok (by omega) eps rfl) ?_
                rintro r L ⟨rfl, rfl⟩
                repeat' kby_none
                subst hYe
                refine EV.perm perm3.symm ?_
                have hW : Base ((it, itL pl (i + 1)) :: DeckL dk d0 vals S k ts tk X) v t cl pl cv pv ps := hX.mono fun e he => .tail _ (.tail _ (.tail _ he))
                refine ev_callG hc hr (by decide) (law_out hW.V hW.T hW.ok (by omega) (A := A ++ [p]) (B := B) (by rw [eps]; simp) (by rw [text_app, List.length_append]; simp [textOf]; omega)) ?_
                rintro r L ⟨rfl, rfl⟩
                repeat' kby_none
                exact ⟨_, rfl, _, _, _, _, _, _, _, _, rfl, rfl, hI, hl, hk0, by omega⟩
            · have hcm : (sortS p.1 == ("comment" : Str)) = false := by
                rcases hp with ⟨e, _⟩ | ⟨e, _⟩ | ⟨e, _⟩
                · exact absurd e h0
                · rw [e]; decide
                · rw [e]; decide
              have hZ := hY.mono (Y := DeckL dk d0 vals S k ts tk Y) fun e he => .tail _ (.tail _ he)
              repeat' kby_none
              refine ev_callG hc hr (by decide) (law_out hZ.V hZ.T hZ.ok (by omega) eps rfl) ?_
              rintro r L ⟨rfl, rfl⟩
              repeat' kby_none
              subst hYe
              refine EV.perm perm3.symm ?_
              have hW : Base ((it, itL pl (i + 1)) :: DeckL dk d0 vals S k ts tk X) v t cl pl cv pv ps := hX.mono fun e he => .tail _ (.tail _ (.tail _ he))
              refine ev_callG hc hr (by decide) (law_out hW.V hW.T hW.ok (by omega) (A := A ++ [p]) (B := B) (by rw [eps]; simp) (by rw [text_app, List.length_append]; simp [textOf]; omega)) ?_
              rintro r L ⟨rfl, rfl⟩
              repeat' kby_none
              exact ⟨_, rfl, _, _, _, _, _, _, _, _, rfl, rfl, hI, hl, hk0, by omega⟩
          · rintro fv L ⟨vals, S, k, ts, tk, o3, o4, o5, rfl, rfl, hI, hl, hk0, hk1⟩
            repeat' kby_none
            rfl
  · obtain ⟨h', tk, rfl⟩ := hn
    show GoodW _ _ _ _ _ (.ok (.ret (retOf fl))) _
    rw [hb]
    refine goodW_bool F' hg (raisesW_false ?_) ?_
    · wrow_none_raised
    · wrow_post
end
end
end Mine
theorem PySem.Challenge.cw_np0091_01_holds : PySem.Challenge.rw_np0091_01.Holds :=
  Mine.law_holds
