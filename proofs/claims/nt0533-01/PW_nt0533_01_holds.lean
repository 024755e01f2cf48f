import PyProof.Rows.All
import Wide.All
import OpenK.AllK
import Wide.FinOn
import PyProof.AutoSeq1
import KE.KBytesCut
import PyProof.EvalArms
import PyProof.SliceMore
import PyProof.AutoListH
import PyProof.ListCopy
import PyProof.NeKinds
import Open.Seg
import Open.Tree
import Open.Boot
import Lean
import PySem.Challenge.RW_nt0533_01
set_option maxRecDepth 100000
set_option linter.all false
set_option maxHeartbeats 0
set_option Elab.async false
namespace Mine
open PySem PySem.W PySem.W.X
structure CPre where
 code : Code
 own : List Obj
 nn : Nat
 nt : Nat
 res : List Nat → List Nat → Result
 upd : List Nat → List Nat → List Obj
 new : List Nat → List Nat → List Obj
structure CF where
 D : Nat
 U : Nat
 calm : Bool
 gf : Bool
 B : List (Code × Pos) → List (Code × Pos)
 pre : Option (List Obj → Prop)
 F : Code → List Nat → List Obj → CPre
inductive Hint where
 | s
 | o (i : Nat)
 | c (n : Nat) (idx : List Nat) (C : CF)
 | d (n : Nat) (idx : List Nat) (C : CF)
 | e (n : Nat)
 | b (n : Nat) (c : Code) (t : Sem Fin)
 | v (n : Nat) (x f : Nat → Flow)
 | r (n : Nat) (w : String)
 | w (n : Nat) (idx : List Nat) (y1 y2 : List Nat → Sem Fin)
inductive Ob where
 | n (a : Nat)
 | c (a : Code)
 | t (a : Sem Fin)
 | o (a : List Obj)
 | f (a : Flow)
 | k (a : List (Code × Pos))
 | q (a : Prop)
noncomputable def tokV (v : Value) : Nat := match v with
 | .int _ t => t
 | .str _ t => t
 | .bytes _ t => t
 | .float _ t => t
 | _ => 0
noncomputable def tokF (f : Flow) : Nat := match f with
 | .ret v => tokV v
 | _ => 0
abbrev Acc := List (Ob × Ob)
noncomputable def Acc.nil : Acc := []
structure G where
 Γ : Ctx
 db : Nat
 ub : Nat
 gf : Bool
noncomputable def heldIds : List String := guardIds ++ PySem.Builtin.Bytes.decodersThatHold
noncomputable def free (c : Code) : Bool := match c with
 | .builtin id _ => match heldIds.contains id with
  | true => false
  | false => true
 | _ => true
noncomputable def allFree (l : List (Code × Pos)) : Prop := ∀ x ∈ l,free x.1 = true
noncomputable def G.enter (g : G) (c : Code) (h : Option Value) (p : Pos) : G := ⟨g.Γ.enter c h p,g.db + g.Γ.code.weight,g.ub + g.Γ.code.cUnits,match g.gf with | true => free g.Γ.code | false => false⟩
noncomputable def G.goto (g : G) (c : Code) : G := ⟨g.Γ.goto c,g.db,g.ub,g.gf⟩
noncomputable def gfOk (C : CF) (g : G) : Bool := match C.gf with
 | false => true
 | true => g.gf
structure KF where
 g : G
 p : Pos
 k : Result → Sem Fin
structure Out where
 r : Result
 L : BT
 m : Nat
 i : Nat
 acc : Acc
structure Cfg where
 den : Code → Sem Fin
 enter : Sem Unit
 bnd : Sem Unit → (Unit → Sem Fin) → Sem Fin
 room : String → Sem Unit
 prog : Program
 P : Params
 P2 : Params
 kt : KT
noncomputable def objs (L : BT) : List Nat → Option (List Obj)
 | [] => some []
 | i :: r => match L.get i with
  | some o => match objs L r with
   | some os => some (o :: os)
   | none => none
  | none => none
noncomputable def puts (L : BT) : List Nat → List Obj → Option BT
 | [],[] => some L
 | i :: r,o :: os => puts (L.set i fun _ => o) r os
 | _,_ => none
noncomputable def news (L : BT) (m : Nat) : List Obj → Option (BT × Nat)
 | [] => some (L,m)
 | o :: os => match (L.ins m o).get m with
  | some _ => news (L.ins m o) (m + 1) os
  | none => none
noncomputable def span (f : Nat → Nat) (m : Nat) : Nat → List Nat
 | 0 => []
 | n + 1 => f m :: span f (m + 1) n
noncomputable def preB (C : CF) (os : List Obj) (acc : Acc) : Acc := match C.pre with
 | none => acc
 | some P => (.q (P os),.q True) :: acc
noncomputable def preOk (C : CF) (os : List Obj) : Prop := match C.pre with
 | none => True
 | some P => P os
noncomputable def calmOk (C : CF) (h : Option Value) : Bool := match C.calm with
 | false => true
 | true => match h with
  | none => true
  | some _ => false
abbrev SimTy := List Hint → G → Pos → Sem Fin → List KF → BT → Nat → Nat → Acc → Option Out
noncomputable def gd (b : Bool) (x : Option Out) : Option Out := match b with
 | true => x
 | false => none
noncomputable def ob {α : Type} (x : Option α) (f : α → Option Out) : Option Out := match x with
 | some a => f a
 | none => none
abbrev HR := List Hint
noncomputable def hiV (hs : HR) (D : HR → Option Out) (Z : (Nat → Flow) → (Nat → Flow) → HR → Option Out) : Option Out := match hs with
 | [] => D hs
 | h :: r => match h with
  | .v n x f => match n with
   | 0 => Z x f r
   | n + 1 => D (.v n x f :: r)
  | _ => D hs
noncomputable def hiD (hs : HR) (D : HR → Option Out) (Z : List Nat → CF → HR → Option Out) : Option Out := match hs with
 | [] => D hs
 | h :: r => match h with
  | .d n x f => match n with
   | 0 => Z x f r
   | n + 1 => D (.d n x f :: r)
  | _ => D hs
noncomputable def hiC (hs : HR) (D : HR → Option Out) (Z : List Nat → CF → HR → Option Out) : Option Out := match hs with
 | [] => D hs
 | h :: r => match h with
  | .c n x f => match n with
   | 0 => Z x f r
   | n + 1 => D (.c n x f :: r)
  | _ => D hs
noncomputable def hiB (hs : HR) (D : HR → Option Out) (Z : Code → Sem Fin → HR → Option Out) : Option Out := match hs with
 | [] => D hs
 | h :: r => match h with
  | .b n x f => match n with
   | 0 => Z x f r
   | n + 1 => D (.b n x f :: r)
  | _ => D hs
noncomputable def hiW (hs : HR) (D : HR → Option Out) (Z : List Nat → (List Nat → Sem Fin) → (List Nat → Sem Fin) → HR → Option Out) : Option Out := match hs with
 | [] => D hs
 | h :: r => match h with
  | .w n x f g => match n with
   | 0 => Z x f g r
   | n + 1 => D (.w n x f g :: r)
  | _ => D hs
noncomputable def hiR (hs : HR) (D : HR → Option Out) (Z : String → HR → Option Out) : Option Out := match hs with
 | [] => D hs
 | h :: r => match h with
  | .r n x => match n with
   | 0 => Z x r
   | n + 1 => D (.r n x :: r)
  | _ => D hs
noncomputable def hiE (hs : HR) (D : HR → Option Out) (Z : HR → Option Out) : Option Out := match hs with
 | [] => D hs
 | h :: r => match h with
  | .e n => match n with
   | 0 => Z r
   | n + 1 => D (.e n :: r)
  | _ => D hs
noncomputable def hiO (hs : HR) (Z : Nat → HR → Option Out) : Option Out := match hs with
 | [] => none
 | h :: r => match h with
  | .o n => Z n r
  | _ => none
noncomputable def Pl {ζ : Type} (P : Hint → Prop) (F : (HR → Option Out) → ζ → Option Out) : Prop := ∃ hs',(∀ h ∈ hs',P h) ∧ ∀ D Z,F D Z = D hs'
theorem Pl.mk {ζ : Type} {P : Hint → Prop} {hs : HR} (ho : ∀ h ∈ hs,P h) {F : (HR → Option Out) → ζ → Option Out} (e : ∀ D Z,F D Z = D hs) : Pl P F := ⟨hs,ho,e⟩
theorem ok_hd {P : Hint → Prop} {h h' : Hint} {r : HR} (ho : ∀ x ∈ h :: r,P x) (e : P h → P h') : ∀ x ∈ h' :: r,P x := fun x hx => by
 rcases List.mem_cons.mp hx with rfl | hx
 · exact e (ho _ (List.mem_cons_self ..))
 · exact ho x (List.mem_cons_of_mem _ hx)
theorem hiV_or {P : Hint → Prop} (hp : ∀ n x f,P (.v (n + 1) x f) → P (.v n x f)) : ∀ {hs : HR},(∀ h ∈ hs,P h) → (∃ x f r,hs = .v 0 x f :: r) ∨ Pl P (hiV hs)
 | .v 0 _ _ :: _,_ => .inl ⟨_,_,_,rfl⟩
 | .v (n + 1) x f :: _,ho => .inr (.mk (ok_hd ho (hp n x f)) fun _ _ => rfl)
 | [],ho | .s :: _,ho | .o _ :: _,ho | .c _ _ _ :: _,ho | .d _ _ _ :: _,ho | .e _ :: _,ho | .b _ _ _ :: _,ho | .r _ _ :: _,ho | .w _ _ _ _ :: _,ho => .inr (.mk ho fun _ _ => rfl)
theorem hiD_or {P : Hint → Prop} (hp : ∀ n x f,P (.d (n + 1) x f) → P (.d n x f)) : ∀ {hs : HR},(∀ h ∈ hs,P h) → (∃ x f r,hs = .d 0 x f :: r) ∨ Pl P (hiD hs)
 | .d 0 _ _ :: _,_ => .inl ⟨_,_,_,rfl⟩
 | .d (n + 1) x f :: _,ho => .inr (.mk (ok_hd ho (hp n x f)) fun _ _ => rfl)
 | [],ho | .s :: _,ho | .o _ :: _,ho | .c _ _ _ :: _,ho | .e _ :: _,ho | .b _ _ _ :: _,ho | .v _ _ _ :: _,ho | .r _ _ :: _,ho | .w _ _ _ _ :: _,ho => .inr (.mk ho fun _ _ => rfl)
theorem hiC_or {P : Hint → Prop} (hp : ∀ n x f,P (.c (n + 1) x f) → P (.c n x f)) : ∀ {hs : HR},(∀ h ∈ hs,P h) → (∃ x f r,hs = .c 0 x f :: r) ∨ Pl P (hiC hs)
 | .c 0 _ _ :: _,_ => .inl ⟨_,_,_,rfl⟩
 | .c (n + 1) x f :: _,ho => .inr (.mk (ok_hd ho (hp n x f)) fun _ _ => rfl)
 | [],ho | .s :: _,ho | .o _ :: _,ho | .d _ _ _ :: _,ho | .e _ :: _,ho | .b _ _ _ :: _,ho | .v _ _ _ :: _,ho | .r _ _ :: _,ho | .w _ _ _ _ :: _,ho => .inr (.mk ho fun _ _ => rfl)
theorem hiB_or {P : Hint → Prop} (hp : ∀ n x f,P (.b (n + 1) x f) → P (.b n x f)) : ∀ {hs : HR},(∀ h ∈ hs,P h) → (∃ x f r,hs = .b 0 x f :: r) ∨ Pl P (hiB hs)
 | .b 0 _ _ :: _,_ => .inl ⟨_,_,_,rfl⟩
 | .b (n + 1) x f :: _,ho => .inr (.mk (ok_hd ho (hp n x f)) fun _ _ => rfl)
 | [],ho | .s :: _,ho | .o _ :: _,ho | .c _ _ _ :: _,ho | .d _ _ _ :: _,ho | .e _ :: _,ho | .v _ _ _ :: _,ho | .r _ _ :: _,ho | .w _ _ _ _ :: _,ho => .inr (.mk ho fun _ _ => rfl)
theorem hiW_or {P : Hint → Prop} (hp : ∀ n x f g,P (.w (n + 1) x f g) → P (.w n x f g)) : ∀ {hs : HR},(∀ h ∈ hs,P h) → (∃ x f g r,hs = .w 0 x f g :: r) ∨ Pl P (hiW hs)
 | .w 0 _ _ _ :: _,_ => .inl ⟨_,_,_,_,rfl⟩
 | .w (n + 1) x f g :: _,ho => .inr (.mk (ok_hd ho (hp n x f g)) fun _ _ => rfl)
 | [],ho | .s :: _,ho | .o _ :: _,ho | .c _ _ _ :: _,ho | .d _ _ _ :: _,ho | .e _ :: _,ho | .b _ _ _ :: _,ho | .v _ _ _ :: _,ho | .r _ _ :: _,ho => .inr (.mk ho fun _ _ => rfl)
theorem hiR_or {P : Hint → Prop} (hp : ∀ n x,P (.r (n + 1) x) → P (.r n x)) : ∀ {hs : HR},(∀ h ∈ hs,P h) → (∃ x r,hs = .r 0 x :: r) ∨ Pl P (hiR hs)
 | .r 0 _ :: _,_ => .inl ⟨_,_,rfl⟩
 | .r (n + 1) x :: _,ho => .inr (.mk (ok_hd ho (hp n x)) fun _ _ => rfl)
 | [],ho | .s :: _,ho | .o _ :: _,ho | .c _ _ _ :: _,ho | .d _ _ _ :: _,ho | .e _ :: _,ho | .b _ _ _ :: _,ho | .v _ _ _ :: _,ho | .w _ _ _ _ :: _,ho => .inr (.mk ho fun _ _ => rfl)
theorem hiE_or {P : Hint → Prop} (hp : ∀ n,P (.e (n + 1)) → P (.e n)) : ∀ {hs : HR},(∀ h ∈ hs,P h) → (∃ r,hs = .e 0 :: r) ∨ Pl P (hiE hs)
 | .e 0 :: _,_ => .inl ⟨_,rfl⟩
 | .e (n + 1) :: _,ho => .inr (.mk (ok_hd ho (hp n)) fun _ _ => rfl)
 | [],ho | .s :: _,ho | .o _ :: _,ho | .c _ _ _ :: _,ho | .d _ _ _ :: _,ho | .b _ _ _ :: _,ho | .v _ _ _ :: _,ho | .r _ _ :: _,ho | .w _ _ _ _ :: _,ho => .inr (.mk ho fun _ _ => rfl)
theorem hiO_or : ∀ {hs : HR},(∃ j r,hs = .o j :: r) ∨ ∀ Z,hiO hs Z = none
 | .o _ :: _ => .inl ⟨_,_,rfl⟩
 | [] | .s :: _ | .c _ _ _ :: _ | .d _ _ _ :: _ | .e _ :: _ | .b _ _ _ :: _ | .v _ _ _ :: _ | .r _ _ :: _ | .w _ _ _ _ :: _ => .inr fun _ => rfl
section
variable (V : Cfg) (ad : Nat → Nat) (tk : Nat → Nat)
noncomputable def useP (bl : List (Code × Pos)) (c : Code) (idx : List Nat) (C : CF) (P : CPre) (os : List Obj) (L : BT) (m i : Nat) (acc : Acc) (cont : Result → BT → Nat → Nat → Acc → Option Out) : Option Out :=
 ob (puts L idx (P.upd (span ad m P.nn) (span tk i P.nt))) fun L' => ob (news L' m (P.new (span ad m P.nn) (span tk i P.nt))) fun q => gd (Nat.beq q.2 (m + P.nn))
  (cont (P.res (span ad m P.nn) (span tk i P.nt)) q.1 q.2 (i + P.nt) (preB C os ((.c c,.c P.code) :: (.o os,.o P.own) :: (.k bl,.k (C.B bl)) :: acc)))
noncomputable def useC (g : G) (c : Code) (idx : List Nat) (C : CF) (L : BT) (m i : Nat) (acc : Acc) (cont : Result → BT → Nat → Nat → Acc → Option Out) : Option Out :=
  gd (Nat.ble g.db C.D) (gd (Nat.ble g.ub C.U) (gd (calmOk C g.Γ.handled) (gd (gfOk C g) (ob (objs L idx) fun os => useP ad tk g.Γ.below c idx C (C.F c (idx.map ad) os) os L m i acc cont))))
noncomputable def retS (sim : SimTy) (hs : List Hint) (κ : List KF) (r : Result) (L : BT) (m i : Nat) (acc : Acc) : Option Out := match κ with
 | [] => match hs with
  | [] => some ⟨r,L,m,i,acc⟩
  | _ :: _ => none
 | f :: κ => sim hs f.g f.p (f.k r) κ L m i acc
noncomputable def loadS (hs : List Hint) (a : Nat) (L : BT) (acc : Acc) (cont : List Hint → Obj → Acc → Option Out) : Option Out := match hs with
 | [] => none
 | h :: r => match h with
  | .s => ob (V.kt.get a) fun o => cont r o acc
  | .o j => ob (L.get j) fun o => cont r o ((.n a,.n (ad j)) :: acc)
  | _ => none
noncomputable def entered (t : Sem Fin) : Option Code := match t with
 | .load a _ k => match V.kt.get a with
  | some o => match k o with
   | .pure fin => match fin with
    | .again c => some c
    | .done _ => none
   | _ => none
  | none => none
 | _ => none
noncomputable def stDo (sim : SimTy) (hs : List Hint) (f : Flow) (κ : List KF) (L : BT) (m i : Nat) (acc : Acc) : Option Out :=
  hiV hs (fun hs => retS sim hs κ (.ok f) L m i acc) fun x f' r => retS sim r κ (.ok (f' (tokF f))) L m i ((.f f,.f (x (tokF f))) :: acc)
noncomputable def stBg (sim : SimTy) (hs : List Hint) (g : G) (p : Pos) (c : Code) (κ : List KF) (L : BT) (m i : Nat) (acc : Acc) : Option Out :=
  hiB hs (fun hs => sim hs (g.goto c) p (V.den c) κ L m i acc) fun c' t' r => sim r (g.goto c) p t' κ L m i ((.c c,.c c') :: acc)
noncomputable def stAg (sim : SimTy) (hs : List Hint) (g : G) (p : Pos) (c : Code) (κ : List KF) (L : BT) (m i : Nat) (acc : Acc) : Option Out :=
  hiD hs (fun hs => stBg V sim hs g p c κ L m i acc) fun idx C r => useC ad tk (g.goto c) c idx C L m i acc (retS sim r κ)
noncomputable def stAt (sim : SimTy) (hs : List Hint) (g : G) (p' : Pos) (k : Unit → Sem Fin) (κ : List KF) (L : BT) (m i : Nat) (acc : Acc) : Option Out :=
  hiW hs (fun hs => sim hs g p' (k ()) κ L m i acc) fun idx y1 y2 r => ob (objs L idx) fun _ => sim r g p' (y2 (idx.map ad)) κ L m i ((.t (k ()),.t (y1 (idx.map ad))) :: acc)
noncomputable def stRo (sim : SimTy) (hs : List Hint) (g : G) (p : Pos) (k : List (Code × Pos) → Sem Fin) (κ : List KF) (L : BT) (m i : Nat) (acc : Acc) : Option Out :=
 hiR hs (fun hs => sim hs g p (k ((g.Γ.code,p) :: g.Γ.below)) κ L m i acc)
  fun w r => gd (Nat.ble (g.ub + g.Γ.code.cUnits) 9899) (sim r g p (k []) κ L m i ((.t (.stack k),.t (V.bnd (V.room w) fun _ => k [])) :: acc))
noncomputable def stSt (sim : SimTy) (hs : List Hint) (g : G) (p : Pos) (k : List (Code × Pos) → Sem Fin) (κ : List KF) (L : BT) (m i : Nat) (acc : Acc) : Option Out :=
 hiE hs (fun hs => stRo V sim hs g p k κ L m i acc)
  fun r => ob (entered V (k [])) fun c => gd c.quiet (gd (Nat.ble (g.db + g.Γ.code.weight) 999) (sim r (g.goto c) p (V.den c) κ L m i ((.t (.stack k),.t (V.bnd V.enter fun _ => .pure (.again c))) :: acc)))
noncomputable def stUp (sim : SimTy) (hs : List Hint) (g : G) (p : Pos) (a : Nat) (f : Obj → Obj) (k : Unit → Sem Fin) (κ : List KF) (L : BT) (m i : Nat) (acc : Acc) : Option Out :=
  hiO hs fun j r => ob (L.get j) fun o => gd (!(f o).isFreed) (sim r g p (k ()) κ (L.set j f) m i ((.n a,.n (ad j)) :: acc))
noncomputable def stCa (sim : SimTy) (hs : List Hint) (g : G) (p : Pos) (c' : Code) (hd : Option Value) (k : Result → Sem Fin) (κ : List KF) (L : BT) (m i : Nat) (acc : Acc) : Option Out :=
  hiC hs (fun hs => sim hs (g.enter c' hd p) p (V.den c') (⟨g,p,k⟩ :: κ) L m i acc) fun idx C r => useC ad tk (g.enter c' hd p) c' idx C L m i acc fun x => sim r g p (k x) κ
abbrev StTy := Cfg → (Nat → Nat) → (Nat → Nat) → SimTy → HR → G → Pos → List KF → BT → Nat → Nat → Acc → Option Out
noncomputable def stepT (t : Sem Fin) : StTy := Sem.rec (motive := fun _ => StTy)
 (pure := fun f => PySem.Fin.rec (motive := fun _ => StTy) (done := fun f _ _ _ sim hs _ _ κ L m i acc => stDo sim hs f κ L m i acc) (again := fun c V ad tk sim hs g p κ L m i acc => gd c.quiet (stAg V ad tk sim hs g p c κ L m i acc)) f)
 (raise := fun e _ _ _ sim hs _ _ κ L m i acc => retS sim hs κ (.error e) L m i acc)
 (unsupported := fun _ _ _ _ _ _ _ _ _ _ _ _ _ => none)
 (finish := fun _ _ _ _ _ _ _ _ _ _ _ _ _ => none)
 (rule := fun _ k _ _ _ _ sim hs g p κ L m i acc => sim hs g p (k ()) κ L m i acc)
 («at» := fun p' k _ _ ad _ sim hs g _ κ L m i acc => stAt ad sim hs g p' k κ L m i acc)
 (load := fun a _ k _ V ad _ sim hs g p κ L m i acc => loadS V ad hs a L acc fun hs o acc => sim hs g p (k o) κ L m i acc)
 (update := fun a _ f k _ _ ad _ sim hs g p κ L m i acc => stUp ad sim hs g p a f k κ L m i acc)
 (alloc := fun o k _ _ ad _ sim hs g p κ L m i acc => gd (!o.isFreed) (ob ((L.ins m o).get m) fun _ => sim hs g p (k (ad m)) κ (L.ins m o) (m + 1) i acc))
 (loadIfAlive := fun a k _ V ad _ sim hs g p κ L m i acc => loadS V ad hs a L acc fun hs o acc => sim hs g p (k (some o)) κ L m i acc)
 (point := fun _ k _ _ _ _ sim hs g p κ L m i acc => sim hs g p (k ()) κ L m i acc)
 (register := fun _ _ _ _ _ _ _ _ _ _ _ _ _ _ _ => none)
 (fresh := fun k _ _ _ tk sim hs g p κ L m i acc => sim hs g p (k (tk i)) κ L m (i + 1) acc)
 (ask := fun k _ V _ _ sim hs g p κ L m i acc => sim hs g p (k ⟨V.prog,V.P⟩) κ L m i ((.t (k ⟨V.prog,V.P⟩),.t (k ⟨V.prog,V.P2⟩)) :: acc))
 (choose := fun _ _ _ _ _ _ _ _ _ _ _ _ _ _ _ _ => none)
 (os := fun _ _ _ _ _ _ _ _ _ _ _ _ _ _ _ _ => none)
 (call := fun c' hd _ _ k _ V ad tk sim hs g p κ L m i acc => stCa V ad tk sim hs g p c' hd k κ L m i acc)
 (handled := fun own k _ _ _ _ sim hs g p κ L m i acc => sim hs g p (k (if own then g.Γ.own else g.Γ.handled)) κ L m i acc)
 (newGen := fun _ _ _ _ _ _ _ _ _ _ _ _ _ _ _ => none)
 (genState := fun _ _ _ _ _ _ _ _ _ _ _ _ _ _ _ => none)
 (resume := fun _ _ _ _ _ _ _ _ _ _ _ _ _ _ _ _ _ => none)
 (yield := fun _ _ _ _ _ _ _ _ _ _ _ _ _ _ _ _ _ => none)
 (stack := fun k _ V _ _ sim hs g p κ L m i acc => stSt V sim hs g p k κ L m i acc)
 (fork := fun _ _ _ _ _ _ _ _ _ _ _ _ _ _ _ => none)
 (thread := fun _ _ _ _ _ _ _ _ _ _ _ _ _ _ => none)
 (await := fun _ _ _ _ _ _ _ _ _ _ _ _ _ _ _ _ _ _ => none)
 t
noncomputable def step1 (sim : SimTy) (hs : List Hint) (g : G) (p : Pos) (t : Sem Fin) (κ : List KF) (L : BT) (m i : Nat) (acc : Acc) : Option Out := stepT t V ad tk sim hs g p κ L m i acc
noncomputable def sim (n : Nat) : SimTy := Nat.rec (fun _ _ _ _ _ _ _ _ _ => none) (fun _ s hs g p t κ L m i acc => stepT t V ad tk s hs g p κ L m i acc) n
end
noncomputable def RunK (M : Model) : List KF → Ctx → Pos → Sem Fin → Shared → Result → Shared → Prop
 | [],Γ,p,t,s,r,s' => Runs M Γ p t [] s (.ret r) s'
 | f :: κ,Γ,p,t,s,r,s' => ∃ r1 s1,Runs M Γ p t [] s (.ret r1) s1 ∧ RunK M κ f.g.Γ f.p (f.k r1) s1 r s'
theorem RunK.step {M : Model} {Γ Γ' : Ctx} {p p' : Pos} {t t' : Sem Fin} {s s2 : Shared} (h : ∀ r s',Runs M Γ' p' t' [] s2 (.ret r) s' → Runs M Γ p t [] s (.ret r) s') : ∀ {κ : List KF} {r s'},RunK M κ Γ' p' t' s2 r s' → RunK M κ Γ p t s r s'
 | [],_,_,x => h _ _ x
 | _ :: _,_,_,⟨r1,s1,x,y⟩ => ⟨r1,s1,h _ _ x,y⟩
theorem RunK.call {M : Model} {g : G} {p : Pos} {c : Code} {hd : Option Value} {b : Bool} {l : List Value} {k : Result → Sem Fin} {s s' : Shared} {r : Result} : ∀ {κ : List KF},RunK M (⟨g,p,k⟩ :: κ) (g.Γ.enter c hd p) p (M.den c) s r s' → RunK M κ g.Γ p (.call c hd b l k) s r s'
 | [],⟨_,_,x,y⟩ => Runs.call x y
 | _ :: _,⟨_,_,x,⟨r2,s2,y,z⟩⟩ => ⟨r2,s2,Runs.call x y,z⟩
theorem RunK.call1 {M : Model} {Γ : Ctx} {p : Pos} {c : Code} {hd : Option Value} {b : Bool} {l : List Value} {k : Result → Sem Fin} {s s1 s' : Shared} {r r1 : Result} (x : Runs M (Γ.enter c hd p) p (M.den c) [] s (.ret r1) s1) : ∀ {κ : List KF},RunK M κ Γ p (k r1) s1 r s' → RunK M κ Γ p (.call c hd b l k) s r s'
 | [],y => Runs.call x y
 | _ :: _,⟨r2,s2,y,z⟩ => ⟨r2,s2,Runs.call x y,z⟩
noncomputable def Own (h : Heap) : List Nat → List Obj → Prop
 | [],[] => True
 | a :: as,o :: os => h.get? a = some o ∧ Own h as os
 | _,_ => False
structure Kept (s s' : Shared) (as : List Nat) : Prop where
 keep : ∀ b o,s.heap.get? b = some o → b ∉ as → s'.heap.get? b = some o
 size : s.heap.objs.size ≤ s'.heap.objs.size
 gens : s'.gens = s.gens
 os : s'.os = s.os
noncomputable def Ctr1 (M : Model) (kt : KT) (D U : Nat) (calm gf : Bool) (bl : List (Code × Pos)) (as : List Nat) (P : CPre) : Prop :=
 ∀ (Γ : Ctx) (p : Pos) (s : Shared),Γ.code = P.code → Γ.below = bl → (calm = true → Γ.handled = none) → (gf = true → allFree Γ.below) → frameCount Γ.below ≤ D → unitsOf Γ.below ≤ U →
 (∀ a o,kt.get a = some o → s.heap.get? a = some o) → Own s.heap as P.own → as.Nodup → (∀ a ∈ as,kt.get a = none) →
 ∃ (nad : List Nat) (ntk : List Nat) (s' : Shared),nad.length = P.nn ∧ ntk.length = P.nt ∧ nad.Nodup ∧ (∀ a ∈ nad,s.heap.objs.size ≤ a ∧ a < s'.heap.objs.size) ∧
  Runs M Γ p (M.den P.code) [] s (.ret (P.res nad ntk)) s' ∧ Own s'.heap as (P.upd nad ntk) ∧ Own s'.heap nad (P.new nad ntk) ∧ Kept s s' as
noncomputable def Ctr (M : Model) (kt : KT) (C : CF) : Prop := ∀ (bl : List (Code × Pos)) (c : Code) (as : List Nat) (os : List Obj),C.B bl = bl → preOk C os → (C.F c as os).code = c → (C.F c as os).own = os → Ctr1 M kt C.D C.U C.calm C.gf bl as (C.F c as os)
structure Inv (kt : KT) (s₀ : Shared) (m₀ : Nat) (ad : Nat → Nat) (L : BT) (m : Nat) (s : Shared) : Prop where
 st : ∀ a o,kt.get a = some o → s.heap.get? a = some o
 own : ∀ j o,L.get j = some o → j < m ∧ s.heap.get? (ad j) = some o
 lt : ∀ j,j < m → ad j < s.heap.objs.size
 inj : ∀ j k,j < m → k < m → ad j = ad k → j = k
 nst : ∀ j,j < m → kt.get (ad j) = none
 keep : ∀ b o,s₀.heap.get? b = some o → (∀ j,j < m₀ → b ≠ ad j) → s.heap.get? b = some o
 new : ∀ j,m₀ ≤ j → j < m → s₀.heap.objs.size ≤ ad j
 mle : m₀ ≤ m
 size : s₀.heap.objs.size ≤ s.heap.objs.size
 gens : s.gens = s₀.gens
 os : s.os = s₀.os
noncomputable def Fits (g : G) : Prop := frameCount g.Γ.below ≤ g.db ∧ unitsOf g.Γ.below ≤ g.ub ∧ (g.gf = true → allFree g.Γ.below)
theorem Fits.enter {g : G} (h : Fits g) (c : Code) (hd : Option Value) (p : Pos) : Fits (g.enter c hd p) := by
 refine ⟨?_,?_,?_⟩
 · show frameCount ((g.Γ.code,p) :: g.Γ.below) ≤ g.db + g.Γ.code.weight
   rw [frameCount_cons]; have := h.1; omega
 · show unitsOf ((g.Γ.code,p) :: g.Γ.below) ≤ g.ub + g.Γ.code.cUnits
   rw [unitsOf_cons]; have := h.2.1; omega
 · show (match g.gf with | true => free g.Γ.code | false => false) = true → allFree ((g.Γ.code,p) :: g.Γ.below)
   intro e
   cases h1 : g.gf with
   | false => rw [h1] at e; cases e
   | true =>
    rw [h1] at e
    intro x hx
    rcases List.mem_cons.mp hx with rfl | hx
    · exact e
    · exact h.2.2 h1 x hx
theorem Fits.goto {g : G} (h : Fits g) (c : Code) : Fits (g.goto c) := h
noncomputable def Acc.Le (a b : Acc) : Prop := ∀ x,x ∈ a → x ∈ b
theorem Acc.Le.rfl {a : Acc} : Acc.Le a a := fun _ h => h
theorem Acc.Le.trans {a b c : Acc} (x : Acc.Le a b) (y : Acc.Le b c) : Acc.Le a c := fun _ h => y _ (x _ h)
noncomputable def Acc.Good (a : Acc) : Prop := ∀ x,x ∈ a → x.1 = x.2
theorem Acc.Good.le {a b : Acc} (x : Acc.Le a b) (y : b.Good) : a.Good := fun _ h => y _ (x _ h)
section
variable {V : Cfg} {ad : Nat → Nat} {tk : Nat → Nat}
theorem preB_le {C : CF} {os : List Obj} {acc : Acc} : Acc.Le acc (preB C os acc) := fun x q => by
 unfold preB
 split
 · exact q
 · exact List.mem_cons_of_mem _ q
theorem preB_ok {C : CF} {os : List Obj} {acc : Acc} (h : Acc.Good (preB C os acc)) : preOk C os := by
 unfold preB at h
 unfold preOk
 cases e : C.pre with
 | none => trivial
 | some P =>
  rw [e] at h
  exact (Ob.q.inj (h _ (List.mem_cons_self ..))).mpr trivial
noncomputable def Le1 (acc : Acc) (x : Option Out) : Prop := ∀ o,x = some o → Acc.Le acc o.acc
theorem no {α : Type} {x : α} {P : Prop} (h : none = some x) : P := nomatch h
theorem Le1.no {acc : Acc} : Le1 acc none := fun _ e => Mine.no e
theorem Le1.cons {y : Ob × Ob} {acc : Acc} {x : Option Out} (h : Le1 (y :: acc) x) : Le1 acc x := fun o e x q => h o e x (List.mem_cons_of_mem _ q)
theorem Le1.gd {acc : Acc} {b : Bool} {x : Option Out} (h : Le1 acc x) : Le1 acc (gd b x) := match b with
 | true => h
 | false => fun _ e => nomatch e
theorem Le1.ob {acc : Acc} {α : Type} {x : Option α} {f : α → Option Out} (h : ∀ a,Le1 acc (f a)) : Le1 acc (ob x f) := match x with
 | some a => h a
 | none => fun _ e => nomatch e
theorem Le1.pl {ζ : Type} {acc : Acc} {P : Hint → Prop} {F : (HR → Option Out) → ζ → Option Out} {D : HR → Option Out} {Z : ζ} (h : Pl P F) (hd : ∀ hs,Le1 acc (D hs)) : Le1 acc (F D Z) := by
 obtain ⟨hs,_,e⟩ := h
 rw [e]
 exact hd hs
theorem tt_ok {hs : HR} : ∀ h ∈ hs,(fun _ : Hint => True) h := fun _ _ => trivial
theorem Le1.hiV {acc : Acc} {hs : HR} {D : HR → Option Out} {Z : (Nat → Flow) → (Nat → Flow) → HR → Option Out} (hd : ∀ hs,Le1 acc (D hs)) (hz : ∀ x f r,Le1 acc (Z x f r)) : Le1 acc (hiV hs D Z) := by
 rcases hiV_or (fun _ _ _ _ => trivial) (tt_ok (hs := hs)) with ⟨x,f,r,rfl⟩ | h
 · exact hz _ _ _
 · exact .pl h hd
theorem Le1.hiD {acc : Acc} {hs : HR} {D : HR → Option Out} {Z : List Nat → CF → HR → Option Out} (hd : ∀ hs,Le1 acc (D hs)) (hz : ∀ x f r,Le1 acc (Z x f r)) : Le1 acc (hiD hs D Z) := by
 rcases hiD_or (fun _ _ _ _ => trivial) (tt_ok (hs := hs)) with ⟨x,f,r,rfl⟩ | h
 · exact hz _ _ _
 · exact .pl h hd
theorem Le1.hiC {acc : Acc} {hs : HR} {D : HR → Option Out} {Z : List Nat → CF → HR → Option Out} (hd : ∀ hs,Le1 acc (D hs)) (hz : ∀ x f r,Le1 acc (Z x f r)) : Le1 acc (hiC hs D Z) := by
 rcases hiC_or (fun _ _ _ _ => trivial) (tt_ok (hs := hs)) with ⟨x,f,r,rfl⟩ | h
 · exact hz _ _ _
 · exact .pl h hd
theorem Le1.hiB {acc : Acc} {hs : HR} {D : HR → Option Out} {Z : Code → Sem Fin → HR → Option Out} (hd : ∀ hs,Le1 acc (D hs)) (hz : ∀ x f r,Le1 acc (Z x f r)) : Le1 acc (hiB hs D Z) := by
 rcases hiB_or (fun _ _ _ _ => trivial) (tt_ok (hs := hs)) with ⟨x,f,r,rfl⟩ | h
 · exact hz _ _ _
 · exact .pl h hd
theorem Le1.hiW {acc : Acc} {hs : HR} {D : HR → Option Out} {Z : List Nat → (List Nat → Sem Fin) → (List Nat → Sem Fin) → HR → Option Out} (hd : ∀ hs,Le1 acc (D hs)) (hz : ∀ x f g r,Le1 acc (Z x f g r)) : Le1 acc (hiW hs D Z) := by
 rcases hiW_or (fun _ _ _ _ _ => trivial) (tt_ok (hs := hs)) with ⟨x,f,g,r,rfl⟩ | h
 · exact hz _ _ _ _
 · exact .pl h hd
theorem Le1.hiR {acc : Acc} {hs : HR} {D : HR → Option Out} {Z : String → HR → Option Out} (hd : ∀ hs,Le1 acc (D hs)) (hz : ∀ x r,Le1 acc (Z x r)) : Le1 acc (hiR hs D Z) := by
 rcases hiR_or (fun _ _ _ => trivial) (tt_ok (hs := hs)) with ⟨x,r,rfl⟩ | h
 · exact hz _ _
 · exact .pl h hd
theorem Le1.hiE {acc : Acc} {hs : HR} {D : HR → Option Out} {Z : HR → Option Out} (hd : ∀ hs,Le1 acc (D hs)) (hz : ∀ r,Le1 acc (Z r)) : Le1 acc (hiE hs D Z) := by
 rcases hiE_or (fun _ _ => trivial) (tt_ok (hs := hs)) with ⟨r,rfl⟩ | h
 · exact hz _
 · exact .pl h hd
theorem Le1.hiO {acc : Acc} {hs : HR} {Z : Nat → HR → Option Out} (hz : ∀ j r,Le1 acc (Z j r)) : Le1 acc (hiO hs Z) := by
 rcases hiO_or (hs := hs) with ⟨j,r,rfl⟩ | h
 · exact hz _ _
 · rw [h]; exact fun _ e => nomatch e
theorem useC_le {g : G} {c : Code} {idx : List Nat} {C : CF} {L : BT} {m i : Nat} {acc : Acc} {cont : Result → BT → Nat → Nat → Acc → Option Out} (hc : ∀ r L m i acc,Le1 acc (cont r L m i acc)) : Le1 acc (useC ad tk g c idx C L m i acc cont) :=
  .gd (.gd (.gd (.gd (.ob fun _ => .ob fun _ => .ob fun _ => .gd fun o e x q => hc _ _ _ _ _ o e x (preB_le x (List.mem_cons_of_mem _ (List.mem_cons_of_mem _ (List.mem_cons_of_mem _ q))))))))
theorem useP_le {bl c idx C P os L m i} {acc : Acc} {cont : Result → BT → Nat → Nat → Acc → Option Out} (hc : ∀ r L m i acc,Le1 acc (cont r L m i acc)) : Le1 (preB C os ((.c c,.c P.code) :: (.o os,.o P.own) :: (.k bl,.k (C.B bl)) :: acc)) (useP ad tk bl c idx C P os L m i acc cont) :=
  .ob fun _ => .ob fun _ => .gd (hc _ _ _ _ _)
noncomputable def LeS (sim : SimTy) : Prop := ∀ hs g p t κ L m i acc,Le1 acc (sim hs g p t κ L m i acc)
theorem retS_le {sim : SimTy} (ih : LeS sim) {hs r L m i acc} : ∀ {κ},Le1 acc (retS sim hs κ r L m i acc)
 | [] => match hs with
  | [] => fun _ e => by cases e; exact .rfl
  | _ :: _ => fun _ e => nomatch e
 | _ :: _ => ih _ _ _ _ _ _ _ _ _
theorem loadS_or : ∀ {hs : HR},(∃ r,hs = .s :: r) ∨ (∃ j r,hs = .o j :: r) ∨ ∀ (ad : Nat → Nat) a L acc cont,loadS V ad hs a L acc cont = none
 | .s :: _ => .inl ⟨_,rfl⟩
 | .o _ :: _ => .inr (.inl ⟨_,_,rfl⟩)
 | [] | .c _ _ _ :: _ | .d _ _ _ :: _ | .e _ :: _ | .b _ _ _ :: _ | .v _ _ _ :: _ | .r _ _ :: _ | .w _ _ _ _ :: _ => .inr (.inr fun _ _ _ _ _ => rfl)
theorem loadS_le {hs : HR} {a : Nat} {L : BT} {acc : Acc} {cont : HR → Obj → Acc → Option Out} (hc : ∀ r x acc,Le1 acc (cont r x acc)) : Le1 acc (loadS V ad hs a L acc cont) := by
 rcases loadS_or (V := V) (hs := hs) with ⟨r,rfl⟩ | ⟨j,r,rfl⟩ | h
 · exact .ob fun _ => hc _ _ _
 · exact .ob fun _ => .cons (hc _ _ _)
 · rw [h]; exact fun _ e => nomatch e
theorem step1_le {sim : SimTy} (ih : LeS sim) : LeS (step1 V ad tk sim) := fun hs g p t κ L m i acc => match t with
 | .pure (.done _) => show Le1 acc (stDo _ _ _ _ _ _ _ _) by delta stDo; exact .hiV (fun _ => retS_le ih) fun _ _ _ => .cons (retS_le ih)
 | .pure (.again _) => .gd (show Le1 acc (stAg _ _ _ _ _ _ _ _ _ _ _ _ _) by
  delta stAg; refine .hiD (fun _ => ?_) fun _ _ _ => useC_le fun _ _ _ _ _ => retS_le ih
  delta stBg; exact .hiB (fun _ => ih _ _ _ _ _ _ _ _ _) fun _ _ _ => .cons (ih _ _ _ _ _ _ _ _ _))
 | .raise _ => retS_le ih
 | .rule _ _ => ih _ _ _ _ _ _ _ _ _
 | .at _ _ => show Le1 acc (stAt _ _ _ _ _ _ _ _ _ _ _) by delta stAt; exact .hiW (fun _ => ih _ _ _ _ _ _ _ _ _) fun _ _ _ _ => .ob fun _ => .cons (ih _ _ _ _ _ _ _ _ _)
 | .point _ _ => ih _ _ _ _ _ _ _ _ _
 | .ask _ => .cons (ih _ _ _ _ _ _ _ _ _)
 | .fresh _ => ih _ _ _ _ _ _ _ _ _
 | .handled _ _ => ih _ _ _ _ _ _ _ _ _
 | .stack _ => show Le1 acc (stSt _ _ _ _ _ _ _ _ _ _ _) by
  delta stSt; refine .hiE (fun _ => ?_) fun _ => .ob fun _ => .gd (.gd (.cons (ih _ _ _ _ _ _ _ _ _)))
  delta stRo; exact .hiR (fun _ => ih _ _ _ _ _ _ _ _ _) fun _ _ => .gd (.cons (ih _ _ _ _ _ _ _ _ _))
 | .load _ _ _ => loadS_le fun _ _ _ => ih _ _ _ _ _ _ _ _ _
 | .loadIfAlive _ _ => loadS_le fun _ _ _ => ih _ _ _ _ _ _ _ _ _
 | .alloc _ _ => .gd (.ob fun _ => ih _ _ _ _ _ _ _ _ _)
 | .update _ _ _ _ => show Le1 acc (stUp _ _ _ _ _ _ _ _ _ _ _ _ _) by delta stUp; exact .hiO fun _ _ => .ob fun _ => .gd (.cons (ih _ _ _ _ _ _ _ _ _))
 | .call _ _ _ _ _ => show Le1 acc (stCa _ _ _ _ _ _ _ _ _ _ _ _ _ _ _) by delta stCa; exact .hiC (fun _ => ih _ _ _ _ _ _ _ _ _) fun _ _ _ => useC_le fun _ _ _ _ _ => ih _ _ _ _ _ _ _ _ _
 | .unsupported _ => .no
 | .finish _ => .no
 | .register _ _ => .no
 | .choose _ _ _ => .no
 | .os _ _ _ => .no
 | .newGen _ _ => .no
 | .genState _ _ => .no
 | .resume _ _ _ _ => .no
 | .yield _ _ _ _ => .no
 | .fork _ _ => .no
 | .thread _ => .no
 | .await _ _ _ _ _ => .no
theorem sim_le : ∀ (n : Nat),LeS (sim V ad tk n)
 | 0 => fun _ _ _ _ _ _ _ _ _ _ e => nomatch e
 | n + 1 => step1_le (sim_le n)
end
theorem objs_get : ∀ {L : BT} {idx : List Nat} {os : List Obj},objs L idx = some os → ∀ j,j ∈ idx → ∃ o,L.get j = some o
 | _,[],_,_,_,h => nomatch h
 | L,i :: r,os,h,j,hj => by
  unfold objs at h
  repeat' split at h
  all_goals first | cases h | skip
  skip
  rcases List.mem_cons.mp hj with rfl | hj
  · exact ⟨_,by assumption⟩
  · exact objs_get (by assumption) j hj
theorem objs_own {h : Heap} {ad : Nat → Nat} : ∀ {L : BT} {idx : List Nat} {os : List Obj},(∀ j o,L.get j = some o → h.get? (ad j) = some o) → objs L idx = some os → Own h (idx.map ad) os
 | _,[],_,_,e => by cases e; trivial
 | L,i :: r,os,H,e => by
  unfold objs at e
  repeat' split at e
  all_goals first | cases e | skip
  exact ⟨H _ _ (by assumption),objs_own H (by assumption)⟩
theorem Own.get {h : Heap} {as : List Nat} {os : List Obj} (H : Own h as os) {t : Nat} {a : Nat} {o : Obj} (e : as[t]? = some a) (e' : os[t]? = some o) : h.get? a = some o := by
 induction as generalizing os t with
 | nil => simp at e
 | cons x as ih =>
  cases os with
  | nil => simp at e'
  | cons y os =>
   cases t with
   | zero => simp at e e'; subst e; subst e'; exact H.1
   | succ t => simp at e e'; exact ih H.2 e e'
theorem Own.length {h : Heap} {as : List Nat} {os : List Obj} (H : Own h as os) : as.length = os.length := by
 induction as generalizing os with
 | nil =>
  cases os with
  | nil => rfl
  | cons y os => exact H.elim
 | cons x as ih =>
  cases os with
  | nil => exact H.elim
  | cons y os => exact congrArg (· + 1) (ih H.2)
theorem puts_get : ∀ {idx : List Nat} {os : List Obj} {L L' : BT},puts L idx os = some L' → ∀ j o,L'.get j = some o → (∃ t : Nat,idx[t]? = some j ∧ os[t]? = some o) ∨ (j ∉ idx ∧ L.get j = some o)
 | [],[],L,L',h,j,o,e => by cases h; exact .inr ⟨by simp,e⟩
 | i :: r,x :: os,L,L',h,j,o,e => by
  have h : puts (L.set i fun _ => x) r os = some L' := h
  rcases puts_get h j o e with ⟨t,h1,h2⟩ | ⟨h1,h2⟩
  · exact .inl ⟨t + 1,by simpa using h1,by simpa using h2⟩
  · rw [BT.get_set] at h2
    by_cases hj : j = i
    · subst hj
      rw [if_pos rfl] at h2
      refine .inl ⟨0,by simp,?_⟩
      cases q : L.get j with
      | none => rw [q] at h2; cases h2
      | some y => rw [q] at h2; simpa using h2
    · rw [if_neg hj] at h2
      exact .inr ⟨by simp [hj,h1],h2⟩
 | [],_ :: _,_,_,h,_,_,_ => by cases h
 | _ :: _,[],_,_,h,_,_,_ => by cases h
theorem news_get : ∀ {os : List Obj} {L : BT} {m : Nat} {q : BT × Nat},news L m os = some q → q.2 = m + os.length ∧ ∀ j o,q.1.get j = some o → (∃ t : Nat,j = m + t ∧ os[t]? = some o) ∨ L.get j = some o
 | [],L,m,q,h => by cases h; exact ⟨rfl,fun _ _ e => .inr e⟩
 | x :: os,L,m,q,h => by
  unfold news at h
  split at h
  · rename_i y hy
    obtain ⟨h1,h2⟩ := news_get h
    refine ⟨by rw [h1,List.length_cons]; omega,fun j o e => ?_⟩
    rcases h2 j o e with ⟨t,rfl,e2⟩ | e2
    · exact .inl ⟨t + 1,by omega,by simpa using e2⟩
    · rw [BT.get_ins x L m (by rw [hy]; rfl)] at e2
      by_cases hj : j = m
      · subst hj
        rw [if_pos rfl] at e2
        exact .inl ⟨0,rfl,by simpa using e2⟩
      · rw [if_neg hj] at e2
        exact .inr e2
  · cases h
theorem span_length (f : Nat → Nat) : ∀ (n m : Nat),(span f m n).length = n
 | 0,_ => rfl
 | n + 1,m => congrArg (· + 1) (span_length f n (m + 1))
theorem span_get (f : Nat → Nat) : ∀ (l : List Nat) (m : Nat),(∀ t x,l[t]? = some x → f (m + t) = x) → span f m l.length = l
 | [],_,_ => rfl
 | x :: l,m,h => by
  show f m :: span f (m + 1) l.length = x :: l
  have h0 := h 0 x (by simp)
  rw [Nat.add_zero] at h0
  rw [h0,span_get f l (m + 1) fun t y e => by
   have := h (t + 1) y (by simpa using e)
   rw [← this]; congr 1; omega]
theorem nodup_get {l : List Nat} (hn : l.Nodup) {t t' a : Nat} (h : l[t]? = some a) (h' : l[t']? = some a) : t = t' := by
 induction l generalizing t t' with
 | nil => simp at h
 | cons x l ih =>
  obtain ⟨hx,hn⟩ := List.nodup_cons.mp hn
  cases t with
  | zero =>
   cases t' with
   | zero => rfl
   | succ t' => simp at h h'; subst h; exact absurd (List.mem_of_getElem? h') hx
  | succ t =>
   cases t' with
   | zero => simp at h h'; subst h'; exact absurd (List.mem_of_getElem? h) hx
   | succ t' => simp at h h'; exact congrArg (· + 1) (ih hn h h')
noncomputable def ext (f : Nat → Nat) (m : Nat) (l : List Nat) (j : Nat) : Nat := if j < m then f j else l.getD (j - m) 0
theorem ext_lt {f : Nat → Nat} {m : Nat} {l : List Nat} {j : Nat} (h : j < m) : ext f m l j = f j := if_pos h
theorem ext_ge {f : Nat → Nat} {m : Nat} {l : List Nat} {t x : Nat} (h : l[t]? = some x) : ext f m l (m + t) = x := by
 unfold ext
 rw [if_neg (by omega),Nat.add_sub_cancel_left,List.getD_eq_getElem?_getD,h]; rfl
section
variable {V : Cfg} {M : Model} {kt : KT} {s₀ : Shared} {m₀ : Nat}
theorem Inv.getLt {ad L m s} (I : Inv kt s₀ m₀ ad L m s) {a : Nat} {o : Obj} (e : kt.get a = some o) : a < s.heap.objs.size := Heap.lt_size (I.st a o e)
theorem Inv.congr {ad ad' : Nat → Nat} {L m s} (I : Inv kt s₀ m₀ ad L m s) (h : ∀ j,j < m → ad' j = ad j) : Inv kt s₀ m₀ ad' L m s where
 st := I.st
 own := fun j o e => ⟨(I.own j o e).1,by rw [h j (I.own j o e).1]; exact (I.own j o e).2⟩
 lt := fun j hj => by rw [h j hj]; exact I.lt j hj
 inj := fun j k hj hk e => by rw [h j hj,h k hk] at e; exact I.inj j k hj hk e
 nst := fun j hj => by rw [h j hj]; exact I.nst j hj
 keep := fun b o e q => I.keep b o e fun j hj => by rw [← h j (Nat.lt_of_lt_of_le hj I.mle)]; exact q j hj
 new := fun j h1 h2 => by rw [h j h2]; exact I.new j h1 h2
 mle := I.mle
 size := I.size
 gens := I.gens
 os := I.os
theorem Inv.alloc {ad L m s} (I : Inv kt s₀ m₀ ad L m s) {o : Obj} (hf : o.isFreed = false) (hg : ((L.ins m o).get m).isSome = true) :
   Inv kt s₀ m₀ (ext ad m [s.heap.objs.size]) (L.ins m o) (m + 1) { s with heap := s.heap.push o } := by
 have hn : ext ad m [s.heap.objs.size] m = s.heap.objs.size := ext_ge (t := 0) (by simp)
 refine ⟨fun a x e => Heap.get?_push_of_some _ (I.st a x e),fun j x e => ?_,fun j hj => ?_,fun j k hj hk e => ?_,fun j hj => ?_,fun b x e q => ?_,fun j h1 h2 => ?_,Nat.le_succ_of_le I.mle,?_,I.gens,I.os⟩
 · rw [BT.get_ins o L m hg] at e
   by_cases h : j = m
   · subst h
     rw [if_pos rfl] at e
     cases e
     exact ⟨Nat.lt_succ_self _,by rw [hn]; exact Heap.get?_push_size _ hf⟩
   · rw [if_neg h] at e
     have z := I.own j x e
     exact ⟨Nat.lt_succ_of_lt z.1,by rw [ext_lt z.1]; exact Heap.get?_push_of_some _ z.2⟩
 · show _ < (s.heap.push o).objs.size
   rw [Heap.size_push]
   rcases Nat.lt_or_eq_of_le (Nat.lt_succ_iff.mp hj) with h | h
   · rw [ext_lt h]; exact Nat.lt_succ_of_lt (I.lt j h)
   · rw [h,hn]; exact Nat.lt_succ_self _
 · rcases Nat.lt_or_eq_of_le (Nat.lt_succ_iff.mp hj) with h | h <;> rcases Nat.lt_or_eq_of_le (Nat.lt_succ_iff.mp hk) with h' | h'
   · rw [ext_lt h,ext_lt h'] at e; exact I.inj j k h h' e
   · rw [ext_lt h,h',hn] at e; have := I.lt j h; omega
   · rw [ext_lt h',h,hn] at e; have := I.lt k h'; omega
   · omega
 · rcases Nat.lt_or_eq_of_le (Nat.lt_succ_iff.mp hj) with h | h
   · rw [ext_lt h]; exact I.nst j h
   · rw [h,hn]
     cases q : kt.get s.heap.objs.size with
     | none => rfl
     | some x => exact absurd (I.getLt q) (Nat.lt_irrefl _)
 · exact Heap.get?_push_of_some _ (I.keep b x e fun j hj => by have := q j hj; rwa [ext_lt (Nat.lt_of_lt_of_le hj I.mle)] at this)
 · rcases Nat.lt_or_eq_of_le (Nat.lt_succ_iff.mp h2) with h | h
   · rw [ext_lt h]; exact I.new j h1 h
   · rw [h,hn]; exact I.size
 · show _ ≤ (s.heap.push o).objs.size
   rw [Heap.size_push]; exact Nat.le_succ_of_le I.size
theorem Inv.update {ad L m s} (I : Inv kt s₀ m₀ ad L m s) {i : Nat} {o : Obj} {f : Obj → Obj} (e : L.get i = some o) (hf : (f o).isFreed = false) :
   Inv kt s₀ m₀ ad (L.set i f) m { s with heap := s.heap.update (ad i) f } := by
 have z := I.own _ _ e
 have hs : Heap.SameBut (ad i) s.heap (s.heap.update (ad i) f) := Heap.SameBut.update ..
 refine ⟨fun a x e' => ?_,fun j x e' => ?_,fun j hj => ?_,I.inj,I.nst,fun b x e' q => ?_,I.new,I.mle,?_,I.gens,I.os⟩
 · exact (hs.2 a fun h => by have := I.nst i z.1; rw [← h,e'] at this; cases this).trans (I.st a x e')
 · rw [BT.get_set] at e'
   by_cases hj : j = i
   · subst hj
     rw [if_pos rfl,e] at e'
     cases e'
     exact ⟨z.1,by first | exact Heap.get?_update_self f z.2 hf | exact Heap.get?_update_self _ z.2 hf⟩
   · rw [if_neg hj] at e'
     have y := I.own j x e'
     exact ⟨y.1,(hs.2 _ fun h => hj (I.inj _ _ y.1 z.1 h)).trans y.2⟩
 · show _ < (s.heap.update (ad i) f).objs.size
   rw [hs.1]; exact I.lt j hj
 · refine (hs.2 b fun h => ?_).trans (I.keep b x e' q)
   by_cases hi : i < m₀
   · exact q i hi h
   · have h : @Eq Nat b (ad i) := h
     have := I.new i (by omega) z.1
     have : @LT.lt Nat _ b _ := Heap.lt_size e'
     omega
 · show _ ≤ (s.heap.update (ad i) f).objs.size
   rw [hs.1]; exact I.size
theorem Inv.use {ad L m s} (I : Inv kt s₀ m₀ ad L m s) {idx : List Nat} {L' : BT} {q : BT × Nat} {nad : List Nat} {s' : Shared} {us ns : List Obj} (hidx : ∀ j,j ∈ idx → j < m)
   (hp : puts L idx us = some L') (hn : news L' m ns = some q) (hnd : nad.Nodup) (hb : ∀ a ∈ nad,s.heap.objs.size ≤ a ∧ a < s'.heap.objs.size) (ho : Own s'.heap (idx.map ad) us) (ho' : Own s'.heap nad ns) (K : Kept s s' (idx.map ad)) :
   Inv kt s₀ m₀ (ext ad m nad) q.1 q.2 s' := by
 obtain ⟨hq,hg⟩ := news_get hn
 have hlen : nad.length = ns.length := ho'.length
 have hlt : ∀ j,j < q.2 → j < m ∨ ∃ (t : Nat) (a : Nat),j = m + t ∧ nad[t]? = some a := fun j hj => by
   by_cases h : j < m
   · exact .inl h
   · refine .inr ⟨j - m,nad[j - m]'(by omega),by omega,by simp⟩
 have hmem : ∀ {t : Nat} {a : Nat},nad[t]? = some a → a ∈ nad := fun h => List.mem_of_getElem? h
 have old : ∀ b o,s.heap.get? b = some o → (∀ j,j ∈ idx → b ≠ ad j) → s'.heap.get? b = some o := fun b o e h => K.keep b o e fun hm => by
   obtain ⟨j,hj,rfl⟩ := List.mem_map.mp hm
   exact h j hj rfl
 have st : ∀ a o,kt.get a = some o → s'.heap.get? a = some o := fun a o e => old a o (I.st a o e) fun j hj h => by
   have := I.nst j (hidx j hj); rw [← h,e] at this; cases this
 refine ⟨st,fun j x e => ?_,fun j hj => ?_,fun j k hj hk e => ?_,fun j hj => ?_,fun b x e h => ?_,fun j h1 h2 => ?_,?_,Nat.le_trans I.size K.size,K.gens.trans I.gens,K.os.trans I.os⟩
 · rcases hg j x e with ⟨t,rfl,et⟩ | e'
   · have htl : t < ns.length := (List.getElem?_eq_some_iff.mp et).1
     have hx : nad[t]? = some (nad[t]'(by omega)) := by simp
     exact ⟨by omega,by rw [ext_ge hx]; exact ho'.get hx et⟩
   · rcases puts_get hp j x e' with ⟨t,h1,h2⟩ | ⟨h1,h2⟩
     · have hj := hidx j (List.mem_of_getElem? h1)
       refine ⟨by omega,?_⟩
       rw [ext_lt hj]
       exact ho.get (t := t) (by rw [List.getElem?_map,h1]; rfl) h2
     · have z := I.own j x h2
       refine ⟨by have := z.1; omega,?_⟩
       rw [ext_lt z.1]
       exact old _ _ z.2 fun k hk h => h1 (I.inj _ _ z.1 (hidx k hk) h ▸ hk)
 · rcases hlt j hj with h | ⟨t,a,rfl,h⟩
   · rw [ext_lt h]; exact Nat.lt_of_lt_of_le (I.lt j h) K.size
   · rw [ext_ge h]; exact (hb a (hmem h)).2
 · rcases hlt j hj with h | ⟨t,a,rfl,h⟩ <;> rcases hlt k hk with h' | ⟨t',a',rfl,h'⟩
   · rw [ext_lt h,ext_lt h'] at e; exact I.inj _ _ h h' e
   · rw [ext_lt h,ext_ge h'] at e; have := I.lt j h; have := (hb a' (hmem h')).1; omega
   · rw [ext_lt h',ext_ge h] at e; have := I.lt k h'; have := (hb a (hmem h)).1; omega
   · rw [ext_ge h,ext_ge h'] at e
     subst e
     have ht := (List.getElem?_eq_some_iff.mp h).1
     have := nodup_get hnd h h'
     omega
 · rcases hlt j hj with h | ⟨t,a,rfl,h⟩
   · rw [ext_lt h]; exact I.nst j h
   · rw [ext_ge h]
     cases q : kt.get a with
     | none => rfl
     | some x => have := I.getLt q; have := (hb a (hmem h)).1; omega
 · refine old b x (I.keep b x e fun j hj => ?_) fun j hj he => ?_
   · have := h j hj; rwa [ext_lt (Nat.lt_of_lt_of_le hj I.mle)] at this
   · have he : @Eq Nat b (ad j) := he
     by_cases hi : j < m₀
     · have := h j hi; rw [ext_lt (hidx j hj)] at this; exact this he
     · have := I.new j (by omega) (hidx j hj)
       have : @LT.lt Nat _ b _ := Heap.lt_size e
       omega
 · rcases hlt j h2 with h | ⟨t,a,rfl,h⟩
   · rw [ext_lt h]; exact I.new j h1 h
   · rw [ext_ge h]; exact Nat.le_trans I.size (hb a (hmem h)).1
 · have := I.mle; omega
end
structure Cfg.Ok (V : Cfg) (M : Model) : Prop where
 den : ∀ (c : Code) (Γ : Ctx) (p : Pos) (s : Shared) (r : Result) (s' : Shared),Runs M Γ p (V.den c) [] s (.ret r) s' → Runs M Γ p (M.den c) [] s (.ret r) s'
 prog : M.prog = V.prog
 P : M.w.params = V.P ∨ M.w.params = V.P2
 enter : V.enter = enterFrame
 bnd : V.bnd = Sem.bind
 room : V.room = cRoom
 lim : ∀ s : Shared,(∀ a o,V.kt.get a = some o → s.heap.get? a = some o) → s.heap.NoLimit
noncomputable def HOk (M : Model) (kt : KT) : Hint → Prop
 | .c _ idx C => idx.Nodup ∧ Ctr M kt C
 | .d _ idx C => idx.Nodup ∧ Ctr M kt C
 | .b _ c t => M.den c = t
 | .v _ x f => ∀ t,x t = f t
 | .w _ _ y1 y2 => ∀ as,y1 as = y2 as
 | _ => True
theorem gf_of {C : CF} {g : G} (e : gfOk C g = true) (q : C.gf = true) : g.gf = true := by
 unfold gfOk at e
 rw [q] at e
 exact e
theorem calm_of {C : CF} {h : Option Value} (e : calmOk C h = true) : C.calm = true → h = none := fun q => by
 unfold calmOk at e
 rw [q] at e
 cases h with
 | none => rfl
 | some _ => cases e
theorem wp_enter {M : Model} {Γ : Ctx} {E : Value → Pos → Shared → Prop} {Q : Unit → Pos → Shared → Prop} {p : Pos} {s : Shared} (hl : s.heap.NoLimit) (hd : frameCount Γ.below + Γ.code.weight < 1000) (h : Q () p s) :
  Sem.wp M Γ enterFrame Q E p s := by
 obtain ⟨mc,hns,hnone⟩ := hl
 have e1 := frameCount_ge ((Γ.code,p) :: Γ.below)
 have e2 := frameCount_ge_caller ((Γ.code,p) :: Γ.below)
 rw [frameCount_cons] at e1 e2
 have near : nearTheLimitUnderAClaim (((Γ.code,p) :: Γ.below).map (·.1)) (((((Γ.code,p) :: Γ.below).map (·.1)).map (·.frames)).sum + ((((Γ.code,p) :: Γ.below).map (·.1)).filter Code.isCreation).length) recursionLimit = false := by
  rw [near_is]
  cases q : (((Γ.code,p) :: Γ.below).map (·.1)).any Code.isCaller with
  | false => exact Bool.and_false _
  | true =>
   have := e2 q
   rw [Bool.and_true]
   exact decide_eq_false (by show ¬ _ ≥ 1000; omega)
 have lt : ((((Γ.code,p) :: Γ.below).map (·.1)).map (·.frames)).sum + ((((Γ.code,p) :: Γ.below).map (·.1)).filter Code.isCreation).length < recursionLimit := by
  show _ < 1000; omega
 unfold enterFrame currentRecursionLimit
 simp only [Sem.wp_bind']
 show Sem.wp M Γ (nsGet cStatics "sys.recursionlimit") _ _ p s
 rw [Sem.wp_nsGet M Γ _ p s hns,hnone]
 show Sem.wp M Γ (if nearTheLimitUnderAClaim (((Γ.code,p) :: Γ.below).map (·.1)) (((((Γ.code,p) :: Γ.below).map (·.1)).map (·.frames)).sum + ((((Γ.code,p) :: Γ.below).map (·.1)).filter Code.isCreation).length) recursionLimit = true then _ else _) _ _ p s
 rw [if_neg (by rw [near]; exact Bool.false_ne_true)]
 show Sem.wp M Γ (if ((((Γ.code,p) :: Γ.below).map (·.1)).map (·.frames)).sum ≥ recursionLimit then _ else _) _ _ p s
 rw [if_neg (by omega)]
 show Sem.wp M Γ (if ((((Γ.code,p) :: Γ.below).map (·.1)).map (·.frames)).sum + ((((Γ.code,p) :: Γ.below).map (·.1)).filter Code.isCreation).length ≥ recursionLimit then _ else _) _ _ p s
 rw [if_neg (by omega)]
 exact h
theorem runs_enter {M : Model} {Γ : Ctx} {p : Pos} {s s' : Shared} {c : Code} {r : Result} (hl : s.heap.NoLimit) (hd : frameCount Γ.below + Γ.code.weight < 1000) (hq : c.quiet = true)
  (h : Runs M (Γ.goto c) p (M.den c) [] s (.ret r) s') : Runs M Γ p (Sem.bind enterFrame fun _ => .pure (.again c)) [] s (.ret r) s' := by
 have z : Sem.wp M Γ (Sem.bind enterFrame fun _ => .pure (.again c)) (Sem.finPost M Γ fun r1 s1 => r1 = r ∧ s1 = s') (fun e _ s1 => .error e = r ∧ s1 = s') p s := by
  rw [Sem.wp_bind]
  exact wp_enter hl hd ⟨hq,r,s',h,rfl,rfl⟩
 obtain ⟨r1,s1,h1,rfl,rfl⟩ := (Sem.wp_iff_runs M Γ _ _ p s).mp z
 exact h1
theorem runs_room {M : Model} {Γ : Ctx} {p : Pos} {s s' : Shared} {w : String} {t : Sem Fin} {r : Result} (hu : Γ.units < cLine) (h : Runs M Γ p t [] s (.ret r) s') : Runs M Γ p (Sem.bind (cRoom w) fun _ => t) [] s (.ret r) s' := by
 have z : Sem.wp M Γ (Sem.bind (cRoom w) fun _ => t) (Sem.finPost M Γ fun r1 s1 => r1 = r ∧ s1 = s') (fun e _ s1 => .error e = r ∧ s1 = s') p s := by
  rw [Sem.wp_bind]
  exact (Sem.wp_cRoom w).mpr ⟨hu,(Sem.wp_iff_runs M Γ _ _ p s).mpr ⟨r,s',h,rfl,rfl⟩⟩
 obtain ⟨r1,s1,h1,rfl,rfl⟩ := (Sem.wp_iff_runs M Γ _ _ p s).mp z
 exact h1
theorem nodup_map {f : Nat → Nat} : ∀ {l : List Nat},l.Nodup → (∀ x y,x ∈ l → y ∈ l → f x = f y → x = y) → (l.map f).Nodup
 | [],_,_ => List.nodup_nil
 | x :: l,hn,hi => by
  obtain ⟨hx,hn'⟩ := List.nodup_cons.mp hn
  refine List.nodup_cons.mpr ⟨fun hm => ?_,nodup_map hn' fun a b ha hb => hi a b (List.mem_cons_of_mem _ ha) (List.mem_cons_of_mem _ hb)⟩
  obtain ⟨y,hy,hxy⟩ := List.mem_map.mp hm
  exact hx (hi y x (List.mem_cons_of_mem _ hy) (List.mem_cons_self ..) hxy ▸ hy)
theorem Fits.goto' {g : G} {c : Code} (h : Fits g) : Fits (g.goto c) := h
theorem span_ext {f f' : Nat → Nat} {m n : Nat} {l : List Nat} (e : l.length = n) (x : ∀ j,j < m + n → f' j = ext f m l j) : span f' m n = l := by
 rw [← e]
 refine span_get _ _ _ fun t y ht => ?_
 have := (List.getElem?_eq_some_iff.mp ht).1
 rw [x _ (by omega),ext_ge ht]
section
variable {V : Cfg} {M : Model}
noncomputable def Fin1 (V : Cfg) (M : Model) (s₀ : Shared) (m₀ : Nat) (ad tk : Nat → Nat) (m i : Nat) (f : (Nat → Nat) → (Nat → Nat) → Option Out) (R : Result → Shared → Prop) : Prop :=
    ∃ ad' tk' s' o,(∀ j,j < m → ad' j = ad j) ∧ (∀ j,j < i → tk' j = tk j) ∧ f ad' tk' = some o ∧ R o.r s' ∧ Inv V.kt s₀ m₀ ad' o.L o.m s' ∧ m ≤ o.m
noncomputable def Asm (ad tk : Nat → Nat) (m i : Nat) (f : (Nat → Nat) → (Nat → Nat) → Option Out) : Prop := ∀ ad' tk',(∀ j,j < m → ad' j = ad j) → (∀ j,j < i → tk' j = tk j) → ∃ o,f ad' tk' = some o ∧ o.acc.Good
noncomputable def Go (V : Cfg) (M : Model) (s₀ : Shared) (m₀ : Nat) (ad tk : Nat → Nat) (m i : Nat) (f : (Nat → Nat) → (Nat → Nat) → Option Out) (R : Result → Shared → Prop) : Prop := Asm ad tk m i f → Fin1 V M s₀ m₀ ad tk m i f R
noncomputable def Snd (V : Cfg) (M : Model) (f : (Nat → Nat) → (Nat → Nat) → SimTy) : Prop := ∀ (hs : List Hint),(∀ h ∈ hs,HOk M V.kt h) → ∀ (g : G) (p : Pos) (t : Sem Fin) (κ : List KF) (L : BT) (m i : Nat) (acc : Acc) (ad tk : Nat → Nat) (s₀ : Shared) (m₀ : Nat) (s : Shared),
  Fits g → (∀ f ∈ κ,Fits f.g) → Inv V.kt s₀ m₀ ad L m s → Go V M s₀ m₀ ad tk m i (fun ad' tk' => f ad' tk' hs g p t κ L m i acc) (RunK M κ g.Γ p t s)
theorem Asm.mono {ad tk ad1 tk1 : Nat → Nat} {m i m1 i1 : Nat} {f f1 : (Nat → Nat) → (Nat → Nat) → Option Out} (H : Asm ad tk m i f) (hm : m ≤ m1) (hi : i ≤ i1) (ha : ∀ j,j < m → ad1 j = ad j) (ht : ∀ j,j < i → tk1 j = tk j)
  (e : ∀ ad' tk',(∀ j,j < m1 → ad' j = ad1 j) → (∀ j,j < i1 → tk' j = tk1 j) → f ad' tk' = f1 ad' tk') : Asm ad1 tk1 m1 i1 f1 := fun ad' tk' x y => by
 have z := H ad' tk' (fun j hj => (x j (Nat.lt_of_lt_of_le hj hm)).trans (ha j hj)) (fun j hj => (y j (Nat.lt_of_lt_of_le hj hi)).trans (ht j hj))
 rwa [e ad' tk' x y] at z
theorem Fin1.mono {s₀ : Shared} {m₀ : Nat} {ad tk ad1 tk1 : Nat → Nat} {m i m1 i1 : Nat} {f f1 : (Nat → Nat) → (Nat → Nat) → Option Out} {R R' : Result → Shared → Prop} (H : Fin1 V M s₀ m₀ ad1 tk1 m1 i1 f1 R') (hm : m ≤ m1) (hi : i ≤ i1) (ha : ∀ j,j < m → ad1 j = ad j) (ht : ∀ j,j < i → tk1 j = tk j)
  (e : ∀ ad' tk',(∀ j,j < m1 → ad' j = ad1 j) → (∀ j,j < i1 → tk' j = tk1 j) → f ad' tk' = f1 ad' tk') (hiR : ∀ r s',R' r s' → R r s') : Fin1 V M s₀ m₀ ad tk m i f R := by
 obtain ⟨ad',tk',s',o,x,y,z,r,I,q⟩ := H
 exact ⟨ad',tk',s',o,fun j hj => (x j (Nat.lt_of_lt_of_le hj hm)).trans (ha j hj),fun j hj => (y j (Nat.lt_of_lt_of_le hj hi)).trans (ht j hj),(e ad' tk' x y).trans z,hiR _ _ r,I,Nat.le_trans hm q⟩
section
variable {s₀ : Shared} {m₀ : Nat} {ad tk : Nat → Nat} {m i : Nat} {f f1 : (Nat → Nat) → (Nat → Nat) → Option Out} {R R' : Result → Shared → Prop}
theorem Asm.one (H : Asm ad tk m i f) : ∃ o,f ad tk = some o ∧ o.acc.Good := H ad tk (fun _ _ => rfl) (fun _ _ => rfl)
theorem Go.none : Go V M s₀ m₀ ad tk m i (fun _ _ => .none) R := fun H => by
 obtain ⟨_,e,_⟩ := H.one
 exact no e
theorem Go.mv {ad1 tk1 : Nat → Nat} {m1 i1 : Nat} (hm : m ≤ m1) (hi : i ≤ i1) (ha : ∀ j,j < m → ad1 j = ad j) (ht : ∀ j,j < i → tk1 j = tk j)
  (e : ∀ ad' tk',(∀ j,j < m1 → ad' j = ad1 j) → (∀ j,j < i1 → tk' j = tk1 j) → f ad' tk' = f1 ad' tk') (G : Go V M s₀ m₀ ad1 tk1 m1 i1 f1 R) : Go V M s₀ m₀ ad tk m i f R := fun H =>
 (G (H.mono hm hi ha ht e)).mono hm hi ha ht e fun _ _ x => x
theorem Go.eq (e : ∀ ad' tk',(∀ j,j < m → ad' j = ad j) → f ad' tk' = f1 ad' tk') (G : Go V M s₀ m₀ ad tk m i f1 R) : Go V M s₀ m₀ ad tk m i f R :=
  .mv (Nat.le_refl _) (Nat.le_refl _) (fun _ _ => rfl) (fun _ _ => rfl) (fun a t x _ => e a t x) G
theorem Go.r (h : ∀ r s',R' r s' → R r s') (G : Go V M s₀ m₀ ad tk m i f R') : Go V M s₀ m₀ ad tk m i f R := fun H =>
  (G H).mono (Nat.le_refl _) (Nat.le_refl _) (fun _ _ => rfl) (fun _ _ => rfl) (fun _ _ _ _ => rfl) h
theorem Go.gd {b : Bool} (G : b = true → Go V M s₀ m₀ ad tk m i f R) : Go V M s₀ m₀ ad tk m i (fun a t => gd b (f a t)) R := match b,G with
 | true,G => G rfl
 | false,_ => .none
theorem Go.ob {α : Type} {x : Option α} {f : (Nat → Nat) → (Nat → Nat) → α → Option Out} (G : ∀ y,x = some y → Go V M s₀ m₀ ad tk m i (fun a t => f a t y) R) : Go V M s₀ m₀ ad tk m i (fun a t => ob x (f a t)) R := match x,G with
 | some y,G => G y rfl
 | .none,_ => .none
theorem Go.accs {acc : Acc} (h : ∀ a t,Le1 acc (f a t)) (G : acc.Good → Go V M s₀ m₀ ad tk m i f R) : Go V M s₀ m₀ ad tk m i f R := fun H => by
 obtain ⟨o,e,g⟩ := H.one
 exact G (g.le (h _ _ _ e)) H
theorem Go.pair {acc : Acc} {x y : Ob} (h : ∀ a t,Le1 ((x,y) :: acc) (f a t)) (G : x = y → Go V M s₀ m₀ ad tk m i f R) : Go V M s₀ m₀ ad tk m i f R := .accs h fun g => G (g _ (List.mem_cons_self ..))
theorem Go.pl {ζ : Type} {P : Hint → Prop} {F : (HR → Option Out) → ζ → Option Out} {D : (Nat → Nat) → (Nat → Nat) → HR → Option Out} {Z : (Nat → Nat) → (Nat → Nat) → ζ} (h : Pl P F) (G : ∀ hs',(∀ h ∈ hs',P h) → Go V M s₀ m₀ ad tk m i (fun a t => D a t hs') R) : Go V M s₀ m₀ ad tk m i (fun a t => F (D a t) (Z a t)) R := by
 obtain ⟨hs',ho,e⟩ := h
 exact .eq (fun _ _ _ => e _ _) (G hs' ho)
theorem Go.hiV {hs : HR} {D : (Nat → Nat) → (Nat → Nat) → HR → Option Out} {Z : (Nat → Nat) → (Nat → Nat) → (Nat → Flow) → (Nat → Flow) → HR → Option Out} (ho : ∀ h ∈ hs,HOk M V.kt h) (Gz : ∀ x f r,HOk M V.kt (.v 0 x f) → (∀ h ∈ r,HOk M V.kt h) → Go V M s₀ m₀ ad tk m i (fun a t => Z a t x f r) R) (Gd : ∀ hs',(∀ h ∈ hs',HOk M V.kt h) → Go V M s₀ m₀ ad tk m i (fun a t => D a t hs') R) : Go V M s₀ m₀ ad tk m i (fun a t => hiV hs (D a t) (Z a t)) R := by
 rcases hiV_or (P := HOk M V.kt) (fun _ _ _ h => h) ho with ⟨x,f,r,rfl⟩ | h
 · refine .eq (fun _ _ _ => rfl) (Gz x f r (ho _ (List.mem_cons_self ..)) fun h q => ho h (List.mem_cons_of_mem _ q))
 · exact .pl h Gd
theorem Go.hiD {hs : HR} {D : (Nat → Nat) → (Nat → Nat) → HR → Option Out} {Z : (Nat → Nat) → (Nat → Nat) → List Nat → CF → HR → Option Out} (ho : ∀ h ∈ hs,HOk M V.kt h) (Gz : ∀ x f r,HOk M V.kt (.d 0 x f) → (∀ h ∈ r,HOk M V.kt h) → Go V M s₀ m₀ ad tk m i (fun a t => Z a t x f r) R) (Gd : ∀ hs',(∀ h ∈ hs',HOk M V.kt h) → Go V M s₀ m₀ ad tk m i (fun a t => D a t hs') R) : Go V M s₀ m₀ ad tk m i (fun a t => hiD hs (D a t) (Z a t)) R := by
 rcases hiD_or (P := HOk M V.kt) (fun _ _ _ h => h) ho with ⟨x,f,r,rfl⟩ | h
 · refine .eq (fun _ _ _ => rfl) (Gz x f r (ho _ (List.mem_cons_self ..)) fun h q => ho h (List.mem_cons_of_mem _ q))
 · exact .pl h Gd
theorem Go.hiC {hs : HR} {D : (Nat → Nat) → (Nat → Nat) → HR → Option Out} {Z : (Nat → Nat) → (Nat → Nat) → List Nat → CF → HR → Option Out} (ho : ∀ h ∈ hs,HOk M V.kt h) (Gz : ∀ x f r,HOk M V.kt (.c 0 x f) → (∀ h ∈ r,HOk M V.kt h) → Go V M s₀ m₀ ad tk m i (fun a t => Z a t x f r) R) (Gd : ∀ hs',(∀ h ∈ hs',HOk M V.kt h) → Go V M s₀ m₀ ad tk m i (fun a t => D a t hs') R) : Go V M s₀ m₀ ad tk m i (fun a t => hiC hs (D a t) (Z a t)) R := by
 rcases hiC_or (P := HOk M V.kt) (fun _ _ _ h => h) ho with ⟨x,f,r,rfl⟩ | h
 · refine .eq (fun _ _ _ => rfl) (Gz x f r (ho _ (List.mem_cons_self ..)) fun h q => ho h (List.mem_cons_of_mem _ q))
 · exact .pl h Gd
theorem Go.hiB {hs : HR} {D : (Nat → Nat) → (Nat → Nat) → HR → Option Out} {Z : (Nat → Nat) → (Nat → Nat) → Code → Sem Fin → HR → Option Out} (ho : ∀ h ∈ hs,HOk M V.kt h) (Gz : ∀ x f r,HOk M V.kt (.b 0 x f) → (∀ h ∈ r,HOk M V.kt h) → Go V M s₀ m₀ ad tk m i (fun a t => Z a t x f r) R) (Gd : ∀ hs',(∀ h ∈ hs',HOk M V.kt h) → Go V M s₀ m₀ ad tk m i (fun a t => D a t hs') R) : Go V M s₀ m₀ ad tk m i (fun a t => hiB hs (D a t) (Z a t)) R := by
 rcases hiB_or (P := HOk M V.kt) (fun _ _ _ h => h) ho with ⟨x,f,r,rfl⟩ | h
 · refine .eq (fun _ _ _ => rfl) (Gz x f r (ho _ (List.mem_cons_self ..)) fun h q => ho h (List.mem_cons_of_mem _ q))
 · exact .pl h Gd
theorem Go.hiW {hs : HR} {D : (Nat → Nat) → (Nat → Nat) → HR → Option Out} {Z : (Nat → Nat) → (Nat → Nat) → List Nat → (List Nat → Sem Fin) → (List Nat → Sem Fin) → HR → Option Out} (ho : ∀ h ∈ hs,HOk M V.kt h) (Gz : ∀ x f g r,HOk M V.kt (.w 0 x f g) → (∀ h ∈ r,HOk M V.kt h) → Go V M s₀ m₀ ad tk m i (fun a t => Z a t x f g r) R) (Gd : ∀ hs',(∀ h ∈ hs',HOk M V.kt h) → Go V M s₀ m₀ ad tk m i (fun a t => D a t hs') R) : Go V M s₀ m₀ ad tk m i (fun a t => hiW hs (D a t) (Z a t)) R := by
 rcases hiW_or (P := HOk M V.kt) (fun _ _ _ _ h => h) ho with ⟨x,f,g,r,rfl⟩ | h
 · refine .eq (fun _ _ _ => rfl) (Gz x f g r (ho _ (List.mem_cons_self ..)) fun h q => ho h (List.mem_cons_of_mem _ q))
 · exact .pl h Gd
theorem Go.hiR {hs : HR} {D : (Nat → Nat) → (Nat → Nat) → HR → Option Out} {Z : (Nat → Nat) → (Nat → Nat) → String → HR → Option Out} (ho : ∀ h ∈ hs,HOk M V.kt h) (Gz : ∀ x r,HOk M V.kt (.r 0 x) → (∀ h ∈ r,HOk M V.kt h) → Go V M s₀ m₀ ad tk m i (fun a t => Z a t x r) R) (Gd : ∀ hs',(∀ h ∈ hs',HOk M V.kt h) → Go V M s₀ m₀ ad tk m i (fun a t => D a t hs') R) : Go V M s₀ m₀ ad tk m i (fun a t => hiR hs (D a t) (Z a t)) R := by
 rcases hiR_or (P := HOk M V.kt) (fun _ _ h => h) ho with ⟨x,r,rfl⟩ | h
 · refine .eq (fun _ _ _ => rfl) (Gz x r (ho _ (List.mem_cons_self ..)) fun h q => ho h (List.mem_cons_of_mem _ q))
 · exact .pl h Gd
theorem Go.hiE {hs : HR} {D : (Nat → Nat) → (Nat → Nat) → HR → Option Out} {Z : (Nat → Nat) → (Nat → Nat) → HR → Option Out} (ho : ∀ h ∈ hs,HOk M V.kt h) (Gz : ∀ r,HOk M V.kt (.e 0) → (∀ h ∈ r,HOk M V.kt h) → Go V M s₀ m₀ ad tk m i (fun a t => Z a t r) R) (Gd : ∀ hs',(∀ h ∈ hs',HOk M V.kt h) → Go V M s₀ m₀ ad tk m i (fun a t => D a t hs') R) : Go V M s₀ m₀ ad tk m i (fun a t => hiE hs (D a t) (Z a t)) R := by
 rcases hiE_or (P := HOk M V.kt) (fun _ h => h) ho with ⟨r,rfl⟩ | h
 · refine .eq (fun _ _ _ => rfl) (Gz r (ho _ (List.mem_cons_self ..)) fun h q => ho h (List.mem_cons_of_mem _ q))
 · exact .pl h Gd
end
theorem Go.step {s₀ : Shared} {m₀ : Nat} {ad tk : Nat → Nat} {m i : Nat} {f : (Nat → Nat) → (Nat → Nat) → Option Out} {κ : List KF} {Γ Γ' : Ctx} {p p' : Pos} {t t' : Sem Fin} {s s2 : Shared} (h : ∀ r s',Runs M Γ' p' t' [] s2 (.ret r) s' → Runs M Γ p t [] s (.ret r) s')
    (G : Go V M s₀ m₀ ad tk m i f (RunK M κ Γ' p' t' s2)) : Go V M s₀ m₀ ad tk m i f (RunK M κ Γ p t s) := G.r fun _ _ x => RunK.step h x
theorem ret_go {f : (Nat → Nat) → (Nat → Nat) → SimTy} (S : Snd V M f) {hs : List Hint} (ho : ∀ h ∈ hs,HOk M V.kt h) {κ : List KF} {L : BT} {m i : Nat} {acc : Acc} {ad tk : Nat → Nat} {s₀ : Shared} {m₀ : Nat} {s : Shared} {r : Result} {Γ : Ctx} {p : Pos} {t : Sem Fin} {s1 : Shared}
  (hκ : ∀ f ∈ κ,Fits f.g) (I : Inv V.kt s₀ m₀ ad L m s) (hr : Runs M Γ p t [] s1 (.ret r) s) : Go V M s₀ m₀ ad tk m i (fun ad' tk' => retS (f ad' tk') hs κ r L m i acc) (RunK M κ Γ p t s1) := match κ,hs,hκ,ho with
 | [],_ :: _,_,_ => .none
 | [],[],_,_ => fun _ => ⟨ad,tk,s,_,fun _ _ => rfl,fun _ _ => rfl,rfl,hr,I,Nat.le_refl _⟩
 | k :: κ,_,hκ,ho => (S _ ho k.g k.p (k.k r) κ L m i acc ad tk s₀ m₀ s (hκ k (List.mem_cons_self ..)) (fun f hf => hκ f (List.mem_cons_of_mem _ hf)) I).r fun _ _ x => ⟨_,_,hr,x⟩
theorem use_go {g : G} {c : Code} {idx : List Nat} {C : CF} {L : BT} {m i : Nat} {acc : Acc} {ad tk : Nat → Nat} {s₀ : Shared} {m₀ : Nat} {s : Shared} {p : Pos} {cont : (Nat → Nat) → (Nat → Nat) → Result → BT → Nat → Nat → Acc → Option Out} {R : Result → Shared → Prop}
   (hc : ∀ a t r L m i acc,Le1 acc (cont a t r L m i acc)) (ho : idx.Nodup ∧ Ctr M V.kt C) (hg : Fits g) (hgc : g.Γ.code = c) (I : Inv V.kt s₀ m₀ ad L m s)
   (K : ∀ r L1 m1 i1 acc1 ad1 tk1 s1,Runs M g.Γ p (M.den c) [] s (.ret r) s1 → Inv V.kt s₀ m₀ ad1 L1 m1 s1 → Go V M s₀ m₀ ad1 tk1 m1 i1 (fun a t => cont a t r L1 m1 i1 acc1) R) :
   Go V M s₀ m₀ ad tk m i (fun a t => useC a t g c idx C L m i acc (cont a t)) R := by
 refine .gd fun e1 => .gd fun e2 => .gd fun e3 => .gd fun e35 => .ob fun os e4 => ?_
 have hidx : ∀ j,j ∈ idx → j < m := fun j hj => by
   obtain ⟨x,hx⟩ := objs_get e4 j hj
   exact (I.own j x hx).1
 have hndm : (idx.map ad).Nodup := nodup_map ho.1 fun x y hx hy e => I.inj _ _ (hidx x hx) (hidx y hy) e
 have ctr := ho.2 g.Γ.below c (idx.map ad) os
 refine Go.eq (f1 := fun a t => useP a t g.Γ.below c idx C (C.F c (idx.map ad) os) os L m i acc (cont a t)) (fun a t x => ?_) ?_
 · rw [show idx.map a = idx.map ad from List.map_congr_left fun j hj => x j (hidx j hj)]
 generalize C.F c (idx.map ad) os = P at *
 refine .accs (fun a t => useP_le (hc a t)) fun g0 => ?_
 have hpre := preB_ok g0
 have g1 := Acc.Good.le preB_le g0
 have hcode : P.code = c := (Ob.c.inj (g1 _ (List.mem_cons_self ..))).symm
 have hown : P.own = os := (Ob.o.inj (g1 (.o os,.o _) (List.mem_cons_of_mem _ (List.mem_cons_self ..)))).symm
 have hbel : C.B g.Γ.below = g.Γ.below := (Ob.k.inj (g1 (.k g.Γ.below,.k _) (List.mem_cons_of_mem _ (List.mem_cons_of_mem _ (List.mem_cons_self ..))))).symm
 obtain ⟨nad,ntk,s1,l1,l2,hnd,hb,hrun,ho1,ho2,K1⟩ := ctr hbel hpre hcode hown g.Γ p s (hgc.trans hcode.symm) rfl (calm_of e3) (fun q => hg.2.2 (gf_of e35 q)) (Nat.le_trans hg.1 (Nat.le_of_ble_eq_true e1)) (Nat.le_trans hg.2.1 (Nat.le_of_ble_eq_true e2)) I.st
   (hown ▸ objs_own (fun j o e => (I.own j o e).2) e4) hndm (fun a ha => by obtain ⟨j,hj,rfl⟩ := List.mem_map.mp ha; exact I.nst j (hidx j hj))
 rw [hcode] at hrun
 clear hc ctr g0 hpre g1 hbel e1 e2 e3 e35 hgc hown hndm
 refine Go.mv (f1 := fun a t => Mine.ob (puts L idx (P.upd nad ntk)) fun L' => Mine.ob (news L' m (P.new nad ntk)) fun q => Mine.gd (Nat.beq q.2 (m + P.nn)) (cont a t (P.res nad ntk) q.1 q.2 (i + P.nt) (preB C os ((.c c,.c P.code) :: (.o os,.o P.own) :: (.k g.Γ.below,.k (C.B g.Γ.below)) :: acc))))
   (ad1 := ext ad m nad) (tk1 := ext tk i ntk) (m1 := m + P.nn) (i1 := i + P.nt) (Nat.le_add_right _ _) (Nat.le_add_right _ _) (fun j hj => ext_lt hj) (fun j hj => ext_lt hj) (fun a t x y => ?_) (.ob fun L' e6 => .ob fun q e7 => .gd fun e8 => ?_)
 · unfold useP
   rw [span_ext l1 x,span_ext l2 y]
 · obtain ⟨q1,q2⟩ := q
   have hq : q2 = m + P.nn := Nat.eq_of_beq_eq_true e8
   subst hq
   exact K _ _ _ _ _ _ _ s1 hrun (I.use hidx e6 e7 hnd hb ho1 ho2 K1)
theorem load_go {F : (Nat → Nat) → (Nat → Nat) → SimTy} (S : Snd V M F) {hs : List Hint} (ho : ∀ h ∈ hs,HOk M V.kt h) {g : G} {p : Pos} {κ : List KF} {L : BT} {m i : Nat} {acc : Acc} {ad tk : Nat → Nat} {s₀ : Shared} {m₀ : Nat} {s : Shared} {a : Nat} {kk : Obj → Sem Fin} {t : Sem Fin}
   (le : ∀ a t,LeS (F a t)) (hrun : ∀ o r s',s.heap.get? a = some o → Runs M g.Γ p (kk o) [] s (.ret r) s' → Runs M g.Γ p t [] s (.ret r) s') (hg : Fits g) (hκ : ∀ f ∈ κ,Fits f.g) (I : Inv V.kt s₀ m₀ ad L m s) :
   Go V M s₀ m₀ ad tk m i (fun ad' tk' => loadS V ad' hs a L acc fun hs o acc => F ad' tk' hs g p (kk o) κ L m i acc) (RunK M κ g.Γ p t s) := by
 rcases loadS_or (V := V) (hs := hs) with ⟨r,rfl⟩ | ⟨j,r,rfl⟩ | h
 · exact .ob fun o q => .step (fun r s' y => hrun o r s' (I.st a o q) y) (S _ (fun h x => ho h (List.mem_cons_of_mem _ x)) _ _ _ _ _ _ _ _ _ _ _ _ _ hg hκ I)
 · refine .ob fun o q => ?_
   have hj := I.own j o q
   refine .eq (f1 := fun ad' tk' => F ad' tk' r g p (kk o) κ L m i ((.n a,.n (ad j)) :: acc)) (fun ad' tk' x => by rw [x j hj.1]) (.pair (fun _ _ => le _ _ _ _ _ _ _ _ _ _ _) fun e => ?_)
   exact .step (fun r s' y => hrun o r s' ((Ob.n.inj e).symm ▸ hj.2) y) (S _ (fun h x => ho h (List.mem_cons_of_mem _ x)) _ _ _ _ _ _ _ _ _ _ _ _ _ hg hκ I)
 · exact .eq (fun _ _ _ => h _ _ _ _ _) .none
theorem done' {Γ : Ctx} {p : Pos} {s : Shared} {f g : Flow} (e : f = g) : Runs M Γ p (.pure (.done f)) [] s (.ret (.ok g)) s := by subst e; exact .done
theorem again' {Γ : Ctx} {p : Pos} {s s' : Shared} {c : Code} {t : Sem Fin} {r : Result} (hq : c.quiet = true) (e : M.den c = t) (x : Runs M (Γ.goto c) p t [] s (.ret r) s') : Runs M Γ p (.pure (.again c)) [] s (.ret r) s' := .again hq (e.symm ▸ x)
theorem not_t {b : Bool} (h : (!b) = true) : b = false := by cases b; rfl; cases h
theorem fits_k {g : G} {p : Pos} {k : Result → Sem Fin} {κ : List KF} (hg : Fits g) (hκ : ∀ f ∈ κ,Fits f.g) : ∀ f ∈ (⟨g,p,k⟩ : KF) :: κ,Fits f.g := fun f hf => by
 rcases List.mem_cons.mp hf with rfl | hf
 · exact hg
 · exact hκ f hf
section
variable (O : V.Ok M) {F : (Nat → Nat) → (Nat → Nat) → SimTy} (S : Snd V M F) (le : ∀ a t,LeS (F a t)) {hs : List Hint} (ho : ∀ h ∈ hs,HOk M V.kt h) {g : G} {p : Pos} {κ : List KF} {L : BT} {m i : Nat} {acc : Acc} {ad tk : Nat → Nat} {s₀ : Shared} {m₀ : Nat} {s : Shared} (hg : Fits g) (hκ : ∀ f ∈ κ,Fits f.g) (I : Inv V.kt s₀ m₀ ad L m s)
include O S le ho hg hκ I
theorem do_go {f : Flow} : Go V M s₀ m₀ ad tk m i (fun a t => stDo (F a t) hs f κ L m i acc) (RunK M κ g.Γ p (.pure (.done f)) s) := by
 delta stDo
 exact .hiV ho (fun x f' r hx hr => .pair (fun a t => retS_le (le a t)) fun e => ret_go S hr hκ I (done' ((Ob.f.inj e).trans (hx _)))) fun hs' ho' => ret_go S ho' hκ I .done
theorem bg_go {c : Code} (hq : c.quiet = true) : Go V M s₀ m₀ ad tk m i (fun a t => stBg V (F a t) hs g p c κ L m i acc) (RunK M κ g.Γ p (.pure (.again c)) s) := by
 delta stBg
 exact .hiB ho (fun c' t' r hx hr => .pair (fun a t => le a t _ _ _ _ _ _ _ _ _) fun e => .step (fun _ _ x => again' hq ((congrArg M.den (Ob.c.inj e)).trans hx) x) (S _ hr _ _ _ _ _ _ _ _ _ _ _ _ _ hg.goto' hκ I)) fun hs' ho' =>
  .step (fun _ _ x => .again hq (O.den _ _ _ _ _ _ x)) (S _ ho' _ _ _ _ _ _ _ _ _ _ _ _ _ hg.goto' hκ I)
theorem ag_go {c : Code} (hq : c.quiet = true) : Go V M s₀ m₀ ad tk m i (fun a t => stAg V a t (F a t) hs g p c κ L m i acc) (RunK M κ g.Γ p (.pure (.again c)) s) := by
 delta stAg
 exact .hiD ho (fun idx C r hx hr => use_go (fun a t _ _ _ _ _ => retS_le (le a t)) hx hg.goto' rfl I fun r1 L1 m1 i1 acc1 ad1 tk1 s1 x I1 => ret_go S hr hκ I1 (.again hq x)) fun hs' ho' => bg_go O S le ho' hg hκ I hq
theorem at_go {p' : Pos} {k : Unit → Sem Fin} : Go V M s₀ m₀ ad tk m i (fun a t => stAt a (F a t) hs g p' k κ L m i acc) (RunK M κ g.Γ p (.at p' k) s) := by
 delta stAt
 refine .hiW ho (fun idx y1 y2 r hx hr => .ob fun os e4 => ?_) fun hs' ho' => .step (fun _ _ x => .at x) (S _ ho' _ _ _ _ _ _ _ _ _ _ _ _ _ hg hκ I)
 have hmap : ∀ ad' : Nat → Nat,(∀ j,j < m → ad' j = ad j) → idx.map ad' = idx.map ad := fun ad' x => List.map_congr_left fun j hj => x j (by
  obtain ⟨y,hy⟩ := objs_get e4 j hj
  exact (I.own j y hy).1)
 refine .eq (f1 := fun a t => F a t r g p' (y2 (idx.map ad)) κ L m i ((.t (k ()),.t (y1 (idx.map ad))) :: acc)) (fun a t x => by rw [hmap a x]) (.pair (fun a t => le a t _ _ _ _ _ _ _ _ _) fun e => ?_)
 exact .step (fun r s' x => .at (((Ob.t.inj e).trans (hx _)).symm ▸ x)) (S _ hr _ _ _ _ _ _ _ _ _ _ _ _ _ hg hκ I)
theorem room_go {k : List (Code × Pos) → Sem Fin} : Go V M s₀ m₀ ad tk m i (fun a t => stRo V (F a t) hs g p k κ L m i acc) (RunK M κ g.Γ p (.stack k) s) := by
 delta stRo
 refine .hiR ho (fun w r _ hr => .gd fun hb => .pair (fun a t => le a t _ _ _ _ _ _ _ _ _) fun e => ?_) fun hs' ho' => .step (fun _ _ x => .stack x) (S _ ho' _ _ _ _ _ _ _ _ _ _ _ _ _ hg hκ I)
 have hb := Nat.le_of_ble_eq_true hb
 have hu := hg.2.1
 refine .step (fun r s' y => ?_) (S _ hr _ _ _ _ _ _ _ _ _ _ _ _ _ hg hκ I)
 rw [Ob.t.inj e,O.room,O.bnd]
 exact runs_room (by show g.Γ.code.cUnits + unitsOf g.Γ.below < 9900; omega) y
theorem stack_go {k : List (Code × Pos) → Sem Fin} : Go V M s₀ m₀ ad tk m i (fun a t => stSt V (F a t) hs g p k κ L m i acc) (RunK M κ g.Γ p (.stack k) s) := by
 delta stSt
 refine .hiE ho (fun r _ hr => .ob fun c q => .gd fun hq => .gd fun hb => .pair (fun a t => le a t _ _ _ _ _ _ _ _ _) fun e => ?_) fun hs' ho' => room_go O S le ho' hg hκ I
 have hb := Nat.le_of_ble_eq_true hb
 have := hg.1
 refine .step (fun r s' y => ?_) (S _ hr _ _ _ _ _ _ _ _ _ _ _ _ _ hg.goto' hκ I)
 rw [Ob.t.inj e,O.enter,O.bnd]
 exact runs_enter (O.lim s I.st) (by omega) hq (O.den _ _ _ _ _ _ y)
theorem fresh_go {k : Nat → Sem Fin} : Go V M s₀ m₀ ad tk m i (fun a t => step1 V a t (F a t) hs g p (.fresh k) κ L m i acc) (RunK M κ g.Γ p (.fresh k) s) := by
 have I1 : Inv V.kt s₀ m₀ ad L m { s with toks := s.toks + 1 } := ⟨I.st,I.own,I.lt,I.inj,I.nst,I.keep,I.new,I.mle,I.size,I.gens,I.os⟩
 refine Go.mv (f1 := fun a t => F a t hs g p (k s.toks) κ L m (i + 1) acc) (ad1 := ad) (tk1 := ext tk i [s.toks]) (m1 := m) (i1 := i + 1) (Nat.le_refl _) (Nat.le_succ _) (fun _ _ => rfl) (fun j hj => ext_lt hj) (fun a t _ y => ?_) (.step (fun _ _ y => .fresh y) (S _ ho _ _ _ _ _ _ _ _ _ _ _ _ _ hg hκ I1))
 have : t i = s.toks := (y i (Nat.lt_succ_self _)).trans (ext_ge (t := 0) rfl)
 show F a t hs g p (k (t i)) κ L m (i + 1) acc = _
 rw [this]
theorem alloc_go {o : Obj} {k : Nat → Sem Fin} : Go V M s₀ m₀ ad tk m i (fun a t => step1 V a t (F a t) hs g p (.alloc o k) κ L m i acc) (RunK M κ g.Γ p (.alloc o k) s) := by
 refine .gd fun hf => .ob fun y hl => ?_
 refine Go.mv (f1 := fun a t => F a t hs g p (k s.heap.objs.size) κ (L.ins m o) (m + 1) i acc) (ad1 := ext ad m [s.heap.objs.size]) (tk1 := tk) (m1 := m + 1) (i1 := i) (Nat.le_succ _) (Nat.le_refl _) (fun j hj => ext_lt hj) (fun _ _ => rfl) (fun a t x _ => ?_) (.step (fun _ _ y => .alloc y) (S _ ho _ _ _ _ _ _ _ _ _ _ _ _ _ hg hκ (I.alloc (not_t hf) (by rw [hl]; rfl))))
 rw [(x m (Nat.lt_succ_self _)).trans (ext_ge (t := 0) rfl)]
theorem upd_go {b : Nat} {part : Option Value} {f : Obj → Obj} {k : Unit → Sem Fin} : Go V M s₀ m₀ ad tk m i (fun a t => stUp a (F a t) hs g p b f k κ L m i acc) (RunK M κ g.Γ p (.update b part f k) s) := by
 delta stUp
 rcases hiO_or (hs := hs) with ⟨j,r,rfl⟩ | h
 · refine .ob fun o q => .gd fun hf => ?_
   have hj := I.own j o q
   refine .eq (f1 := fun a t => F a t r g p (k ()) κ (L.set j f) m i ((.n b,.n (ad j)) :: acc)) (fun a t x => by rw [x j hj.1]) (.pair (fun a t => le a t _ _ _ _ _ _ _ _ _) fun e => ?_)
   have ha : b = ad j := Ob.n.inj e
   have I1 := I.update (f := f) q (not_t hf)
   rw [← ha] at I1
   exact .step (fun r s' y => .update (by rw [ha,hj.2]; rfl) y) (S _ (fun h x => ho h (List.mem_cons_of_mem _ x)) _ _ _ _ _ _ _ _ _ _ _ _ _ hg hκ I1)
 · exact .eq (fun _ _ _ => h _) .none
theorem call_go {c : Code} {hd : Option Value} {b : Bool} {l : List Value} {k : Result → Sem Fin} : Go V M s₀ m₀ ad tk m i (fun a t => stCa V a t (F a t) hs g p c hd k κ L m i acc) (RunK M κ g.Γ p (.call c hd b l k) s) := by
 delta stCa
 refine .hiC ho (fun idx C r hx hr => ?_) fun hs' ho' => ?_
 · exact use_go (fun a t _ _ _ _ _ => le a t _ _ _ _ _ _ _ _ _) hx (hg.enter c hd p) rfl I fun r1 L1 m1 i1 acc1 ad1 tk1 s1 x I1 => (S _ hr _ _ _ _ _ _ _ _ _ _ _ _ _ hg hκ I1).r fun _ _ y => RunK.call1 x y
 · exact (S _ ho' _ _ _ _ _ _ _ _ _ _ _ _ _ (hg.enter c hd p) (fits_k hg hκ) I).r fun _ _ x => RunK.call (RunK.step (fun _ _ y => O.den _ _ _ _ _ _ y) x)
theorem ask_go {k : Setting → Sem Fin} : Go V M s₀ m₀ ad tk m i (fun a t => F a t hs g p (k ⟨V.prog,V.P⟩) κ L m i ((.t (k ⟨V.prog,V.P⟩),.t (k ⟨V.prog,V.P2⟩)) :: acc)) (RunK M κ g.Γ p (.ask k) s) :=
 .pair (fun a t => le a t _ _ _ _ _ _ _ _ _) fun e => .step (fun _ _ x => .ask (by
  rw [O.prog]
  rcases O.P with h | h
  · rw [h]; exact x
  · rw [h,← Ob.t.inj e]; exact x)) (S _ ho _ _ _ _ _ _ _ _ _ _ _ _ _ hg hκ I)
theorem step_go : ∀ t,Go V M s₀ m₀ ad tk m i (fun a t' => step1 V a t' (F a t') hs g p t κ L m i acc) (RunK M κ g.Γ p t s)
 | .pure (.done f) => do_go O S le ho hg hκ I
 | .pure (.again c) => .gd fun hq => ag_go O S le ho hg hκ I hq
 | .raise e => ret_go S ho hκ I .raise
 | .rule tag k => .step (fun _ _ x => .rule x) (S _ ho _ _ _ _ _ _ _ _ _ _ _ _ _ hg hκ I)
 | .at p' k => at_go O S le ho hg hκ I
 | .point l k => .step (fun _ _ x => .point x) (S _ ho _ _ _ _ _ _ _ _ _ _ _ _ _ hg hκ I)
 | .ask k => ask_go O S le ho hg hκ I
 | .handled own k => .step (fun _ _ x => .handled x) (S _ ho _ _ _ _ _ _ _ _ _ _ _ _ _ hg hκ I)
 | .fresh k => fresh_go O S le ho hg hκ I
 | .alloc o k => alloc_go O S le ho hg hκ I
 | .load a part k => load_go S ho le (kk := k) (fun o r s' x y => .load x y) hg hκ I
 | .loadIfAlive a k => load_go S ho le (kk := fun o => k (some o)) (fun o r s' x y => .loadIfAlive (by rw [x]; exact y)) hg hκ I
 | .update a part f k => upd_go O S le ho hg hκ I
 | .stack k => stack_go O S le ho hg hκ I
 | .call c hd b l k => call_go O S le ho hg hκ I
 | .unsupported _ => .none
 | .finish _ => .none
 | .register _ _ => .none
 | .choose _ _ _ => .none
 | .os _ _ _ => .none
 | .newGen _ _ => .none
 | .genState _ _ => .none
 | .resume _ _ _ _ => .none
 | .yield _ _ _ _ => .none
 | .fork _ _ => .none
 | .thread _ => .none
 | .await _ _ _ _ _ => .none
end
theorem sound (O : V.Ok M) : ∀ n,Snd V M fun ad tk => sim V ad tk n
 | 0 => fun _ _ _ _ _ _ _ _ _ _ _ _ _ _ _ _ _ _ => .none
 | n + 1 => fun _ ho _ _ t _ _ _ _ _ _ _ _ _ _ hg hκ I => step_go O (sound O n) (fun _ _ => sim_le n) ho hg hκ I t
end
abbrev prog : Program := PySem.Challenge.pw_nt0533_01
noncomputable def arP : Array UInt8 := #[112,111,112,32,112,111,112,32]
noncomputable def arQ : Array UInt8 := #[112,111,112,32]
noncomputable def arA : Array UInt8 := #[97,110,99,104,111,114,115,101,97,114,99,104]
noncomputable def arT : Array UInt8 := #[41,32,115,101,97,114,99,104]
noncomputable def arS : Array UInt8 := #[115,101,97,114,99,104]
noncomputable def arB : Array UInt8 := #[41,32,40]
noncomputable def arC : Array UInt8 := #[41,32]
noncomputable def fnAt : List Nat → List Stmt → Option Stmt
 | [],_ => none
 | i :: r,ss => match ss[i]? with
  | some s => match r with
   | [] => some s
   | _ :: _ => match s with
    | .FunctionDef _ _ b _ _ _ _ _ _ _ => fnAt r b
    | .ClassDef _ _ _ b _ _ _ _ _ _ _ => fnAt r b
    | _ => none
  | none => none
noncomputable def F (p : List Nat) (name qualname : Str) (globals : Addr) (closure : List (Str × Addr)) (defaults kwdefaults doc pyModule : Value) (ann : Option Addr) (code ct : Value) (bi : Addr) : FuncData :=
 match fnAt p prog.main.body with
 | some (.FunctionDef _ args body _ _ _ scope _ _ _) => ⟨name,qualname,args,.stmts body,scope,globals,closure,defaults,kwdefaults,doc,pyModule,ann,code,ct,bi⟩
 | _ => default
noncomputable def K (P : Params) (k v : Value) : DictEntry := ⟨match k with | .str s _ => reduceHash (P.strHash s.cps) | _ => 0,k,v⟩
abbrev uS (l : List Nat) : Str := ⟨l.toArray⟩
noncomputable def t584 := uS [116,117,114,110]
noncomputable def t585 := uS [99,101,108,108]
noncomputable def t588 := uS [95,95,109,97,105,110,95,95]
noncomputable def t0 := uS [95,95,110,97,109,101,95,95]
noncomputable def t1 := uS [98,117,105,108,116,105,110,115]
noncomputable def t2 := uS [95,95,100,111,99,95,95]
noncomputable def t3 := uS [95,95,112,97,99,107,97,103,101,95,95]
noncomputable def t4 := uS [95,95,108,111,97,100,101,114,95,95]
noncomputable def t5 := uS [95,95,115,112,101,99,95,95]
noncomputable def t6 := uS [95,95,98,117,105,108,100,95,99,108,97,115,115,95,95]
noncomputable def t7 := uS [95,95,105,109,112,111,114,116,95,95]
noncomputable def t8 := uS [97,98,115]
noncomputable def t9 := uS [97,108,108]
noncomputable def t10 := uS [97,110,121]
noncomputable def t11 := uS [97,115,99,105,105]
noncomputable def t12 := uS [98,105,110]
noncomputable def t13 := uS [98,114,101,97,107,112,111,105,110,116]
noncomputable def t14 := uS [99,97,108,108,97,98,108,101]
noncomputable def t15 := uS [99,104,114]
noncomputable def t16 := uS [99,111,109,112,105,108,101]
noncomputable def t17 := uS [100,101,108,97,116,116,114]
noncomputable def t18 := uS [100,105,114]
noncomputable def t19 := uS [100,105,118,109,111,100]
noncomputable def t20 := uS [101,118,97,108]
noncomputable def t21 := uS [101,120,101,99]
noncomputable def t22 := uS [102,111,114,109,97,116]
noncomputable def t23 := uS [103,101,116,97,116,116,114]
noncomputable def t24 := uS [103,108,111,98,97,108,115]
noncomputable def t25 := uS [104,97,115,97,116,116,114]
noncomputable def t26 := uS [104,97,115,104]
noncomputable def t27 := uS [104,101,120]
noncomputable def t28 := uS [105,100]
noncomputable def t29 := uS [105,110,112,117,116]
noncomputable def t30 := uS [105,115,105,110,115,116,97,110,99,101]
noncomputable def t31 := uS [105,115,115,117,98,99,108,97,115,115]
noncomputable def t32 := uS [105,116,101,114]
noncomputable def t33 := uS [97,105,116,101,114]
noncomputable def t34 := uS [108,101,110]
noncomputable def t35 := uS [108,111,99,97,108,115]
noncomputable def t36 := uS [109,97,120]
noncomputable def t37 := uS [109,105,110]
noncomputable def t38 := uS [110,101,120,116]
noncomputable def t39 := uS [97,110,101,120,116]
noncomputable def t40 := uS [111,99,116]
noncomputable def t41 := uS [111,114,100]
noncomputable def t42 := uS [112,111,119]
noncomputable def t43 := uS [112,114,105,110,116]
noncomputable def t44 := uS [114,101,112,114]
noncomputable def t45 := uS [114,111,117,110,100]
noncomputable def t46 := uS [115,101,116,97,116,116,114]
noncomputable def t47 := uS [115,111,114,116,101,100]
noncomputable def t48 := uS [115,117,109]
noncomputable def t49 := uS [118,97,114,115]
noncomputable def t50 := uS [78,111,110,101]
noncomputable def t51 := uS [69,108,108,105,112,115,105,115]
noncomputable def t52 := uS [78,111,116,73,109,112,108,101,109,101,110,116,101,100]
noncomputable def t53 := uS [70,97,108,115,101]
noncomputable def t54 := uS [84,114,117,101]
noncomputable def t55 := uS [98,111,111,108]
noncomputable def t56 := uS [109,101,109,111,114,121,118,105,101,119]
noncomputable def t57 := uS [98,121,116,101,97,114,114,97,121]
noncomputable def t58 := uS [98,121,116,101,115]
noncomputable def t59 := uS [99,108,97,115,115,109,101,116,104,111,100]
noncomputable def t60 := uS [99,111,109,112,108,101,120]
noncomputable def t61 := uS [100,105,99,116]
noncomputable def t62 := uS [101,110,117,109,101,114,97,116,101]
noncomputable def t63 := uS [102,105,108,116,101,114]
noncomputable def t64 := uS [102,108,111,97,116]
noncomputable def t65 := uS [102,114,111,122,101,110,115,101,116]
noncomputable def t66 := uS [112,114,111,112,101,114,116,121]
noncomputable def t67 := uS [105,110,116]
noncomputable def t68 := uS [108,105,115,116]
noncomputable def t69 := uS [109,97,112]
noncomputable def t70 := uS [111,98,106,101,99,116]
noncomputable def t71 := uS [114,97,110,103,101]
noncomputable def t72 := uS [114,101,118,101,114,115,101,100]
noncomputable def t73 := uS [115,101,116]
noncomputable def t74 := uS [115,108,105,99,101]
noncomputable def t75 := uS [115,116,97,116,105,99,109,101,116,104,111,100]
noncomputable def t76 := uS [115,116,114]
noncomputable def t77 := uS [115,117,112,101,114]
noncomputable def t78 := uS [116,117,112,108,101]
noncomputable def t79 := uS [116,121,112,101]
noncomputable def t80 := uS [122,105,112]
noncomputable def t81 := uS [95,95,100,101,98,117,103,95,95]
noncomputable def t82 := uS [66,97,115,101,69,120,99,101,112,116,105,111,110]
noncomputable def t83 := uS [66,97,115,101,69,120,99,101,112,116,105,111,110,71,114,111,117,112]
noncomputable def t84 := uS [69,120,99,101,112,116,105,111,110]
noncomputable def t85 := uS [71,101,110,101,114,97,116,111,114,69,120,105,116]
noncomputable def t86 := uS [75,101,121,98,111,97,114,100,73,110,116,101,114,114,117,112,116]
noncomputable def t87 := uS [83,121,115,116,101,109,69,120,105,116]
noncomputable def t88 := uS [65,114,105,116,104,109,101,116,105,99,69,114,114,111,114]
noncomputable def t89 := uS [65,115,115,101,114,116,105,111,110,69,114,114,111,114]
noncomputable def t90 := uS [65,116,116,114,105,98,117,116,101,69,114,114,111,114]
noncomputable def t91 := uS [66,117,102,102,101,114,69,114,114,111,114]
noncomputable def t92 := uS [69,79,70,69,114,114,111,114]
noncomputable def t93 := uS [73,109,112,111,114,116,69,114,114,111,114]
noncomputable def t94 := uS [76,111,111,107,117,112,69,114,114,111,114]
noncomputable def t95 := uS [77,101,109,111,114,121,69,114,114,111,114]
noncomputable def t96 := uS [78,97,109,101,69,114,114,111,114]
noncomputable def t97 := uS [79,83,69,114,114,111,114]
noncomputable def t98 := uS [82,101,102,101,114,101,110,99,101,69,114,114,111,114]
noncomputable def t99 := uS [82,117,110,116,105,109,101,69,114,114,111,114]
noncomputable def t100 := uS [83,116,111,112,65,115,121,110,99,73,116,101,114,97,116,105,111,110]
noncomputable def t101 := uS [83,116,111,112,73,116,101,114,97,116,105,111,110]
noncomputable def t102 := uS [83,121,110,116,97,120,69,114,114,111,114]
noncomputable def t103 := uS [83,121,115,116,101,109,69,114,114,111,114]
noncomputable def t104 := uS [84,121,112,101,69,114,114,111,114]
noncomputable def t105 := uS [86,97,108,117,101,69,114,114,111,114]
noncomputable def t106 := uS [87,97,114,110,105,110,103]
noncomputable def t107 := uS [70,108,111,97,116,105,110,103,80,111,105,110,116,69,114,114,111,114]
noncomputable def t108 := uS [79,118,101,114,102,108,111,119,69,114,114,111,114]
noncomputable def t109 := uS [90,101,114,111,68,105,118,105,115,105,111,110,69,114,114,111,114]
noncomputable def t110 := uS [66,121,116,101,115,87,97,114,110,105,110,103]
noncomputable def t111 := uS [68,101,112,114,101,99,97,116,105,111,110,87,97,114,110,105,110,103]
noncomputable def t112 := uS [69,110,99,111,100,105,110,103,87,97,114,110,105,110,103]
noncomputable def t113 := uS [70,117,116,117,114,101,87,97,114,110,105,110,103]
noncomputable def t114 := uS [73,109,112,111,114,116,87,97,114,110,105,110,103]
noncomputable def t115 := uS [80,101,110,100,105,110,103,68,101,112,114,101,99,97,116,105,111,110,87,97,114,110,105,110,103]
noncomputable def t116 := uS [82,101,115,111,117,114,99,101,87,97,114,110,105,110,103]
noncomputable def t117 := uS [82,117,110,116,105,109,101,87,97,114,110,105,110,103]
noncomputable def t118 := uS [83,121,110,116,97,120,87,97,114,110,105,110,103]
noncomputable def t119 := uS [85,110,105,99,111,100,101,87,97,114,110,105,110,103]
noncomputable def t120 := uS [85,115,101,114,87,97,114,110,105,110,103]
noncomputable def t121 := uS [66,108,111,99,107,105,110,103,73,79,69,114,114,111,114]
noncomputable def t122 := uS [67,104,105,108,100,80,114,111,99,101,115,115,69,114,114,111,114]
noncomputable def t123 := uS [67,111,110,110,101,99,116,105,111,110,69,114,114,111,114]
noncomputable def t124 := uS [70,105,108,101,69,120,105,115,116,115,69,114,114,111,114]
noncomputable def t125 := uS [70,105,108,101,78,111,116,70,111,117,110,100,69,114,114,111,114]
noncomputable def t126 := uS [73,110,116,101,114,114,117,112,116,101,100,69,114,114,111,114]
noncomputable def t127 := uS [73,115,65,68,105,114,101,99,116,111,114,121,69,114,114,111,114]
noncomputable def t128 := uS [78,111,116,65,68,105,114,101,99,116,111,114,121,69,114,114,111,114]
noncomputable def t129 := uS [80,101,114,109,105,115,115,105,111,110,69,114,114,111,114]
noncomputable def t130 := uS [80,114,111,99,101,115,115,76,111,111,107,117,112,69,114,114,111,114]
noncomputable def t131 := uS [84,105,109,101,111,117,116,69,114,114,111,114]
noncomputable def t132 := uS [73,110,100,101,110,116,97,116,105,111,110,69,114,114,111,114]
noncomputable def t133 := uS [95,73,110,99,111,109,112,108,101,116,101,73,110,112,117,116,69,114,114,111,114]
noncomputable def t134 := uS [73,110,100,101,120,69,114,114,111,114]
noncomputable def t135 := uS [75,101,121,69,114,114,111,114]
noncomputable def t136 := uS [77,111,100,117,108,101,78,111,116,70,111,117,110,100,69,114,114,111,114]
noncomputable def t137 := uS [78,111,116,73,109,112,108,101,109,101,110,116,101,100,69,114,114,111,114]
noncomputable def t138 := uS [80,121,116,104,111,110,70,105,110,97,108,105,122,97,116,105,111,110,69,114,114,111,114]
noncomputable def t139 := uS [82,101,99,117,114,115,105,111,110,69,114,114,111,114]
noncomputable def t140 := uS [85,110,98,111,117,110,100,76,111,99,97,108,69,114,114,111,114]
noncomputable def t141 := uS [85,110,105,99,111,100,101,69,114,114,111,114]
noncomputable def t142 := uS [66,114,111,107,101,110,80,105,112,101,69,114,114,111,114]
noncomputable def t143 := uS [67,111,110,110,101,99,116,105,111,110,65,98,111,114,116,101,100,69,114,114,111,114]
noncomputable def t144 := uS [67,111,110,110,101,99,116,105,111,110,82,101,102,117,115,101,100,69,114,114,111,114]
noncomputable def t145 := uS [67,111,110,110,101,99,116,105,111,110,82,101,115,101,116,69,114,114,111,114]
noncomputable def t146 := uS [84,97,98,69,114,114,111,114]
noncomputable def t147 := uS [85,110,105,99,111,100,101,68,101,99,111,100,101,69,114,114,111,114]
noncomputable def t148 := uS [85,110,105,99,111,100,101,69,110,99,111,100,101,69,114,114,111,114]
noncomputable def t149 := uS [85,110,105,99,111,100,101,84,114,97,110,115,108,97,116,101,69,114,114,111,114]
noncomputable def t150 := uS [69,120,99,101,112,116,105,111,110,71,114,111,117,112]
noncomputable def t151 := uS [69,110,118,105,114,111,110,109,101,110,116,69,114,114,111,114]
noncomputable def t152 := uS [73,79,69,114,114,111,114]
noncomputable def t153 := uS [111,112,101,110]
noncomputable def t154 := uS [113,117,105,116]
noncomputable def t155 := uS [101,120,105,116]
noncomputable def t156 := uS [99,111,112,121,114,105,103,104,116]
noncomputable def t157 := uS [99,114,101,100,105,116,115]
noncomputable def t158 := uS [108,105,99,101,110,115,101]
noncomputable def t159 := uS [104,101,108,112]
noncomputable def t160 := uS [116,121,112,101,46,95,95,115,117,98,99,108,97,115,115,101,115,95,95,46,69,120,99,101,112,116,105,111,110,46,48]
noncomputable def t161 := uS [116,121,112,101,46,95,95,115,117,98,99,108,97,115,115,101,115,95,95,46,69,120,99,101,112,116,105,111,110,46,110]
noncomputable def t162 := uS [108,97,119,95,110,116,48,53,51,51,95,48,49]
noncomputable def t163 := uS [95,95,97,110,110,111,116,97,116,105,111,110,115,95,95]
noncomputable def t164 := uS [95,95,98,117,105,108,116,105,110,115,95,95]
noncomputable def t165 := uS [95,95,102,105,108,101,95,95]
noncomputable def t166 := uS [47,99,108,97,105,109,47,99,117,116,46,112,121]
noncomputable def t167 := uS [95,95,99,97,99,104,101,100,95,95]
noncomputable def t168 := uS [95,119,97,108,108]
noncomputable def t169 := uS [71,82,65,73,78]
noncomputable def t170 := uS [76,69,65,83,84,95,73,78,84]
noncomputable def t171 := uS [77,79,83,84,95,73,78,84]
noncomputable def t172 := uS [87,72,73,84,69]
noncomputable def t173 := uS [68,69,76,73,77,73,84,69,82,83]
noncomputable def t174 := uS [76,73,78,69,95,70,69,69,68]
noncomputable def t175 := uS [67,65,82,82,73,65,71,69,95,82,69,84,85,82,78]
noncomputable def t176 := uS [80,111,115,116,69,114,114,111,114]
noncomputable def t177 := uS [80,115,69,114,114,111,114]
noncomputable def t178 := uS [81,117,105,116]
noncomputable def t179 := uS [66,97,100,84,101,120,116]
noncomputable def t180 := uS [111,99,116,101,116,115,95,111,102]
noncomputable def t181 := uS [105,115,95,119,104,105,116,101]
noncomputable def t182 := uS [105,115,95,100,101,108,105,109,105,116,101,114]
noncomputable def t183 := uS [105,115,95,108,105,110,101,95,101,110,100]
noncomputable def t184 := uS [105,115,95,111,99,116,97,108]
noncomputable def t185 := uS [104,101,120,95,118,97,108,117,101]
noncomputable def t186 := uS [100,105,103,105,116,95,118,97,108,117,101]
noncomputable def t187 := uS [82,85,78,95,79,78,76,89]
noncomputable def t188 := uS [82,69,65,68,95,79,78,76,89]
noncomputable def t189 := uS [85,78,76,73,77,73,84,69,68]
noncomputable def t190 := uS [84,104,105,110,103]
noncomputable def t191 := uS [84,101,120,116]
noncomputable def t192 := uS [82,111,119]
noncomputable def t193 := uS [68,105,99,116,66,111,100,121]
noncomputable def t194 := uS [83,112,97,110]
noncomputable def t195 := uS [105,110,116,101,103,101,114]
noncomputable def t196 := uS [114,101,97,108]
noncomputable def t197 := uS [98,111,111,108,101,97,110]
noncomputable def t198 := uS [110,97,109,101]
noncomputable def t199 := uS [111,112,101,114,97,116,111,114,95,116,104,105,110,103]
noncomputable def t200 := uS [110,117,108,108]
noncomputable def t201 := uS [111,102,95,115,116,114,105,110,103]
noncomputable def t202 := uS [111,102,95,114,111,119]
noncomputable def t203 := uS [111,102,95,112,97,99,107,101,100]
noncomputable def t204 := uS [111,102,95,100,105,99,116]
noncomputable def t205 := uS [105,115,95,110,117,109,98,101,114]
noncomputable def t206 := uS [105,110,95,109,105,108,108,105,111,110,116,104,115]
noncomputable def t207 := uS [105,115,95,105,110,95,97,114,114,97,121]
noncomputable def t208 := uS [98,111,100,121,95,111,102]
noncomputable def t209 := uS [105,115,95,108,111,99,97,108]
noncomputable def t210 := uS [97,99,99,101,115,115,95,111,102]
noncomputable def t211 := uS [99,97,110,95,114,101,97,100]
noncomputable def t212 := uS [99,97,110,95,114,117,110]
noncomputable def t213 := uS [99,104,101,99,107,95,112,97,114,116]
noncomputable def t214 := uS [112,97,114,116,95,111,102]
noncomputable def t215 := uS [119,105,116,104,95,115,112,97,110]
noncomputable def t216 := uS [105,115,95,116,101,120,116,95,115,112,97,110]
noncomputable def t217 := uS [105,116,101,109]
noncomputable def t218 := uS [111,99,116,101,116,115,95,111,102,95,115,112,97,110]
noncomputable def t219 := uS [116,104,105,110,103,95,111,99,116,101,116,115]
noncomputable def t220 := uS [107,101,121,95,111,102]
noncomputable def t221 := uS [107,101,121,95,116,104,105,110,103]
noncomputable def t222 := uS [80,69,82,77,65,78,69,78,84]
noncomputable def t223 := uS [100,105,99,116,95,99,104,101,99,107,95,114,101,97,100]
noncomputable def t224 := uS [68,105,99,116,83,116,97,99,107]
noncomputable def t225 := uS [73,84,69,77,95,67,79,83,84]
noncomputable def t226 := uS [69,78,84,82,89,95,67,79,83,84]
noncomputable def t227 := uS [77,79,83,84,95,67,79,83,84]
noncomputable def t228 := uS [76,105,109,105,116,115]
noncomputable def t229 := uS [86,109,83,97,118,101]
noncomputable def t230 := uS [66,111,100,121,77,97,107,101,114]
noncomputable def t231 := uS [66,111,100,121,67,104,97,110,103,101,114]
noncomputable def t232 := uS [77,101,109,111,114,121]
noncomputable def t233 := uS [109,101,109,111,114,121,95,99,104,101,99,107,95,109,97,110,121]
noncomputable def t234 := uS [109,101,109,111,114,121,95,112,117,116,95,98,97,99,107]
noncomputable def t235 := uS [73,78,84,69,71,69,82]
noncomputable def t236 := uS [82,69,65,76]
noncomputable def t237 := uS [77,79,83,84,95,82,69,65,76]
noncomputable def t238 := uS [80,76,65,67,69,83]
noncomputable def t239 := uS [87,79,82,68,95,83,73,90,69]
noncomputable def t240 := uS [77,79,83,84,95,70,73,71,85,82,69,83]
noncomputable def t241 := uS [100,105,118,105,100,101,100]
noncomputable def t242 := uS [105,115,95,105,110,116,101,103,101,114,95,115,105,122,101]
noncomputable def t243 := uS [99,104,101,99,107,101,100,95,114,101,97,108]
noncomputable def t244 := uS [114,101,97,108,95,111,102]
noncomputable def t245 := uS [119,104,111,108,101,95,110,117,109,98,101,114]
noncomputable def t246 := uS [102,105,103,117,114,101,115,95,118,97,108,117,101]
noncomputable def t247 := uS [114,101,97,100,95,114,97,100,105,120]
noncomputable def t248 := uS [115,105,103,110,101,100,95,119,111,114,100]
noncomputable def t249 := uS [114,101,97,100,95,101,120,112,111,110,101,110,116]
noncomputable def t250 := uS [110,117,109,98,101,114,95,115,99,97,108,101,100]
noncomputable def t251 := uS [115,112,108,105,116,95,97,116]
noncomputable def t252 := uS [114,101,97,100,95,114,101,97,108]
noncomputable def t253 := uS [114,101,97,100,95,110,117,109,98,101,114]
noncomputable def t254 := uS [83,67,65,78,95,69,78,68]
noncomputable def t255 := uS [83,67,65,78,95,70,79,82,77,95,70,69,69,68]
noncomputable def t256 := uS [83,67,65,78,95,77,79,83,84,95,78,65,77,69]
noncomputable def t257 := uS [83,67,65,78,95,66,65,83,69]
noncomputable def t258 := uS [83,67,65,78,95,70,73,82,83,84]
noncomputable def t259 := uS [83,67,65,78,95,79,80,69,78]
noncomputable def t260 := uS [83,67,65,78,95,67,76,79,83,69]
noncomputable def t261 := uS [83,67,65,78,95,83,76,65,83,72]
noncomputable def t262 := uS [83,67,65,78,95,76,69,83,83]
noncomputable def t263 := uS [83,67,65,78,95,77,79,82,69]
noncomputable def t264 := uS [83,67,65,78,95,66,65,67,75,83,76,65,83,72]
noncomputable def t265 := uS [83,67,65,78,95,82,79,87,95,79,80,69,78]
noncomputable def t266 := uS [83,67,65,78,95,82,79,87,95,67,76,79,83,69]
noncomputable def t267 := uS [83,67,65,78,95,80,82,79,67,95,79,80,69,78]
noncomputable def t268 := uS [83,67,65,78,95,80,82,79,67,95,67,76,79,83,69]
noncomputable def t269 := uS [83,67,65,78,95,84,73,76,68,69]
noncomputable def t270 := uS [83,67,65,78,95,78,79,85,71,72,84,83]
noncomputable def t271 := uS [83,67,65,78,95,80,69,82,67,69,78,84]
noncomputable def t272 := uS [79,99,116,101,116,83,111,117,114,99,101]
noncomputable def t273 := uS [105,115,95,98,108,97,110,107]
noncomputable def t274 := uS [115,99,97,110,95,115,107,105,112,95,102,101,101,100]
noncomputable def t275 := uS [115,99,97,110,95,108,105,110,101]
noncomputable def t276 := uS [115,99,97,110,95,102,105,114,115,116]
noncomputable def t277 := uS [115,99,97,110,95,119,111,114,100]
noncomputable def t278 := uS [115,99,97,110,95,115,117,114,101]
noncomputable def t279 := uS [115,99,97,110,95,111,99,116,97,108]
noncomputable def t280 := uS [115,99,97,110,95,101,115,99,97,112,101]
noncomputable def t281 := uS [115,99,97,110,95,115,116,114,105,110,103]
noncomputable def t282 := uS [115,99,97,110,95,104,101,120]
noncomputable def t283 := uS [115,99,97,110,95,103,114,111,117,112]
noncomputable def t284 := uS [115,99,97,110,95,98,97,115,101,56,53]
noncomputable def t285 := uS [115,99,97,110,95,110,97,109,101]
noncomputable def t286 := uS [115,99,97,110,95,114,101,103,117,108,97,114]
noncomputable def t287 := uS [115,99,97,110,95,97,116,95,111,110,99,101]
noncomputable def t288 := uS [83,99,97,110,110,101,114]
noncomputable def t289 := uS [83,116,97,99,107]
noncomputable def t290 := uS [110,101,101,100]
noncomputable def t291 := uS [70,73,82,83,84,95,83,69,69,68]
noncomputable def t292 := uS [85,83,69,82,95,77,79,83,84]
noncomputable def t293 := uS [70,114,97,109,101]
noncomputable def t294 := uS [80,114,111,99,70,114,97,109,101]
noncomputable def t295 := uS [83,111,117,114,99,101,70,114,97,109,101]
noncomputable def t296 := uS [84,104,105,110,103,70,114,97,109,101]
noncomputable def t297 := uS [109,97,99,104,105,110,101,95,108,111,111,107,117,112]
noncomputable def t298 := uS [77,97,99,104,105,110,101,67,111,114,101]
noncomputable def t299 := uS [83,109,97,108,108,79,117,116]
noncomputable def t300 := uS [83,109,97,108,108,77,97,99,104,105,110,101]
noncomputable def t301 := uS [111,112,95,112,111,112]
noncomputable def t302 := uS [115,116,114,105,110,103,95,99,104,101,99,107,95,114,101,97,100]
noncomputable def t303 := uS [115,116,114,105,110,103,95,112,97,114,116]
noncomputable def t304 := uS [115,116,114,105,110,103,95,112,108,97,99,101]
noncomputable def t305 := uS [115,116,114,105,110,103,95,116,119,111]
noncomputable def t306 := uS [111,112,95,115,101,97,114,99,104]
noncomputable def t307 := uS [111,112,95,97,110,99,104,111,114,115,101,97,114,99,104]
noncomputable def t308 := uS [95,108,97,119,95,100,101,99,107]
noncomputable def t309 := uS [95,108,97,119,95,100,114,97,119]
noncomputable def t310 := uS [95,108,97,119,95,115,105,103,110,115]
noncomputable def t311 := uS [95,108,97,119,95,112,108,97,99,101]
noncomputable def t312 := uS [95,108,97,119,95,116,111,108,100]
noncomputable def t313 := uS [95,108,97,119,95,100,117,101]
noncomputable def t314 := uS [95,108,97,119,95,114,117,110]
noncomputable def t315 := uS [108,97,119]
noncomputable def t316 := uS [95,95,105,110,105,116,95,95]
noncomputable def t317 := uS [80,111,115,116,69,114,114,111,114,46,95,95,105,110,105,116,95,95]
noncomputable def t318 := uS [112,111,115,116,99,111,114,101,46,98,97,115,101]
noncomputable def t319 := uS [95,95,109,111,100,117,108,101,95,95]
noncomputable def t320 := uS [95,95,102,105,114,115,116,108,105,110,101,110,111,95,95]
noncomputable def t321 := uS [95,95,115,116,97,116,105,99,95,97,116,116,114,105,98,117,116,101,115,95,95]
noncomputable def t322 := uS [95,95,119,101,97,107,114,101,102,95,95]
noncomputable def t323 := uS [84,104,105,110,103,46,95,95,105,110,105,116,95,95]
noncomputable def t324 := uS [112,111,115,116,99,111,114,101,46,111,98,106,101,99,116,115]
noncomputable def t325 := uS [95,95,100,105,99,116,95,95]
noncomputable def t326 := uS [84,101,120,116,46,95,95,105,110,105,116,95,95]
noncomputable def t327 := uS [68,105,99,116,66,111,100,121,46,95,95,105,110,105,116,95,95]
noncomputable def t328 := uS [103,101,116]
noncomputable def t329 := uS [112,97,105,114,115]
noncomputable def t330 := uS [83,112,97,110,46,95,95,105,110,105,116,95,95]
noncomputable def t331 := uS [68,105,99,116,83,116,97,99,107,46,95,95,105,110,105,116,95,95]
noncomputable def t332 := uS [112,111,115,116,99,111,114,101,46,100,105,99,116,105,111,110,97,114,105,101,115]
noncomputable def t333 := uS [102,105,110,100]
noncomputable def t334 := uS [68,105,99,116,83,116,97,99,107,46,102,105,110,100]
noncomputable def t335 := uS [109,97,110,121]
noncomputable def t336 := uS [99,117,114,114,101,110,116]
noncomputable def t337 := uS [97,116]
noncomputable def t338 := uS [116,111,95,108,105,115,116]
noncomputable def t339 := uS [104,111,108,100,115]
noncomputable def t340 := uS [98,101,103,105,110]
noncomputable def t341 := uS [101,110,100]
noncomputable def t342 := uS [99,117,116,95,116,111,95,116,104,114,101,101]
noncomputable def t343 := uS [108,111,97,100]
noncomputable def t344 := uS [119,104,101,114,101]
noncomputable def t345 := uS [100,101,102,105,110,101]
noncomputable def t346 := uS [115,116,111,114,101]
noncomputable def t347 := uS [110,97,109,101,115,95,115,101,101,110]
noncomputable def t348 := uS [104,105,100,100,101,110]
noncomputable def t349 := uS [76,105,109,105,116,115,46,95,95,105,110,105,116,95,95]
noncomputable def t350 := uS [112,111,115,116,99,111,114,101,46,109,101,109,111,114,121]
noncomputable def t351 := uS [66,111,100,121,77,97,107,101,114,46,95,95,105,110,105,116,95,95]
noncomputable def t352 := uS [108,101,118,101,108]
noncomputable def t353 := uS [66,111,100,121,77,97,107,101,114,46,108,101,118,101,108]
noncomputable def t354 := uS [98,111,100,121,95,108,101,118,101,108]
noncomputable def t355 := uS [66,111,100,121,77,97,107,101,114,46,98,111,100,121,95,108,101,118,101,108]
noncomputable def t356 := uS [116,97,107,101,95,114,111,111,109]
noncomputable def t357 := uS [66,111,100,121,77,97,107,101,114,46,116,97,107,101,95,114,111,111,109]
noncomputable def t358 := uS [99,104,101,99,107,95,114,111,111,109]
noncomputable def t359 := uS [66,111,100,121,77,97,107,101,114,46,99,104,101,99,107,95,114,111,111,109]
noncomputable def t360 := uS [116,101,120,116,95,111,102,95,111,99,116,101,116,115]
noncomputable def t361 := uS [66,111,100,121,77,97,107,101,114,46,116,101,120,116,95,111,102,95,111,99,116,101,116,115]
noncomputable def t362 := uS [109,97,107,101,95,100,105,99,116]
noncomputable def t363 := uS [66,111,100,121,77,97,107,101,114,46,109,97,107,101,95,100,105,99,116]
noncomputable def t364 := uS [109,97,107,101,95,116,101,120,116]
noncomputable def t365 := uS [109,97,107,101,95,114,111,119]
noncomputable def t366 := uS [105,115,95,101,108,100,101,114]
noncomputable def t367 := uS [66,111,100,121,67,104,97,110,103,101,114,46,105,115,95,101,108,100,101,114]
noncomputable def t368 := uS [99,104,101,99,107,95,104,111,108,100,115]
noncomputable def t369 := uS [66,111,100,121,67,104,97,110,103,101,114,46,99,104,101,99,107,95,104,111,108,100,115]
noncomputable def t370 := uS [112,117,116,95,101,110,116,114,121]
noncomputable def t371 := uS [66,111,100,121,67,104,97,110,103,101,114,46,112,117,116,95,101,110,116,114,121]
noncomputable def t372 := uS [112,117,116,95,105,116,101,109]
noncomputable def t373 := uS [112,117,116,95,105,116,101,109,115]
noncomputable def t374 := uS [112,117,116,95,111,99,116,101,116]
noncomputable def t375 := uS [112,117,116,95,111,99,116,101,116,115]
noncomputable def t376 := uS [103,114,111,119]
noncomputable def t377 := uS [100,114,111,112,95,101,110,116,114,121]
noncomputable def t378 := uS [115,101,116,95,97,99,99,101,115,115]
noncomputable def t379 := uS [115,97,118,101]
noncomputable def t380 := uS [112,108,97,99,101,95,111,102,95,115,97,118,101]
noncomputable def t381 := uS [105,115,95,115,97,118,101,100]
noncomputable def t382 := uS [110,111,116,101,95,111,102]
noncomputable def t383 := uS [115,117,114,101,95,112,108,97,99,101]
noncomputable def t384 := uS [110,101,119,101,114,95,116,104,97,110]
noncomputable def t385 := uS [114,101,115,116,111,114,101]
noncomputable def t386 := uS [115,101,116,116,108,101,95,99,111,115,116,115]
noncomputable def t387 := uS [115,116,97,116,117,115]
noncomputable def t388 := uS [99,111,108,108,101,99,116]
noncomputable def t389 := uS [114,101,99,108,97,105,109]
noncomputable def t390 := uS [106,111,117,114,110,97,108,95,116,104,105,110,103,115]
noncomputable def t391 := uS [112,111,115,116,99,111,114,101,46,110,117,109,98,101,114,115]
noncomputable def t392 := uS [79,99,116,101,116,83,111,117,114,99,101,46,95,95,105,110,105,116,95,95]
noncomputable def t393 := uS [112,111,115,116,99,111,114,101,46,115,99,97,110,110,101,114]
noncomputable def t394 := uS [79,99,116,101,116,83,111,117,114,99,101,46,110,101,120,116]
noncomputable def t395 := uS [98,97,99,107]
noncomputable def t396 := uS [79,99,116,101,116,83,111,117,114,99,101,46,98,97,99,107]
noncomputable def t397 := uS [112,108,97,99,101]
noncomputable def t398 := uS [83,99,97,110,110,101,114,46,95,95,105,110,105,116,95,95]
noncomputable def t399 := uS [115,116,114,105,110,103]
noncomputable def t400 := uS [83,99,97,110,110,101,114,46,115,116,114,105,110,103]
noncomputable def t401 := uS [115,108,97,115,104,101,100]
noncomputable def t402 := uS [83,99,97,110,110,101,114,46,115,108,97,115,104,101,100]
noncomputable def t403 := uS [112,108,97,105,110]
noncomputable def t404 := uS [83,99,97,110,110,101,114,46,112,108,97,105,110]
noncomputable def t405 := uS [116,111,107,101,110]
noncomputable def t406 := uS [83,99,97,110,110,101,114,46,116,111,107,101,110]
noncomputable def t407 := uS [112,114,111,99,101,100,117,114,101]
noncomputable def t408 := uS [112,111,105,110,116,101,100]
noncomputable def t409 := uS [99,108,111,115,101,100]
noncomputable def t410 := uS [116,104,105,110,103,115]
noncomputable def t411 := uS [116,111,107,101,110,95,105,110]
noncomputable def t412 := uS [83,116,97,99,107,46,95,95,105,110,105,116,95,95]
noncomputable def t413 := uS [112,111,115,116,99,111,114,101,46,115,116,97,99,107,115]
noncomputable def t414 := uS [83,116,97,99,107,46,109,97,110,121]
noncomputable def t415 := uS [112,117,115,104]
noncomputable def t416 := uS [83,116,97,99,107,46,112,117,115,104]
noncomputable def t417 := uS [112,117,115,104,95,97,108,108]
noncomputable def t418 := uS [83,116,97,99,107,46,112,117,115,104,95,97,108,108]
noncomputable def t419 := uS [112,111,112]
noncomputable def t420 := uS [83,116,97,99,107,46,112,111,112]
noncomputable def t421 := uS [83,116,97,99,107,46,97,116]
noncomputable def t422 := uS [116,111,112]
noncomputable def t423 := uS [83,116,97,99,107,46,116,111,112]
noncomputable def t424 := uS [116,97,107,101]
noncomputable def t425 := uS [83,116,97,99,107,46,116,97,107,101]
noncomputable def t426 := uS [99,117,116]
noncomputable def t427 := uS [83,116,97,99,107,46,99,117,116]
noncomputable def t428 := uS [115,110,97,112,115,104,111,116]
noncomputable def t429 := uS [83,116,97,99,107,46,115,110,97,112,115,104,111,116]
noncomputable def t430 := uS [112,117,116,95,98,97,99,107]
noncomputable def t431 := uS [83,116,97,99,107,46,112,117,116,95,98,97,99,107]
noncomputable def t432 := uS [114,111,108,108,101,100]
noncomputable def t433 := uS [116,111,95,109,97,114,107]
noncomputable def t434 := uS [112,111,115,116,99,111,114,101,46,109,97,99,104,105,110,101]
noncomputable def t435 := uS [115,116,101,112]
noncomputable def t436 := uS [108,101,102,116]
noncomputable def t437 := uS [116,104,105,110,103]
noncomputable def t438 := uS [83,111,117,114,99,101,70,114,97,109,101,46,95,95,105,110,105,116,95,95]
noncomputable def t439 := uS [83,111,117,114,99,101,70,114,97,109,101,46,115,116,101,112]
noncomputable def t440 := uS [77,97,99,104,105,110,101,67,111,114,101,46,98,101,103,105,110]
noncomputable def t441 := uS [112,117,115,104,95,102,114,97,109,101]
noncomputable def t442 := uS [77,97,99,104,105,110,101,67,111,114,101,46,112,117,115,104,95,102,114,97,109,101]
noncomputable def t443 := uS [100,114,111,112]
noncomputable def t444 := uS [77,97,99,104,105,110,101,67,111,114,101,46,100,114,111,112]
noncomputable def t445 := uS [116,114,97,99,101]
noncomputable def t446 := uS [77,97,99,104,105,110,101,67,111,114,101,46,116,114,97,99,101]
noncomputable def t447 := uS [112,117,115,104,95,111,112,101,114,97,110,100]
noncomputable def t448 := uS [77,97,99,104,105,110,101,67,111,114,101,46,112,117,115,104,95,111,112,101,114,97,110,100]
noncomputable def t449 := uS [109,101,116]
noncomputable def t450 := uS [77,97,99,104,105,110,101,67,111,114,101,46,109,101,116]
noncomputable def t451 := uS [101,120,101,99,117,116,101]
noncomputable def t452 := uS [77,97,99,104,105,110,101,67,111,114,101,46,101,120,101,99,117,116,101]
noncomputable def t453 := uS [118,97,108,117,101,95,111,102]
noncomputable def t454 := uS [77,97,99,104,105,110,101,67,111,114,101,46,118,97,108,117,101,95,111,102]
noncomputable def t455 := uS [114,117,110,95,110,97,109,101]
noncomputable def t456 := uS [77,97,99,104,105,110,101,67,111,114,101,46,114,117,110,95,110,97,109,101]
noncomputable def t457 := uS [99,97,108,108]
noncomputable def t458 := uS [77,97,99,104,105,110,101,67,111,114,101,46,99,97,108,108]
noncomputable def t459 := uS [115,99,97,110,110,101,100]
noncomputable def t460 := uS [77,97,99,104,105,110,101,67,111,114,101,46,115,99,97,110,110,101,100]
noncomputable def t461 := uS [77,97,99,104,105,110,101,67,111,114,101,46,115,116,101,112]
noncomputable def t462 := uS [103,111,95,111,110]
noncomputable def t463 := uS [77,97,99,104,105,110,101,67,111,114,101,46,103,111,95,111,110]
noncomputable def t464 := uS [114,117,110]
noncomputable def t465 := uS [77,97,99,104,105,110,101,67,111,114,101,46,114,117,110]
noncomputable def t466 := uS [105,110,115,116,97,108,108]
noncomputable def t467 := uS [77,97,99,104,105,110,101,67,111,114,101,46,105,110,115,116,97,108,108]
noncomputable def t468 := uS [99,117,116,95,102,114,97,109,101,115]
noncomputable def t469 := uS [102,114,97,109,101,115,95,114,111,119]
noncomputable def t470 := uS [112,108,97,99,101,95,111,102,95,102,114,97,109,101]
noncomputable def t471 := uS [115,116,111,112]
noncomputable def t472 := uS [114,117,110,95,112,114,111,99]
noncomputable def t473 := uS [114,117,110,95,115,111,117,114,99,101]
noncomputable def t474 := uS [108,111,111,107,117,112]
noncomputable def t475 := uS [116,101,108,108]
noncomputable def t476 := uS [102,97,105,108,101,100]
noncomputable def t477 := uS [114,117,110,95,116,104,105,110,103]
noncomputable def t478 := uS [83,109,97,108,108,79,117,116,46,95,95,105,110,105,116,95,95]
noncomputable def t479 := uS [119,114,105,116,101]
noncomputable def t480 := uS [116,111,108,100]
noncomputable def t481 := uS [83,109,97,108,108,77,97,99,104,105,110,101,46,95,95,105,110,105,116,95,95]
noncomputable def t482 := uS [112,111,115,116,99,111,114,101,46,115,116,97,99,107,111,112,115]
noncomputable def t483 := uS [112,111,115,116,99,111,114,101,46,115,116,114,105,110,103,111,112,115]
noncomputable def t486 := uS [100,101,99,107]
noncomputable def t488 := uS [105,115,95,98,111,117,110,100]
noncomputable def t489 := uS [111,99,116,101,116,115]
noncomputable def t490 := uS [115,111,117,103,104,116]
noncomputable def t491 := uS [119,111,114,100]
noncomputable def t494 := uS [99,101,108,108,115]
noncomputable def t495 := uS [111,112,101,114,97,110,100,115]
noncomputable def t496 := uS [100,105,99,116,115]
noncomputable def t497 := uS [102,114,97,109,101,115]
noncomputable def t498 := uS [115,97,118,101,115]
noncomputable def t499 := uS [103,115,116,97,116,101,115]
noncomputable def t500 := uS [116,101,120,116]
noncomputable def t501 := uS [114,111,119]
noncomputable def t502 := uS [101,110,116,114,105,101,115]
noncomputable def t503 := uS [112,97,116,104]
noncomputable def t504 := uS [100,97,115,104]
noncomputable def t505 := uS [102,105,108,101,115]
noncomputable def t506 := uS [115,121,115,116,101,109]
noncomputable def t507 := uS [118,109]
noncomputable def t509 := uS [109,101,109,111,114,121]
noncomputable def t510 := uS [115,99,97,110,110,101,114]
noncomputable def t511 := uS [108,105,109,105,116,115]
noncomputable def t512 := uS [100,105,115,107]
noncomputable def t513 := uS [111,117,116]
noncomputable def t514 := uS [116,97,98,108,101]
noncomputable def t515 := uS [117,115,101,114]
noncomputable def t516 := uS [103,115]
noncomputable def t517 := uS [103,115,116,97,99,107]
noncomputable def t518 := uS [100,101,118,105,99,101]
noncomputable def t519 := uS [102,111,110,116,115]
noncomputable def t520 := uS [114,101,115,111,117,114,99,101,115]
noncomputable def t521 := uS [115,116,101,112,115]
noncomputable def t522 := uS [114,97,110,100,111,109]
noncomputable def t523 := uS [105,115,95,112,97,99,107,105,110,103]
noncomputable def t524 := uS [105,115,95,115,116,111,112,112,101,100]
noncomputable def t525 := uS [116,114,97,99,101,114]
noncomputable def t526 := uS [101,114,114,111,114,115]
noncomputable def t527 := uS [102,97,117,108,116]
noncomputable def t529 := uS [105,115,95,103,108,111,98,97,108]
noncomputable def t530 := uS [106,111,117,114,110,97,108]
noncomputable def t531 := uS [109,97,100,101]
noncomputable def t532 := uS [102,114,101,101,100]
noncomputable def t533 := uS [117,115,101,100]
noncomputable def t534 := uS [117,115,101,100,95,103,108,111,98,97,108]
noncomputable def t535 := uS [108,97,115,116,95,98,111,100,121]
noncomputable def t536 := uS [108,97,115,116,95,115,97,118,101]
noncomputable def t537 := uS [109,111,115,116]
noncomputable def t539 := uS [110,117,109,98,101,114]
noncomputable def t540 := uS [97,99,99,101,115,115]
noncomputable def t541 := uS [98,111,100,121]
noncomputable def t542 := uS [107,105,110,100]
noncomputable def t543 := uS [118,97,108,117,101]
noncomputable def t544 := uS [105,115,95,101,120,101,99]
noncomputable def t546 := uS [112,97,114,116,115]
noncomputable def t548 := uS [111,112,101,114,97,116,111,114]
noncomputable def t554 := uS [115,111,117,114,99,101]
noncomputable def t555 := uS [102,105,108,101]
noncomputable def t557 := uS [100,101,112,116,104]
noncomputable def t559 := uS [109,97,99,104,105,110,101]
noncomputable def t561 := uS [102,111,117,110,100]
noncomputable def t562 := uS [109,97,99,104,105,110,101,95,108,111,111,107,117,112,46,60,108,111,99,97,108,115,62,46,102,111,117,110,100]
noncomputable def t564 := uS [111,99,116,101,116]
noncomputable def t566 := uS [115,116,97,114,116]
noncomputable def kq (P : Params) (t : Str) (n : Nat) (v : Value) : DictEntry := K P (.str t n) v
noncomputable def R0 (s0 s1 : Str) (i0 i1 i2 : Nat) (z0 z1 z2 : Int) : Obj := ⟨.type "code",none,.fields #[.str s0 i0,.str s1 (i0 + 1),.str t166 (i0 + 2),.int z0 0,.int z1 0,.int 0 0,.int 0 0,.int 3 0,.ref i1,.bool true,.int 181 0,.ref (i1 + 1),.none,.ref (i1 + 2),.ref (i1 + 3),.ref (i1 + 4),.int z2 0,.int z0 0,.str t166 i2],#[]⟩
noncomputable def R1 (s0 s1 s2 : Str) (i0 i1 i2 i3 : Nat) : Obj := ⟨.type "function",none,.func (F [i0,i1] s0 s1 3 [] (.ref i2) (.none) (.none) (.str s2 i3) none (.ref (i2 + 6)) (.none) 0),#[]⟩
noncomputable def R2 (s0 s1 : Str) (i0 i1 i2 : Nat) : Obj := ⟨.type "function",none,.func (F [i0] s0 s0 3 [] (.none) (.none) (.none) (.str s1 i1) none (.ref i2) (.none) 0),#[]⟩
noncomputable def R3 (P : Params) (s0 : Str) (i0 i1 i2 i3 i4 : Nat) (z0 : Int) : Obj := ⟨.type "dict",none,.dict #[kq P t319 i0 (.str s0 i1),kq P t320 (i0 + 4) (.int z0 (i0 + 3)),kq P t316 i2 (.ref i3),kq P t321 i4 (.ref (i3 + 1)),kq P t325 (i4 + 2) (.ref (i3 + 4)),kq P t322 (i4 + 4) (.ref (i3 + 5)),kq P t2 (i4 + 5) (.none)] 4,#[]⟩
noncomputable def R4 (s0 : Str) (i0 i1 i2 : Nat) : Obj := ⟨.type "type",none,.cls ⟨s0,[.type "object"],[.ref i0,.type "object"],i1,s0,true,[],[],false,none,false⟩,#[none,none,(some (.str s0 i2)),(some (.str s0 (i2 + 8))),(some (.builtin "object.__new__")),(some (.bool true))]⟩
noncomputable def R5 (s0 s1 s2 : Str) (i0 i1 i2 i3 : Nat) : Obj := ⟨.type "function",none,.func (F [i0,i1] s0 s1 3 [] (.none) (.none) (.none) (.str s2 i2) none (.ref i3) (.none) 0),#[]⟩
noncomputable def R6 (s0 s1 : Str) (i0 i1 i2 : Nat) : Obj := ⟨.type "function",none,.func (F [i0] s0 s0 3 [] (.ref i1) (.none) (.none) (.str s1 i2) none (.ref (i1 + 6)) (.none) 0),#[]⟩
noncomputable def R7 (s0 : Str) (i0 i1 : Nat) (z0 z1 z2 : Int) : Obj := ⟨.type "code",none,.fields #[.str s0 i0,.str s0 (i0 + 1),.str t166 (i0 + 2),.int z0 0,.int z1 0,.int 0 0,.int 0 0,.int 3 0,.ref i1,.bool true,.int 181 0,.ref (i1 + 1),.none,.none,.none,.ref (i1 + 2),.int z2 0,.int z0 0,.str t166 (i0 + 4)],#[]⟩
noncomputable def o0 (P : Params) : Obj := ⟨.type "dict",none,.dict #[kq P t0 1 (.str t1 160),kq P t2 2 (.builtin "builtins.__doc__:str#opaque"),kq P t3 3 (.builtin "builtins.__package__:str#opaque"),kq P t4 4 (.builtin "builtins.__loader__:shared#opaque"),kq P t5 5 (.builtin "builtins.__spec__#opaque"),kq P t6 6 (.builtin "__build_class__"),kq P t7 7 (.builtin "__import__"),kq P t8 8 (.builtin "abs"),kq P t9 9 (.builtin "all"),kq P t10 10 (.builtin "any"),kq P t11 11 (.builtin "ascii"),kq P t12 12 (.builtin "bin"),kq P t13 13 (.builtin "breakpoint"),kq P t14 14 (.builtin "callable"),kq P t15 15 (.builtin "chr"),kq P t16 16 (.builtin "compile"),kq P t17 17 (.builtin "delattr"),kq P t18 18 (.builtin "dir"),kq P t19 19 (.builtin "divmod"),kq P t20 20 (.builtin "eval"),kq P t21 21 (.builtin "exec"),kq P t22 22 (.builtin "format"),kq P t23 23 (.builtin "getattr"),kq P t24 24 (.builtin "globals"),kq P t25 25 (.builtin "hasattr"),kq P t26 26 (.builtin "hash"),kq P t27 27 (.builtin "hex"),kq P t28 28 (.builtin "id"),kq P t29 29 (.builtin "input"),kq P t30 30 (.builtin "isinstance"),kq P t31 31 (.builtin "issubclass"),kq P t32 32 (.builtin "iter"),kq P t33 33 (.builtin "aiter"),kq P t34 34 (.builtin "len"),kq P t35 35 (.builtin "locals"),kq P t36 36 (.builtin "max"),kq P t37 37 (.builtin "min"),kq P t38 38 (.builtin "next"),kq P t39 39 (.builtin "anext"),kq P t40 40 (.builtin "oct"),kq P t41 41 (.builtin "ord"),kq P t42 42 (.builtin "pow"),kq P t43 43 (.builtin "print"),kq P t44 44 (.builtin "repr"),kq P t45 45 (.builtin "round"),kq P t46 46 (.builtin "setattr"),kq P t47 47 (.builtin "sorted"),kq P t48 48 (.builtin "sum"),kq P t49 49 (.builtin "vars"),kq P t50 50 (.none),kq P t51 51 (.ellipsis),kq P t52 52 (.notImplemented),kq P t53 53 (.bool false),kq P t54 54 (.bool true),kq P t55 55 (.type "bool"),kq P t56 56 (.type "memoryview"),kq P t57 57 (.type "bytearray"),kq P t58 58 (.type "bytes"),kq P t59 59 (.type "classmethod"),kq P t60 60 (.type "complex"),kq P t61 61 (.type "dict"),kq P t62 62 (.type "enumerate"),kq P t63 63 (.type "filter"),kq P t64 64 (.type "float"),kq P t65 65 (.type "frozenset"),kq P t66 66 (.type "property"),kq P t67 67 (.type "int"),kq P t68 68 (.type "list"),kq P t69 69 (.type "map"),kq P t70 70 (.type "object"),kq P t71 71 (.type "range"),kq P t72 72 (.type "reversed"),kq P t73 73 (.type "set"),kq P t74 74 (.type "slice"),kq P t75 75 (.type "staticmethod"),kq P t76 76 (.type "str"),kq P t77 77 (.type "super"),kq P t78 78 (.type "tuple"),kq P t79 79 (.type "type"),kq P t80 80 (.type "zip"),kq P t81 81 (.bool true),kq P t82 82 (.type "BaseException"),kq P t83 83 (.type "BaseExceptionGroup"),kq P t84 84 (.type "Exception"),kq P t85 85 (.type "GeneratorExit"),kq P t86 86 (.type "KeyboardInterrupt"),kq P t87 87 (.type "SystemExit"),kq P t88 88 (.type "ArithmeticError"),kq P t89 89 (.type "AssertionError"),kq P t90 90 (.type "AttributeError"),kq P t91 91 (.type "BufferError"),kq P t92 92 (.type "EOFError"),kq P t93 93 (.type "ImportError"),kq P t94 94 (.type "LookupError"),kq P t95 95 (.type "MemoryError"),kq P t96 96 (.type "NameError"),kq P t97 97 (.type "OSError"),kq P t98 98 (.type "ReferenceError"),kq P t99 99 (.type "RuntimeError"),kq P t100 100 (.type "StopAsyncIteration"),kq P t101 101 (.type "StopIteration"),kq P t102 102 (.type "SyntaxError"),kq P t103 103 (.type "SystemError"),kq P t104 104 (.type "TypeError"),kq P t105 105 (.type "ValueError"),kq P t106 106 (.type "Warning"),kq P t107 107 (.type "FloatingPointError"),kq P t108 108 (.type "OverflowError"),kq P t109 109 (.type "ZeroDivisionError"),kq P t110 110 (.type "BytesWarning"),kq P t111 111 (.type "DeprecationWarning"),kq P t112 112 (.type "EncodingWarning"),kq P t113 113 (.type "FutureWarning"),kq P t114 114 (.type "ImportWarning"),kq P t115 115 (.type "PendingDeprecationWarning"),kq P t116 116 (.type "ResourceWarning"),kq P t117 117 (.type "RuntimeWarning"),kq P t118 118 (.type "SyntaxWarning"),kq P t119 119 (.type "UnicodeWarning"),kq P t120 120 (.type "UserWarning"),kq P t121 121 (.type "BlockingIOError"),kq P t122 122 (.type "ChildProcessError"),kq P t123 123 (.type "ConnectionError"),kq P t124 124 (.type "FileExistsError"),kq P t125 125 (.type "FileNotFoundError"),kq P t126 126 (.type "InterruptedError"),kq P t127 127 (.type "IsADirectoryError"),kq P t128 128 (.type "NotADirectoryError"),kq P t129 129 (.type "PermissionError"),kq P t130 130 (.type "ProcessLookupError"),kq P t131 131 (.type "TimeoutError"),kq P t132 132 (.type "IndentationError"),kq P t133 133 (.type "_IncompleteInputError"),kq P t134 134 (.type "IndexError"),kq P t135 135 (.type "KeyError"),kq P t136 136 (.type "ModuleNotFoundError"),kq P t137 137 (.type "NotImplementedError"),kq P t138 138 (.type "PythonFinalizationError"),kq P t139 139 (.type "RecursionError"),kq P t140 140 (.type "UnboundLocalError"),kq P t141 141 (.type "UnicodeError"),kq P t142 142 (.type "BrokenPipeError"),kq P t143 143 (.type "ConnectionAbortedError"),kq P t144 144 (.type "ConnectionRefusedError"),kq P t145 145 (.type "ConnectionResetError"),kq P t146 146 (.type "TabError"),kq P t147 147 (.type "UnicodeDecodeError"),kq P t148 148 (.type "UnicodeEncodeError"),kq P t149 149 (.type "UnicodeTranslateError"),kq P t150 150 (.type "ExceptionGroup"),kq P t151 151 (.type "OSError"),kq P t152 152 (.type "OSError"),kq P t153 153 (.builtin "open"),kq P t154 154 (.builtin "builtins.quit#opaque"),kq P t155 155 (.builtin "builtins.exit#opaque"),kq P t156 156 (.builtin "builtins.copyright#opaque"),kq P t157 157 (.builtin "builtins.credits#opaque"),kq P t158 158 (.builtin "builtins.license#opaque"),kq P t159 159 (.builtin "builtins.help#opaque")] 159,#[]⟩
noncomputable def o1 (P : Params) : Obj := ⟨.type "dict",none,.dict #[kq P t1 162 (.ref 4),kq P t588 163 (.ref 5)] 2,#[]⟩
noncomputable def o2 (P : Params) : Obj := ⟨.none,none,.dict #[kq P t160 242 (.int 39 0),kq P t161 243 (.int 1 0)] 2,#[]⟩
noncomputable def o3 (P : Params) : Obj := ⟨.type "dict",none,.dict #[kq P t0 165 (.str t162 2661),kq P t2 166 (.none),kq P t3 167 (.none),kq P t4 168 (.builtin "__main__.__loader__#opaque"),kq P t5 169 (.none),kq P t163 170 (.ref 6),kq P t164 171 (.ref 4),kq P t165 173 (.str t166 172),kq P t167 174 (.none),kq P t168 193 (.ref 21),kq P t169 197 (.int 1000000 196),kq P t170 202 (.int (-2147483648) 201),kq P t171 208 (.int 2147483647 207),kq P t172 210 (.bytes #[0,9,10,12,13,32] 209),kq P t173 212 (.bytes #[40,41,60,62,91,93,123,125,47,37] 211),kq P t174 214 (.int 10 213),kq P t175 216 (.int 13 215),kq P t176 245 (.ref 39),kq P t177 261 (.ref 52),kq P t178 277 (.ref 64),kq P t179 293 (.ref 76),kq P t180 299 (.ref 83),kq P t181 306 (.ref 90),kq P t182 313 (.ref 97),kq P t183 320 (.ref 104),kq P t184 327 (.ref 111),kq P t185 334 (.ref 118),kq P t186 341 (.ref 125),kq P t187 345 (.int 1 344),kq P t188 347 (.int 2 346),kq P t189 349 (.int 3 348),kq P t190 384 (.ref 143),kq P t191 419 (.ref 164),kq P t192 454 (.ref 185),kq P t193 505 (.ref 218),kq P t194 538 (.ref 239),kq P t195 545 (.ref 250),kq P t196 552 (.ref 257),kq P t197 559 (.ref 264),kq P t198 567 (.ref 272),kq P t199 574 (.ref 279),kq P t200 580 (.ref 286),kq P t201 589 (.ref 294),kq P t202 598 (.ref 302),kq P t203 606 (.ref 310),kq P t204 613 (.ref 317),kq P t205 620 (.ref 324),kq P t206 627 (.ref 331),kq P t207 634 (.ref 338),kq P t208 641 (.ref 345),kq P t209 649 (.ref 352),kq P t210 656 (.ref 359),kq P t211 663 (.ref 366),kq P t212 670 (.ref 373),kq P t213 679 (.ref 380),kq P t214 688 (.ref 387),kq P t215 696 (.ref 394),kq P t216 703 (.ref 401),kq P t217 711 (.ref 408),kq P t218 718 (.ref 415),kq P t219 725 (.ref 422),kq P t220 732 (.ref 429),kq P t221 739 (.ref 436),kq P t222 743 (.int 3 742),kq P t223 750 (.ref 443),kq P t224 903 (.ref 564),kq P t225 907 (.int 8 906),kq P t226 909 (.int 16 908),kq P t227 913 (.int 16777216 912),kq P t228 981 (.ref 586),kq P t229 1016 (.ref 607),kq P t230 1118 (.ref 685),kq P t231 1234 (.ref 769),kq P t232 1364 (.ref 867),kq P t233 1372 (.ref 876),kq P t234 1383 (.ref 883),kq P t235 1387 (.str t195 1386),kq P t236 1389 (.str t196 1388),kq P t237 1394 (.int 1000000000000000000000 1393),kq P t238 1396 (.int 6 1395),kq P t239 1400 (.int 4294967296 1399),kq P t240 1402 (.int 6 1401),kq P t241 1413 (.ref 890),kq P t242 1420 (.ref 897),kq P t243 1427 (.ref 904),kq P t244 1434 (.ref 911),kq P t245 1441 (.ref 918),kq P t246 1452 (.ref 925),kq P t247 1462 (.ref 932),kq P t248 1470 (.ref 939),kq P t249 1480 (.ref 946),kq P t250 1488 (.ref 953),kq P t251 1498 (.ref 960),kq P t252 1513 (.ref 967),kq P t253 1525 (.ref 974),kq P t254 1529 (.int 4 1528),kq P t255 1531 (.int 12 1530),kq P t256 1533 (.int 127 1532),kq P t257 1535 (.int 85 1534),kq P t258 1537 (.int 33 1536),kq P t259 1539 (.int 40 1538),kq P t260 1541 (.int 41 1540),kq P t261 1543 (.int 47 1542),kq P t262 1545 (.int 60 1544),kq P t263 1547 (.int 62 1546),kq P t264 1549 (.int 92 1548),kq P t265 1551 (.int 91 1550),kq P t266 1553 (.int 93 1552),kq P t267 1555 (.int 123 1554),kq P t268 1557 (.int 125 1556),kq P t269 1559 (.int 126 1558),kq P t270 1561 (.int 122 1560),kq P t271 1563 (.int 37 1562),kq P t272 1617 (.ref 1014),kq P t273 1624 (.ref 1025),kq P t274 1632 (.ref 1032),kq P t275 1640 (.ref 1039),kq P t276 1648 (.ref 1046),kq P t277 1657 (.ref 1053),kq P t278 1665 (.ref 1060),kq P t279 1675 (.ref 1067),kq P t280 1685 (.ref 1074),kq P t281 1695 (.ref 1081),kq P t282 1706 (.ref 1088),kq P t283 1715 (.ref 1095),kq P t284 1725 (.ref 1102),kq P t285 1733 (.ref 1109),kq P t286 1741 (.ref 1116),kq P t287 1750 (.ref 1123),kq P t288 1869 (.ref 1206),kq P t289 1996 (.ref 1312),kq P t290 2004 (.ref 1323),kq P t291 2008 (.int 1 2007),kq P t292 2010 (.int 200 2009),kq P t293 2069 (.ref 1368),kq P t294 2121 (.ref 1410),kq P t295 2172 (.ref 1451),kq P t296 2220 (.ref 1491),kq P t297 2229 (.ref 1500),kq P t298 2512 (.ref 1695),kq P t299 2555 (.ref 1730),kq P t300 2588 (.ref 1751),kq P t301 2597 (.ref 1760),kq P t302 2606 (.ref 1767),kq P t303 2615 (.ref 1774),kq P t304 2626 (.ref 1782),kq P t305 2635 (.ref 1789),kq P t306 2649 (.ref 1796),kq P t307 2660 (.ref 1803),kq P t308 2668 (.ref 1808),kq P t309 2678 (.ref 1815),kq P t310 2684 (.ref 1820),kq P t311 2694 (.ref 1827),kq P t312 2703 (.ref 1834),kq P t313 2717 (.ref 1841),kq P t314 2726 (.ref 1848),kq P t315 2732 (.ref 1853)] 157,#[]⟩
noncomputable def o4 (P : Params) : Obj := ⟨.type "module",some 0,.plain,#[]⟩
noncomputable def o29 (P : Params) : Obj := ⟨.type "tuple",none,.seq #[.none] 0,#[]⟩
noncomputable def o35 (P : Params) : Obj := R0 t316 t317 229 30 235 14 2 234
noncomputable def o36 (P : Params) : Obj := R1 t316 t317 t318 9 0 29 194
noncomputable def o38 (P : Params) : Obj := ⟨.type "dict",none,.dict #[kq P t319 224 (.str t318 194),kq P t320 228 (.int 12 227),kq P t316 236 (.ref 36),kq P t321 238 (.ref 37),kq P t322 240 (.ref 40),kq P t2 241 (.none)] 3,#[]⟩
noncomputable def o39 (P : Params) : Obj := ⟨.type "type",none,.cls ⟨t176,[.type "Exception"],[.ref 39,.type "Exception",.type "BaseException",.type "object"],38,t176,true,[],[.ref 52,.ref 64,.ref 76],false,none,false⟩,#[(some (.ref 22)),none,(some (.str t176 217)),(some (.str t176 225)),(some (.builtin "Exception.__new__")),(some (.bool true))]⟩
noncomputable def o51 (P : Params) : Obj := ⟨.type "dict",none,.dict #[kq P t319 253 (.str t318 194),kq P t320 257 (.int 16 256),kq P t321 258 (.ref 50),kq P t2 259 (.none)] 2,#[]⟩
noncomputable def o52 (P : Params) : Obj := ⟨.type "type",none,.cls ⟨t177,[.ref 39],[.ref 52,.ref 39,.type "Exception",.type "BaseException",.type "object"],51,t177,true,[],[],false,none,false⟩,#[(some (.ref 43)),none,(some (.str t177 246)),(some (.str t177 254)),(some (.builtin "Exception.__new__")),(some (.bool true))]⟩
noncomputable def o64 (P : Params) : Obj := ⟨.type "type",none,.cls ⟨t178,[.ref 39],[.ref 64,.ref 39,.type "Exception",.type "BaseException",.type "object"],63,t178,true,[],[],false,none,false⟩,#[(some (.ref 55)),none,(some (.str t178 262)),(some (.str t178 270)),(some (.builtin "Exception.__new__")),(some (.bool true))]⟩
noncomputable def o89 (P : Params) : Obj := R0 t181 t181 300 84 305 28 1 304
noncomputable def o90 (P : Params) : Obj := R2 t181 t318 14 194 89
noncomputable def o96 (P : Params) : Obj := R0 t182 t182 307 91 312 30 1 311
noncomputable def o97 (P : Params) : Obj := R2 t182 t318 15 194 96
noncomputable def o124 (P : Params) : Obj := R0 t186 t186 335 119 340 44 1 339
noncomputable def o125 (P : Params) : Obj := R2 t186 t318 19 194 124
noncomputable def o133 (P : Params) : Obj := ⟨.type "tuple",none,.seq #[.bool false,.int 3 348] 0,#[]⟩
noncomputable def o139 (P : Params) : Obj := R0 t316 t323 362 134 371 58 5 370
noncomputable def o140 (P : Params) : Obj := R1 t316 t323 t324 24 0 133 342
noncomputable def o142 (P : Params) : Obj := R3 P t324 357 342 372 140 377 56
noncomputable def o143 (P : Params) : Obj := R4 t190 143 142 350
noncomputable def o160 (P : Params) : Obj := R0 t316 t326 397 155 406 65 5 405
noncomputable def o161 (P : Params) : Obj := R5 t316 t326 t324 25 0 342 160
noncomputable def o163 (P : Params) : Obj := R3 P t324 392 342 407 161 412 63
noncomputable def o164 (P : Params) : Obj := R4 t191 164 163 385
noncomputable def o202 (P : Params) : Obj := R0 t316 t327 467 197 476 79 5 475
noncomputable def o203 (P : Params) : Obj := R5 t316 t327 t324 27 0 342 202
noncomputable def o217 (P : Params) : Obj := ⟨.type "dict",none,.dict #[kq P t319 462 (.str t324 342),kq P t320 466 (.int 77 465),kq P t316 477 (.ref 203),kq P t328 485 (.ref 210),kq P t329 491 (.ref 215),kq P t321 498 (.ref 216),kq P t325 500 (.ref 219),kq P t322 502 (.ref 220),kq P t2 503 (.none)] 4,#[]⟩
noncomputable def o218 (P : Params) : Obj := R4 t193 218 217 455
noncomputable def o235 (P : Params) : Obj := R0 t316 t330 518 230 526 94 4 525
noncomputable def o236 (P : Params) : Obj := R5 t316 t330 t324 28 0 342 235
noncomputable def o238 (P : Params) : Obj := R3 P t324 513 342 527 236 531 92
noncomputable def o239 (P : Params) : Obj := R4 t194 239 238 506
noncomputable def o249 (P : Params) : Obj := R0 t195 t195 539 244 544 98 1 543
noncomputable def o250 (P : Params) : Obj := R2 t195 t324 29 342 249
noncomputable def o263 (P : Params) : Obj := R0 t197 t197 553 258 558 102 1 557
noncomputable def o264 (P : Params) : Obj := R2 t197 t324 31 342 263
noncomputable def o265 (P : Params) : Obj := ⟨.type "tuple",none,.seq #[.bool false] 0,#[]⟩
noncomputable def o271 (P : Params) : Obj := R0 t198 t198 560 266 566 104 2 565
noncomputable def o272 (P : Params) : Obj := R6 t198 t324 32 265 342
noncomputable def o278 (P : Params) : Obj := R0 t199 t199 568 273 573 106 1 572
noncomputable def o279 (P : Params) : Obj := R2 t199 t324 33 342 278
noncomputable def o287 (P : Params) : Obj := ⟨.type "tuple",none,.seq #[.bool false,.int 3 348] 0,#[]⟩
noncomputable def o293 (P : Params) : Obj := R0 t201 t201 581 288 588 110 3 587
noncomputable def o294 (P : Params) : Obj := R6 t201 t324 35 287 342
noncomputable def o316 (P : Params) : Obj := R0 t204 t204 607 311 612 116 1 611
noncomputable def o317 (P : Params) : Obj := R2 t204 t324 38 342 316
noncomputable def o337 (P : Params) : Obj := R0 t207 t207 628 332 633 126 1 632
noncomputable def o338 (P : Params) : Obj := R2 t207 t324 41 342 337
noncomputable def o344 (P : Params) : Obj := R0 t208 t208 635 339 640 128 1 639
noncomputable def o345 (P : Params) : Obj := R2 t208 t324 42 342 344
noncomputable def o351 (P : Params) : Obj := R0 t209 t209 642 346 648 132 1 647
noncomputable def o352 (P : Params) : Obj := R2 t209 t324 43 342 351
noncomputable def o358 (P : Params) : Obj := R0 t210 t210 650 353 655 135 1 654
noncomputable def o359 (P : Params) : Obj := R2 t210 t324 44 342 358
noncomputable def o365 (P : Params) : Obj := R0 t211 t211 657 360 662 137 1 661
noncomputable def o366 (P : Params) : Obj := R2 t211 t324 45 342 365
noncomputable def o379 (P : Params) : Obj := R0 t213 t213 671 374 678 141 3 677
noncomputable def o380 (P : Params) : Obj := R2 t213 t324 47 342 379
noncomputable def o386 (P : Params) : Obj := R0 t214 t214 680 381 687 144 3 686
noncomputable def o387 (P : Params) : Obj := R2 t214 t324 48 342 386
noncomputable def o393 (P : Params) : Obj := R0 t215 t215 689 388 695 147 2 694
noncomputable def o394 (P : Params) : Obj := R2 t215 t324 49 342 393
noncomputable def o414 (P : Params) : Obj := R0 t218 t218 712 409 717 156 1 716
noncomputable def o415 (P : Params) : Obj := R2 t218 t324 52 342 414
noncomputable def o421 (P : Params) : Obj := R0 t219 t219 719 416 724 158 1 723
noncomputable def o422 (P : Params) : Obj := R2 t219 t324 53 342 421
noncomputable def o428 (P : Params) : Obj := R0 t220 t220 726 423 731 166 1 730
noncomputable def o429 (P : Params) : Obj := R2 t220 t324 54 342 428
noncomputable def o435 (P : Params) : Obj := R0 t221 t221 733 430 738 180 1 737
noncomputable def o436 (P : Params) : Obj := R2 t221 t324 55 342 435
noncomputable def o456 (P : Params) : Obj := R0 t316 t331 763 451 772 189 5 771
noncomputable def o457 (P : Params) : Obj := R5 t316 t331 t332 59 0 740 456
noncomputable def o518 (P : Params) : Obj := R0 t333 t334 832 513 840 225 2 839
noncomputable def o519 (P : Params) : Obj := R5 t333 t334 t332 59 9 740 518
noncomputable def o563 (P : Params) : Obj := ⟨.type "dict",none,.dict #[kq P t319 758 (.str t332 740),kq P t320 762 (.int 187 761),kq P t316 773 (.ref 457),kq P t335 781 (.ref 465),kq P t336 788 (.ref 472),kq P t337 796 (.ref 479),kq P t338 803 (.ref 486),kq P t339 809 (.ref 491),kq P t340 817 (.ref 498),kq P t341 824 (.ref 505),kq P t342 831 (.ref 512),kq P t333 841 (.ref 519),kq P t343 849 (.ref 526),kq P t344 859 (.ref 533),kq P t345 869 (.ref 540),kq P t346 879 (.ref 547),kq P t347 886 (.ref 554),kq P t348 893 (.ref 561),kq P t321 896 (.ref 562),kq P t325 898 (.ref 565),kq P t322 900 (.ref 566),kq P t2 901 (.none)] 4,#[]⟩
noncomputable def o564 (P : Params) : Obj := R4 t224 564 563 751
noncomputable def o576 (P : Params) : Obj := ⟨.type "tuple",none,.seq #[.int 500 926,.int 20 927,.int 250 928,.int 15 929,.int 31 930,.int 65535 931,.int 65535 932,.int 65535 933,.int 127 934,.int 1500 935,.int 11 936,.int 15 937,.int 600 938,.int 16777216 912] 0,#[]⟩
noncomputable def o582 (P : Params) : Obj := R0 t316 t349 939 577 958 263 15 957
noncomputable def o583 (P : Params) : Obj := R1 t316 t349 t350 64 0 576 904
noncomputable def o585 (P : Params) : Obj := R3 P t350 921 904 959 583 974 261
noncomputable def o586 (P : Params) : Obj := R4 t228 586 585 914
noncomputable def o624 (P : Params) : Obj := R0 t316 t351 1029 619 1035 287 2 1034
noncomputable def o625 (P : Params) : Obj := R5 t316 t351 t350 66 0 904 624
noncomputable def o631 (P : Params) : Obj := R0 t352 t353 1037 626 1042 299 1 1041
noncomputable def o632 (P : Params) : Obj := R5 t352 t353 t350 66 1 904 631
noncomputable def o633 (P : Params) : Obj := ⟨.type "property",none,.fields #[.ref 632,.none,.none,.none,.str t352 1044,.bool false],#[]⟩
noncomputable def o639 (P : Params) : Obj := R0 t354 t355 1045 634 1050 303 1 1049
noncomputable def o640 (P : Params) : Obj := R5 t354 t355 t350 66 2 904 639
noncomputable def o646 (P : Params) : Obj := R0 t356 t357 1052 641 1058 306 2 1057
noncomputable def o647 (P : Params) : Obj := R5 t356 t357 t350 66 3 904 646
noncomputable def o653 (P : Params) : Obj := R0 t358 t359 1060 648 1066 316 2 1065
noncomputable def o654 (P : Params) : Obj := R5 t358 t359 t350 66 4 904 653
noncomputable def o667 (P : Params) : Obj := R0 t360 t361 1076 662 1082 323 2 1081
noncomputable def o668 (P : Params) : Obj := R5 t360 t361 t350 66 6 904 667
noncomputable def o681 (P : Params) : Obj := R0 t362 t363 1093 676 1099 338 2 1098
noncomputable def o682 (P : Params) : Obj := R5 t362 t363 t350 66 8 904 681
noncomputable def o684 (P : Params) : Obj := ⟨.type "dict",none,.dict #[kq P t319 1024 (.str t350 904),kq P t320 1028 (.int 285 1027),kq P t316 1036 (.ref 625),kq P t352 1044 (.ref 633),kq P t354 1051 (.ref 640),kq P t356 1059 (.ref 647),kq P t358 1067 (.ref 654),kq P t364 1075 (.ref 661),kq P t360 1083 (.ref 668),kq P t365 1092 (.ref 675),kq P t362 1100 (.ref 682),kq P t321 1111 (.ref 683),kq P t325 1113 (.ref 686),kq P t322 1115 (.ref 687),kq P t2 1116 (.none)] 4,#[]⟩
noncomputable def o685 (P : Params) : Obj := ⟨.type "type",none,.cls ⟨t230,[.type "object"],[.ref 685,.type "object"],684,t230,true,[],[.ref 769],false,none,false⟩,#[none,none,(some (.str t230 1017)),(some (.str t230 1025)),(some (.builtin "object.__new__")),(some (.bool true))]⟩
noncomputable def o702 (P : Params) : Obj := R0 t366 t367 1131 697 1137 343 2 1136
noncomputable def o703 (P : Params) : Obj := R5 t366 t367 t350 67 0 904 702
noncomputable def o709 (P : Params) : Obj := R0 t368 t369 1139 704 1146 346 3 1145
noncomputable def o710 (P : Params) : Obj := R5 t368 t369 t350 67 1 904 709
noncomputable def o751 (P : Params) : Obj := R0 t370 t371 1199 746 1209 378 4 1208
noncomputable def o752 (P : Params) : Obj := R5 t370 t371 t350 67 7 904 751
noncomputable def o768 (P : Params) : Obj := ⟨.type "dict",none,.dict #[kq P t319 1126 (.str t350 904),kq P t320 1130 (.int 341 1129),kq P t366 1138 (.ref 703),kq P t368 1147 (.ref 710),kq P t372 1157 (.ref 717),kq P t373 1167 (.ref 724),kq P t374 1177 (.ref 731),kq P t375 1187 (.ref 738),kq P t376 1198 (.ref 745),kq P t370 1210 (.ref 752),kq P t377 1219 (.ref 759),kq P t378 1228 (.ref 766),kq P t321 1231 (.ref 767),kq P t2 1232 (.none)] 2,#[]⟩
noncomputable def o769 (P : Params) : Obj := ⟨.type "type",none,.cls ⟨t231,[.ref 685],[.ref 769,.ref 685,.type "object"],768,t231,true,[],[.ref 867],false,none,false⟩,#[(some (.ref 690)),none,(some (.str t231 1119)),(some (.str t231 1127)),(some (.builtin "object.__new__")),(some (.bool true))]⟩
noncomputable def o866 (P : Params) : Obj := ⟨.type "dict",none,.dict #[kq P t319 1242 (.str t350 904),kq P t320 1246 (.int 394 1245),kq P t379 1254 (.ref 786),kq P t380 1264 (.ref 793),kq P t381 1272 (.ref 800),kq P t382 1280 (.ref 807),kq P t383 1289 (.ref 814),kq P t384 1298 (.ref 821),kq P t385 1313 (.ref 828),kq P t386 1325 (.ref 835),kq P t387 1332 (.ref 842),kq P t388 1340 (.ref 849),kq P t389 1349 (.ref 857),kq P t390 1356 (.ref 864),kq P t321 1361 (.ref 865),kq P t2 1362 (.none)] 2,#[]⟩
noncomputable def o867 (P : Params) : Obj := ⟨.type "type",none,.cls ⟨t232,[.ref 769],[.ref 867,.ref 769,.ref 685,.type "object"],866,t232,true,[],[],false,none,false⟩,#[(some (.ref 772)),none,(some (.str t232 1235)),(some (.str t232 1243)),(some (.builtin "object.__new__")),(some (.bool true))]⟩
noncomputable def o875 (P : Params) : Obj := R0 t233 t233 1365 870 1371 459 2 1370
noncomputable def o876 (P : Params) : Obj := R2 t233 t350 69 904 875
noncomputable def o896 (P : Params) : Obj := R0 t242 t242 1414 891 1419 492 1 1418
noncomputable def o897 (P : Params) : Obj := R2 t242 t391 79 1384 896
noncomputable def o917 (P : Params) : Obj := R0 t245 t245 1435 912 1440 500 1 1439
noncomputable def o918 (P : Params) : Obj := R2 t245 t391 82 1384 917
noncomputable def o924 (P : Params) : Obj := R0 t246 t246 1442 919 1451 504 2 1450
noncomputable def o925 (P : Params) : Obj := R2 t246 t391 83 1384 924
noncomputable def o945 (P : Params) : Obj := R0 t249 t249 1471 940 1479 527 1 1478
noncomputable def o946 (P : Params) : Obj := R2 t249 t391 86 1384 945
noncomputable def o959 (P : Params) : Obj := R0 t251 t251 1489 954 1497 545 2 1496
noncomputable def o960 (P : Params) : Obj := R2 t251 t391 88 1384 959
noncomputable def o966 (P : Params) : Obj := R0 t252 t252 1499 961 1512 550 2 1511
noncomputable def o967 (P : Params) : Obj := R2 t252 t391 89 1384 966
noncomputable def o973 (P : Params) : Obj := R0 t253 t253 1514 968 1524 561 1 1523
noncomputable def o974 (P : Params) : Obj := R2 t253 t391 90 1384 973
noncomputable def o982 (P : Params) : Obj := ⟨.type "tuple",none,.seq #[.int 0 1576] 0,#[]⟩
noncomputable def o988 (P : Params) : Obj := R0 t316 t392 1577 983 1584 592 3 1583
noncomputable def o989 (P : Params) : Obj := R1 t316 t392 t393 110 0 982 1526
noncomputable def o1003 (P : Params) : Obj := R0 t38 t394 1594 998 1599 600 1 1598
noncomputable def o1004 (P : Params) : Obj := R5 t38 t394 t393 110 2 1526 1003
noncomputable def o1010 (P : Params) : Obj := R0 t395 t396 1601 1005 1606 606 1 1605
noncomputable def o1011 (P : Params) : Obj := R5 t395 t396 t393 110 3 1526 1010
noncomputable def o1013 (P : Params) : Obj := ⟨.type "dict",none,.dict #[kq P t319 1571 (.str t393 1526),kq P t320 1575 (.int 590 1574),kq P t316 1585 (.ref 989),kq P t397 1593 (.ref 997),kq P t38 1600 (.ref 1004),kq P t395 1607 (.ref 1011),kq P t321 1610 (.ref 1012),kq P t325 1612 (.ref 1015),kq P t322 1614 (.ref 1016),kq P t2 1615 (.none)] 4,#[]⟩
noncomputable def o1014 (P : Params) : Obj := R4 t272 1014 1013 1564
noncomputable def o1024 (P : Params) : Obj := R0 t273 t273 1618 1019 1623 608 1 1622
noncomputable def o1025 (P : Params) : Obj := R2 t273 t393 111 1526 1024
noncomputable def o1045 (P : Params) : Obj := R0 t276 t276 1641 1040 1647 620 1 1646
noncomputable def o1046 (P : Params) : Obj := R2 t276 t393 114 1526 1045
noncomputable def o1052 (P : Params) : Obj := R0 t277 t277 1649 1047 1656 629 1 1655
noncomputable def o1053 (P : Params) : Obj := R2 t277 t393 115 1526 1052
noncomputable def o1059 (P : Params) : Obj := R0 t278 t278 1658 1054 1664 642 1 1663
noncomputable def o1060 (P : Params) : Obj := R2 t278 t393 116 1526 1059
noncomputable def o1080 (P : Params) : Obj := R0 t281 t281 1686 1075 1694 667 1 1693
noncomputable def o1081 (P : Params) : Obj := R2 t281 t393 119 1526 1080
noncomputable def o1108 (P : Params) : Obj := R0 t285 t285 1726 1103 1732 726 2 1731
noncomputable def o1109 (P : Params) : Obj := R2 t285 t393 123 1526 1108
noncomputable def o1115 (P : Params) : Obj := R0 t286 t286 1734 1110 1740 730 1 1739
noncomputable def o1116 (P : Params) : Obj := R2 t286 t393 124 1526 1115
noncomputable def o1136 (P : Params) : Obj := R0 t316 t398 1763 1131 1769 742 2 1768
noncomputable def o1137 (P : Params) : Obj := R5 t316 t398 t393 126 0 1526 1136
noncomputable def o1143 (P : Params) : Obj := R0 t399 t400 1771 1138 1777 745 2 1776
noncomputable def o1144 (P : Params) : Obj := R5 t399 t400 t393 126 1 1526 1143
noncomputable def o1157 (P : Params) : Obj := R0 t401 t402 1789 1152 1797 752 3 1796
noncomputable def o1158 (P : Params) : Obj := R5 t401 t402 t393 126 3 1526 1157
noncomputable def o1178 (P : Params) : Obj := R0 t403 t404 1816 1173 1824 774 4 1823
noncomputable def o1179 (P : Params) : Obj := R5 t403 t404 t393 126 6 1526 1178
noncomputable def o1180 (P : Params) : Obj := ⟨.type "tuple",none,.seq #[.bool false,.none] 0,#[]⟩
noncomputable def o1186 (P : Params) : Obj := R0 t405 t406 1826 1181 1837 790 4 1836
noncomputable def o1187 (P : Params) : Obj := R1 t405 t406 t393 126 7 1180 1526
noncomputable def o1205 (P : Params) : Obj := ⟨.type "dict",none,.dict #[kq P t319 1758 (.str t393 1526),kq P t320 1762 (.int 740 1761),kq P t316 1770 (.ref 1137),kq P t399 1778 (.ref 1144),kq P t407 1788 (.ref 1151),kq P t401 1798 (.ref 1158),kq P t408 1807 (.ref 1165),kq P t409 1815 (.ref 1172),kq P t403 1825 (.ref 1179),kq P t405 1838 (.ref 1187),kq P t410 1850 (.ref 1195),kq P t411 1860 (.ref 1203),kq P t321 1862 (.ref 1204),kq P t325 1864 (.ref 1207),kq P t322 1866 (.ref 1208),kq P t2 1867 (.none)] 4,#[]⟩
noncomputable def o1206 (P : Params) : Obj := R4 t288 1206 1205 1751
noncomputable def o1223 (P : Params) : Obj := R0 t316 t412 1884 1218 1890 825 2 1889
noncomputable def o1224 (P : Params) : Obj := R5 t316 t412 t413 128 0 1870 1223
noncomputable def o1230 (P : Params) : Obj := R0 t335 t414 1892 1225 1897 829 1 1896
noncomputable def o1231 (P : Params) : Obj := R5 t335 t414 t413 128 1 1870 1230
noncomputable def o1232 (P : Params) : Obj := ⟨.type "property",none,.fields #[.ref 1231,.none,.none,.none,.str t335 1899,.bool false],#[]⟩
noncomputable def o1238 (P : Params) : Obj := R0 t415 t416 1900 1233 1906 833 2 1905
noncomputable def o1239 (P : Params) : Obj := R5 t415 t416 t413 128 2 1870 1238
noncomputable def o1245 (P : Params) : Obj := R0 t417 t418 1908 1240 1914 838 2 1913
noncomputable def o1246 (P : Params) : Obj := R5 t417 t418 t413 128 3 1870 1245
noncomputable def o1252 (P : Params) : Obj := R0 t419 t420 1916 1247 1921 843 1 1920
noncomputable def o1253 (P : Params) : Obj := R5 t419 t420 t413 128 4 1870 1252
noncomputable def o1259 (P : Params) : Obj := R0 t337 t421 1923 1254 1929 848 2 1928
noncomputable def o1260 (P : Params) : Obj := R5 t337 t421 t413 128 5 1870 1259
noncomputable def o1266 (P : Params) : Obj := R0 t422 t423 1931 1261 1937 855 2 1936
noncomputable def o1267 (P : Params) : Obj := R5 t422 t423 t413 128 6 1870 1266
noncomputable def o1273 (P : Params) : Obj := R0 t424 t425 1939 1268 1946 862 2 1945
noncomputable def o1274 (P : Params) : Obj := R5 t424 t425 t413 128 7 1870 1273
noncomputable def o1280 (P : Params) : Obj := R0 t426 t427 1948 1275 1954 867 2 1953
noncomputable def o1281 (P : Params) : Obj := R5 t426 t427 t413 128 8 1870 1280
noncomputable def o1301 (P : Params) : Obj := R0 t428 t429 1972 1296 1977 876 1 1976
noncomputable def o1302 (P : Params) : Obj := R5 t428 t429 t413 128 11 1870 1301
noncomputable def o1308 (P : Params) : Obj := R0 t430 t431 1979 1303 1985 879 2 1984
noncomputable def o1309 (P : Params) : Obj := R5 t430 t431 t413 128 12 1870 1308
noncomputable def o1311 (P : Params) : Obj := ⟨.type "dict",none,.dict #[kq P t319 1879 (.str t413 1870),kq P t320 1883 (.int 823 1882),kq P t316 1891 (.ref 1224),kq P t335 1899 (.ref 1232),kq P t415 1907 (.ref 1239),kq P t417 1915 (.ref 1246),kq P t419 1922 (.ref 1253),kq P t337 1930 (.ref 1260),kq P t422 1938 (.ref 1267),kq P t424 1947 (.ref 1274),kq P t426 1955 (.ref 1281),kq P t432 1964 (.ref 1288),kq P t433 1971 (.ref 1295),kq P t428 1978 (.ref 1302),kq P t430 1986 (.ref 1309),kq P t321 1989 (.ref 1310),kq P t325 1991 (.ref 1313),kq P t322 1993 (.ref 1314),kq P t2 1994 (.none)] 4,#[]⟩
noncomputable def o1312 (P : Params) : Obj := R4 t289 1312 1311 1872
noncomputable def o1322 (P : Params) : Obj := R0 t290 t290 1997 1317 2003 881 2 2002
noncomputable def o1323 (P : Params) : Obj := R2 t290 t413 129 1870 1322
noncomputable def o1367 (P : Params) : Obj := ⟨.type "dict",none,.dict #[kq P t319 2018 (.str t434 2005),kq P t320 2022 (.int 887 2021),kq P t316 2030 (.ref 1337),kq P t435 2038 (.ref 1344),kq P t436 2046 (.ref 1351),kq P t437 2053 (.ref 1358),kq P t410 2060 (.ref 1365),kq P t321 2062 (.ref 1366),kq P t325 2064 (.ref 1369),kq P t322 2066 (.ref 1370),kq P t2 2067 (.none)] 4,#[]⟩
noncomputable def o1368 (P : Params) : Obj := ⟨.type "type",none,.cls ⟨t293,[.type "object"],[.ref 1368,.type "object"],1367,t293,true,[],[.ref 1410,.ref 1451,.ref 1491],false,none,false⟩,#[none,none,(some (.str t293 2011)),(some (.str t293 2019)),(some (.builtin "object.__new__")),(some (.bool true))]⟩
noncomputable def o1420 (P : Params) : Obj := ⟨.type "tuple",none,.seq #[.none] 0,#[]⟩
noncomputable def o1426 (P : Params) : Obj := R0 t316 t438 2134 1421 2141 926 3 2140
noncomputable def o1427 (P : Params) : Obj := R1 t316 t438 t434 135 0 1420 2005
noncomputable def o1433 (P : Params) : Obj := R0 t435 t439 2143 1428 2150 931 2 2149
noncomputable def o1434 (P : Params) : Obj := R5 t435 t439 t434 135 1 2005 1433
noncomputable def o1450 (P : Params) : Obj := ⟨.type "dict",none,.dict #[kq P t319 2129 (.str t434 2005),kq P t320 2133 (.int 924 2132),kq P t316 2142 (.ref 1427),kq P t435 2151 (.ref 1434),kq P t437 2158 (.ref 1441),kq P t410 2165 (.ref 1448),kq P t321 2169 (.ref 1449),kq P t2 2170 (.none)] 2,#[]⟩
noncomputable def o1451 (P : Params) : Obj := ⟨.type "type",none,.cls ⟨t295,[.ref 1368],[.ref 1451,.ref 1368,.type "object"],1450,t295,true,[],[],false,none,false⟩,#[(some (.ref 1413)),none,(some (.str t295 2122)),(some (.str t295 2130)),(some (.builtin "object.__new__")),(some (.bool true))]⟩
noncomputable def o1495 (P : Params) : Obj := ⟨.none,none,.fields #[],#[]⟩
noncomputable def o1499 (P : Params) : Obj := R0 t297 t297 2221 1494 2228 960 1 2227
noncomputable def o1500 (P : Params) : Obj := R2 t297 t434 137 2005 1499
noncomputable def o1520 (P : Params) : Obj := R0 t340 t440 2255 1515 2266 970 7 2265
noncomputable def o1521 (P : Params) : Obj := R5 t340 t440 t434 138 1 2005 1520
noncomputable def o1527 (P : Params) : Obj := R0 t441 t442 2268 1522 2274 998 2 2273
noncomputable def o1528 (P : Params) : Obj := R5 t441 t442 t434 138 2 2005 1527
noncomputable def o1534 (P : Params) : Obj := R0 t443 t444 2276 1529 2283 1003 2 2282
noncomputable def o1535 (P : Params) : Obj := R5 t443 t444 t434 138 3 2005 1534
noncomputable def o1571 (P : Params) : Obj := R0 t445 t446 2319 1566 2326 1034 3 2325
noncomputable def o1572 (P : Params) : Obj := R5 t445 t446 t434 138 8 2005 1571
noncomputable def o1578 (P : Params) : Obj := R0 t447 t448 2328 1573 2334 1038 2 2333
noncomputable def o1579 (P : Params) : Obj := R5 t447 t448 t434 138 9 2005 1578
noncomputable def o1585 (P : Params) : Obj := R0 t449 t450 2336 1580 2342 1042 2 2341
noncomputable def o1586 (P : Params) : Obj := R5 t449 t450 t434 138 10 2005 1585
noncomputable def o1592 (P : Params) : Obj := R0 t451 t452 2344 1587 2350 1054 2 2349
noncomputable def o1593 (P : Params) : Obj := R5 t451 t452 t434 138 11 2005 1592
noncomputable def o1620 (P : Params) : Obj := R0 t453 t454 2376 1615 2383 1077 2 2382
noncomputable def o1621 (P : Params) : Obj := R5 t453 t454 t434 138 15 2005 1620
noncomputable def o1627 (P : Params) : Obj := R0 t455 t456 2385 1622 2392 1083 2 2391
noncomputable def o1628 (P : Params) : Obj := R5 t455 t456 t434 138 16 2005 1627
noncomputable def o1634 (P : Params) : Obj := R0 t457 t458 2394 1629 2403 1092 2 2402
noncomputable def o1635 (P : Params) : Obj := R5 t457 t458 t434 138 17 2005 1634
noncomputable def o1641 (P : Params) : Obj := R0 t459 t460 2405 1636 2411 1107 2 2410
noncomputable def o1642 (P : Params) : Obj := R5 t459 t460 t434 138 18 2005 1641
noncomputable def o1662 (P : Params) : Obj := R0 t435 t461 2431 1657 2438 1122 1 2437
noncomputable def o1663 (P : Params) : Obj := R5 t435 t461 t434 138 21 2005 1662
noncomputable def o1664 (P : Params) : Obj := ⟨.type "tuple",none,.seq #[.int 0 2440] 0,#[]⟩
noncomputable def o1670 (P : Params) : Obj := R0 t462 t463 2441 1665 2449 1133 3 2448
noncomputable def o1671 (P : Params) : Obj := R1 t462 t463 t434 138 22 1664 2005
noncomputable def o1677 (P : Params) : Obj := R0 t464 t465 2451 1672 2458 1146 3 2457
noncomputable def o1678 (P : Params) : Obj := R5 t464 t465 t434 138 23 2005 1677
noncomputable def o1691 (P : Params) : Obj := R0 t466 t467 2469 1686 2477 1153 2 2476
noncomputable def o1692 (P : Params) : Obj := R5 t466 t467 t434 138 25 2005 1691
noncomputable def o1694 (P : Params) : Obj := ⟨.type "dict",none,.dict #[kq P t319 2237 (.str t434 2005),kq P t320 2241 (.int 965 2240),kq P t316 2254 (.ref 1514),kq P t340 2267 (.ref 1521),kq P t441 2275 (.ref 1528),kq P t443 2284 (.ref 1535),kq P t468 2293 (.ref 1542),kq P t469 2300 (.ref 1549),kq P t470 2310 (.ref 1558),kq P t471 2318 (.ref 1565),kq P t445 2327 (.ref 1572),kq P t447 2335 (.ref 1579),kq P t449 2343 (.ref 1586),kq P t451 2351 (.ref 1593),kq P t472 2359 (.ref 1600),kq P t473 2367 (.ref 1607),kq P t474 2375 (.ref 1614),kq P t453 2384 (.ref 1621),kq P t455 2393 (.ref 1628),kq P t457 2404 (.ref 1635),kq P t459 2412 (.ref 1642),kq P t475 2420 (.ref 1649),kq P t476 2430 (.ref 1656),kq P t435 2439 (.ref 1663),kq P t462 2450 (.ref 1671),kq P t464 2459 (.ref 1678),kq P t477 2468 (.ref 1685),kq P t466 2478 (.ref 1692),kq P t321 2505 (.ref 1693),kq P t325 2507 (.ref 1696),kq P t322 2509 (.ref 1697),kq P t2 2510 (.none)] 4,#[]⟩
noncomputable def o1695 (P : Params) : Obj := ⟨.type "type",none,.cls ⟨t298,[.type "object"],[.ref 1695,.type "object"],1694,t298,true,[],[.ref 1751],false,none,false⟩,#[none,none,(some (.str t298 2230)),(some (.str t298 2238)),(some (.builtin "object.__new__")),(some (.bool true))]⟩
noncomputable def o1712 (P : Params) : Obj := R0 t316 t478 2525 1707 2530 1161 1 2529
noncomputable def o1713 (P : Params) : Obj := R5 t316 t478 t434 139 0 2005 1712
noncomputable def o1729 (P : Params) : Obj := ⟨.type "dict",none,.dict #[kq P t319 2520 (.str t434 2005),kq P t320 2524 (.int 1159 2523),kq P t316 2531 (.ref 1713),kq P t479 2539 (.ref 1720),kq P t480 2546 (.ref 1727),kq P t321 2548 (.ref 1728),kq P t325 2550 (.ref 1731),kq P t322 2552 (.ref 1732),kq P t2 2553 (.none)] 4,#[]⟩
noncomputable def o1730 (P : Params) : Obj := R4 t299 1730 1729 2513
noncomputable def o1747 (P : Params) : Obj := R0 t316 t481 2568 1742 2579 1171 2 2578
noncomputable def o1748 (P : Params) : Obj := R5 t316 t481 t434 140 0 2005 1747
noncomputable def o1750 (P : Params) : Obj := ⟨.type "dict",none,.dict #[kq P t319 2563 (.str t434 2005),kq P t320 2567 (.int 1169 2566),kq P t316 2580 (.ref 1748),kq P t321 2585 (.ref 1749),kq P t2 2586 (.none)] 2,#[]⟩
noncomputable def o1751 (P : Params) : Obj := ⟨.type "type",none,.cls ⟨t300,[.ref 1695],[.ref 1751,.ref 1695,.type "object"],1750,t300,true,[],[],false,none,false⟩,#[(some (.ref 1735)),none,(some (.str t300 2556)),(some (.str t300 2564)),(some (.builtin "object.__new__")),(some (.bool true))]⟩
noncomputable def o1759 (P : Params) : Obj := R0 t301 t301 2591 1754 2596 1185 1 2595
noncomputable def o1760 (P : Params) : Obj := R2 t301 t482 142 2589 1759
noncomputable def o1766 (P : Params) : Obj := R0 t302 t302 2600 1761 2605 1188 1 2604
noncomputable def o1767 (P : Params) : Obj := R2 t302 t483 144 2598 1766
noncomputable def o1773 (P : Params) : Obj := R0 t303 t303 2607 1768 2614 1191 3 2613
noncomputable def o1774 (P : Params) : Obj := R2 t303 t483 145 2598 1773
noncomputable def o1775 (P : Params) : Obj := ⟨.type "tuple",none,.seq #[.int 0 2616] 0,#[]⟩
noncomputable def o1781 (P : Params) : Obj := R0 t304 t304 2617 1776 2625 1193 3 2624
noncomputable def o1782 (P : Params) : Obj := R6 t304 t483 146 1775 2598
noncomputable def o1788 (P : Params) : Obj := R0 t305 t305 2627 1783 2634 1198 1 2633
noncomputable def o1789 (P : Params) : Obj := R2 t305 t483 147 2598 1788
noncomputable def o1795 (P : Params) : Obj := R0 t306 t306 2636 1790 2648 1206 1 2647
noncomputable def o1796 (P : Params) : Obj := R2 t306 t483 148 2598 1795
noncomputable def o1802 (P : Params) : Obj := R0 t307 t307 2650 1797 2659 1217 1 2658
noncomputable def o1803 (P : Params) : Obj := R2 t307 t483 149 2598 1802
noncomputable def o1807 (P : Params) : Obj := R7 t308 2663 1804 1226 1 2666
noncomputable def o1808 (P : Params) : Obj := R2 t308 t162 151 2661 1807
noncomputable def o1814 (P : Params) : Obj := R0 t309 t309 2669 1809 2677 1228 2 2676
noncomputable def o1815 (P : Params) : Obj := R2 t309 t162 152 2661 1814
noncomputable def o1819 (P : Params) : Obj := R7 t310 2679 1816 1236 2 2682
noncomputable def o1820 (P : Params) : Obj := R2 t310 t162 153 2661 1819
noncomputable def o1826 (P : Params) : Obj := R0 t311 t311 2685 1821 2693 1238 3 2692
noncomputable def o1827 (P : Params) : Obj := R2 t311 t162 154 2661 1826
noncomputable def o1833 (P : Params) : Obj := R0 t312 t312 2695 1828 2702 1243 1 2701
noncomputable def o1834 (P : Params) : Obj := R2 t312 t162 155 2661 1833
noncomputable def o1840 (P : Params) : Obj := R0 t313 t313 2704 1835 2716 1251 4 2715
noncomputable def o1841 (P : Params) : Obj := R2 t313 t162 156 2661 1840
noncomputable def o1847 (P : Params) : Obj := R0 t314 t314 2718 1842 2725 1258 2 2724
noncomputable def o1848 (P : Params) : Obj := R2 t314 t162 157 2661 1847
noncomputable def o1852 (P : Params) : Obj := R7 t315 2727 1849 1263 1 2730
noncomputable def o1853 (P : Params) : Obj := R2 t315 t162 158 2661 1852
abbrev ke : KT := .nil
noncomputable def ka (l r : KT) : KT := .node none l r
noncomputable def kr (r : KT) : KT := .node none .nil r
noncomputable def kb (o : Params → Obj) (P : Params) : KT := .node (some (o P)) .nil .nil
noncomputable def kc (o : Obj) (l r : KT) : KT := .node (some o) l r
noncomputable def kt (P : Params) : KT := (kc (o0 P) (kc (o1 P) (kc (o3 P) (ka (ka (ka (ka (ka (ka (kr (kb o1535 P)) ke) (ka (kc (o639 P) ke (kb o1663 P)) ke)) (kr (ka (kb o703 P) (kb o959 P)))) (ka (ka (kc (o287 P) ke (ka (kb o1311 P) ke)) (kc (o415 P) (kr (kb o1695 P)) ke)) (ka (kb o351 P) (ka (kr (kb o1759 P)) ke)))) (ka (ka (kc (o143 P) (kc (o271 P) ke (kr (kb o1807 P))) ke) (kr (ka (ka (kb o1231 P) ke) ke))) (kr (kc (o239 P) ke (ka (kc (o751 P) ke (kb o1775 P)) ke))))) (ka (kc (o39 P) (ka (ka (kc (o263 P) (kb o519 P) ke) (ka (kc (o647 P) ke (kb o1671 P)) ke)) (ka (ka (kb o583 P) ke) (ka (ka (kb o1223 P) ke) (kb o967 P)))) (kr (ka (kb o359 P) (ka (kr (kb o1767 P)) ke)))) (ka (ka (ka (kc (o279 P) ke (kr (kb o1815 P))) ke) (ka (kr (ka (kb o1367 P) ke)) (ka (ka (kb o1239 P) (kb o1751 P)) ke))) (ka (ka (kr (kr (kb o1847 P))) ke) (ka (ka (kc (o631 P) (kb o1143 P) ke) ke) (kr (ka (kb o1527 P) ke))))))) (ka (ka (kc (o35 P) (ka (ka (kr (kr (kb o1795 P))) (kb o387 P)) ke) (ka (kc (o163 P) (ka (ka (kb o1059 P) (kb o1571 P)) (kr (kb o1827 P))) (ka (ka (kb o1187 P) ke) ke)) (ka (ka (kr (kb o1635 P)) (kb o867 P)) ke))) (kc (o51 P) (ka (kr (kr (ka (kb o1427 P) ke))) (kr (ka (kr (kb o1747 P)) ke))) (ka (ka (ka (kb o563 P) ke) (kb o435 P)) (kr (ka (ka (kb o1267 P) ke) (kb o1011 P)))))) (ka (ka (ka (kc (o139 P) (kr (kr (kb o1803 P))) ke) (kb o203 P)) (ka (ka (ka (kr (kb o1579 P)) (ka (kb o1323 P) ke)) (kr (ka (kb o1451 P) ke))) (kc (o235 P) (kr (kb o875 P)) (ka (ka (kb o1259 P) ke) (kb o1003 P))))) (ka (ka (ka (kr (kr (kb o1819 P))) (ka (kc (o667 P) (kb o1179 P) (kb o1691 P)) ke)) (ka (ka (ka (kb o1115 P) (kb o1627 P)) ke) (kr (ka (kb o1499 P) ke)))) (kr (ka (kb o379 P) ke)))))) (ka (ka (ka (ka (ka (ka (ka (ka (kb o1025 P) ke) (kc (o769 P) (kb o1281 P) ke)) (kr (kb o897 P))) (kr (ka (kr (kb o1729 P)) ke))) (kc (o97 P) (kb o161 P) ke)) (ka (kr (ka (kb o337 P) ke)) (ka (ka (ka (kr (kb o1585 P)) (kr (kb o1841 P))) (ka (kr (kb o1713 P)) (kb o945 P))) (ka (ka (kc (o625 P) (kb o1137 P) ke) ke) (kr (ka (kb o1521 P) ke)))))) (ka (ka (ka (ka (kb o265 P) (kb o393 P)) (ka (ka (kb o585 P) ke) (kb o457 P))) (ka (ka (kr (kr (kb o1833 P))) (ka (kb o681 P) ke)) (ka (ka (kr (kb o1641 P)) ke) ke))) (ka (kc (o89 P) (kr (kr (ka (kb o1433 P) ke))) (kc (o217 P) (kb o345 P) ke)) (ka (ka (ka (ka (kb o1081 P) (kb o1593 P)) ke) ke) (kc (o249 P) (ka (kb o633 P) ke) (ka (ka (kb o1273 P) ke) ke)))))) (ka (ka (ka (ka (kc (o133 P) ke (ka (ka (kb o1157 P) ke) ke)) (kr (ka (kb o709 P) ke))) (ka (ka (kb o293 P) (kb o421 P)) (kr (ka (ka (kb o1253 P) ke) ke)))) (ka (ka (ka (ka (ka (kb o1045 P) ke) (ka (kb o1301 P) ke)) (kr (kb o917 P))) (ka (ka (ka (kb o1109 P) (kb o1621 P)) ke) ke)) (ka (kr (ka (ka (kb o1205 P) ke) ke)) (kr (ka (kr (kb o1781 P)) (kb o1013 P)))))) (kc (o29 P) (ka (ka (kr (ka (kc (o653 P) ke (kb o1677 P)) ke)) (kr (kr (kb o973 P)))) (ka (kr (kc (o429 P) (kb o685 P) ke)) (ka (kb o365 P) (ka (kr (kb o1773 P)) ke)))) (ka (ka (ka (ka (ka (kb o1053 P) ke) (ka (kb o1309 P) ke)) (kr (kb o925 P))) (kr (ka (ka (kb o1245 P) ke) (kb o989 P)))) (kc (o125 P) (ka (kc (o317 P) ke (kr (kb o1853 P))) ke) (kr (ka (kr (kb o1789 P)) ke)))))))) (kc (o2 P) (kc (o4 P) (ka (ka (ka (kc (o64 P) (ka (ka (ka (kb o1024 P) ke) (kc (o768 P) (kb o1280 P) ke)) (ka (kc (o640 P) ke (kb o1664 P)) (kb o896 P))) (ka (ka (kb o576 P) ke) (kr (kb o960 P)))) (kc (o96 P) (kc (o160 P) (kr (ka (kb o1312 P) ke)) ke) (ka (kb o352 P) (ka (kr (kb o1760 P)) ke)))) (ka (ka (ka (kc (o272 P) ke (kr (kb o1808 P))) ke) (kr (ka (ka (kb o1232 P) ke) ke))) (ka (ka (kr (kr (kb o1840 P))) (ka (kr (kb o1712 P)) ke)) (ka (ka (kc (o624 P) (kb o1136 P) ke) ke) (ka (kb o752 P) (ka (kb o1520 P) ke)))))) (ka (ka (ka (ka (kb o264 P) ke) (kr (kc (o456 P) (ka (kb o1224 P) ke) ke))) ke) (ka (kr (ka (kc (o344 P) ke (ka (kb o1368 P) ke)) ke)) (ka (ka (ka (ka (kb o1080 P) (kb o1592 P)) (kr (kb o1848 P))) ke) (ka (ka (kc (o632 P) (kb o1144 P) ke) ke) (kr (ka (kb o1528 P) ke))))))) (ka (ka (kc (o36 P) (ka (ka (kr (kr (kb o1796 P))) ke) ke) (ka (kc (o164 P) (ka (ka (kb o1060 P) (kb o1572 P)) ke) ke) (kr (ka (ka (kb o1252 P) ke) ke)))) (kc (o52 P) (kr (ka (ka (ka (kb o1108 P) (kb o1620 P)) ke) (ka (kr (kb o1748 P)) ke))) (ka (ka (ka (kb o564 P) ke) (kb o436 P)) ke))) (ka (ka (ka (kc (o140 P) ke (kr (ka (kb o1420 P) ke))) ke) (ka (kr (kc (o428 P) (kb o684 P) ke)) (kc (o236 P) (kr (kb o876 P)) (ka (ka (kb o1260 P) ke) (kb o1004 P))))) (ka (ka (ka (ka (ka (kb o1052 P) ke) (ka (kb o1308 P) (kb o1820 P))) (ka (kc (o668 P) (kb o1180 P) (kb o1692 P)) (kb o924 P))) (ka (ka (ka (kb o1116 P) (kb o1628 P)) ke) (kr (kc (o988 P) (kb o1500 P) ke)))) (kc (o124 P) (ka (kc (o316 P) ke (kr (kb o1852 P))) ke) (ka (kb o380 P) (ka (kr (kb o1788 P)) ke))))))) (ka (ka (ka (ka (ka (kr (kb o386 P)) (kr (ka (kr (kb o1730 P)) ke))) (ka (ka (kr (kr (kb o1826 P))) (ka (ka (kb o1186 P) ke) ke)) (ka (ka (kr (kb o1634 P)) (kb o866 P)) ke))) (ka (ka (kr (kr (ka (kb o1426 P) ke))) (ka (kb o338 P) ke)) (ka (ka (ka (kr (kb o1586 P)) ke) (kr (kb o946 P))) (kr (ka (ka (kb o1266 P) ke) (kb o1010 P)))))) (ka (ka (ka (ka (kr (kr (kb o1802 P))) (kb o394 P)) (kc (o202 P) (ka (kb o586 P) ke) ke)) (ka (ka (ka (kr (kb o1578 P)) (ka (kb o1322 P) (kb o1834 P))) (ka (kb o682 P) (ka (kb o1450 P) ke))) (ka (ka (kr (kb o1642 P)) ke) ke))) (ka (kc (o90 P) (kr (ka (ka (kb o1178 P) ke) (ka (kb o1434 P) ke))) (kb o218 P)) (kr (kc (o250 P) ke (ka (ka (kb o1274 P) ke) ke)))))) (ka (ka (kc (o38 P) (ka (ka (ka (kb o518 P) ke) (ka (kc (o646 P) (kb o1158 P) (kb o1670 P)) ke)) (ka (ka (kb o582 P) ke) (ka (kb o710 P) (kb o966 P)))) (ka (ka (kb o294 P) (kb o422 P)) (ka (kb o358 P) (ka (kr (kb o1766 P)) ke)))) (ka (ka (ka (kc (o278 P) (ka (kb o1046 P) ke) (ka (kb o1302 P) (kb o1814 P))) (kr (kb o918 P))) (kr (ka (ka (kb o1238 P) (kb o1750 P)) (kb o982 P)))) (ka (kr (ka (ka (kb o1206 P) ke) ke)) (kr (ka (kr (kb o1782 P)) (kb o1014 P)))))) (ka (ka (ka (kc (o142 P) ke (ka (kc (o654 P) ke (kb o1678 P)) ke)) (kr (ka (ka (kb o1230 P) ke) (kb o974 P)))) (kr (kc (o238 P) (kb o366 P) (ka (kr (kb o1774 P)) ke)))) (ka (ka (kr (kc (o414 P) (kr (kb o1694 P)) ke)) (kr (ka (ka (kb o1246 P) ke) ke))) (ka (kr (ka (kb o702 P) ke)) (ka (ka (kr (kb o1662 P)) ke) (kr (ka (kb o1534 P) ke))))))))))
noncomputable def addrs : List Nat := [0,1,2,3,4,29,35,36,38,39,51,52,64,89,90,96,97,124,125,133,139,140,142,143,160,161,163,164,202,203,217,218,235,236,238,239,249,250,263,264,265,271,272,278,279,287,293,294,316,317,337,338,344,345,351,352,358,359,365,366,379,380,386,387,393,394,414,415,421,422,428,429,435,436,456,457,518,519,563,564,576,582,583,585,586,624,625,631,632,633,639,640,646,647,653,654,667,668,681,682,684,685,702,703,709,710,751,752,768,769,866,867,875,876,896,897,917,918,924,925,945,946,959,960,966,967,973,974,982,988,989,1003,1004,1010,1011,1013,1014,1024,1025,1045,1046,1052,1053,1059,1060,1080,1081,1108,1109,1115,1116,1136,1137,1143,1144,1157,1158,1178,1179,1180,1186,1187,1205,1206,1223,1224,1230,1231,1232,1238,1239,1245,1246,1252,1253,1259,1260,1266,1267,1273,1274,1280,1281,1301,1302,1308,1309,1311,1312,1322,1323,1367,1368,1420,1426,1427,1433,1434,1450,1451,1495,1499,1500,1520,1521,1527,1528,1534,1535,1571,1572,1578,1579,1585,1586,1592,1593,1620,1621,1627,1628,1634,1635,1641,1642,1662,1663,1664,1670,1671,1677,1678,1691,1692,1694,1695,1712,1713,1729,1730,1747,1748,1750,1751,1759,1760,1766,1767,1773,1774,1775,1781,1782,1788,1789,1795,1796,1802,1803,1807,1808,1814,1815,1819,1820,1826,1827,1833,1834,1840,1841,1847,1848,1852,1853]
noncomputable def frag (P : Params) : List (Nat × Obj) := addrs.map fun a => (a,match (kt P).get a with | some o => o | none => o1495 P)
noncomputable def bt (os : List Obj) : BT := match news .nil 0 os with
 | some q => q.1
 | none => .nil
noncomputable def fstsOf : Acc → List Ob
 | [] => []
 | x :: r => match x.1 with
  | .q _ => fstsOf r
  | _ => x.1 :: fstsOf r
noncomputable def sndsOf : Acc → List Ob
 | [] => []
 | x :: r => match x.1 with
  | .q _ => sndsOf r
  | _ => x.2 :: sndsOf r
noncomputable def qsOf : Acc → List (Prop × Ob)
 | [] => []
 | x :: r => match x.1 with
  | .q P => (P,x.2) :: qsOf r
  | _ => qsOf r
noncomputable def chk (x : Option Out) (idx keep : List Nat) : Option (Result × List Obj × List Obj × List Ob × List (Prop × Ob)) := match x with
 | none => none
 | some o => match objs o.L idx with
  | none => none
  | some u => match objs o.L keep with
   | none => none
   | some w => some (o.r,u,w,fstsOf o.acc,qsOf o.acc)
noncomputable def accR (x : Option Out) : List Ob := match x with
 | none => []
 | some o => sndsOf o.acc
theorem chk_some {o : Out} {idx keep : List Nat} {r : Result} {u w : List Obj} {l : List Ob} {qs : List (Prop × Ob)} (h : chk (some o) idx keep = some (r,u,w,l,qs)) : o.r = r ∧ objs o.L idx = some u ∧ objs o.L keep = some w ∧ fstsOf o.acc = l ∧ qsOf o.acc = qs := by
 show o.r = r ∧ _
 have h : (match objs o.L idx with
  | none => none
  | some u => match objs o.L keep with
   | none => none
   | some w => some (o.r,u,w,fstsOf o.acc,qsOf o.acc)) = some (r,u,w,l,qs) := h
 cases e1 : objs o.L idx with
 | none => rw [e1] at h; cases h
 | some a =>
  rw [e1] at h
  cases e2 : objs o.L keep with
  | none => rw [e2] at h; cases h
  | some b =>
   rw [e2] at h
   cases h
   exact ⟨rfl,rfl,rfl,rfl,rfl⟩
theorem good_of {a : Acc} (h : fstsOf a = sndsOf a) (hq : ∀ x ∈ qsOf a,x.1 ∧ x.2 = .q True) : a.Good := by
 induction a with
 | nil => intro x hx; cases hx
 | cons y a ih =>
  obtain ⟨y1,y2⟩ := y
  intro x hx
  cases y1 with
  | q P =>
    have h : fstsOf a = sndsOf a := h
    have hq' : ∀ x ∈ (P,y2) :: qsOf a,x.1 ∧ x.2 = .q True := hq
    rcases List.mem_cons.mp hx with rfl | hx
    · have z := hq' _ (List.mem_cons_self ..)
      show Ob.q P = y2
      have z2 : y2 = .q True := z.2
      rw [z2]
      exact congrArg Ob.q (eq_true z.1)
    · exact ih h (fun x hx => hq' x (List.mem_cons_of_mem _ hx)) x hx
  | n a1 => exact good_cons h hq ih hx
  | c a1 => exact good_cons h hq ih hx
  | t a1 => exact good_cons h hq ih hx
  | o a1 => exact good_cons h hq ih hx
  | f a1 => exact good_cons h hq ih hx
  | k a1 => exact good_cons h hq ih hx
where
 good_cons {y1 y2 : Ob} {a : Acc} {x : Ob × Ob} (h : y1 :: fstsOf a = y2 :: sndsOf a) (hq : ∀ x ∈ qsOf a,x.1 ∧ x.2 = .q True) (ih : fstsOf a = sndsOf a → (∀ x ∈ qsOf a,x.1 ∧ x.2 = .q True) → a.Good) (hx : x ∈ (y1,y2) :: a) : x.1 = x.2 := by
  obtain ⟨h1,h2⟩ := List.cons.inj h
  rcases List.mem_cons.mp hx with rfl | hx
  · exact h1
  · exact ih h2 hq x hx
theorem news_nil_own {h : Heap} : ∀ {os : List Obj} {as : List Nat},Own h as os → ∀ {q : BT × Nat},news .nil 0 os = some q → ∀ j o,q.1.get j = some o → j < os.length ∧ h.get? (as.getD j 0) = some o := by
 intro os as H q hq j o e
 rcases (news_get hq).2 j o e with ⟨t,rfl,ht⟩ | e
 · have hl := H.length
   have := (List.getElem?_eq_some_iff.mp ht).1
   refine ⟨by omega,?_⟩
   rw [Nat.zero_add]
   have ha : as[t]? = some (as[t]'(by omega)) := by simp
   rw [List.getD_eq_getElem?_getD,ha]
   exact H.get ha ht
 · cases e
theorem getD_nodup {as : List Nat} (hn : as.Nodup) {j k : Nat} (hj : j < as.length) (hk : k < as.length) (e : as.getD j 0 = as.getD k 0) : j = k := by
 rw [List.getD_eq_getElem?_getD,List.getD_eq_getElem?_getD] at e
 have h1 : as[j]? = some as[j] := by simp
 have h2 : as[k]? = some as[k] := by simp
 rw [h1,h2] at e
 have e : as[j] = as[k] := e
 exact nodup_get hn h1 (by rw [e]; exact h2)
theorem span_range (f : Nat → Nat) : ∀ (n m : Nat),span f m n = (List.range' m n).map f
 | 0,_ => rfl
 | n + 1,m => by
  show f m :: span f (m + 1) n = _
  rw [span_range f n (m + 1)]; rfl
theorem segQ {V : Cfg} {M : Model} (O : V.Ok M) {D U : Nat} {calm gf : Bool} {bl : List (Code × Pos)} {as : List Nat} {P : CPre} (n k : Nat) (hs : List Hint) (ho : ∀ h ∈ hs,HOk M V.kt h) (keep : List Nat) (kf : (Nat → Nat) → List Nat) (Qs : (Nat → Nat) → (Nat → Nat) → List (Prop × Ob)) (hQs : ∀ ad tk,∀ x ∈ Qs ad tk,x.1 ∧ x.2 = .q True)
   (hk : P.own.length = k) (hn : P.nn = keep.length) (ht : ∀ tk,(kf tk).length = P.nt) (hkn : keep.Nodup) (hkk : keep.all (Nat.ble k) = true)
   (h : ∀ (ad tk : Nat → Nat) (Γ : Ctx) (p : Pos),as = span ad 0 k → Γ.code = P.code → Γ.below = bl → (calm = true → Γ.handled = none) →
     chk (sim V ad tk n hs ⟨Γ,D,U,gf⟩ p (V.den P.code) [] (bt P.own) k 0 []) (List.range' 0 k) keep =
      some (P.res (keep.map ad) (kf tk),P.upd (keep.map ad) (kf tk),P.new (keep.map ad) (kf tk),accR (sim V ad tk n hs ⟨Γ,D,U,gf⟩ p (V.den P.code) [] (bt P.own) k 0 []),Qs ad tk)) :
   Ctr1 M V.kt D U calm gf bl as P := by
 intro Γ p s hc hbl hcalm hgf hd hu hst hown hnd hnst
 have hlen := hown.length
 have key : ∀ ad : Nat → Nat,(∀ j,j < k → ad j = as.getD j 0) → as = span ad 0 k := fun ad x => by
   rw [← hk,← hlen]
   refine (span_get _ _ _ fun t y e => ?_).symm
   have := (List.getElem?_eq_some_iff.mp e).1
   rw [Nat.zero_add,x t (by omega),List.getD_eq_getElem?_getD,e]; rfl
 have run := sound O n hs ho ⟨Γ,D,U,gf⟩ p (V.den P.code) [] (bt P.own) k 0 [] (fun j => as.getD j 0) id s k s ⟨hd,hu,hgf⟩ (fun _ hf => by cases hf)
 have I : Inv V.kt s k (fun j => as.getD j 0) (bt P.own) k s := by
   refine ⟨hst,fun j o e => ?_,fun j hj => ?_,fun j l hj hl e => getD_nodup hnd (by omega) (by omega) e,fun j hj => hnst _ ?_,fun _ _ e _ => e,fun j h1 h2 => by omega,Nat.le_refl _,Nat.le_refl _,rfl,rfl⟩
   · unfold bt at e
     cases q : news .nil 0 P.own with
     | none => rw [q] at e; cases e
     | some x =>
      rw [q] at e
      have z := news_nil_own hown q j o e
      exact ⟨by have := z.1; omega,z.2⟩
   · have h1 : as[j]? = some (as[j]'(by omega)) := by simp
     have h2 : P.own[j]? = some (P.own[j]'(by omega)) := by simp
     have := Heap.lt_size (hown.get h1 h2)
     rw [List.getD_eq_getElem?_getD,h1]; exact this
   · have h1 : as[j]? = some (as[j]'(by omega)) := by simp
     rw [List.getD_eq_getElem?_getD,h1]
     exact List.mem_of_getElem? h1
 obtain ⟨ad,tk,s',o,hj,_,e,R,I',hm⟩ := run I fun ad' tk' x _ => by
   have z := h ad' tk' Γ p (key ad' x) hc hbl hcalm
   generalize hS : sim V ad' tk' n hs ⟨Γ,D,U,gf⟩ p (V.den P.code) [] (bt P.own) k 0 [] = S at z
   cases S with
   | none => cases z
   | some o =>
     refine ⟨o,hS,good_of (chk_some z).2.2.2.1 ?_⟩
     rw [(chk_some z).2.2.2.2]
     exact hQs ad' tk'
 have z := h ad tk Γ p (key ad hj) hc hbl hcalm
 have e : sim V ad tk n hs ⟨Γ,D,U,gf⟩ p (V.den P.code) [] (bt P.own) k 0 [] = some o := e
 rw [e] at z
 obtain ⟨z1,hu',hw,_,_⟩ := chk_some z
 have hkeep : ∀ j,j ∈ keep → k ≤ j := fun j hj => Nat.le_of_ble_eq_true (List.all_eq_true.mp hkk j hj)
 have hkm : ∀ j,j ∈ keep → j < o.m := fun j hj => by
   obtain ⟨x,hx⟩ := objs_get hw j hj
   exact (I'.own j x hx).1
 refine ⟨keep.map ad,kf tk,s',by rw [List.length_map,hn],ht tk,nodup_map hkn fun x y hx hy e => I'.inj _ _ (hkm x hx) (hkm y hy) e,fun a ha => ?_,?_,?_,?_,?_⟩
 · obtain ⟨j,hj,rfl⟩ := List.mem_map.mp ha
   exact ⟨I'.new j (hkeep j hj) (hkm j hj),I'.lt j (hkm j hj)⟩
 · rw [← z1]
   exact O.den _ _ _ _ _ _ R
 · have := objs_own (h := s'.heap) (ad := ad) (fun j o e => (I'.own j o e).2) hu'
   rwa [← span_range,← key ad hj] at this
 · exact objs_own (h := s'.heap) (ad := ad) (fun j o e => (I'.own j o e).2) hw
 · refine ⟨fun b ob e hb => I'.keep b ob e fun j hj' he => hb ?_,I'.size,I'.gens,I'.os⟩
   rw [key ad hj,span_range]
   exact List.mem_map.mpr ⟨j,by rw [List.mem_range'_1]; omega,he.symm⟩
theorem segF {V : Cfg} {M : Model} (O : V.Ok M) {D U : Nat} {calm gf : Bool} {bl : List (Code × Pos)} {as : List Nat} {P : CPre} (n k : Nat) (hs : List Hint) (ho : ∀ h ∈ hs,HOk M V.kt h) (keep : List Nat) (kf : (Nat → Nat) → List Nat)
  (hk : P.own.length = k) (hn : P.nn = keep.length) (ht : ∀ tk,(kf tk).length = P.nt) (hkn : keep.Nodup) (hkk : keep.all (Nat.ble k) = true)
  (h : ∀ (ad tk : Nat → Nat) (Γ : Ctx) (p : Pos),as = span ad 0 k → Γ.code = P.code → Γ.below = bl → (calm = true → Γ.handled = none) →
   chk (sim V ad tk n hs ⟨Γ,D,U,gf⟩ p (V.den P.code) [] (bt P.own) k 0 []) (List.range' 0 k) keep =
    some (P.res (keep.map ad) (kf tk),P.upd (keep.map ad) (kf tk),P.new (keep.map ad) (kf tk),accR (sim V ad tk n hs ⟨Γ,D,U,gf⟩ p (V.den P.code) [] (bt P.own) k 0 []),[])) :
  Ctr1 M V.kt D U calm gf bl as P :=
 segQ O n k hs ho keep kf (fun _ _ => []) (fun _ _ _ h => nomatch h) hk hn ht hkn hkk h
theorem seg {V : Cfg} {M : Model} (O : V.Ok M) {D U : Nat} {calm gf : Bool} {bl : List (Code × Pos)} {as : List Nat} {P : CPre} (n k : Nat) (hs : List Hint) (ho : ∀ h ∈ hs,HOk M V.kt h) (keep kept : List Nat)
  (hk : P.own.length = k) (hn : P.nn = keep.length) (ht : P.nt = kept.length) (hkn : keep.Nodup) (hkk : keep.all (Nat.ble k) = true)
  (h : ∀ (ad tk : Nat → Nat) (Γ : Ctx) (p : Pos),as = span ad 0 k → Γ.code = P.code → Γ.below = bl → (calm = true → Γ.handled = none) →
   chk (sim V ad tk n hs ⟨Γ,D,U,gf⟩ p (V.den P.code) [] (bt P.own) k 0 []) (List.range' 0 k) keep =
    some (P.res (keep.map ad) (kept.map tk),P.upd (keep.map ad) (kept.map tk),P.new (keep.map ad) (kept.map tk),accR (sim V ad tk n hs ⟨Γ,D,U,gf⟩ p (V.den P.code) [] (bt P.own) k 0 []),[])) :
  Ctr1 M V.kt D U calm gf bl as P :=
 segF O n k hs ho keep (fun tk => kept.map tk) hk hn (fun tk => by rw [List.length_map,ht]) hkn hkk h
end Mine
namespace Mine
open PySem PySem.W PySem.W.X PySem.Builtin
noncomputable abbrev evT := PySem.W.Fast.tw14044960220447912780
noncomputable abbrev exT := PySem.W.Fast.tw12563942051412417395
noncomputable abbrev itT := PySem.W.Fast.tw15418851999007992765
noncomputable abbrev cmT := PySem.W.Fast.tw12886488535604756494
noncomputable abbrev opT := PySem.W.Fast.tw8004119333741010377
noncomputable abbrev trT := PySem.W.Fast.tw15245631507167962100
noncomputable abbrev nxT := PySem.W.Fast.tw9404975358583537561
noncomputable abbrev asT := PySem.W.Fast.tw17772580674575903948
noncomputable abbrev loT := PySem.W.Fast.tw1578499551869305889
noncomputable abbrev caT := @PySem.W.Fast.tw11478286150595567475
noncomputable abbrev agT := PySem.W.Fast.tw12377390311714414960
noncomputable abbrev nfT := PySem.W.Fast.tw17872113653443481271
noncomputable abbrev tgT := PySem.W.Fast.tw1623429502029203251
noncomputable abbrev ufT := PySem.W.Fast.tw12367529300394763782
noncomputable def ctT (l : List String) (n : String) : Bool := PySem.W.Fast.tw3471404346716756564 l n
noncomputable abbrev deT := PySem.W.Fast.tw11892475500146522536 PySem.W.Fast.tw14364793385576792824
noncomputable def hoT {α : Type} (vs : List Value) (m : Sem α) : Sem α := PySem.W.Fast.tw17359229931016689406 vs m
noncomputable def callEq (x y : Int) : Sem Unit := .call (.builtin "int.__eq__" ⟨[.int x 0,.int y 0],[]⟩) none false [] fun r => match r with
 | .ok (.ret (.bool true)) => .pure ()
 | _ => .unsupported "mine.eq"
noncomputable def ImpS (w : World) {α : Type} (m' m : Sem α) : Prop := ∀ Γ p s Q E,Sem.wp (model prog w) Γ m' Q E p s → Sem.wp (model prog w) Γ m Q E p s
theorem ImpS.rfl {w : World} {α : Type} {m : Sem α} : ImpS w m m := fun _ _ _ _ _ h => h
theorem ImpS.bind {w : World} {α β : Type} {m' m : Sem α} {f' f : α → Sem β} (h : ImpS w m' m) (hf : ∀ x,ImpS w (f' x) (f x)) : ImpS w (m'.bind f') (m.bind f) := fun Γ p s Q E x => by
 rw [Sem.wp_bind] at x ⊢
 exact Sem.wp_mono _ _ _ (fun a p s y => hf a _ _ _ _ _ y) (fun _ _ _ y => y) _ _ (h _ _ _ _ _ x)
theorem ImpS.onRaise {w : World} {α : Type} {m' m : Sem α} {f : Value → Sem Unit} (h : ImpS w m' m) : ImpS w (m'.onRaise f) (m.onRaise f) := fun Γ p s Q E x => by
 rw [Sem.wp_onRaise] at x ⊢
 exact h _ _ _ _ _ x
theorem den_builtin {prog : Program} {w : World} {id : String} {args : Args} {B : Builtin} (entry : entryFor table id = some B) : (model prog w).den (.builtin id args) = B args := by
 show (match entryFor table id with | some b => b args | none => unsupported ((withoutEnding? id "#data").getD id)) = _
 rw [entry]
theorem entry_int_eq : entryFor table "int.__eq__" = some Builtin.«int.__eq__» := entryFor_of_tree (by kernel_rfl)
theorem wp_callEq {w : World} {x y : Int} {Γ : Ctx} {p : Pos} {s : Shared} {Q : Unit → Pos → Shared → Prop} {E : Value → Pos → Shared → Prop} (h : Sem.wp (model prog w) Γ (callEq x y) Q E p s) : x = y ∧ Q () p s := by
 unfold callEq at h
 rw [Sem.wp_call] at h
 obtain ⟨r,s1,hr,hk⟩ := h
 have e : (model prog w).den (.builtin "int.__eq__" ⟨[.int x 0,.int y 0],[]⟩) = .pure (.done (.ret (.bool (x == y)))) := by
  rw [den_builtin entry_int_eq]
  rfl
 have hr' : Runs (model prog w) (Γ.enter (.builtin "int.__eq__" ⟨[.int x 0,.int y 0],[]⟩) none p) p ((model prog w).den (.builtin "int.__eq__" ⟨[.int x 0,.int y 0],[]⟩)) [] s (.ret r) s1 := hr
 rw [e] at hr'
 cases hr'
 cases hxy : (x == y) with
 | true =>
  rw [hxy] at hk
  exact ⟨eq_of_beq hxy,hk⟩
 | false =>
  rw [hxy] at hk
  exact hk.elim
theorem wp_bT {w : World} {α β : Type} {Γ : Ctx} {m : Sem α} {f : α → Sem β} {Q : β → Pos → Shared → Prop} {E : Value → Pos → Shared → Prop} {p : Pos} {s : Shared} : Sem.wp (model prog w) Γ (PySem.W.R.bindR m f) Q E p s = Sem.wp (model prog w) Γ m (fun a p s => Sem.wp (model prog w) Γ (f a) Q E p s) E p s := by
 rw [← PySem.W.R.bindR_eq]
 exact Sem.wp_bind ..
theorem ImpS.bT {w : World} {α β : Type} {m' m : Sem α} {f' f : α → Sem β} (h : ImpS w m' m) (hf : ∀ x,ImpS w (f' x) (f x)) : ImpS w (PySem.W.R.bindR m' f') (m.bind f) := by
 rw [← PySem.W.R.bindR_eq]
 exact h.bind hf
theorem ImpS.oT {w : World} {α : Type} {m' m : Sem α} {f f' : Value → Sem Unit} (h : ImpS w m' m) (hf : f' = f) : ImpS w (PySem.W.R.onRaiseR m' f') (m.onRaise f) := by
 subst hf
 rw [← PySem.W.R.onRaiseR_eq]
 exact fun Γ p s Q E x => by
  rw [Sem.wp_onRaise] at x ⊢
  exact h _ _ _ _ _ x
noncomputable def letOwnedA (target : PySem.Expr) (it v : Value) : Sem Unit := match target with
 | .Tuple _ _ _ => match it with
  | .ref r => match v with
   | .ref a => PySem.W.R.bindR (load r) fun o => match o.cls with
    | .type n => match o.data with
     | .fields vs => match vs.toList with
      | .int i t :: _ => match Nat.beq t 0 with
       | true => match ctT ["enumerate"] n with
        | true => PySem.W.R.bindR (callEq i a) fun _ => PySem.W.R.bindR (rule "for.unpacks-the-owned-tuple") fun _ => ufT r 0 .none
        | false => loT target it v
       | false => loT target it v
      | _ => loT target it v
     | _ => loT target it v
    | _ => loT target it v
   | _ => pure ()
  | _ => pure ()
 | _ => loT target it v
theorem lo_eq : letOwnedTupleGo = loT := PySem.W.Fast.te1578499551869305889
theorem uf_eq : updateField = ufT := PySem.W.Fast.te12367529300394763782
theorem ct_one {n : String} (h : ctT ["enumerate"] n = true) : n = "enumerate" := by
 have e : ctT ["enumerate"] n = (["enumerate"] : List String).contains n := by
  unfold ctT
  rw [← PySem.W.Fast.te3471404346716756564]
 rw [e] at h
 simpa using h
theorem letOwnedA_imp {w : World} {target : PySem.Expr} {it v : Value} : ImpS w (letOwnedA target it v) (letOwnedTupleGo target it v) := by
 cases target with
 | Tuple elts k pos =>
  cases it with
  | ref r =>
   cases v with
   | ref a =>
    intro Γ p s Q E h
    have old : Sem.wp (model prog w) Γ (loT (.Tuple elts k pos) (.ref r) (.ref a)) Q E p s → Sem.wp (model prog w) Γ (letOwnedTupleGo (.Tuple elts k pos) (.ref r) (.ref a)) Q E p s := fun x => by rw [lo_eq]; exact x
    unfold letOwnedA at h
    dsimp only at h
    rw [wp_bT] at h
    have h : Sem.wp (model prog w) Γ (.load r none .pure) _ E p s := h
    rw [Sem.wp_load] at h
    obtain ⟨o,ho,h⟩ := h
    rw [Sem.wp_pure] at h
    cases hc : o.cls <;> simp only [hc] at h <;> try exact old h
    rename_i n
    cases hd : o.data <;> simp only [hd] at h <;> try exact old h
    rename_i vs
    cases hv : vs.toList with
    | nil => simp only [hv] at h; exact old h
    | cons x rest =>
     simp only [hv] at h
     cases x <;> simp only at h <;> try exact old h
     rename_i i t
     cases ht : Nat.beq t 0 with
     | false => simp only [ht] at h; exact old h
     | true =>
      simp only [ht] at h
      cases hn : ctT ["enumerate"] n with
      | false => simp only [hn] at h; exact old h
      | true =>
       simp only [hn] at h
       rw [wp_bT] at h
       obtain ⟨hia,h9⟩ := wp_callEq h
       have ht := Nat.eq_of_beq_eq_true ht
       have hn := ct_one hn
       subst hia ht hn
       have hv0 : vs[0]? = some (.int (a : Int) 0) := by rw [← Array.getElem?_toList,hv]; rfl
       unfold letOwnedTupleGo
       simp only [Sem.wp_bind']
       refine (Sem.wp_load_of _ Γ _ p s ho _).mpr ?_
       rw [hc,hd]
       dsimp only
       rw [hv0]
       have hcond : (["enumerate","zip","dict_itemiterator","dict_reverseitemiterator","odict_iterator","itertools.zip_longest","itertools.pairwise"].contains "enumerate" && (some (Value.int (a : Int) 0) == some (rawInt a))) = true := by
        have h1 : (some (Value.int (a : Int) 0) == some (rawInt a)) = true := by
         show (some (Value.int (a : Int) 0) == some (Value.int (a : Int) 0)) = true
         exact beq_self_eq_true _
        rw [h1]
        decide +kernel
       rw [if_pos hcond]
       rw [wp_bT] at h9
       rw [Sem.wp_bind',uf_eq]
       exact h9
   | _ => exact fun _ _ _ _ _ h => h
  | _ => exact fun _ _ _ _ _ h => h
 | _ => rw [lo_eq]; exact ImpS.rfl
theorem ev_eq : PySem.eval = evT := PySem.W.Fast.te14044960220447912780
theorem ex_eq : execs = exT := PySem.W.Fast.te12563942051412417395
theorem it_eq : PySem.isTrue = itT := PySem.W.Fast.te15418851999007992765
theorem cm_eq : compareOp = cmT := PySem.W.Fast.te12886488535604756494
theorem op_eq : operate = opT := PySem.W.Fast.te8004119333741010377
theorem tr_eq : truthy = trT := PySem.W.Fast.te15245631507167962100
theorem nx_eq : pyNext = nxT := PySem.W.Fast.te9404975358583537561
theorem as_eq : assign = asT := PySem.W.Fast.te17772580674575903948
theorem ag_eq : again = agT := PySem.W.Fast.te12377390311714414960
theorem nf_eq : noteFrame = nfT := PySem.W.Fast.te17872113653443481271
theorem tg_eq : theTreesLotGoes = tgT := PySem.W.Fast.te1623429502029203251
theorem ho_eq : @holding = @PySem.W.Fast.tw17359229931016689406 := PySem.W.Fast.te17359229931016689406
theorem ImpS.hold {w : World} {α : Type} {vs : List Value} {m' m : Sem α} (h : ImpS w m' m) : ImpS w (hoT vs m') (holding vs m) := fun Γ p s Q E x => by
 unfold hoT at x
 rw [← ho_eq,Sem.wp_holding] at x
 rw [Sem.wp_holding]
 exact h _ _ _ _ _ x
theorem ImpS.oper {w : World} {vs : List Value} {m' m : Sem Value} (h : ImpS w m' m) : ImpS w (opT vs m') (operate vs m) := fun Γ p s Q E x => by
 rw [← op_eq] at x
 unfold operate at x ⊢
 simp only [Sem.wp_bind',Sem.wp_holding] at x ⊢
 exact h _ _ _ _ _ x
noncomputable def sameA (yes : Bool) (op : CmpOp) (lv rv : Value) : Sem Value := match lv with
 | .ref x => match rv with
  | .ref y => PySem.W.R.bindR (callEq x y) fun _ => .pure (.bool yes)
  | _ => cmT op lv rv
 | _ => cmT op lv rv
theorem sameA_is {w : World} {a b : Value} : ImpS w (sameA true .Is a b) (compareOp .Is a b) := by
 cases a with
 | ref x =>
  cases b with
  | ref y =>
   intro Γ p s Q E h
   unfold sameA at h
   dsimp only at h
   rw [wp_bT] at h
   obtain ⟨e,h9⟩ := wp_callEq h
   have e : x = y := Int.ofNat.inj e
   subst e
   rw [Sem.wp_pure] at h9
   show Sem.wp _ Γ (do return .bool (← isSame (.ref x) (.ref x))) Q E p s
   rw [Sem.wp_bind']
   show Sem.wp _ Γ (if (x == x) = true then pure true else _) _ E p s
   rw [if_pos (beq_self_eq_true x)]
   exact h9
  | _ => unfold sameA; dsimp only; rw [cm_eq]; exact ImpS.rfl
 | _ => unfold sameA; dsimp only; rw [cm_eq]; exact ImpS.rfl
theorem sameA_not {w : World} {a b : Value} : ImpS w (sameA false .IsNot a b) (compareOp .IsNot a b) := by
 cases a with
 | ref x =>
  cases b with
  | ref y =>
   intro Γ p s Q E h
   unfold sameA at h
   dsimp only at h
   rw [wp_bT] at h
   obtain ⟨e,h9⟩ := wp_callEq h
   have e : x = y := Int.ofNat.inj e
   subst e
   rw [Sem.wp_pure] at h9
   show Sem.wp _ Γ (do return .bool (!(← isSame (.ref x) (.ref x)))) Q E p s
   rw [Sem.wp_bind']
   show Sem.wp _ Γ (if (x == x) = true then pure true else _) _ E p s
   rw [if_pos (beq_self_eq_true x)]
   exact h9
  | _ => unfold sameA; dsimp only; rw [cm_eq]; exact ImpS.rfl
 | _ => unfold sameA; dsimp only; rw [cm_eq]; exact ImpS.rfl
noncomputable def testA (l r : PySem.Expr) (op : CmpOp) (yes : Bool) (cpos : Pos) (env : Env) : Sem Bool :=
  PySem.W.R.bindR (evT l env) fun lv => PySem.W.R.bindR (hoT [lv] (markedBehindIn op r (evT r env))) fun rv => PySem.W.R.bindR (standAt cpos) fun _ => PySem.W.R.bindR (opT [lv,rv] (sameA yes op lv rv)) fun c => hoT [c] (trT c)
theorem testA_imp {w : World} {l r : PySem.Expr} {op : CmpOp} {yes : Bool} {cpos : Pos} {env : Env} {m : Sem Value} (h : ∀ a b,ImpS w (sameA yes op a b) (compareOp op a b)) : ImpS w (testA l r op yes cpos env) (PySem.isTrue (.Compare l [op] [r] cpos) env m) := by
 show ImpS w _ ((PySem.eval l env).bind fun lv => (holding [lv] (markedBehindIn op r (PySem.eval r env))).bind fun rv => (standAt cpos).bind fun _ => (operate [lv,rv] (compareOp op lv rv)).bind fun c => holding [c] (truthy c))
 unfold testA
 rw [ev_eq,tr_eq]
 exact ImpS.bT ImpS.rfl fun lv => ImpS.bT (ImpS.hold ImpS.rfl) fun rv => ImpS.bT ImpS.rfl fun _ => ImpS.bT (ImpS.oper (h lv rv)) fun c => ImpS.hold ImpS.rfl
noncomputable def execsA (body : List Stmt) (env : Env) : Sem Flow := match body with
 | [.If (.Compare l [.Is] [r] cpos) b o pos] => PySem.W.R.bindR (PySem.W.R.bindR (standAt pos) fun _ => PySem.W.R.bindR (testA l r .Is true cpos env) fun t => if t = true then exT b env else exT o env) fun fl => match fl with
  | .next => exT [] env
  | f => pure f
 | b => exT b env
theorem execsA_one {w : World} {l r : PySem.Expr} {cpos pos : Pos} {b o : List Stmt} {env : Env} : ImpS w (PySem.W.R.bindR (PySem.W.R.bindR (standAt pos) fun _ => PySem.W.R.bindR (testA l r .Is true cpos env) fun t => if t = true then exT b env else exT o env) fun fl => match fl with
   | .next => exT [] env
   | f => pure f) (execs [.If (.Compare l [.Is] [r] cpos) b o pos] env) := by
 rw [arm_execs_cons,arm_exec_If]
 refine ImpS.bT (ImpS.bT ImpS.rfl fun _ => ImpS.bT (testA_imp fun a b => sameA_is) fun t => ?_) fun fl => ?_
 · rw [ex_eq]; exact ImpS.rfl
 · rw [ex_eq]
   cases fl <;> exact ImpS.rfl
theorem execsA_imp {w : World} {body : List Stmt} {env : Env} : ImpS w (execsA body env) (execs body env) := by
 have one : ∀ b,ImpS w (exT b env) (execs b env) := fun b => by rw [ex_eq]; exact ImpS.rfl
 delta execsA
 rcases body with _ | ⟨st,rest⟩
 · exact one _
 cases st
 case If test b o pos =>
   cases test
   case Compare l ops cs cpos =>
    cases ops with
    | nil => exact one _
    | cons op ops =>
     cases op
     case Is =>
      (cases ops <;> first | exact one _ | (rcases cs with _ | ⟨r,_ | _⟩ <;> first | exact one _ | (cases rest <;> first | exact one _ | exact execsA_one)))
     all_goals exact one _
   all_goals exact one _
 all_goals exact one _
noncomputable def forTurnA (target : PySem.Expr) (it : Value) (body orelse : List Stmt) (env : Env) : Sem PySem.Fin :=
 PySem.W.R.bindR (standAt target.pos) fun _ => PySem.W.R.bindR (PySem.W.R.onRaiseR (nxT it) fun _ => standAt { target.pos with line := 0 }) fun r => match r with
  | none => agT (.block orelse env)
  | some v => PySem.W.R.bindR (letOwnedA target it v) fun _ => PySem.W.R.bindR (asT target env v) fun _ => PySem.W.R.bindR (execsA body env) fun fl => match fl with
   | .next => agT (.forLoop target it body orelse env)
   | .cont => agT (.forLoop target it body orelse env)
   | .brk => .pure (.done .next)
   | .ret v => .pure (.done (.ret v))
theorem forTurnA_imp {w : World} {target : PySem.Expr} {it : Value} {body orelse : List Stmt} {env : Env} : ImpS w (forTurnA target it body orelse env) (forTurn target it body orelse env) := by
 unfold forTurnA forTurn
 refine ImpS.bT ImpS.rfl fun _ => ImpS.bT (by rw [nx_eq]; exact ImpS.oT ImpS.rfl rfl) fun r => ?_
 cases r with
 | none => dsimp only; rw [ag_eq]; exact ImpS.rfl
 | some v =>
  refine ImpS.bT letOwnedA_imp fun _ => ImpS.bT (by rw [as_eq]; exact ImpS.rfl) fun _ => ImpS.bT execsA_imp fun fl => ?_
  cases fl <;> (try dsimp only) <;> (try rw [ag_eq]) <;> exact ImpS.rfl
noncomputable def condA (c : PySem.Expr) (env : Env) : Sem Bool := match c with
 | .Compare l [.IsNot] [r] cpos => testA l r .IsNot false cpos env
 | .BoolOp .And [x,.Compare l [.IsNot] [r] cpos] _ => PySem.W.R.bindR (itT x env (evT x env)) fun b1 => match b1 with
  | false => .pure false
  | true => PySem.W.R.bindR (testA l r .IsNot false cpos env) fun b2 => match b2 with
   | false => .pure false
   | true => .pure true
 | c => itT c env (evT c env)
theorem condA_two' {w : World} {x l r : PySem.Expr} {cpos pos : Pos} {env : Env} : ImpS w (PySem.W.R.bindR (itT x env (evT x env)) fun b1 => match b1 with
  | false => .pure false
  | true => PySem.W.R.bindR (testA l r .IsNot false cpos env) fun b2 => match b2 with
   | false => .pure false
   | true => .pure true) (PySem.isTrue (.BoolOp .And [x,.Compare l [.IsNot] [r] cpos] pos) env (PySem.eval (.BoolOp .And [x,.Compare l [.IsNot] [r] cpos] pos) env)) := by
 rw [arm_isTrue_BoolOp,arm_allTrue_cons]
 refine ImpS.bT (by rw [it_eq,ev_eq]; exact ImpS.rfl) fun b1 => ?_
 cases b1 with
 | false => exact ImpS.rfl
 | true =>
  show ImpS w _ (allTrue .And [.Compare l [.IsNot] [r] cpos] env)
  rw [arm_allTrue_cons]
  refine ImpS.bT (testA_imp fun a b => sameA_not) fun b2 => ?_
  cases b2 <;> exact ImpS.rfl
theorem condA_imp {w : World} {c : PySem.Expr} {env : Env} : ImpS w (condA c env) (PySem.isTrue c env (PySem.eval c env)) := by
 have one : ∀ c,ImpS w (itT c env (evT c env)) (PySem.isTrue c env (PySem.eval c env)) := fun c => by rw [it_eq,ev_eq]; exact ImpS.rfl
 delta condA
 cases c
 case Compare l ops cs p =>
  cases ops with
  | nil => exact one _
  | cons op ops =>
   cases op
   case IsNot => (cases ops <;> first | exact one _ | (rcases cs with _ | ⟨r,_ | _⟩ <;> first | exact one _ | exact testA_imp fun a b => sameA_not))
   all_goals exact one _
 case BoolOp op vs p =>
  cases op
  case And =>
   rcases vs with _ | ⟨x,_ | ⟨y,vs⟩⟩
   · exact one _
   · exact one _
   · cases y
     case Compare l ops cs cpos =>
      cases ops with
      | nil => exact one _
      | cons op ops =>
       cases op
       case IsNot =>
        (cases ops <;> first | exact one _ | (rcases cs with _ | ⟨r,_ | _⟩ <;> first | exact one _ | (cases vs <;> first | exact one _ | exact condA_two')))
       all_goals exact one _
     all_goals exact one _
  all_goals exact one _
 all_goals exact one _
noncomputable abbrev ctuT := PySem.W.Fast.tw1180062409338748621
theorem ctu_eq : compTurn = ctuT := PySem.W.Fast.te1180062409338748621
noncomputable def compTurnA (e : PySem.Expr) (depth : Nat) (it acc : Value) (env : Env) : Sem PySem.Fin := match e with
 | .ListComp elt [⟨target,iter,[cond],.ofNat 0⟩] sc pos => match depth with
  | 0 => PySem.W.R.bindR (standAt iter.pos) fun _ => PySem.W.R.bindR (nxT it) fun r => match r with
   | none => .pure (.done .next)
   | some v => PySem.W.R.bindR (loT target it v) fun _ => PySem.W.R.bindR (asT target env v) fun _ => PySem.W.R.bindR (condA cond env) fun ok => match ok with
    | true => PySem.W.R.bindR (evT elt env) fun x => PySem.W.R.bindR (caT (.builtin "list.append") [acc,x] []) fun _ => agT (.compLoop (.ListComp elt [⟨target,iter,[cond],.ofNat 0⟩] sc pos) 0 it acc env)
    | false => agT (.compLoop (.ListComp elt [⟨target,iter,[cond],.ofNat 0⟩] sc pos) 0 it acc env)
  | d + 1 => ctuT e (d + 1) it acc env
 | e => ctuT e depth it acc env
theorem compTurnA_one {w : World} {elt target iter cond : PySem.Expr} {sc : Scope} {pos : Pos} {it acc : Value} {env : Env} : ImpS w (compTurnA (.ListComp elt [⟨target,iter,[cond],.ofNat 0⟩] sc pos) 0 it acc env) (compTurn (.ListComp elt [⟨target,iter,[cond],.ofNat 0⟩] sc pos) 0 it acc env) := by
 intro Γ p s Q E h
 have h : Sem.wp (model prog w) Γ (PySem.W.R.bindR (standAt iter.pos) fun _ => PySem.W.R.bindR (nxT it) fun r => match r with
   | none => .pure (.done .next)
   | some v => PySem.W.R.bindR (loT target it v) fun _ => PySem.W.R.bindR (asT target env v) fun _ => PySem.W.R.bindR (condA cond env) fun ok => match ok with
    | true => PySem.W.R.bindR (evT elt env) fun x => PySem.W.R.bindR (caT (.builtin "list.append") [acc,x] []) fun _ => agT (.compLoop (.ListComp elt [⟨target,iter,[cond],.ofNat 0⟩] sc pos) 0 it acc env)
    | false => agT (.compLoop (.ListComp elt [⟨target,iter,[cond],.ofNat 0⟩] sc pos) 0 it acc env)) Q E p s := h
 rw [wp_bT] at h
 unfold compTurn
 have e0 : ((Int.ofNat 0) != 0) = false := by decide
 simp only [List.getElem?_cons_zero,e0,Bool.false_eq_true,if_false,Sem.wp_bind']
 refine Sem.wp_mono _ _ _ (fun _ p1 s1 h1 => ?_) (fun _ _ _ y => y) _ _ h
 rw [wp_bT] at h1
 rw [nx_eq]
 refine Sem.wp_mono _ _ _ (fun r p2 s2 h2 => ?_) (fun _ _ _ y => y) _ _ h1
 cases r with
 | none => exact h2
 | some v =>
  dsimp only at h2 ⊢
  rw [wp_bT] at h2
  simp only [Sem.wp_bind']
  rw [lo_eq]
  refine Sem.wp_mono _ _ _ (fun _ p3 s3 h3 => ?_) (fun _ _ _ y => y) _ _ h2
  rw [wp_bT] at h3
  rw [as_eq]
  refine Sem.wp_mono _ _ _ (fun _ p4 s4 h4 => ?_) (fun _ _ _ y => y) _ _ h3
  rw [wp_bT] at h4
  simp only [List.forIn_cons,List.forIn_nil,if_true,Sem.wp_bind',Sem.wp_pure']
  refine Sem.wp_mono _ _ _ (fun ok p5 s5 h5 => ?_) (fun _ _ _ y => y) _ _ (condA_imp _ _ _ _ _ h4)
  cases ok with
  | false =>
   simp only [Bool.false_eq_true,if_false]
   rw [ag_eq]
   exact h5
  | true =>
   dsimp only at h5
   rw [wp_bT] at h5
   simp only [if_true,List.getElem?_cons_succ,List.getElem?_nil,Sem.wp_bind',Sem.wp_pure']
   rw [ev_eq]
   refine Sem.wp_mono _ _ _ (fun x p6 s6 h6 => ?_) (fun _ _ _ y => y) _ _ h5
   rw [wp_bT] at h6
   rw [PySem.W.Fast.te11478286150595567475,ag_eq]
   exact h6
theorem compTurnA_imp {w : World} {e : PySem.Expr} {depth : Nat} {it acc : Value} {env : Env} : ImpS w (compTurnA e depth it acc env) (compTurn e depth it acc env) := by
 unfold compTurnA
 split
 · split
   · exact compTurnA_one
   · rw [ctu_eq]; exact ImpS.rfl
 · rw [ctu_eq]; exact ImpS.rfl
noncomputable def denA (c : Code) : Sem PySem.Fin := match c with
 | .forLoop target it body orelse env => PySem.W.R.onRaiseR (forTurnA target it body orelse env) fun x => PySem.W.R.bindR (nfT x env) fun _ => tgT x
 | .compLoop e depth it acc env => match (Code.compLoop e depth it acc env).isFrame with
  | true => deT (.compLoop e depth it acc env)
  | false => PySem.W.R.onRaiseR (compTurnA e depth it acc env) fun x => PySem.W.R.bindR (nfT x env) fun _ => tgT x
 | c => deT c
theorem de_eq (w : World) : (model prog w).den = deT := by
 show denote table = PySem.W.Fast.tw11892475500146522536 PySem.W.Fast.tw14364793385576792824
 rw [table_eq_tree,← PySem.W.Fast.te11892475500146522536,← PySem.W.Fast.te14364793385576792824]
theorem denA_imp {w : World} (c : Code) : ImpS w (denA c) ((model prog w).den c) := by
 unfold denA
 split
 · rename_i target it body orelse env
   show ImpS w _ ((forTurn target it body orelse env).onRaise fun x => do noteFrame x env; theTreesLotGoes x)
   refine ImpS.oT forTurnA_imp ?_
   funext x
   rw [← PySem.W.R.bindR_eq,nf_eq,tg_eq]
   rfl
 · rename_i e depth it acc env
   split
   · rw [de_eq]; exact ImpS.rfl
   · rename_i hf
     show ImpS w _ (if (Code.compLoop e depth it acc env).isFrame = true then _ else (compTurn e depth it acc env).onRaise fun x => do noteFrame x env; theTreesLotGoes x)
     rw [if_neg (by rw [hf]; exact Bool.false_ne_true)]
     refine ImpS.oT compTurnA_imp ?_
     funext x
     rw [← PySem.W.R.bindR_eq,nf_eq,tg_eq]
     rfl
 · rw [de_eq]; exact ImpS.rfl
theorem denA_runs {w : World} {c : Code} {Γ : Ctx} {p : Pos} {s s' : Shared} {r : Result} (h : Runs (model prog w) Γ p (denA c) [] s (.ret r) s') : Runs (model prog w) Γ p ((model prog w).den c) [] s (.ret r) s' := by
 have z : Sem.wp (model prog w) Γ (denA c) (Sem.finPost (model prog w) Γ fun r1 s1 => r1 = r ∧ s1 = s') (fun e _ s1 => .error e = r ∧ s1 = s') p s :=
  (Sem.wp_iff_runs (model prog w) Γ _ _ p s).mpr ⟨r,s',h,rfl,rfl⟩
 obtain ⟨r1,s1,h1,rfl,rfl⟩ := (Sem.wp_iff_runs (model prog w) Γ _ _ p s).mp (denA_imp c _ _ _ _ _ z)
 exact h1
noncomputable def H : List Nat → List Hint
 | [] => []
 | n :: r => (match Nat.beq n 0 with | true => .s | false => match Nat.beq n 1 with | true => .e 0 | false => .o (n - 2)) :: H r
theorem H_ok {M : Model} {kt : KT} : ∀ (l : List Nat),∀ h ∈ H l,HOk M kt h
 | [],_,hh => nomatch hh
 | n :: r,h,hh => by
  rcases List.mem_cons.mp hh with rfl | hh
  · split
    · trivial
    · split <;> trivial
  · exact H_ok r h hh
theorem ok_app {M : Model} {kt : KT} {a b : List Hint} (x : ∀ h ∈ a,HOk M kt h) (y : ∀ h ∈ b,HOk M kt h) : ∀ h ∈ a ++ b,HOk M kt h := fun h hh => (List.mem_append.mp hh).elim (x h) (y h)
theorem ok_one {M : Model} {kt : KT} {a : Hint} (x : HOk M kt a) : ∀ h ∈ [a],HOk M kt h := fun h hh => by
 rcases List.mem_cons.mp hh with rfl | hh
 · exact x
 · cases hh
theorem ok_v {M : Model} {kt : KT} {n : Nat} {X F : Nat → Flow} (x : ∀ t,X t = F t) : ∀ h ∈ [Hint.v n X F],HOk M kt h := ok_one (a := .v n X F) x
theorem ok_c {M : Model} {kt : KT} {n : Nat} {idx : List Nat} {C : CF} (x : Ctr M kt C) (nd : idx.Nodup := by decide) : ∀ h ∈ [Hint.c n idx C],HOk M kt h := ok_one (a := .c n idx C) ⟨nd,x⟩
theorem ok_d {M : Model} {kt : KT} {n : Nat} {idx : List Nat} {C : CF} (x : Ctr M kt C) (nd : idx.Nodup := by decide) : ∀ h ∈ [Hint.d n idx C],HOk M kt h := ok_one (a := .d n idx C) ⟨nd,x⟩
noncomputable def V (P : Params) : Cfg := ⟨denA,PySem.W.Fast.tw15066281185411960212,PySem.W.R.bindR,PySem.W.Fast.tw10648789137845014744,prog,P,P,kt P⟩
theorem V_ok (w : World) : (V w.params).Ok (model prog w) where
 den := fun _ _ _ _ _ _ h => denA_runs h
 prog := rfl
 P := .inl rfl
 enter := congrFun PySem.W.Fast.te15066281185411960212.symm _
 bnd := by
  funext a f
  show PySem.W.R.bindR a f = a.bind f
  rw [← PySem.W.R.bindR_eq]
 room := PySem.W.Fast.te10648789137845014744.symm
 lim := fun s h => by
  have e : s.heap.get? cStatics = some (o2 w.params) := h 2 _ (by kernel_rfl)
  have z : s.heap.isNs cStatics = true := by
   unfold Heap.isNs
   rw [e]
   kernel_rfl
  refine ⟨_,Heap.Ns.of_isNs z,?_⟩
  unfold Heap.nsMap
  rw [e]
  kernel_rfl
noncomputable def A (as : List Nat) (j : Nat) : Nat := as.getD j 0
noncomputable def argOf (c : Code) (i : Nat) : Value := match c with
 | .builtin _ a => a.pos.getD i .none
 | .call _ a => a.pos.getD i .none
 | _ => .none
noncomputable def pureP (c : Code) (nt : Nat) (v : List Nat → Value) : CPre := ⟨c,[],0,nt,fun _ tk => .ok (.ret (v tk)),fun _ _ => [],fun _ _ => []⟩
noncomputable def Post (as : List Nat) (P : CPre) (s : Shared) (r : Result) (s' : Shared) : Prop :=
  ∃ (nad ntk : List Nat),nad.length = P.nn ∧ ntk.length = P.nt ∧ nad.Nodup ∧ (∀ a ∈ nad,s.heap.objs.size ≤ a ∧ a < s'.heap.objs.size) ∧ r = P.res nad ntk ∧ Own s'.heap as (P.upd nad ntk) ∧ Own s'.heap nad (P.new nad ntk) ∧ Kept s s' as
theorem guards_free : ∀ {l : List (Code × Pos)},allFree l → guardsOf l = []
 | [],_ => rfl
 | (c,p) :: l,h => by
  rw [guardsOf_cons,guards_free fun x hx => h x (List.mem_cons_of_mem _ hx)]
  have z : free c = true := h (c,p) (List.mem_cons_self ..)
  have : c.isGuard = false := by
   unfold free at z
   cases c <;> try rfl
   rename_i id a
   show guardIds.contains id = false
   cases q : guardIds.contains id with
   | false => rfl
   | true =>
    have : heldIds.contains id = true := by
     unfold heldIds
     rw [List.contains_iff_mem] at q ⊢
     exact List.mem_append_left _ q
    simp only [this] at z
    cases z
  simp [Code.guards,this]
theorem ctr_any {prog : Program} {w : World} {kt : KT} {D U : Nat} {calm gf : Bool} {bl : List (Code × Pos)} {as : List Nat} {P : CPre}
  (h : ∀ (A : Around) (s : Shared),A.depth ≤ D → A.units ≤ U → (calm = true → A.handled = none) → (gf = true → A.guards = some []) → (∀ a o,kt.get a = some o → s.heap.get? a = some o) → Own s.heap as P.own → as.Nodup → codeAny (model prog w) A P.code (Post as P s) s) :
  Ctr1 (model prog w) kt D U calm gf bl as P := fun Γ p s hc _ hcalm hgf hd hu hst hown hnd _ => by
 obtain ⟨r,s',hr,nad,ntk,a1,a2,a3,a4,a5,a6,a7,a8⟩ := h ⟨Γ.handled,frameCount Γ.below,none,some (guardsOf Γ.below),unitsOf Γ.below⟩ s hd hu hcalm (fun q => congrArg some (guards_free (hgf q))) hst hown hnd Γ p hc ⟨rfl,Nat.le_refl _,fun _ e => (by cases e),fun _ e => Option.some.inj e,Nat.le_refl _⟩
 refine ⟨nad,ntk,s',a1,a2,a3,a4,?_,a6,a7,a8⟩
 rw [← a5,← hc]
 exact hr
theorem Kept.toks (s : Shared) (k : Nat) (as : List Nat) : Kept s { s with toks := k } as := ⟨fun _ _ e _ => e,Nat.le_refl _,rfl,rfl⟩
theorem post_pure {c : Code} {nt : Nat} {v : List Nat → Value} {s : Shared} {k : Nat} {x : Value} (tks : List Nat) (hl : tks.length = nt) (hx : x = v tks) : Post [] (pureP c nt v) s (.ok (.ret x)) { s with toks := k } :=
  ⟨[],tks,rfl,hl,List.nodup_nil,fun _ h => (nomatch h),by rw [hx]; rfl,trivial,trivial,.toks ..⟩
theorem own_nil {h : Heap} {as : List Nat} (H : Own h as []) : as = [] := by
 cases as with
 | nil => rfl
 | cons _ _ => exact H.elim
theorem ctr_meets {prog : Program} {w : World} {kt : KT} {D U : Nat} {calm gf : Bool} {bl : List (Code × Pos)} {as : List Nat} {id : String} {args : Args} {B : Builtin} {S : Spec} {nt : Nat} {v : List Nat → Value} (plain : plainId id = true) (entry : entryFor table id = some B) (g : MeetsIn prog w (B args) S)
  (hS : ∀ A s R,A.depth ≤ D → A.units ≤ U → (∀ a o,kt.get a = some o → s.heap.get? a = some o) → (∀ (tks : List Nat) k,tks.length = nt → R (.ok (.ret (v tks))) { s with toks := k }) → S A R s) : Ctr1 (model prog w) kt D U calm gf bl as (pureP (.builtin id args) nt v) :=
 ctr_any fun A s hd hu _ _ hst hown _ => by
  have := own_nil hown
  subst this
  refine codeAny_builtin entry ?_
  rw [Around.under_plainId plain]
  exact g A _ s (hS A s _ hd hu hst fun tks k hl => post_pure tks hl rfl)
theorem ctr_gives {prog : Program} {w : World} {kt : KT} {D U : Nat} {calm gf : Bool} {bl : List (Code × Pos)} {as : List Nat} {id : String} {args : Args} {B : Builtin} {m : Made} {nt : Nat} {v : List Nat → Value} (plain : plainId id = true) (entry : entryFor table id = some B) (g : Gives (B args) m)
  (hm : ∀ s (Q : Value → Shared → Prop),(∀ (tks : List Nat) k,tks.length = nt → Q (v tks) { s with toks := k }) → m.post Q s) : Ctr1 (model prog w) kt D U calm gf bl as (pureP (.builtin id args) nt v) :=
 ctr_meets plain entry (g.meets.inModel prog w) fun A s R _ _ _ h => hm s _ fun tks k hl => h tks k hl
noncomputable def addC (a b : Array UInt8) : CF := ⟨990,9800,false,false,(fun b => b),none,fun c _ _ => pureP (.builtin "bytes.__add__" ⟨[.bytes a (tokV (argOf c 0)),.bytes b (tokV (argOf c 1))],[]⟩) 1 fun tk => .bytes (a ++ b) (tk.getD 0 0)⟩
theorem addC_ok (w : World) (kt : KT) (a b : Array UInt8) (h : a.size + b.size ≤ 1000) : Ctr (model prog w) kt (addC a b) := fun bl c as os _ _ _ _ => by
 refine ctr_gives (by decide +kernel) FB.entry_bytes_add (KBy.gives_bytes_add (KBy.tooLong_not (by omega))) fun s Q hQ => ?_
 split
 · rename_i e
   have : a ++ b = b := by rw [Array.isEmpty_iff] at e; subst e; simp
   have z := hQ [tokV (argOf c 1)] s.toks rfl
   rw [this] at z
   exact z
 · split
   · rename_i e
     have : a ++ b = a := by rw [Array.isEmpty_iff] at e; subst e; simp
     have z := hQ [tokV (argOf c 0)] s.toks rfl
     rw [this] at z
     exact z
   · exact ⟨by rw [Array.size_append]; show _ ≤ 2 ^ 24; omega,hQ [s.toks] _ rfl⟩
noncomputable def ixC (a : Array UInt8) (i : Int) (x : UInt8) : CF := ⟨990,9800,false,false,(fun b => b),none,fun c _ _ => pureP (.builtin "bytes.__getitem__" ⟨[.bytes a (tokV (argOf c 0)),.int i (tokV (argOf c 1))],[]⟩) 1 fun tk => .int x.toNat (tk.getD 0 0)⟩
theorem ixC_ok (w : World) (kt : KT) (a : Array UInt8) (i : Int) (n : Nat) (x : UInt8) (hi : i = n) (hs : a.size ≤ 1000) (hx : a[n]? = some x) : Ctr (model prog w) kt (ixC a i x) := fun bl c as os _ _ _ _ => by
 subst hi
 have hn : n < a.size := (Array.getElem?_eq_some_iff.mp hx).1
 refine ctr_gives (by decide +kernel) FB.entry_bytes_getitem (gives_bytes_getitem _ _ _ _ x ?_ ?_) fun s Q hQ => hQ [s.toks] _ rfl
 · unfold Bytes.fitsIndex
   simp only [Bool.and_eq_true,decide_eq_true_eq]
   omega
 · have e : seqIndex? (n : Int) a.size = some n := by
    unfold seqIndex?
    have h1 : ¬ (n : Int) < 0 := by omega
    simp only [h1,if_false]
    have h2 : (decide (0 ≤ (n : Int)) && decide ((n : Int) < (a.size : Int))) = true := by simp only [Bool.and_eq_true,decide_eq_true_eq]; omega
    rw [if_pos h2]; rfl
   rw [e]; exact hx
noncomputable def lenC (a : Array UInt8) : CF := ⟨990,9800,false,false,(fun b => b),none,fun c _ _ => pureP (.builtin "len" ⟨[.bytes a (tokV (argOf c 0))],[]⟩) 1 fun tk => .int a.size (tk.getD 0 0)⟩
theorem lenC_ok (w : World) (kt : KT) (a : Array UInt8) (hs : a.size ≤ 1000) : Ctr (model prog w) kt (lenC a) := fun bl c as os _ _ _ _ =>
 ctr_any fun A s hd hu _ _ hst hown _ => by
  have := own_nil hown
  subst this
  refine codeAny_builtin entry_len ?_
  rw [Around.under_plainId plain_len]
  unfold Builtin.«len»
  refine wpAny_bind (m := oneArg "len" _) (wpAny_pure ?_)
  refine wpAny_bind (m := callSpecial? _ (Str.ofString "__len__")) (wpAny_callSpecial?_slot (name := Str.ofString "__len__") (typeIs_bytes s a _) FB.slot_bytes_len (call_gives FB.slot_bytes_len (typeIs_bytes s a _) FB.entry_bytes_len (FB.args_bytes_len_1 _) (gives_bytes_len a _) ?_))
  show wpAny _ _ _ _ _ { s with toks := s.toks + 1 }
  refine wpAny_bind (wpAny_holding (wpAny_pure ?_))
  refine wpAny_bind (wpAny_letGo ?_)
  show wpAny _ _ (if (a.size : Int) < 0 then _ else _) _ _ _
  rw [if_neg (by omega)]
  show wpAny _ _ (if (a.size : Int) ≥ 2 ^ 63 then _ else _) _ _ _
  rw [if_neg (by omega)]
  exact wpAny_bind (wpAny_mkInt (wpAny_pure (post_pure [s.toks + 1] rfl rfl)))
noncomputable def bX (p : Prop) [Decidable p] : Nat → Flow := fun _ => .ret (.bool (decide p))
noncomputable def bF (b : Bool) : Nat → Flow := fun _ => .ret (.bool b)
theorem bT {p : Prop} [Decidable p] (h : p) : ∀ t,bX p t = bF true t := fun _ => by unfold bX bF; rw [decide_eq_true h]
theorem bN {p : Prop} [Decidable p] (h : ¬ p) : ∀ t,bX p t = bF false t := fun _ => by unfold bX bF; rw [decide_eq_false h]
noncomputable def bE (b : Bool) : Nat → Flow := fun _ => .ret (.bool b)
theorem bEq {b c : Bool} (h : b = c) : ∀ t,bE b t = bF c t := fun _ => by unfold bE bF; rw [h]
theorem not_exported {a : Nat} {l : List (Code × Pos)} (h : allFree l) : (l.any fun
   | (.builtin "bytearray.__contains__" ⟨v :: _,_⟩,_) | (.builtin "bytearray.__mod__" ⟨v :: _,_⟩,_)
   | (.builtin "bytearray.__rmod__" ⟨_ :: v :: _,_⟩,_) | (.builtin "_struct.pack_into.held" ⟨v :: _,_⟩,_) => Bytes.sameRef v (.ref a)
   | (.builtin "bytearray.find.held" ⟨_ :: _ :: held,_⟩,_) => held.any (Bytes.sameRef (.ref a))
   | (.builtin nm ⟨v :: _,_⟩,_) => Bytes.sameRef v (.ref a) && Bytes.decodersThatHold.contains nm
   | _ => false) = false := by
 rw [List.any_eq_false]
 intro x hx
 have z := h x hx
 obtain ⟨c,p⟩ := x
 unfold free at z
 have key : ∀ id args,c = .builtin id args → heldIds.contains id = false := fun id args e => by
   subst e
   cases q : heldIds.contains id with
   | false => rfl
   | true => simp only [q] at z; cases z
 split
 all_goals first
   | (rename_i heq; cases heq; exact absurd (key _ _ rfl) (by decide +kernel))
   | skip
 · rename_i id v _ _ _ _ _ _ _ _ heq
   cases heq
   have q := key _ _ rfl
   have : Bytes.decodersThatHold.contains id = false := by
    cases r : Bytes.decodersThatHold.contains id with
    | false => rfl
    | true =>
     have : heldIds.contains id = true := by
      unfold heldIds
      rw [List.contains_iff_mem] at r ⊢
      exact List.mem_append_right _ r
     rw [this] at q; cases q
   rw [this,Bool.and_false]; exact Bool.false_ne_true
 · exact Bool.false_ne_true
noncomputable def baO (b : Array UInt8) : Obj := ⟨.type "bytearray",none,.bytearray b 0,#[]⟩
theorem ctr_wp {prog : Program} {w : World} {kt : KT} {D U : Nat} {calm gf : Bool} {bl : List (Code × Pos)} {as : List Nat} {P : CPre}
  (h : ∀ (Γ : Ctx) (p : Pos) (s : Shared),Γ.code = P.code → (calm = true → Γ.handled = none) → (gf = true → allFree Γ.below) → frameCount Γ.below ≤ D → unitsOf Γ.below ≤ U → (∀ a o,kt.get a = some o → s.heap.get? a = some o) → Own s.heap as P.own → as.Nodup →
   Sem.wp (model prog w) Γ ((model prog w).den P.code) (Sem.finPost (model prog w) Γ (Post as P s)) (fun e _ s' => Post as P s (.error e) s') p s) : Ctr1 (model prog w) kt D U calm gf bl as P := fun Γ p s hc _ hcalm hgf hd hu hst hown hnd _ => by
 obtain ⟨r,s',hr,nad,ntk,a1,a2,a3,a4,a5,a6,a7,a8⟩ := (Sem.wp_iff_runs _ _ _ _ p s).mp (h Γ p s hc hcalm hgf hd hu hst hown hnd)
 exact ⟨nad,ntk,s',a1,a2,a3,a4,a5 ▸ hr,a6,a7,a8⟩
theorem entry_ba_append : entryFor table "bytearray.append" = some Builtin.«bytearray.append» := entryFor_of_tree (by kernel_rfl)
theorem wp_exported {M : Model} {Γ : Ctx} {a : Nat} {Q : Bool → Pos → Shared → Prop} {E : Value → Pos → Shared → Prop} {p : Pos} {s : Shared} (h : allFree ((Γ.code,p) :: Γ.below)) (q : Q false p s) : Sem.wp M Γ (Bytes.exported (.ref a)) Q E p s := by
 unfold Bytes.exported
 simp only [Sem.wp_bind',PySem.stack,Sem.wp_stack,Sem.wp_pure]
 have z := not_exported (a := a) h
 have k := congrArg (fun b => Q b p s) z
 exact k.mpr q
theorem wp_checkResize {M : Model} {Γ : Ctx} {a : Nat} {b : Array UInt8} {Q : Unit → Pos → Shared → Prop} {E : Value → Pos → Shared → Prop} {p : Pos} {s : Shared} (h : allFree ((Γ.code,p) :: Γ.below)) (ha : s.heap.get? a = some (baO b)) (q : Q () p s) : Sem.wp M Γ (Bytes.checkResize (.ref a)) Q E p s := by
 unfold Bytes.checkResize
 simp only [orM,Sem.wp_bind']
 refine wp_exported h ?_
 show Sem.wp M Γ (Bytes.exportsOf (.ref a) >>= fun n => pure (decide (n > 0))) _ _ p s
 unfold Bytes.exportsOf
 simp only [Sem.wp_bind']
 refine (Sem.wp_load_of M Γ _ p s ha _).mpr ?_
 exact q
theorem wp_writeBa {M : Model} {Γ : Ctx} {a : Nat} {b : Array UInt8} {f : Array UInt8 → Array UInt8} {Q : Unit → Pos → Shared → Prop} {E : Value → Pos → Shared → Prop} {p : Pos} {s : Shared} (ha : s.heap.get? a = some (baO b)) (hs : (f b).size ≤ 1000)
  (q : Q () p { s with heap := s.heap.update a (Obj.mapBytearray f) }) : Sem.wp M Γ (Bytes.write (.ref a) f) Q E p s := by
 unfold Bytes.write updateBytearray
 simp only [Sem.wp_bind']
 refine (Sem.wp_load_of M Γ _ p s ha _).mpr ?_
 show Sem.wp M Γ (update a (Obj.mapBytearray f) >>= fun _ => lookBehind a) _ _ p s
 rw [Sem.wp_bind',Sem.wp_cmd_update]
 refine ⟨by rw [ha]; rfl,?_⟩
 unfold lookBehind
 have h2 : (s.heap.update a (Obj.mapBytearray f)).get? a = some (baO (f b)) := Heap.get?_update_self _ ha rfl
 rw [Sem.wp_bind']
 refine (Sem.wp_loadPart_of M Γ _ p _ none h2 _).mpr ?_
 have z : (baO (f b)).data.pastItsLine = none := by
  show (if (f b).size > sizeLine then _ else _) = _
  rw [if_neg (by show ¬ _ > 2 ^ 24; omega)]
 rw [z]
 exact q
noncomputable def appC (b : Array UInt8) (x : UInt8) : CF := ⟨990,9800,false,true,(fun b => b),none,fun c as _ =>
 { code := .builtin "bytearray.append" ⟨[.ref (A as 0),.int x.toNat (tokV (argOf c 1))],[]⟩
   own := [baO b],nn := 0,nt := 0
   res := fun _ _ => .ok (.ret .none)
   upd := fun _ _ => [baO (b.push x)]
   new := fun _ _ => [] }⟩
theorem appC_ok (w : World) (kt : KT) (b : Array UInt8) (x : UInt8) (hb : b.size < 1000) : Ctr (model prog w) kt (appC b x) := fun bl c as os _ _ _ _ => by
 refine ctr_wp fun Γ p s hc _ hgf hd hu hst hown hnd => ?_
 cases as with
 | nil => exact hown.elim
 | cons a as =>
 have := own_nil hown.2
 subst this
 have ha : s.heap.get? a = some (baO b) := hown.1
 show Sem.wp (model prog w) Γ ((model prog w).den (.builtin "bytearray.append" ⟨[.ref a,.int x.toNat (tokV (argOf c 1))],[]⟩)) _ _ p s
 rw [den_builtin entry_ba_append]
 show Sem.wp (model prog w) Γ ((if (decide ((x.toNat : Int) < 0) || decide ((x.toNat : Int) ≥ 256)) = true then _ else pure (x.toNat : Int).toNat.toUInt8) >>= fun c => Bytes.checkResize (.ref a) >>= fun _ => Bytes.write (.ref a) (·.push c) >>= fun _ => ret .none) _ _ p s
 have hx : x.toNat < 256 := x.toNat_lt
 rw [if_neg (by simp; omega)]
 have e : (x.toNat : Int).toNat.toUInt8 = x := by simp
 rw [e]
 show Sem.wp (model prog w) Γ (Bytes.checkResize (.ref a) >>= fun _ => Bytes.write (.ref a) (·.push x) >>= fun _ => ret .none) _ _ p s
 rw [Sem.wp_bind']
 have hall : allFree ((Γ.code,p) :: Γ.below) := fun y hy => by
  rcases List.mem_cons.mp hy with rfl | hy
  · rw [hc]; show free (.builtin "bytearray.append" _) = true; kernel_rfl
  · exact hgf rfl y hy
 refine wp_checkResize hall ha ?_
 rw [Sem.wp_bind']
 refine wp_writeBa ha (by rw [Array.size_push]; omega) ?_
 have hs' : Heap.SameBut a s.heap (s.heap.update a (Obj.mapBytearray (·.push x))) := Heap.SameBut.update ..
 refine ⟨[],[],rfl,rfl,List.nodup_nil,fun _ h => (nomatch h),rfl,⟨Heap.get?_update_self _ ha rfl,trivial⟩,trivial,⟨fun y o e hy => (hs'.2 y fun h => hy (by rw [h]; exact List.mem_cons_self ..)).trans e,by rw [hs'.1]; exact Nat.le_refl _,rfl,rfl⟩⟩
theorem wp_any {α : Type} {M : Model} {Γ : Ctx} {t : Sem α} {Q : α → Shared → Prop} {E : Value → Shared → Prop} {p : Pos} {s : Shared} (h : ∀ A : Around,wpAny M A t Q E s) : Sem.wp M Γ t (fun a _ s => Q a s) (fun e _ s => E e s) p s :=
  h ⟨Γ.handled,frameCount Γ.below + Γ.code.weight,none,none,Γ.units⟩ Γ p ⟨rfl,Nat.le_refl _,fun _ e => (by cases e),fun _ e => (by cases e),Nat.le_refl _⟩
theorem entry_ba_init : entryFor table "bytearray.__init__" = some Builtin.«bytearray.__init__» := entryFor_of_tree (by kernel_rfl)
theorem look_ba_release : typeLookup (.type "bytearray") "__release_buffer__" = pure (some (.builtin "bytearray.__release_buffer__")) := by rw [typeLookup_type,builtinLookup_eq_fast]; kernel_rfl
theorem sub_ba : isSubtype (.type "bytearray") (.type "bytearray") = pure true := by kernel_rfl
theorem ba_type {s : Shared} {a : Nat} {b : Array UInt8} (ha : s.heap.get? a = some (baO b)) : s.TypeIs (.ref a) "bytearray" := ⟨_,ha,rfl⟩
theorem own_release {M : Model} {A : Around} {a : Nat} {b : Array UInt8} {Q : Bool → Shared → Prop} {E : Value → Shared → Prop} {s : Shared} (ha : s.heap.get? a = some (baO b)) (q : Q false s) : wpAny M A (Bytes.ownRelease (.ref a)) Q E s := by
 unfold Bytes.ownRelease Bytes.slotIsOwn
 refine wpAny_bind (wpAny_bind (wpAny_specialOf (ba_type ha) look_ba_release ?_))
 have h1 : (!("bytearray.__release_buffer__".endsWith ("." ++ "__release_buffer__"))) = false := by decide +kernel
 show wpAny M A (if (!("bytearray.__release_buffer__".endsWith ("." ++ "__release_buffer__"))) = true then _ else isInstance (.ref a) (.type ("bytearray.__release_buffer__".dropRight (("__release_buffer__" : String).length + 1)))) _ _ s
 rw [if_neg (by rw [h1]; exact Bool.false_ne_true)]
 have h2 : ("bytearray.__release_buffer__".dropRight (("__release_buffer__" : String).length + 1)) = "bytearray" := by decide +kernel
 rw [h2]
 refine wpAny_isInstance (ba_type ha) sub_ba ?_
 exact wpAny_pure q
theorem wp_ownRelease {M : Model} {Γ : Ctx} {a : Nat} {b : Array UInt8} {Q : Bool → Pos → Shared → Prop} {E : Value → Pos → Shared → Prop} {p : Pos} {s : Shared} (ha : s.heap.get? a = some (baO b)) (q : ∀ p',Q false p' s) : Sem.wp M Γ (Bytes.ownRelease (.ref a)) Q E p s :=
  Sem.wp_mono _ _ _ (fun r p' s' h => by obtain ⟨rfl,rfl⟩ := h; exact q p') (fun _ _ _ h => h.elim) _ _ (wp_any (Q := fun r s' => r = false ∧ s' = s) (E := fun _ _ => False) fun A => own_release ha ⟨rfl,rfl⟩)
theorem bind0 : Bytes.bindOptional "bytearray.__init__" "bytearray" ["source","encoding","errors"] [] [] = pure [none,none,none] := by kernel_rfl
theorem Kept.ba {s : Shared} {a k : Nat} {b : Array UInt8} {f : Array UInt8 → Array UInt8} (ha : s.heap.get? a = some (baO b)) : Kept s { s with heap := s.heap.update a (Obj.mapBytearray f),toks := k } [a] := by
 have hs' : Heap.SameBut a s.heap (s.heap.update a (Obj.mapBytearray f)) := Heap.SameBut.update ..
 exact ⟨fun y o e hy => (hs'.2 y fun h => hy (by rw [h]; exact List.mem_cons_self ..)).trans e,by rw [hs'.1]; exact Nat.le_refl _,rfl,rfl⟩
noncomputable def initC0 : CF := ⟨990,9800,false,true,(fun b => b),none,fun c as _ =>
 { code := .builtin "bytearray.__init__" ⟨[.ref (A as 0)],[]⟩
   own := [baO #[]],nn := 0,nt := 0
   res := fun _ _ => .ok (.ret .none)
   upd := fun _ _ => [baO #[]]
   new := fun _ _ => [] }⟩
theorem initC0_ok (w : World) (kt : KT) : Ctr (model prog w) kt initC0 := fun bl c as os _ _ _ _ => by
 refine ctr_wp fun Γ p s hc _ hgf hd hu hst hown hnd => ?_
 cases as with
 | nil => exact hown.elim
 | cons a as =>
 have := own_nil hown.2
 subst this
 have ha : s.heap.get? a = some (baO #[]) := hown.1
 show Sem.wp (model prog w) Γ ((model prog w).den (.builtin "bytearray.__init__" ⟨[.ref a],[]⟩)) _ _ p s
 rw [den_builtin entry_ba_init]
 unfold Builtin.«bytearray.__init__»
 have hall : ∀ p,allFree ((Γ.code,p) :: Γ.below) := fun p y hy => by
  rcases List.mem_cons.mp hy with rfl | hy
  · rw [hc]; show free (.builtin "bytearray.__init__" _) = true; kernel_rfl
  · exact hgf rfl y hy
 dsimp only
 rw [Sem.wp_bind']
 refine wp_ownRelease ha fun p' => ?_
 rw [if_neg Bool.false_ne_true,bind0]
 show Sem.wp (model prog w) Γ ((Bytes.exported (.ref a) <||> (do return (← Bytes.exportsOf (.ref a)) > 0)) >>= _) _ _ _ s
 simp only [orM,Sem.wp_bind']
 refine wp_exported (hall _) ?_
 show Sem.wp _ Γ (Bytes.exportsOf (.ref a) >>= fun n => pure (decide (n > 0))) _ _ _ s
 unfold Bytes.exportsOf
 simp only [Sem.wp_bind']
 refine (Sem.wp_load_of _ Γ _ _ s ha _).mpr ?_
 show Sem.wp (model prog w) Γ (Bytes.write (.ref a) (fun _ => #[]) >>= fun _ => ret .none) _ _ _ s
 rw [Sem.wp_bind']
 refine wp_writeBa ha (by simp) ?_
 exact ⟨[],[],rfl,rfl,List.nodup_nil,fun _ h => (nomatch h),rfl,⟨Heap.get?_update_self _ ha rfl,trivial⟩,trivial,Kept.ba (k := s.toks) ha⟩
theorem look_ba_bytes : typeLookup (.type "bytearray") "__bytes__" = pure none := by rw [typeLookup_type,builtinLookup_eq_fast]; kernel_rfl
theorem look_ba_index : typeLookup (.type "bytearray") "__index__" = pure none := by rw [typeLookup_type,builtinLookup_eq_fast]; kernel_rfl
theorem look_ba_buffer : typeLookup (.type "bytearray") "__buffer__" = pure (some (.builtin "bytearray.__buffer__")) := by rw [typeLookup_type,builtinLookup_eq_fast]; kernel_rfl
theorem slot_buffer {M : Model} {A : Around} {a : Nat} {b : Array UInt8} {Q : Bool → Shared → Prop} {E : Value → Shared → Prop} {s : Shared} (ha : s.heap.get? a = some (baO b)) (q : Q true s) : wpAny M A (Bytes.slotIsOwn (.ref a) "__buffer__") Q E s := by
 unfold Bytes.slotIsOwn
 refine wpAny_bind (wpAny_specialOf (ba_type ha) look_ba_buffer ?_)
 have h1 : (!("bytearray.__buffer__".endsWith ("." ++ "__buffer__"))) = false := by decide +kernel
 show wpAny M A (if (!("bytearray.__buffer__".endsWith ("." ++ "__buffer__"))) = true then _ else isInstance (.ref a) (.type ("bytearray.__buffer__".dropRight (("__buffer__" : String).length + 1)))) _ _ s
 rw [if_neg (by rw [h1]; exact Bool.false_ne_true)]
 have h2 : ("bytearray.__buffer__".dropRight (("__buffer__" : String).length + 1)) = "bytearray" := by decide +kernel
 rw [h2]
 exact wpAny_isInstance (ba_type ha) sub_ba q
theorem buffer_ba {M : Model} {A : Around} {nm : String} {full : Bool} {a : Nat} {b : Array UInt8} {Q : Option (Array UInt8) → Shared → Prop} {E : Value → Shared → Prop} {s : Shared} (ha : s.heap.get? a = some (baO b)) (q : Q (some b) s) : wpAny M A (Bytes.buffer? nm (.ref a) full) Q E s := by
 unfold Bytes.buffer?
 refine wpAny_bind (wpAny_specialOf (ba_type ha) look_ba_buffer ?_)
 refine wpAny_bind (slot_buffer ha ?_)
 refine wpAny_bind (wpAny_specialOf (ba_type ha) look_ba_buffer ?_)
 refine wpAny_bind (own_release ha ?_)
 refine wpAny_bind ?_
 unfold Bytes.payload Bytes.payload?
 refine wpAny_bind (wpAny_bind (wpAny_load ha ?_))
 exact wpAny_pure (wpAny_pure (wpAny_pure q))
noncomputable def bytesOfC (b : Array UInt8) : CF := ⟨990,9800,false,false,(fun b => b),none,fun c as _ =>
 { code := .builtin "bytes.__new__" ⟨[.type "bytes",.ref (A as 0)],[]⟩
   own := [baO b],nn := 0,nt := 1
   res := fun _ tk => .ok (.ret (.bytes b (A tk 0)))
   upd := fun _ _ => [baO b]
   new := fun _ _ => [] }⟩
theorem bytesOfC_ok (w : World) (kt : KT) (b : Array UInt8) (hb : b.size ≤ 1000) : Ctr (model prog w) kt (bytesOfC b) := fun bl c as os _ _ _ _ =>
 ctr_any fun R s hd hu _ _ hst hown _ => by
  cases as with
  | nil => exact hown.elim
  | cons a as =>
  have := own_nil hown.2
  subst this
  have ha : s.heap.get? a = some (baO b) := hown.1
  show codeAny _ R (.builtin "bytes.__new__" ⟨[.type "bytes",.ref a],[]⟩) _ s
  refine codeAny_builtin F.bm_entry ?_
  rw [Around.under_plainId F.bm_plain]
  unfold Builtin.«bytes.__new__»
  refine wpAny_bind (wpAny_of_eq (a := true) rfl ?_)
  refine bm_if_false rfl ?_
  refine wpAny_bind (wpAny_of_eq F.bm_sub ?_)
  refine bm_if_false rfl ?_
  refine wpAny_bind (wpAny_of_eq (F.bm_bind _) ?_)
  refine wpAny_bind (wpAny_of_eq (a := ()) rfl ?_)
  refine wpAny_bind (wpAny_of_eq (a := ()) rfl ?_)
  refine bm_if_false rfl ?_
  refine wpAny_bind (wpAny_specialOf (ba_type ha) look_ba_bytes ?_)
  refine wpAny_bind (wpAny_bind ?_)
  show wpAny _ _ (load a >>= _) _ _ _
  refine wpAny_bind (wpAny_load ha ?_)
  refine wpAny_pure (wpAny_pure ?_)
  refine bm_if_false rfl ?_
  refine wpAny_bind (wpAny_specialOf (ba_type ha) look_ba_index ?_)
  refine bm_if_true rfl ?_
  first
   | show wpAny _ _ (Builtin.Bytes.buffer? "bytes.__new__" (.ref a) true >>= _) _ _ _
   | (refine wpAny_bind ?_; show wpAny _ _ (Builtin.Bytes.buffer? "bytes.__new__" (.ref a) true >>= _) _ _ _)
  refine wpAny_bind (buffer_ba ha ?_)
  refine wpAny_bind (wpAny_rule ?_)
  refine wpAny_bind ?_
  refine wpAny_mkBytes (b := b) ?_ (by show _ ≤ 2 ^ 24; omega)
  have fin : Post [a] ((bytesOfC b).F c [a] os) s (.ok (.ret (.bytes b s.toks))) { s with toks := s.toks + 1 } := ⟨[],[s.toks],rfl,rfl,List.nodup_nil,fun _ h => (nomatch h),rfl,⟨ha,trivial⟩,trivial,.toks ..⟩
  show wpAny _ _ (if (Value.type "bytes" == Value.type "bytes") = true then _ else _) _ _ _
  refine bm_if_true (by decide) ?_
  first
   | exact wpAny_pure fin
   | exact wpAny_bind (wpAny_pure (wpAny_pure fin))
theorem ctr_reads {prog : Program} {w : World} {kt : KT} {D U : Nat} {calm gf : Bool} {bl : List (Code × Pos)} {as : List Nat} {own : List Obj} {id : String} {args : Args} {B : Builtin} {S : Spec} {nt : Nat} {v : List Nat → Value} (plain : plainId id = true) (entry : entryFor table id = some B) (g : MeetsIn prog w (B args) S)
  (hS : ∀ A s R,A.depth ≤ D → A.units ≤ U → (∀ a o,kt.get a = some o → s.heap.get? a = some o) → Own s.heap as own → (∀ (tks : List Nat) k,tks.length = nt → R (.ok (.ret (v tks))) { s with toks := k }) → S A R s) :
  Ctr1 (model prog w) kt D U calm gf bl as ⟨.builtin id args,own,0,nt,fun _ tk => .ok (.ret (v tk)),fun _ _ => own,fun _ _ => []⟩ :=
 ctr_any fun A s hd hu _ _ hst hown _ => by
  refine codeAny_builtin entry ?_
  rw [Around.under_plainId plain]
  exact g A _ s (hS A s _ hd hu hst hown fun tks k hl => ⟨[],tks,rfl,hl,List.nodup_nil,fun _ h => (nomatch h),rfl,hown,trivial,.toks ..⟩)
noncomputable def partV (x : Option Int) (t : Nat) : Value := match x with | none => .none | some i => .int i t
noncomputable def slO (lo hi : Option Int) (t u : Nat) : Obj := ⟨.type "slice",none,.fields #[partV lo t,partV hi u,.none],#[]⟩
noncomputable def fldT (o : Obj) (i : Nat) : Nat := match o.data with | .fields vs => tokV (vs.toList.getD i .none) | _ => 0
noncomputable def slC (b : Array UInt8) (lo hi : Option Int) : CF := ⟨990,9800,false,false,(fun b => b),none,fun c as os =>
  ⟨.builtin "bytes.__getitem__" ⟨[.bytes b (tokV (argOf c 0)),.ref (A as 0)],[]⟩,[slO lo hi (fldT (os.getD 0 default) 0) (fldT (os.getD 0 default) 1)],0,1,fun _ tk => .ok (.ret (.bytes (KBy.picked b lo hi) (A tk 0))),fun _ _ => [slO lo hi (fldT (os.getD 0 default) 0) (fldT (os.getD 0 default) 1)],fun _ _ => []⟩⟩
theorem slC_ok (w : World) (kt : KT) (b : Array UInt8) (lo hi : Option Int) (hb : b.size ≤ 1000) : Ctr (model prog w) kt (slC b lo hi) := fun bl c as os _ _ _ _ => by
 have part : ∀ (x : Option Int) t,IsPart (partV x t) x := fun x t => by cases x <;> constructor
 refine ctr_reads (v := fun tk => .bytes (KBy.picked b lo hi) (A tk 0)) (by decide +kernel) FB.entry_bytes_getitem ((KBc.meets_slice2 b _ _ (part lo (fldT (os.getD 0 default) 0)) (part hi (fldT (os.getD 0 default) 1))).inModel prog w) fun R s Q hd hu _ hown hQ => ?_
 cases as with
 | nil => exact hown.elim
 | cons a as =>
  exact ⟨⟨_,hown.1,rfl,rfl⟩,Nat.le_trans (KBc.size_picked_le b lo hi) (by show _ ≤ 2 ^ 24; omega),fun t' k => hQ [t'] k rfl⟩
noncomputable def eqC (b c : Array UInt8) (r : Bool) : CF := ⟨990,9800,false,false,(fun b => b),none,fun cd _ _ => pureP (.builtin "bytes.__eq__" ⟨[.bytes b (tokV (argOf cd 0)),.bytes c (tokV (argOf cd 1))],[]⟩) 0 fun _ => .bool r⟩
theorem eqC_ok (w : World) (kt : KT) (b c : Array UInt8) (r : Bool) (h : (b.toList == c.toList) = r) : Ctr (model prog w) kt (eqC b c r) := fun bl cd as os _ _ _ _ =>
  ctr_gives (by decide +kernel) FB.entry_bytes_eq (gives_bytes_eq _ _ _ _) fun s Q hQ => by rw [h]; exact hQ [] s.toks rfl
noncomputable def itO (v left : Int) : Obj := ⟨.type "range_iterator",none,.fields #[.int v 0,.int left 0,.int 1 0],#[]⟩
noncomputable def rgO (a b : Int) (t u v : Nat) : Obj := ⟨.type "range",none,.fields #[.int a t,.int b u,.int 1 v],#[]⟩
theorem Kept.push (s : Shared) (o : Obj) (k : Nat) (as : List Nat) : Kept s { s with heap := s.heap.push o,toks := k } as :=
  ⟨fun _ _ e _ => Heap.get?_push_of_some _ e,by show _ ≤ (s.heap.push o).objs.size; rw [Heap.size_push]; exact Nat.le_succ _,rfl,rfl⟩
theorem Own.push {h : Heap} {o : Obj} {as : List Nat} {os : List Obj} (H : Own h as os) : Own (h.push o) as os := by
 induction as generalizing os with
 | nil =>
  cases os with
  | nil => trivial
  | cons _ _ => exact H.elim
 | cons a as ih =>
  cases os with
  | nil => exact H.elim
  | cons x os => exact ⟨Heap.get?_push_of_some _ H.1,ih H.2⟩
noncomputable def rgC (a b n : Int) : CF := ⟨990,9800,false,false,(fun b => b),none,fun c as os =>
 ⟨.builtin "range.__iter__" ⟨[.ref (A as 0)],[]⟩,[rgO a b (fldT (os.getD 0 default) 0) (fldT (os.getD 0 default) 1) (fldT (os.getD 0 default) 2)],1,0,fun ad _ => .ok (.ret (.ref (A ad 0))),
  fun _ _ => [rgO a b (fldT (os.getD 0 default) 0) (fldT (os.getD 0 default) 1) (fldT (os.getD 0 default) 2)],fun _ _ => [itO a n]⟩⟩
theorem rgC_ok (w : World) (kt : KT) (a b n : Int) (ha : -1000000 ≤ a ∧ a ≤ 1000000) (hb : -1000000 ≤ b ∧ b ≤ 1000000) (hn : (if a < b then b - a else 0) = n) : Ctr (model prog w) kt (rgC a b n) := fun bl c as os _ _ _ _ => by
 refine ctr_any fun R s hd hu _ _ hst hown _ => ?_
 cases as with
 | nil => exact hown.elim
 | cons r as =>
 have := own_nil hown.2
 subst this
 have hsz : Range.rangeSize a b 1 = n := by
  unfold Range.rangeSize
  rw [if_pos (by decide),← hn]
  split
  · rw [Int.ediv_one]; omega
  · rfl
 have hn2 : -1 ≤ n ∧ n ≤ 2000000 := by rw [← hn]; split <;> omega
 have hsmall : (Range.rangeFitsLong a && Range.rangeFitsLong b && Range.rangeFitsLong 1 && Range.rangeFitsLong (Range.rangeSize a b 1) && (Range.rangeSize a b 1 == 0 || if (1 : Int) > 0 then Range.rangeFitsLong (b + (1 - 1)) else Range.rangeFitsLong (b + (1 + 1)))) = true := by
  rw [hsz]
  have f : ∀ x : Int,-2000000 ≤ x → x ≤ 2000001 → Range.rangeFitsLong x = true := fun x h1 h2 => by
    unfold Range.rangeFitsLong
    simp only [Bool.and_eq_true,decide_eq_true_eq]
    omega
  rw [f a (by omega) (by omega),f b (by omega) (by omega),f 1 (by omega) (by omega),f n (by omega) (by omega),if_pos (by decide),f (b + (1 - 1)) (by omega) (by omega)]
  simp
 show codeAny _ R (.builtin "range.__iter__" ⟨[.ref r],[]⟩) _ s
 refine codeAny_builtin F.entry_range_iter ?_
 rw [Around.under_plainId (by decide +kernel)]
 refine (AutoRange.range___iter___range_1 r a b 1 _ _ _ (by rw [hsmall]; decide)).inModel prog (w) R _ s ⟨hown.1,?_⟩
 rw [if_pos hsmall,hsz]
 have hg : (s.heap.push (itO a n)).get? s.heap.objs.size = some (itO a n) := Heap.get?_push_size _ rfl
 have hb' : ∀ x ∈ [s.heap.objs.size],s.heap.objs.size ≤ x ∧ x < (s.heap.push (itO a n)).objs.size := by
  intro x hx
  rw [List.mem_singleton] at hx
  rw [hx,Heap.size_push]
  exact ⟨Nat.le_refl _,Nat.lt_succ_self _⟩
 exact ⟨[s.heap.objs.size],[],rfl,rfl,by simp,hb',rfl,Own.push hown,⟨hg,trivial⟩,Kept.push s (itO a n) s.toks _⟩
abbrev LN := List Nat
section
variable (r : LN)
noncomputable def j0 : LN := 0 :: 0 :: r
noncomputable def j1 : LN := j0 (0 :: r)
noncomputable def j2 : LN := j1 (2 :: r)
noncomputable def j3 : LN := 2 :: 2 :: r
noncomputable def j4 : LN := j0 (j2 r)
noncomputable def j5 : LN := 2 :: 0 :: r
noncomputable def j6 : LN := j3 (2 :: r)
noncomputable def j7 : LN := j0 (j0 r)
noncomputable def j8 : LN := j2 (j2 (j5 r))
noncomputable def j9 : LN := j4 (j5 r)
noncomputable def j10 : LN := j4 (j9 r)
noncomputable def j11 : LN := j3 (j6 r)
noncomputable def j12 : LN := j3 (j3 r)
noncomputable def j13 : LN := j0 (2 :: r)
noncomputable def j14 : LN := j4 (j7 r)
noncomputable def j15 : LN := 0 :: j5 r
noncomputable def j16 : LN := j4 (j14 r)
noncomputable def j17 : LN := j16 (j13 r)
noncomputable def j18 : LN := j15 (2 :: r)
noncomputable def j19 : LN := 4 :: j1 r
noncomputable def j20 : LN := 1 :: 2 :: r
noncomputable def j21 : LN := 4 :: j3 r
noncomputable def j22 : LN := 3 :: 2 :: r
noncomputable def j23 : LN := j11 (3 :: r)
noncomputable def j24 : LN := 0 :: j21 r
noncomputable def j25 : LN := 4 :: j8 (4 :: r)
noncomputable def j26 : LN := j7 (j7 r)
noncomputable def j27 : LN := j6 (j20 r)
noncomputable def j28 : LN := j4 (j18 r)
noncomputable def j29 : LN := 3 :: j23 r
noncomputable def j30 : LN := j28 (j4 r)
noncomputable def j31 : LN := j2 (j18 (j2 r))
noncomputable def j32 : LN := 4 :: 2 :: r
noncomputable def j33 : LN := 2 :: 1 :: r
noncomputable def j34 : LN := j32 (4 :: r)
noncomputable def j35 : LN := 4 :: j25 r
noncomputable def j36 : LN := 5 :: j10 (5 :: r)
noncomputable def j37 : LN := j2 (j2 (j7 (2 :: r)))
noncomputable def j38 : LN := 0 :: 2 :: r
noncomputable def j39 : LN := 5 :: j3 r
noncomputable def j40 : LN := j0 (j4 r)
noncomputable def j41 : LN := j30 (j24 r)
noncomputable def j42 : LN := j12 (3 :: r)
noncomputable def j43 : LN := j31 (j24 r)
noncomputable def j44 : LN := j40 (j0 r)
noncomputable def j45 : LN := 3 :: 3 :: r
noncomputable def j46 : LN := 2 :: j20 r
noncomputable def j47 : LN := 14 :: j17 (15 :: r)
noncomputable def j48 : LN := j42 (j29 (j29 r))
noncomputable def j49 : LN := j6 (1 :: r)
noncomputable def j50 : LN := 8 :: j3 r
noncomputable def j51 : LN := j11 (j20 r)
noncomputable def j52 : LN := j3 (5 :: r)
noncomputable def j53 : LN := j38 (j1 r)
noncomputable def j54 : LN := j34 (j43 r)
noncomputable def j55 : LN := 14 :: j10 (15 :: r)
noncomputable def j56 : LN := j17 (8 :: r)
noncomputable def j57 : LN := 7 :: j56 r
noncomputable def j58 : LN := j48 (j22 r)
noncomputable def j59 : LN := j57 (j19 r)
noncomputable def j60 : LN := 7 :: j10 (8 :: r)
noncomputable def j61 : LN := 4 :: 4 :: r
noncomputable def j62 : LN := j12 (j3 r)
noncomputable def j63 : LN := j41 (j61 r)
noncomputable def j64 : LN := j44 (j9 r)
noncomputable def j65 : LN := j51 (j36 r)
noncomputable def j66 : LN := j47 (j19 r)
noncomputable def j67 : LN := j22 (j39 r)
noncomputable def j68 : LN := j11 (1 :: r)
noncomputable def j69 : LN := j12 (j62 r)
noncomputable def j70 : LN := j26 (j26 r)
noncomputable def j71 : LN := j33 (j5 r)
noncomputable def j72 : LN := 5 :: j8 (5 :: r)
noncomputable def j73 : LN := j38 (j7 r)
noncomputable def j74 : LN := j10 (4 :: r)
noncomputable def j75 : LN := j70 (j26 r)
noncomputable def j76 : LN := j33 (j53 r)
noncomputable def j77 : LN := j45 (j3 r)
noncomputable def j78 : LN := j22 (j45 r)
noncomputable def j79 : LN := 0 :: j19 r
noncomputable def j80 : LN := j68 (j3 r)
noncomputable def j81 : LN := j55 (17 :: r)
noncomputable def j82 : LN := j35 (4 :: r)
noncomputable def j83 : LN := j17 (4 :: r)
noncomputable def j84 : LN := j75 (j7 r)
noncomputable def j85 : LN := j3 (0 :: r)
noncomputable def j86 : LN := j71 (3 :: r)
noncomputable def j87 : LN := j31 (0 :: r)
noncomputable def j88 : LN := j52 (2 :: r)
noncomputable def j89 : LN := j88 (j36 (j34 r))
noncomputable def j90 : LN := j73 (j1 r)
noncomputable def j91 : LN := j5 (j5 r)
noncomputable def j92 : LN := 38 :: j8 r
noncomputable def j93 : LN := 6 :: j37 (7 :: r)
noncomputable def j94 : LN := 6 :: j6 r
noncomputable def j95 : LN := j92 (39 :: r)
noncomputable def j96 : LN := j82 (j59 r)
noncomputable def j97 : LN := j0 (8 :: r)
noncomputable def j98 : LN := j49 (j13 r)
noncomputable def j99 : LN := j3 (j54 r)
noncomputable def j100 : LN := j12 (j69 r)
noncomputable def j101 : LN := j60 (9 :: r)
noncomputable def j102 : LN := j6 (5 :: r)
noncomputable def j103 : LN := j30 (0 :: r)
noncomputable def j104 : LN := j93 (0 :: r)
noncomputable def j105 : LN := j72 (j35 r)
noncomputable def j106 : LN := 3 :: j87 r
noncomputable def j107 : LN := j80 (j106 r)
noncomputable def j108 : LN := j22 (j50 r)
noncomputable def j109 : LN := j8 (28 :: r)
noncomputable def j110 : LN := j12 (j39 r)
noncomputable def j111 : LN := j44 (j14 r)
noncomputable def j112 : LN := 2 :: j77 r
noncomputable def j113 : LN := j33 (j13 r)
noncomputable def j114 : LN := 10 :: j8 (11 :: r)
noncomputable def j115 : LN := j63 (j63 (j74 r))
noncomputable def j116 : LN := 8 :: j12 r
noncomputable def j117 : LN := j83 (j19 r)
noncomputable def j118 : LN := j81 (j109 r)
noncomputable def j119 : LN := j49 (j52 (j103 (j39 (j61 r))))
noncomputable def j120 : LN := 8 :: 2 :: r
noncomputable def j121 : LN := j65 (5 :: r)
noncomputable def j122 : LN := j27 (j36 r)
noncomputable def j123 : LN := j23 (j100 r)
noncomputable def j124 : LN := 6 :: j12 r
noncomputable def j125 : LN := j99 (j54 r)
noncomputable def j126 : LN := j61 (4 :: r)
noncomputable def j127 : LN := j34 (j41 r)
noncomputable def j128 : LN := j37 (28 :: r)
noncomputable def j129 : LN := j33 (0 :: r)
noncomputable def j130 : LN := j16 (2 :: r)
noncomputable def j131 : LN := j12 (j107 r)
noncomputable def j132 : LN := j89 (j83 (0 :: r))
noncomputable def j133 : LN := j102 (3 :: r)
noncomputable def j134 : LN := j7 (2 :: r)
noncomputable def j135 : LN := 4 :: j6 r
noncomputable def j136 : LN := 8 :: j6 (j13 r)
noncomputable def j137 : LN := j133 (j6 r)
noncomputable def j138 : LN := 6 :: j8 (7 :: r)
noncomputable def j139 : LN := j111 (j134 r)
noncomputable def j140 : LN := j101 (j132 r)
noncomputable def j141 : LN := j50 (j53 r)
noncomputable def j142 : LN := j78 (j45 (j45 (3 :: r)))
noncomputable def j143 : LN := j64 (4 :: r)
noncomputable def j144 : LN := 0 :: j3 r
noncomputable def j145 : LN := 9 :: j6 r
noncomputable def j146 : LN := j125 (j54 r)
noncomputable def j147 : LN := j46 (j105 r)
noncomputable def j148 : LN := j35 (j79 r)
noncomputable def j149 : LN := j33 (j15 r)
noncomputable def j150 : LN := j5 (2 :: r)
noncomputable def j151 : LN := j129 (6 :: j1 r)
noncomputable def j152 : LN := j49 (j3 r)
noncomputable def j153 : LN := j46 (4 :: r)
noncomputable def j154 : LN := j27 (j95 (j35 (j96 r)))
noncomputable def j155 : LN := 10 :: j108 r
noncomputable def j156 : LN := j0 (6 :: r)
noncomputable def j157 : LN := j86 (j145 (j45 r))
noncomputable def j158 : LN := j86 (j0 (j19 r))
noncomputable def j159 : LN := j5 (j3 r)
noncomputable def j160 : LN := j82 (j66 r)
noncomputable def j161 : LN := j0 (j28 (j40 r))
noncomputable def j162 : LN := j78 (3 :: r)
noncomputable def j163 : LN := j57 (4 :: r)
noncomputable def j164 : LN := 0 :: 8 :: r
noncomputable def j165 : LN := 10 :: j10 (11 :: r)
noncomputable def j166 : LN := 7 :: j6 r
noncomputable def j167 : LN := j64 (j126 r)
noncomputable def j168 : LN := j61 (j143 r)
noncomputable def j169 : LN := j0 (65 :: r)
noncomputable def j170 : LN := 113 :: j8 (114 :: r)
noncomputable def j171 : LN := 8 :: j37 (9 :: r)
noncomputable def j172 : LN := j161 (j24 r)
noncomputable def j173 : LN := j94 (j155 r)
noncomputable def j174 : LN := j47 (4 :: r)
noncomputable def j175 : LN := 6 :: j3 r
noncomputable def j176 : LN := 8 :: j104 r
noncomputable def j177 : LN := 10 :: j3 r
noncomputable def j178 : LN := 11 :: j8 (12 :: r)
noncomputable def j179 : LN := 39 :: j52 r
noncomputable def j180 : LN := j124 (j50 (7 :: r))
noncomputable def j181 : LN := j64 (5 :: r)
noncomputable def j182 : LN := 2 :: j7 (3 :: r)
noncomputable def j183 : LN := 8 :: j91 r
noncomputable def j184 : LN := j136 (j118 r)
noncomputable def j185 : LN := j81 (j128 r)
noncomputable def j186 : LN := j27 (j60 (12 :: j37 (13 :: r)))
noncomputable def j187 : LN := j27 (j163 (j165 (j1 r)))
noncomputable def j188 : LN := j6 (j59 r)
noncomputable def j189 : LN := j0 (j35 r)
noncomputable def j190 : LN := j153 (j10 (j126 (j115 (22 :: j110 (96 :: j130 (95 :: j19 r))))))
noncomputable def j191 : LN := j119 (j117 r)
noncomputable def j192 : LN := j119 (j74 r)
noncomputable def j193 : LN := j113 (j25 r)
noncomputable def j194 : LN := j74 (22 :: j89 (j17 (j19 r)))
noncomputable def j195 : LN := j27 (j55 (19 :: j37 (30 :: r)))
noncomputable def j196 : LN := j27 (j174 (96 :: j10 (95 :: j1 r)))
noncomputable def j197 : LN := j6 (j66 r)
noncomputable def j198 : LN := j3 (j68 r)
noncomputable def j199 : LN := 10 :: j6 r
noncomputable def j200 : LN := 13 :: j8 (14 :: r)
noncomputable def j201 : LN := j8 (9 :: r)
noncomputable def j202 : LN := j182 (j38 (j67 r))
noncomputable def j203 : LN := j180 (j123 r)
noncomputable def j204 : LN := j169 (j140 r)
noncomputable def j205 : LN := j97 (j149 r)
noncomputable def j206 : LN := j32 (j32 (j45 (j61 (j32 (j77 r)))))
noncomputable def j207 : LN := 41 :: j37 (42 :: j1 r)
noncomputable def j208 : LN := 54 :: j6 (55 :: j58 (57 :: j116 (j47 (j1 (58 :: j69 (j5 r))))))
noncomputable def j209 : LN := 8 :: j201 r
noncomputable def j210 : LN := j150 (j1 r)
noncomputable def j211 : LN := j98 (j72 r)
noncomputable def j212 : LN := j73 (j0 r)
noncomputable def j213 : LN := j61 (j43 r)
noncomputable def j214 : LN := j46 (j60 (j61 (j115 (9 :: j110 (10 :: j130 (11 :: j19 r))))))
noncomputable def j215 : LN := j0 (4 :: r)
noncomputable def j216 : LN := 2 :: j60 (j79 r)
noncomputable def j217 : LN := j164 (j15 r)
noncomputable def j218 : LN := j147 (0 :: r)
noncomputable def j219 : LN := j136 (j1 r)
noncomputable def j220 : LN := j121 (4 :: j117 r)
noncomputable def j221 : LN := j46 (j104 r)
noncomputable def j222 : LN := j33 (j38 r)
noncomputable def j223 : LN := j5 (j85 r)
noncomputable def j224 : LN := j0 (55 :: r)
noncomputable def j225 : LN := 2 :: j55 (j79 r)
noncomputable def j226 : LN := 65 :: j8 (66 :: r)
noncomputable def j227 : LN := 67 :: j8 (73 :: r)
noncomputable def j228 : LN := j166 (j94 (9 :: r))
noncomputable def j229 : LN := j189 (j39 (5 :: r))
noncomputable def j230 : LN := j164 (0 :: r)
noncomputable def j231 : LN := j127 (j127 (j1 r))
noncomputable def j232 : LN := j61 (j172 r)
noncomputable def j233 : LN := j12 (j11 r)
noncomputable def j234 : LN := 12 :: j8 (13 :: r)
noncomputable def j235 : LN := j105 (5 :: j137 r)
noncomputable def j236 : LN := 9 :: j3 r
noncomputable def j237 : LN := j185 (j1 r)
noncomputable def j238 : LN := j152 (j13 r)
noncomputable def j239 : LN := j99 (j84 r)
noncomputable def j240 : LN := j52 (j36 r)
noncomputable def j241 : LN := j46 (j138 r)
noncomputable def j242 : LN := j46 (j25 r)
noncomputable def j243 : LN := j3 (j231 r)
noncomputable def j244 : LN := 5 :: j181 (j168 r)
noncomputable def j245 : LN := j222 (j84 r)
noncomputable def j246 : LN := j211 (j179 (j235 r))
noncomputable def j247 : LN := j193 (43 :: r)
noncomputable def j248 : LN := j124 (j12 r)
noncomputable def j249 : LN := j122 (17 :: j128 r)
noncomputable def j250 : LN := j80 (j15 r)
noncomputable def j251 : LN := j6 (j60 (j207 r))
noncomputable def j252 : LN := j3 (j95 (j96 r))
noncomputable def j253 : LN := j3 (j59 r)
noncomputable def j254 : LN := 78 :: j6 r
noncomputable def j255 : LN := j113 (3 :: r)
noncomputable def j256 : LN := j91 (2 :: r)
noncomputable def j257 : LN := 128 :: j3 r
noncomputable def j258 : LN := j254 (79 :: j58 (81 :: r))
noncomputable def j259 : LN := j244 (j34 r)
noncomputable def j260 : LN := j228 (j108 r)
noncomputable def j261 : LN := j224 (j140 r)
noncomputable def j262 : LN := j167 (j139 (j19 r))
noncomputable def j263 : LN := j159 (j38 r)
noncomputable def j264 : LN := j116 (j144 r)
noncomputable def j265 : LN := j111 (j13 r)
noncomputable def j266 : LN := j97 (j221 r)
noncomputable def j267 : LN := j69 (j29 (j100 r))
noncomputable def j268 : LN := j55 (22 :: r)
noncomputable def j269 : LN := j35 (j160 r)
noncomputable def j270 : LN := j12 (j256 (j171 (j21 (j1 r))))
noncomputable def j271 : LN := j12 (j170 r)
noncomputable def j272 : LN := j3 (j97 r)
noncomputable def j273 : LN := j0 (25 :: r)
noncomputable def j274 : LN := j65 (j135 (4 :: j41 (j0 (j61 r))))
noncomputable def j275 : LN := j72 (j229 (3 :: r))
noncomputable def j276 : LN := j51 (3 :: j103 r)
noncomputable def j277 : LN := j51 (5 :: j17 (5 :: j215 (j84 r)))
noncomputable def j278 : LN := 126 :: j8 r
noncomputable def j279 : LN := j65 (j0 (99 :: 4 :: j194 r))
noncomputable def j280 : LN := j122 (16 :: j37 (17 :: 0 :: r))
noncomputable def j281 : LN := j192 (40 :: j102 (j95 (5 :: r)))
noncomputable def j282 : LN := j142 (4 :: r)
noncomputable def j283 : LN := j3 (3 :: r)
noncomputable def j284 : LN := j0 (5 :: r)
noncomputable def j285 : LN := 9 :: 2 :: 8 :: r
noncomputable def j286 : LN := 4 :: j66 r
noncomputable def j287 : LN := j118 (193 :: r)
noncomputable def j288 : LN := 5 :: 2 :: r
noncomputable def j289 : LN := j22 (j288 (j135 (j22 r)))
noncomputable def j290 : LN := 127 :: j3 r
noncomputable def j291 : LN := j142 (8 :: r)
noncomputable def j292 : LN := 0 :: j50 (0 :: r)
noncomputable def j293 : LN := 2 :: j45 (5 :: j206 r)
noncomputable def j294 : LN := 4 :: j21 r
noncomputable def j295 : LN := j275 (j12 r)
noncomputable def j296 : LN := j238 (j25 r)
noncomputable def j297 : LN := j199 (11 :: r)
noncomputable def j298 : LN := j175 (j11 r)
noncomputable def j299 : LN := j75 (j0 r)
noncomputable def j300 : LN := j68 (j13 r)
noncomputable def j301 : LN := j49 (j144 r)
noncomputable def j302 : LN := j49 (j0 (j12 r))
noncomputable def j303 : LN := j48 (j29 (j22 r))
noncomputable def j304 : LN := j32 (j25 r)
noncomputable def j305 : LN := j1 (13 :: r)
noncomputable def j306 : LN := 10 :: j22 r
noncomputable def j307 : LN := 16 :: j8 (17 :: r)
noncomputable def j308 : LN := 22 :: j8 (23 :: r)
noncomputable def j309 : LN := 51 :: j8 (52 :: r)
noncomputable def j310 : LN := 70 :: j6 r
noncomputable def j311 : LN := 0 :: 4 :: r
noncomputable def j312 : LN := j86 (j311 r)
noncomputable def j313 : LN := j219 (9 :: j76 (10 :: r))
noncomputable def j314 : LN := j121 (2 :: j1 r)
noncomputable def j315 : LN := j10 (7 :: r)
noncomputable def j316 : LN := 7 :: j12 r
noncomputable def j317 : LN := 8 :: j5 r
noncomputable def j318 : LN := 14204 :: 138 :: r
noncomputable def j319 : LN := 15504 :: 151 :: r
noncomputable def j320 : LN := 17404 :: 170 :: r
noncomputable def j321 : LN := j242 (j213 (j284 r))
noncomputable def j322 : LN := j145 (10 :: j58 (12 :: r))
noncomputable def j323 : LN := j63 (j63 r)
noncomputable def j324 : LN := j12 (j1 r)
noncomputable def j325 : LN := j3 (69 :: r)
noncomputable def j326 : LN := j1 (j177 (j250 r))
noncomputable def j327 : LN := 10 :: j270 (12 :: j198 r)
noncomputable def j328 : LN := 14 :: j3 r
noncomputable def j329 : LN := 20 :: j8 (21 :: r)
noncomputable def j330 : LN := 80 :: j6 r
noncomputable def j331 : LN := j200 (9 :: r)
noncomputable def j332 : LN := j71 (4 :: r)
noncomputable def j333 : LN := j62 (3 :: j210 r)
noncomputable def j334 : LN := j6 (6 :: j22 r)
noncomputable def j335 : LN := 6 :: j315 (j171 r)
noncomputable def j336 : LN := j310 (74 :: j12 (68 :: j252 (75 :: j154 (76 :: j154 (77 :: j281 r)))))
noncomputable def j337 : LN := j300 (j13 r)
noncomputable def j338 : LN := j297 (16 :: j282 r)
noncomputable def j339 : LN := j296 (j179 (j295 r))
noncomputable def j340 : LN := j255 (j181 r)
noncomputable def j341 : LN := j248 (j316 (j13 r))
noncomputable def j342 : LN := j173 (j307 r)
noncomputable def j343 : LN := j163 (j7 r)
noncomputable def j344 : LN := j162 (j21 r)
noncomputable def j345 : LN := j153 (j167 (j0 (j14 (j70 r))))
noncomputable def j346 : LN := j101 (j137 r)
noncomputable def j347 : LN := j101 (j88 (j36 r))
noncomputable def j348 : LN := j98 (j101 (j240 (j114 r)))
noncomputable def j349 : LN := j97 (j33 (j0 (j236 r)))
noncomputable def j350 : LN := j85 (j3 r)
noncomputable def j351 : LN := j27 (j227 (j269 r))
noncomputable def j352 : LN := j27 (j59 r)
noncomputable def j353 : LN := j12 (j12 r)
noncomputable def j354 : LN := j8 (75 :: r)
noncomputable def j355 : LN := j0 (58 :: j214 (59 :: j187 (60 :: j186 (60 :: j216 (62 :: j151 (61 :: j85 r))))))
noncomputable def j356 : LN := 13 :: j3 r
noncomputable def j357 : LN := 18 :: j6 r
noncomputable def j358 : LN := 59 :: j188 (67 :: j27 (j226 (j96 (68 :: j191 (69 :: j220 (70 :: j280 (70 :: j1 (71 :: j46 (j226 (j148 (72 :: j218 r)))))))))))
noncomputable def j359 : LN := 77 :: j251 (78 :: j247 r)
noncomputable def j360 : LN := 77 :: j59 r
noncomputable def j361 : LN := 79 :: j330 (77 :: j253 (81 :: j121 (j5 r)))
noncomputable def j362 : LN := 29 :: j3 (j138 (4 :: j116 r))
noncomputable def j363 : LN := j146 (0 :: r)
noncomputable def j364 : LN := 0 :: j304 r
noncomputable def j365 : LN := 3 :: j72 r
noncomputable def j366 : LN := 5 :: j6 r
noncomputable def j367 : LN := 18 :: 8 :: j10 (9 :: r)
noncomputable def j368 : LN := 8 :: j139 (9 :: r)
noncomputable def j369 : LN := 8 :: j265 (9 :: r)
noncomputable def j370 : LN := 8 :: j13 r
noncomputable def j371 : LN := 8 :: j11 r
noncomputable def j372 : LN := 9 :: j8 (10 :: r)
noncomputable def j373 : LN := 109 :: j11 (111 :: j3 (110 :: r))
noncomputable def j374 : LN := j301 (j84 r)
noncomputable def j375 : LN := j178 (j35 r)
noncomputable def j376 : LN := j141 (10 :: j76 (11 :: j158 (12 :: j157 r)))
noncomputable def j377 : LN := j141 (13 :: j76 (14 :: r))
noncomputable def j378 : LN := j129 (j94 (j1 r))
noncomputable def j379 : LN := j50 (j104 r)
noncomputable def j380 : LN := j50 (j15 (j5 r))
noncomputable def j381 : LN := j33 (j42 r)
noncomputable def j382 : LN := j8 (99 :: r)
noncomputable def j383 : LN := j2 (j26 (j7 r))
noncomputable def j384 : LN := j1 (16 :: r)
noncomputable def j385 : LN := 12 :: j3 r
noncomputable def j386 : LN := 22 :: j6 r
noncomputable def j387 : LN := 68 :: j11 (70 :: j325 (j123 r))
noncomputable def j388 : LN := 111 :: 2 :: r
noncomputable def j389 : LN := j274 (j74 (9 :: j132 r))
noncomputable def j390 : LN := j327 (j91 (j91 (j91 (j150 (j93 (j305 (j321 (0 :: r))))))))
noncomputable def j391 : LN := j278 (127 :: r)
noncomputable def j392 : LN := j118 (156 :: r)
noncomputable def j393 : LN := 0 :: j120 r
noncomputable def j394 : LN := 8 :: j223 r
noncomputable def j395 : LN := 70 :: 2 :: r
noncomputable def j396 : LN := 113 :: j3 r
noncomputable def j397 : LN := 120 :: j197 r
noncomputable def j398 : LN := 122 :: j3 r
noncomputable def j399 : LN := 123 :: j3 r
noncomputable def j400 : LN := 145 :: j8 (146 :: r)
noncomputable def j401 : LN := 158 :: j8 (159 :: r)
noncomputable def j402 : LN := 176 :: j237 r
noncomputable def j403 : LN := 186 :: j263 r
noncomputable def j404 : LN := 9 :: 0 :: r
noncomputable def j405 : LN := 140 :: 141 :: r
noncomputable def j406 : LN := 101 :: j197 (115 :: j27 (j170 (j286 (116 :: j249 (116 :: j1 (117 :: j246 (116 :: j66 (118 :: j279 (119 :: j190 (120 :: j196 (121 :: j195 (121 :: j225 (123 :: j151 (122 :: j85 r))))))))))))))
noncomputable def j407 : LN := j375 (j331 r)
noncomputable def j408 : LN := j373 (j123 r)
noncomputable def j409 : LN := j371 (81 :: 85 :: j344 (j15 r))
noncomputable def j410 : LN := j366 (j306 r)
noncomputable def j411 : LN := j112 (9404 :: 90 :: j67 r)
noncomputable def j412 : LN := j340 (j385 r)
noncomputable def j413 : LN := j335 (j1 r)
noncomputable def j414 : LN := j293 (10304 :: 99 :: j67 r)
noncomputable def j415 : LN := j313 (j312 r)
noncomputable def j416 : LN := j287 (j271 r)
noncomputable def j417 : LN := j283 (j223 (j3 r))
noncomputable def j418 : LN := j255 (j109 (39 :: j3 r))
noncomputable def j419 : LN := j241 (j148 r)
noncomputable def j420 : LN := j232 (j34 (j262 r))
noncomputable def j421 : LN := j228 (j22 r)
noncomputable def j422 : LN := j212 (j1 r)
noncomputable def j423 : LN := j202 (j185 r)
noncomputable def j424 : LN := j193 (39 :: r)
noncomputable def j425 : LN := j192 (23 :: j102 r)
noncomputable def j426 : LN := j180 (j11 r)
noncomputable def j427 : LN := j173 (j329 r)
noncomputable def j428 : LN := j156 (j149 r)
noncomputable def j429 : LN := j152 (3 :: r)
noncomputable def j430 : LN := j429 (j30 (j38 r))
noncomputable def j431 : LN := j135 (j370 r)
noncomputable def j432 : LN := j120 (j322 r)
noncomputable def j433 : LN := j51 (j114 (j79 r))
noncomputable def j434 : LN := j49 (j134 r)
noncomputable def j435 : LN := j42 (j159 r)
noncomputable def j436 : LN := j27 (j81 (j383 r))
noncomputable def j437 : LN := j27 (j259 (j143 r))
noncomputable def j438 : LN := j6 (j237 r)
noncomputable def j439 : LN := j6 (j21 r)
noncomputable def j440 : LN := j3 (j120 r)
noncomputable def j441 : LN := j3 (j66 r)
noncomputable def j442 : LN := 7 :: j62 r
noncomputable def j443 : LN := 8 :: j258 (j39 (j91 r))
noncomputable def j444 : LN := 8 :: 128 :: r
noncomputable def j445 : LN := 10 :: j52 r
noncomputable def j446 : LN := 15 :: j8 (16 :: r)
noncomputable def j447 : LN := 17 :: j87 (28 :: j3 r)
noncomputable def j448 : LN := 24 :: j3 r
noncomputable def j449 : LN := 31 :: j353 (j362 r)
noncomputable def j450 : LN := 56 :: j6 r
noncomputable def j451 : LN := 69 :: j354 r
noncomputable def j452 : LN := 86 :: j12 r
noncomputable def j453 : LN := 87 :: j303 (89 :: j116 (j159 (j1 (90 :: j27 (j66 (91 :: j277 (93 :: j90 (94 :: j107 (92 :: j239 (96 :: j90 (97 :: j276 (95 :: j243 (98 :: j98 (j268 (j240 (j234 (98 :: j268 (j137 (91 :: j174 (j7 (99 :: j274 (j194 (100 :: j190 (101 :: j196 (102 :: j195 (102 :: j225 (104 :: j378 (103 :: j85 r))))))))))))))))))))))))))))
noncomputable def j454 : LN := 12304 :: 119 :: r
noncomputable def j455 : LN := j3 (133 :: r)
noncomputable def j456 : LN := j3 (134 :: r)
noncomputable def j457 : LN := 15204 :: j294 r
noncomputable def j458 : LN := 18 :: j8 (19 :: 9 :: r)
noncomputable def j459 : LN := 10 :: j90 (11 :: j131 (9 :: j146 r))
noncomputable def j460 : LN := j122 (18 :: j37 (29 :: 0 :: r))
noncomputable def j461 : LN := j156 (j113 (7 :: 8 :: j267 r))
noncomputable def j462 : LN := j182 (j144 (j78 (4 :: j206 (9504 :: 91 :: j67 r))))
noncomputable def j463 : LN := j202 (j55 (4 :: r))
noncomputable def j464 : LN := j202 (4 :: j26 (j0 (j150 (j9 r))))
noncomputable def j465 : LN := j114 (4 :: r)
noncomputable def j466 : LN := j11 (5 :: j259 (j172 (j168 r)))
noncomputable def j467 : LN := 2 :: 19004 :: j294 r
noncomputable def j468 : LN := 2 :: 99 :: 2 :: 91 :: 2 :: 90 :: 2 :: j120 r
noncomputable def j469 : LN := 2 :: 4 :: j262 r
noncomputable def j470 : LN := 6 :: j64 (7 :: r)
noncomputable def j471 : LN := 6 :: j350 r
noncomputable def j472 : LN := 7 :: j8 (8 :: r)
noncomputable def j473 : LN := 8 :: j64 (9 :: r)
noncomputable def j474 : LN := 9 :: j108 (j114 (j260 (j234 r)))
end
abbrev PB (w : World) (b : Bool) : Params := (w.withFollow "special-get-raises" b).params
abbrev MB (w : World) (b : Bool) : Model := model prog (w.withFollow "special-get-raises" b)
noncomputable def pinO (a : Nat) (o : Obj) : Obj := match Nat.beq a 1495 with
 | true => o
 | false => ⟨.none,none,.freed,#[]⟩
def pin (ad : Nat → Nat) : Nat → Nat
 | 0 => 1495
 | j + 1 => ad (j + 1)
theorem pin_ad (ad : Nat → Nat) (h : ad 0 = 1495) : ∃ ad',ad = pin ad' := ⟨ad,funext fun j => by
 cases j with
 | zero => exact h
 | succ j => rfl⟩
theorem not_freed {h : Heap} {a : Nat} {o : Obj} (e : h.get? a = some o) : o.isFreed = false := by
 unfold Heap.get? at e
 split at e
 · cases e
 · rename_i hx
   obtain ⟨c,d,dt,sl⟩ := o
   cases dt <;> first | rfl | (exfalso; exact hx _ _ _ e)
theorem pin_by {M : Model} {kt : KT} {D U : Nat} {calm gf : Bool} {bl : List (Code × Pos)} {as : List Nat} {P : CPre} {o : Obj} {r : List Obj} (a : Nat) (e : P.own = pinO (A as 0) o :: r) (h : A as 0 = 1495 → Ctr1 M kt D U calm gf bl as P) : Ctr1 M kt D U calm gf bl as P := by
 by_cases q : A as 0 = 1495
 · exact h q
 · intro Γ p s _ _ _ _ _ _ _ hown
   exfalso
   rw [e] at hown
   cases as with
   | nil => exact hown.elim
   | cons x as =>
    have hx : s.heap.get? x = some (pinO x o) := hown.1
    have : Nat.beq x 1495 = false := by
     cases hb : Nat.beq x 1495 with
     | false => rfl
     | true => exact absurd (Nat.eq_of_beq_eq_true hb) q
    have z := not_freed hx
    unfold pinO at z
    rw [this] at z
    cases z
noncomputable def mt (a b c d : Nat) : List Nat → List Nat
 | [] => []
 | x :: r => match Nat.ble x 1 with
  | true => x :: mt a b c d r
  | false => match Nat.beq x 2 with
   | true => a :: mt a b c d r
   | false => match Nat.beq x 3 with
    | true => b :: mt b a c d r
    | false => match Nat.beq x 4 with
     | true => c :: mt c a b d r
     | false => match Nat.beq x 5 with
      | true => d :: mt d a b c r
      | false => (x - 4) :: mt (x - 4) a b c r
abbrev HL (M : Model) (kt : KT) := {l : List Hint // ∀ h ∈ l,HOk M kt h}
section
variable {M : Model} {kt : KT}
noncomputable def Yn : HL M kt := ⟨[],fun _ h => nomatch h⟩
noncomputable def Yh (l : List Nat) (r : HL M kt) : HL M kt := ⟨H (mt 0 0 0 0 l) ++ r.1,ok_app (H_ok _) r.2⟩
noncomputable def Yk {C : CF} (n : Nat) (idx : List Nat) (x : Ctr M kt C) (r : HL M kt) (nd : idx.Nodup := by decide) : HL M kt := ⟨[.c n idx C] ++ r.1,ok_app (ok_c x nd) r.2⟩
noncomputable def Yc {C : CF} (idx : List Nat) (x : Ctr M kt C) (r : HL M kt) (nd : idx.Nodup := by decide) : HL M kt := ⟨[.c 0 idx C] ++ r.1,ok_app (ok_c x nd) r.2⟩
noncomputable def Yl {C : CF} (n : Nat) (idx : List Nat) (x : Ctr M kt C) (r : HL M kt) (nd : idx.Nodup := by decide) : HL M kt := ⟨[.d n idx C] ++ r.1,ok_app (ok_d x nd) r.2⟩
noncomputable def Yd {C : CF} (idx : List Nat) (x : Ctr M kt C) (r : HL M kt) (nd : idx.Nodup := by decide) : HL M kt := ⟨[.d 0 idx C] ++ r.1,ok_app (ok_d x nd) r.2⟩
noncomputable def YK (n : Nat) (idx : List Nat) (C : CF) (x : Ctr M kt C) (r : HL M kt) (nd : idx.Nodup := by decide) : HL M kt := ⟨[.c n idx C] ++ r.1,ok_app (ok_c x nd) r.2⟩
noncomputable def YC (idx : List Nat) (C : CF) (x : Ctr M kt C) (r : HL M kt) (nd : idx.Nodup := by decide) : HL M kt := ⟨[.c 0 idx C] ++ r.1,ok_app (ok_c x nd) r.2⟩
noncomputable def YL (n : Nat) (idx : List Nat) (C : CF) (x : Ctr M kt C) (r : HL M kt) (nd : idx.Nodup := by decide) : HL M kt := ⟨[.d n idx C] ++ r.1,ok_app (ok_d x nd) r.2⟩
noncomputable def YD (idx : List Nat) (C : CF) (x : Ctr M kt C) (r : HL M kt) (nd : idx.Nodup := by decide) : HL M kt := ⟨[.d 0 idx C] ++ r.1,ok_app (ok_d x nd) r.2⟩
noncomputable def Yv (n : Nat) (X F : Nat → Flow) (x : ∀ t,X t = F t) (r : HL M kt) : HL M kt := ⟨[.v n X F] ++ r.1,ok_app (ok_v x) r.2⟩
end
structure Z where
 ad : Nat → Nat
 tk : Nat → Nat
 hd : Option Value
 ow : Option Value
 past : Option Value
 p : Pos
 c : Code
 os : List Obj
 bl : List (Code × Pos)
noncomputable def gZ (C : CF) (k : Nat) (ad : Nat → Nat) (z : Z) : G := ⟨⟨(C.F z.c (span ad 0 k) z.os).code,(match C.calm with | true => none | false => z.hd),z.ow,C.B z.bl,z.past⟩,C.D,C.U,C.gf⟩
noncomputable def eL (V : Cfg) (hs : List Hint) (C : CF) (n k : Nat) (keep : List Nat) (ad : Nat → Nat) (z : Z) :=
  chk (sim V ad z.tk n hs (gZ C k ad z) z.p (V.den (C.F z.c (span ad 0 k) z.os).code) [] (bt (C.F z.c (span ad 0 k) z.os).own) k 0 []) (List.range' 0 k) keep
noncomputable def eR (V : Cfg) (hs : List Hint) (C : CF) (n k : Nat) (keep kept : List Nat) (ad : Nat → Nat) (z : Z) : Option (Result × List Obj × List Obj × List Ob × List (Prop × Ob)) :=
  some ((C.F z.c (span ad 0 k) z.os).res (keep.map ad) (kept.map z.tk),(C.F z.c (span ad 0 k) z.os).upd (keep.map ad) (kept.map z.tk),(C.F z.c (span ad 0 k) z.os).new (keep.map ad) (kept.map z.tk),accR (sim V ad z.tk n hs (gZ C k ad z) z.p (V.den (C.F z.c (span ad 0 k) z.os).code) [] (bt (C.F z.c (span ad 0 k) z.os).own) k 0 []),[])
theorem sg1 {V : Cfg} {M : Model} (O : V.Ok M) {C : CF} {n k : Nat} {hs : HL M V.kt} {keep kept : List Nat} {bl : List (Code × Pos)} {c : Code} {as : List Nat} {os : List Obj} (hB : C.B bl = bl)
  (h : ∀ z : Z,as = span z.ad 0 k → eL V hs.1 C n k keep z.ad z = eR V hs.1 C n k keep kept z.ad z := by intro b _; cases b <;> kernel_rfl)
  (hk : (C.F c as os).own.length = k) (hn : (C.F c as os).nn = keep.length) (ht : (C.F c as os).nt = kept.length) (hkn : keep.Nodup) (hkk : keep.all (Nat.ble k) = true) : Ctr1 M V.kt C.D C.U C.calm C.gf bl as (C.F c as os) :=
 seg O n k hs.1 hs.2 keep kept hk hn ht hkn hkk fun ad tk Γ p hA hcode hbl hcalm => by
  obtain ⟨code,hd,ow,blw,past⟩ := Γ
  have hcode : code = (C.F c as os).code := hcode
  have hbl : blw = bl := hbl
  have hcalm : C.calm = true → hd = none := hcalm
  have e := h ⟨ad,tk,hd,ow,past,p,c,os,bl⟩ hA
  subst hA hcode hbl
  unfold eL eR gZ at e
  dsimp only at e
  rw [hB] at e
  cases hC : C.calm with
  | true =>
   have hz : hd = none := hcalm hC
   subst hz
   rw [hC] at e
   exact e
  | false => rw [hC] at e; exact e
theorem sg {V : Cfg} {M : Model} (O : V.Ok M) {C : CF} (n k : Nat) (hs : HL M V.kt) (keep kept : List Nat) (h : ∀ z : Z,eL V hs.1 C n k keep z.ad z = eR V hs.1 C n k keep kept z.ad z)
  (hk : ∀ c as os,(C.F c as os).own.length = k := by intros; rfl) (hn : ∀ c as os,(C.F c as os).nn = keep.length := by intros; rfl) (ht : ∀ c as os,(C.F c as os).nt = kept.length := by intros; rfl) (hkn : keep.Nodup := by decide) (hkk : keep.all (Nat.ble k) = true := by rfl) : Ctr M V.kt C :=
 fun _ c as os hB _ _ _ => sg1 (n := n) (hs := hs) O hB (fun z _ => h z) (hk c as os) (hn c as os) (ht c as os) hkn hkk
theorem sgP {V : Cfg} {M : Model} (O : V.Ok M) {C : CF} (n k : Nat) (hs : HL M V.kt) (keep kept : List Nat) (h : ∀ z : Z,eL V hs.1 C n (k + 1) keep (pin z.ad) z = eR V hs.1 C n (k + 1) keep kept (pin z.ad) z)
  (hp : ∀ c as os,∃ o r,(C.F c as os).own = pinO (A as 0) o :: r := by intros; exact ⟨_,_,rfl⟩)
  (hk : ∀ c as os,(C.F c as os).own.length = k + 1 := by intros; rfl) (hn : ∀ c as os,(C.F c as os).nn = keep.length := by intros; rfl) (ht : ∀ c as os,(C.F c as os).nt = kept.length := by intros; rfl) (hkn : keep.Nodup := by decide) (hkk : keep.all (Nat.ble (k + 1)) = true := by rfl) : Ctr M V.kt C :=
 fun _ c as os hB _ _ _ => by
  obtain ⟨o,r,e⟩ := hp c as os
  refine pin_by (A as 0) e fun hpin => ?_
  refine sg1 (n := n) (k := k + 1) (hs := hs) (keep := keep) (kept := kept) O hB (fun z hA => ?_) (hk c as os) (hn c as os) (ht c as os) hkn hkk
  have h0 : z.ad 0 = 1495 := by
   rw [hA] at hpin
   exact hpin
  obtain ⟨ad',e'⟩ := pin_ad z.ad h0
  have q := h { z with ad := ad' }
  rw [e']
  exact q
noncomputable def Vm (w : World) (b' : Bool) : Cfg := { V (PB w b') with P := PB w true,P2 := PB w false }
theorem Vm_ok (w : World) (b' : Bool) : (Vm w b').Ok (MB w b') := { V_ok (w.withFollow "special-get-raises" b') with P := match b' with
 | true => .inl rfl
 | false => .inr rfl }
abbrev Ct (w : World) (b' : Bool) (C : CF) : Prop := Ctr (MB w b') (V (PB w b')).kt C
theorem sV {w : World} {b' : Bool} {C : CF} (n k : Nat) (hs : HL (MB w b') (V (PB w b')).kt) (keep kept : List Nat) (h : ∀ z : Z,eL (Vm w b') hs.1 C n k keep z.ad z = eR (Vm w b') hs.1 C n k keep kept z.ad z := by intro _; kernel_rfl)
    (hk : ∀ c as os,(C.F c as os).own.length = k := by intros; rfl) (hn : ∀ c as os,(C.F c as os).nn = keep.length := by intros; rfl) (ht : ∀ c as os,(C.F c as os).nt = kept.length := by intros; rfl) (hkn : keep.Nodup := by decide) (hkk : keep.all (Nat.ble k) = true := by rfl) : Ct w b' C := sg (V := Vm w b') (Vm_ok w b') n k hs keep kept h hk hn ht hkn hkk
theorem sW {w : World} {b' : Bool} {C : CF} (n k : Nat) (hs : HL (MB w b') (V (PB w b')).kt) (keep kept : List Nat) (h : ∀ z : Z,eL (Vm w b') hs.1 C n (k + 1) keep (pin z.ad) z = eR (Vm w b') hs.1 C n (k + 1) keep kept (pin z.ad) z := by intro _; kernel_rfl)
 (hp : ∀ c as os,∃ o r,(C.F c as os).own = pinO (A as 0) o :: r := by intros; exact ⟨_,_,rfl⟩)
 (hk : ∀ c as os,(C.F c as os).own.length = k + 1 := by intros; rfl) (hn : ∀ c as os,(C.F c as os).nn = keep.length := by intros; rfl) (ht : ∀ c as os,(C.F c as os).nt = kept.length := by intros; rfl) (hkn : keep.Nodup := by decide) (hkk : keep.all (Nat.ble (k + 1)) = true := by rfl) : Ct w b' C := sgP (V := Vm w b') (Vm_ok w b') n k hs keep kept h hp hk hn ht hkn hkk
noncomputable def ceL (V : Cfg) (hs : List Hint) (n k D U : Nat) (gf : Bool) (P : CPre) (keep : List Nat) (ad tk : Nat → Nat) (Γ : Ctx) (p : Pos) :=
 chk (sim V ad tk n hs ⟨Γ,D,U,gf⟩ p (V.den P.code) [] (bt P.own) k 0 []) (List.range' 0 k) keep
noncomputable def ceR (V : Cfg) (hs : List Hint) (n k D U : Nat) (gf : Bool) (P : CPre) (keep kl : List Nat) (Q : List (Prop × Ob)) (ad tk : Nat → Nat) (Γ : Ctx) (p : Pos) : Option (Result × List Obj × List Obj × List Ob × List (Prop × Ob)) :=
 some (P.res (keep.map ad) kl,P.upd (keep.map ad) kl,P.new (keep.map ad) kl,accR (sim V ad tk n hs ⟨Γ,D,U,gf⟩ p (V.den P.code) [] (bt P.own) k 0 []),Q)
theorem sq1 {w : World} {b' : Bool} {D U : Nat} {calm gf : Bool} {bl : List (Code × Pos)} {as : List Nat} {P : CPre} (n k : Nat) (hs : HL (MB w b') (V (PB w b')).kt) (keep : List Nat) (kf : (Nat → Nat) → List Nat) (Qs : (Nat → Nat) → (Nat → Nat) → List (Prop × Ob)) (hQs : ∀ ad tk,∀ x ∈ Qs ad tk,x.1 ∧ x.2 = .q True)
  (hk : P.own.length = k) (hn : P.nn = keep.length) (ht : ∀ tk,(kf tk).length = P.nt) (hkn : keep.Nodup) (hkk : keep.all (Nat.ble k) = true)
  (h : ∀ (ad tk : Nat → Nat) (Γ : Ctx) (p : Pos),as = span ad 0 k → Γ.code = P.code → Γ.below = bl → (calm = true → Γ.handled = none) →
   ceL (V (PB w b')) hs.1 n k D U gf P keep ad tk Γ p = ceR (V (PB w b')) hs.1 n k D U gf P keep (kf tk) (Qs ad tk) ad tk Γ p) :
  Ctr1 (MB w b') (V (PB w b')).kt D U calm gf bl as P := segQ (V_ok _) n k hs.1 hs.2 keep kf Qs hQs hk hn ht hkn hkk h
theorem sq {w : World} {b' : Bool} {D U : Nat} {calm gf : Bool} {bl : List (Code × Pos)} {as : List Nat} {P : CPre} (n k : Nat) (hs : HL (MB w b') (V (PB w b')).kt) (keep : List Nat) (kf : (Nat → Nat) → List Nat) (Qs : (Nat → Nat) → (Nat → Nat) → List (Prop × Ob)) (hQs : ∀ ad tk,∀ x ∈ Qs ad tk,x.1 ∧ x.2 = .q True)
  (hk : P.own.length = k) (hn : P.nn = keep.length) (ht : ∀ tk,(kf tk).length = P.nt) (hkn : keep.Nodup) (hkk : keep.all (Nat.ble k) = true)
  (h : ∀ (ad tk : Nat → Nat) (Γ : Ctx) (p : Pos),as = span ad 0 k → Γ.code = P.code → Γ.below = bl → (calm = true → Γ.handled = none) →
   ceL (Vm w b') hs.1 n k D U gf P keep ad tk Γ p = ceR (Vm w b') hs.1 n k D U gf P keep (kf tk) (Qs ad tk) ad tk Γ p) :
  Ctr1 (MB w b') (V (PB w b')).kt D U calm gf bl as P := segQ (V := Vm w b') (Vm_ok w b') n k hs.1 hs.2 keep kf Qs hQs hk hn ht hkn hkk h
theorem so {w : World} {b' : Bool} {D U : Nat} {calm gf : Bool} {bl : List (Code × Pos)} {as : List Nat} {P : CPre} (n k : Nat) (hs : HL (MB w b') (V (PB w b')).kt) (keep kept : List Nat)
  (hk : P.own.length = k) (hn : P.nn = keep.length) (ht : P.nt = kept.length) (hkn : keep.Nodup) (hkk : keep.all (Nat.ble k) = true)
  (h : ∀ (ad tk : Nat → Nat) (Γ : Ctx) (p : Pos),as = span ad 0 k → Γ.code = P.code → Γ.below = bl → (calm = true → Γ.handled = none) →
   ceL (Vm w b') hs.1 n k D U gf P keep ad tk Γ p = ceR (Vm w b') hs.1 n k D U gf P keep (kept.map tk) [] ad tk Γ p) :
  Ctr1 (MB w b') (V (PB w b')).kt D U calm gf bl as P := seg (V := Vm w b') (Vm_ok w b') n k hs.1 hs.2 keep kept hk hn ht hkn hkk h
theorem sf {w : World} {b' : Bool} {D U : Nat} {calm gf : Bool} {bl : List (Code × Pos)} {as : List Nat} {P : CPre} (n k : Nat) (hs : HL (MB w b') (V (PB w b')).kt) (keep : List Nat) (kf : (Nat → Nat) → List Nat)
  (hk : P.own.length = k) (hn : P.nn = keep.length) (ht : ∀ tk,(kf tk).length = P.nt) (hkn : keep.Nodup) (hkk : keep.all (Nat.ble k) = true)
  (h : ∀ (ad tk : Nat → Nat) (Γ : Ctx) (p : Pos),as = span ad 0 k → Γ.code = P.code → Γ.below = bl → (calm = true → Γ.handled = none) →
   ceL (Vm w b') hs.1 n k D U gf P keep ad tk Γ p = ceR (Vm w b') hs.1 n k D U gf P keep (kf tk) [] ad tk Γ p) :
  Ctr1 (MB w b') (V (PB w b')).kt D U calm gf bl as P := sq n k hs keep kf (fun _ _ => []) (fun _ _ _ h => nomatch h) hk hn ht hkn hkk h
noncomputable def entO (o : Obj) (i : Nat) : DictEntry := match o.data with | .dict es _ => es.toList.getD i default | _ => default
noncomputable def kT (os : List Obj) (j i : Nat) : Nat := tokV (entO (os.getD j default) i).key
noncomputable def vE (os : List Obj) (j i : Nat) : Value := (entO (os.getD j default) i).val
noncomputable def vT (os : List Obj) (j i : Nat) : Nat := tokV (vE os j i)
noncomputable def srcO (P : Params) (d : Nat) (k1 k2 tb ta : Nat) (arr : Array UInt8) (at_ : Int) : List Obj :=
  [⟨.ref 1014,some d,.plain,#[]⟩,⟨.type "dict",none,.dict #[K P (.str t489 k1) (.bytes arr tb),K P (.str t337 k2) (.int at_ ta)] 2,#[]⟩]
noncomputable def nextC (P : Params) (arr : Array UInt8) (at_ : Int) (x : UInt8) : CF := ⟨900,9000,false,false,(fun b => b),none,fun c as os =>
 { code := .call (.ref 1004) ⟨[.ref (A as 0)],[]⟩
   own := srcO P (A as 1) (kT os 1 0) (kT os 1 1) (vT os 1 0) (vT os 1 1) arr at_
   nn := 0,nt := 2
   res := fun _ tk => .ok (.ret (.int x.toNat (A tk 0)))
   upd := fun _ tk => srcO P (A as 1) (kT os 1 0) (kT os 1 1) (vT os 1 0) (A tk 1) arr (at_ + 1)
   new := fun _ _ => [] }⟩
theorem nextC_ok (w : World) (b : Bool) (arr : Array UInt8) (at_ : Int) (n : Nat) (x : UInt8) (hn : at_ = n) (hs : arr.size ≤ 1000) (hx : arr[n]? = some x) : Ctr (MB w b) (V (PB w b)).kt (nextC (PB w b) arr at_ x) := by
 have hlt : n < arr.size := (Array.getElem?_eq_some_iff.mp hx).1
 exact sV 200 2 (Yh (j97 (j241 (j189 []))) <| Yd [] (lenC_ok _ _ arr hs) <| Yv 0 (bX (at_ ≥ (arr.size : Int))) (bF false) (bN (by omega)) <| Yh (8 :: j138 (j213 (j35 (j35 [])))) <| YL 1 [] (ixC arr (at_ + 1 - 1) x) (ixC_ok _ _ arr _ n x (by omega) hs hx) <| Yn) [] [13,6]
noncomputable def dO (es : Array DictEntry) (n : Nat) : Obj := ⟨.type "dict",none,.dict es n,#[]⟩
theorem dO_exact (es : Array DictEntry) (n : Nat) : (dO es n).ExactDict := by
  exact ⟨rfl,rfl,rfl⟩
theorem dGet_any {prog : Program} {w : World} {Kt : Type} [DecidableEq Kt] (knd : KeyKind prog w Kt) {R : Around} {s : Shared} {d : Nat} {es : Array DictEntry} {n : Nat} {k : Kt} {key : Value} {Rs : Result → Shared → Prop} {v : Value}
  (ha : s.heap.get? d = some (dO es n)) (hkey : knd.is k key = true) (hk : KeysOf knd es) (hv : findBy knd.is es k = some v) (h : Rs (.ok (.ret v)) { s with toks := s.toks + 1 }) :
  codeAny (model prog w) R (.builtin "dict.__getitem__" ⟨[.ref d,key],[]⟩) Rs s := by
 refine codeAny_builtin entry_dict_getitem ?_
 rw [Around.under_plainId (by decide +kernel)]
 exact meets_dict_getitem knd d hkey R _ s ⟨_,v,⟨_,_,_,ha,dO_exact es n,rfl,hk,fun _ => rfl⟩,hv,h⟩
theorem dSet_any {prog : Program} {w : World} {Kt : Type} [DecidableEq Kt] (knd : KeyKind prog w Kt) {R : Around} {s : Shared} {d : Nat} {es : Array DictEntry} {n : Nat} {k : Kt} {key v : Value} {Rs : Result → Shared → Prop} {i : Nat}
  (ha : s.heap.get? d = some (dO es n)) (hkey : knd.is k key = true) (hk : KeysOf knd es) (hi : (es.findIdx? fun e => knd.is k e.key) = some i)
  (h : Rs (.ok (.ret .none)) { s with heap := s.heap.update d (Obj.mapDict (·.modify i fun e => { e with val := v })),toks := s.toks + 1 }) :
  codeAny (model prog w) R (.builtin "dict.__setitem__" ⟨[.ref d,key,v],[]⟩) Rs s := by
 refine codeAny_builtin entry_dict_setitem ?_
 rw [Around.under_plainId (by decide +kernel)]
 show wpAny _ _ (Builtin.Dict.notOrdered "__setitem__" ⟨[.ref d,key,v],[]⟩ >>= _) _ _ s
 refine wpAny_bind (wpAny_notOrdered_dict ⟨_,ha,rfl⟩ ?_)
 show wpAny _ _ (dictSet d key v >>= _) _ _ s
 refine wpAny_bind ?_
 unfold dictSet
 refine wpAny_holding ?_
 refine wpAny_bind (knd.pyHash hkey ?_)
 unfold dictSetHashed
 refine wpAny_holding ?_
 refine wpAny_bind (wpAny_dictFind_of (s := { s with toks := s.toks + 1 }) hkey ha rfl hk ?_)
 rw [hi]
 exact wpAny_bind (wpAny_rule (wpAny_bind (wpAny_updateDict (s := { s with toks := s.toks + 1 }) ha rfl (wpAny_point (wpAny_pure h)))))
theorem dPut_any {prog : Program} {w : World} {Kt : Type} [DecidableEq Kt] (knd : KeyKind prog w Kt) {R : Around} {s : Shared} {d : Nat} {es : Array DictEntry} {n : Nat} {k : Kt} {key v : Value} {Rs : Result → Shared → Prop}
  (ha : s.heap.get? d = some (dO es n)) (hkey : knd.is k key = true) (hk : KeysOf knd es) (hi : (es.findIdx? fun e => knd.is k e.key) = none) (hz : es.size < 1000)
  (h : Rs (.ok (.ret .none)) { s with heap := s.heap.update d (Obj.mapDictKeys (·.push ⟨knd.hash k,key,v⟩)),toks := s.toks + 1 }) :
  codeAny (model prog w) R (.builtin "dict.__setitem__" ⟨[.ref d,key,v],[]⟩) Rs s := by
 refine codeAny_builtin entry_dict_setitem ?_
 rw [Around.under_plainId (by decide +kernel)]
 show wpAny _ _ (Builtin.Dict.notOrdered "__setitem__" ⟨[.ref d,key,v],[]⟩ >>= _) _ _ s
 refine wpAny_bind (wpAny_notOrdered_dict ⟨_,ha,rfl⟩ ?_)
 show wpAny _ _ (dictSet d key v >>= _) _ _ s
 refine wpAny_bind ?_
 unfold dictSet
 refine wpAny_holding ?_
 refine wpAny_bind (knd.pyHash hkey ?_)
 unfold dictSetHashed
 refine wpAny_holding ?_
 refine wpAny_bind (wpAny_dictFind_of (s := { s with toks := s.toks + 1 }) hkey ha rfl hk ?_)
 rw [hi]
 exact wpAny_bind (wpAny_rule (wpAny_updateDictKeys (s := { s with toks := s.toks + 1 }) (hz := by show es.size ≤ 2 ^ 24; omega) ha rfl (wpAny_pure h)))
noncomputable def deckO (P : Params) (cells c1 c2 : Nat) (at_ : Int) (ta : Nat) : Obj := dO #[K P (.str t494 c1) (.ref cells),K P (.str t337 c2) (.int at_ ta)] 2
theorem deck_keys (w : World) (P : Params) (hP : P = w.params) (cells c1 c2 : Nat) (v : Value) : KeysOf (strKind prog w) #[K P (.str t494 c1) (.ref cells),K P (.str t337 c2) v] := by
 subst hP
 intro e he
 have he : e ∈ [K w.params (.str t494 c1) (.ref cells),K w.params (.str t337 c2) v] := by simpa using he
 rcases List.mem_cons.mp he with rfl | he
 · exact ⟨t494,by kernel_rfl,rfl⟩
 · rcases List.mem_cons.mp he with rfl | he
   · exact ⟨t337,by kernel_rfl,rfl⟩
   · cases he
noncomputable def dkCellsC (P : Params) (at_ : Int) : CF := ⟨990,9800,false,false,(fun b => b),none,fun c as os =>
 { code := .builtin "dict.__getitem__" ⟨[.ref (A as 0),.str t494 (tokV (argOf c 1))],[]⟩
   own := [deckO P (refOf (vE os 0 0)) (kT os 0 0) (kT os 0 1) at_ (vT os 0 1)]
   nn := 0,nt := 0
   res := fun _ _ => .ok (.ret (.ref (refOf (vE os 0 0))))
   upd := fun _ _ => [deckO P (refOf (vE os 0 0)) (kT os 0 0) (kT os 0 1) at_ (vT os 0 1)]
   new := fun _ _ => [] }⟩
where refOf (v : Value) : Nat := match v with | .ref a => a | _ => 0
theorem one_own {h : Heap} {as : List Nat} {o : Obj} (H : Own h as [o]) : ∃ a,as = [a] ∧ h.get? a = some o := by
 cases as with
 | nil => exact H.elim
 | cons a as =>
  have := own_nil H.2
  subst this
  exact ⟨a,rfl,H.1⟩
theorem dkCellsC_ok (w : World) (kt : KT) (P : Params) (hP : P = w.params) (at_ : Int) : Ctr (model prog w) kt (dkCellsC P at_) := fun bl c as os _ _ _ _ =>
 ctr_any fun R s hd hu _ _ hst hown _ => by
  obtain ⟨a,rfl,ha⟩ := one_own hown
  exact dGet_any (strKind prog w) (k := t494) ha (by kernel_rfl) (deck_keys w P hP _ _ _ _) (by kernel_rfl) ⟨[],[],rfl,rfl,List.nodup_nil,fun _ h => (nomatch h),rfl,⟨ha,trivial⟩,trivial,.toks ..⟩
noncomputable def dkAtC (P : Params) (at_ : Int) : CF := ⟨990,9800,false,false,(fun b => b),none,fun c as os =>
 { code := .builtin "dict.__getitem__" ⟨[.ref (A as 0),.str t337 (tokV (argOf c 1))],[]⟩
   own := [deckO P (dkCellsC.refOf (vE os 0 0)) (kT os 0 0) (kT os 0 1) at_ (vT os 0 1)]
   nn := 0,nt := 0
   res := fun _ _ => .ok (.ret (.int at_ (vT os 0 1)))
   upd := fun _ _ => [deckO P (dkCellsC.refOf (vE os 0 0)) (kT os 0 0) (kT os 0 1) at_ (vT os 0 1)]
   new := fun _ _ => [] }⟩
theorem dkAtC_ok (w : World) (kt : KT) (P : Params) (hP : P = w.params) (at_ : Int) : Ctr (model prog w) kt (dkAtC P at_) := fun bl c as os _ _ _ _ =>
 ctr_any fun R s hd hu _ _ hst hown _ => by
  obtain ⟨a,rfl,ha⟩ := one_own hown
  exact dGet_any (strKind prog w) (k := t337) ha (by kernel_rfl) (deck_keys w P hP _ _ _ _) (by kernel_rfl) ⟨[],[],rfl,rfl,List.nodup_nil,fun _ h => (nomatch h),rfl,⟨ha,trivial⟩,trivial,.toks ..⟩
noncomputable def dkSetC (P : Params) (at_ new : Int) : CF := ⟨990,9800,false,false,(fun b => b),none,fun c as os =>
 { code := .builtin "dict.__setitem__" ⟨[.ref (A as 0),.str t337 (tokV (argOf c 1)),.int new (tokV (argOf c 2))],[]⟩
   own := [deckO P (dkCellsC.refOf (vE os 0 0)) (kT os 0 0) (kT os 0 1) at_ (vT os 0 1)]
   nn := 0,nt := 0
   res := fun _ _ => .ok (.ret .none)
   upd := fun _ _ => [deckO P (dkCellsC.refOf (vE os 0 0)) (kT os 0 0) (kT os 0 1) new (tokV (argOf c 2))]
   new := fun _ _ => [] }⟩
theorem Kept.upd (s : Shared) (a : Nat) (f : Obj → Obj) (k : Nat) : Kept s { s with heap := s.heap.update a f,toks := k } [a] := by
 have hs' : Heap.SameBut a s.heap (s.heap.update a f) := Heap.SameBut.update ..
 exact ⟨fun y o e hy => (hs'.2 y fun h => hy (by rw [h]; exact List.mem_cons_self ..)).trans e,by rw [hs'.1]; exact Nat.le_refl _,rfl,rfl⟩
theorem dkSetC_ok (w : World) (kt : KT) (P : Params) (hP : P = w.params) (at_ new : Int) : Ctr (model prog w) kt (dkSetC P at_ new) := fun bl c as os _ _ _ _ =>
 ctr_any fun R s hd hu _ _ hst hown _ => by
  obtain ⟨a,rfl,ha⟩ := one_own hown
  refine dSet_any (strKind prog w) (k := t337) (i := 1) ha (by kernel_rfl) (deck_keys w P hP _ _ _ _) (by kernel_rfl) ⟨[],[],rfl,rfl,List.nodup_nil,fun _ h => (nomatch h),rfl,⟨?_,trivial⟩,trivial,Kept.upd ..⟩
  exact Heap.get?_update_self _ ha rfl
noncomputable def modC (x y : Int) : CF := ⟨990,9800,false,false,(fun b => b),none,fun c _ _ => pureP (.builtin "int.__mod__" ⟨[.int x (tokV (argOf c 0)),.int y (tokV (argOf c 1))],[]⟩) 1 fun tk => .int (x.fmod y) (A tk 0)⟩
theorem modC_ok (w : World) (kt : KT) (x y : Int) (h : y ≠ 0) : Ctr (model prog w) kt (modC x y) := fun bl cd as os _ _ _ _ =>
  ctr_gives (v := fun tk => .int (x.fmod y) (A tk 0)) (by decide +kernel) F.entry_int_mod (AutoIntG6.int___mod___int_int_1 x _ y _ (by simpa using h)) fun s Q hQ => hQ [s.toks] _ rfl
noncomputable def fdvC (x y : Int) : CF := ⟨990,9800,false,false,(fun b => b),none,fun c _ _ => pureP (.builtin "int.__floordiv__" ⟨[.int x (tokV (argOf c 0)),.int y (tokV (argOf c 1))],[]⟩) 1 fun tk => .int (x.fdiv y) (A tk 0)⟩
theorem notPylong (x y : Int) (hy : 0 ≤ y ∧ y < 1000000) : ¬(divisionGoesByPylong x y) = true := by
 unfold divisionGoesByPylong
 simp only [Bool.and_eq_true,decide_eq_true_eq,not_and]
 intro h
 exfalso
 split at h
 · omega
 · have h1 : y.natAbs < 2 ^ 20 := by omega
   have : y.natAbs.log2 < 20 := by
    by_cases hz : y.natAbs = 0
    · rw [hz]; decide
    · exact (Nat.log2_lt hz).mpr h1
   omega
theorem fdvC_ok (w : World) (kt : KT) (x y : Int) (h : y ≠ 0) (hy : 0 ≤ y ∧ y < 1000000) : Ctr (model prog w) kt (fdvC x y) := fun bl cd as os _ _ _ _ =>
  ctr_gives (v := fun tk => .int (x.fdiv y) (A tk 0)) (by decide +kernel) F.entry_int_floordiv (AutoIntG4.int___floordiv___int_int_1 x _ y _ (by simpa using h) (notPylong x y hy)) fun s Q hQ => hQ [s.toks] _ rfl
noncomputable def mulC (x y : Int) : CF := ⟨990,9800,false,false,(fun b => b),none,fun c _ _ => pureP (.builtin "int.__mul__" ⟨[.int x (tokV (argOf c 0)),.int y (tokV (argOf c 1))],[]⟩) 1 fun tk => .int (x * y) (A tk 0)⟩
theorem mulC_ok (w : World) (kt : KT) (x y : Int) (hy : 0 ≤ x ∧ x < 1000000) : Ctr (model prog w) kt (mulC x y) := fun bl cd as os _ _ _ _ =>
 ctr_gives (v := fun tk => .int (x * y) (A tk 0)) (by decide +kernel) F.entry_int_mul (AutoIntG1.int___mul___int_int_0 x _ y _ (IntMulOk.of_left (by
  unfold Builtin.Int.intBits
  have h1 : x.natAbs < 2 ^ 20 := by omega
  split
  · omega
  · have : x.natAbs.log2 < 20 := by
     by_cases hz : x.natAbs = 0
     · rw [hz]; decide
     · exact (Nat.log2_lt hz).mpr h1
    omega))) fun s Q hQ => hQ [s.toks] _ rfl
noncomputable def liO (xs : Array Value) (n : Nat) : Obj := ⟨.type "list",none,.seq xs n,#[]⟩
noncomputable def epO (o : Obj) : Nat := match o.data with | .seq _ n => n | .dict _ n => n | _ => 0
noncomputable def lenLC (xs : Array Value) : CF := ⟨990,9800,false,false,(fun b => b),none,fun c as os =>
  ⟨.builtin "len" ⟨[.ref (A as 0)],[]⟩,[liO xs (epO (os.getD 0 default))],0,1,fun _ tk => .ok (.ret (.int xs.size (A tk 0))),fun _ _ => [liO xs (epO (os.getD 0 default))],fun _ _ => []⟩⟩
theorem lenLC_ok (w : World) (kt : KT) (xs : Array Value) (hs : xs.size ≤ 1000) : Ctr (model prog w) kt (lenLC xs) := fun bl c as os _ _ _ _ =>
 ctr_any fun R s hd hu _ _ hst hown _ => by
  obtain ⟨a,rfl,ha⟩ := one_own hown
  refine codeAny_builtin entry_len ?_
  rw [Around.under_plainId plain_len]
  unfold Builtin.«len»
  refine wpAny_bind (m := oneArg "len" _) (wpAny_pure ?_)
  have hT : s.TypeIs (.ref a) "list" := ⟨_,ha,rfl⟩
  refine wpAny_bind (m := callSpecial? _ (Str.ofString "__len__")) (wpAny_callSpecial?_slot (name := Str.ofString "__len__") hT slot_list_len (call_meets slot_list_len hT entry_list_len (args_list_len _) (AutoListH.list___len___list_0 a xs _) ⟨ha,?_⟩))
  show wpAny _ _ _ _ _ { s with toks := s.toks + 1 }
  refine wpAny_bind (wpAny_holding (wpAny_pure ?_))
  refine wpAny_bind (wpAny_letGo ?_)
  show wpAny _ _ (if (xs.size : Int) < 0 then _ else _) _ _ _
  rw [if_neg (by omega)]
  show wpAny _ _ (if (xs.size : Int) ≥ 2 ^ 63 then _ else _) _ _ _
  rw [if_neg (by omega)]
  exact wpAny_bind (wpAny_mkInt (wpAny_pure ⟨[],[s.toks + 1],rfl,rfl,List.nodup_nil,fun _ h => (nomatch h),rfl,⟨ha,trivial⟩,trivial,.toks ..⟩))
noncomputable def ixLC (xs : Array Value) (i : Int) (x : Value) : CF := ⟨990,9800,false,false,(fun b => b),none,fun c as os =>
  ⟨.builtin "list.__getitem__" ⟨[.ref (A as 0),.int i (tokV (argOf c 1))],[]⟩,[liO xs (epO (os.getD 0 default))],0,0,fun _ tk => .ok (.ret x),fun _ _ => [liO xs (epO (os.getD 0 default))],fun _ _ => []⟩⟩
theorem ixLC_ok (w : World) (kt : KT) (xs : Array Value) (i : Int) (n : Nat) (x : Value) (hi : i = n) (hn : n < 1000000) (hx : xs[n]? = some x) : Ctr (model prog w) kt (ixLC xs i x) := fun bl c as os _ _ _ _ =>
 ctr_any fun R s hd hu _ _ hst hown _ => by
  obtain ⟨a,rfl,ha⟩ := one_own hown
  have hf : Builtin.List.listFitsIndex i = true := by unfold Builtin.List.listFitsIndex; simp only [Bool.and_eq_true,decide_eq_true_eq]; omega
  have fin : Post [a] ((ixLC xs i x).F c [a] os) s (.ok (.ret x)) s := ⟨[],[],rfl,rfl,List.nodup_nil,fun _ h => (nomatch h),rfl,⟨ha,trivial⟩,trivial,.toks s s.toks _⟩
  show codeAny _ R (.builtin "list.__getitem__" ⟨[.ref a,.int i (tokV (argOf c 1))],[]⟩) _ s
  generalize tokV (argOf c 1) = t
  generalize Post [a] ((ixLC xs i x).F c [a] os) s = Rs at fin ⊢
  clear hn hd hu hst
  refine codeAny_builtin entry_list_getitem ?_
  rw [Around.under_plainId (by decide +kernel)]
  show wpAny _ _ (Builtin.List.listSubscript? (.int i t) >>= _) _ _ s
  refine wpAny_bind (wpAny_listSubscript_int hf ?_)
  clear hf
  subst hi
  show wpAny _ _ ((seqItemAt a n >>= fun r => pure (r.map (n,·))) >>= _) _ _ s
  refine wpAny_bind (wpAny_bind (wpAny_seqItemAt (items := xs) ha rfl (wpAny_pure ?_)))
  rw [hx]
  first
   | exact wpAny_bind (wpAny_pure (wpAny_pure fin))
   | exact wpAny_pure fin
theorem two_own {h : Heap} {as : List Nat} {o o' : Obj} (H : Own h as [o,o']) : ∃ a b,as = [a,b] ∧ h.get? a = some o ∧ h.get? b = some o' := by
 cases as with
 | nil => exact H.elim
 | cons a as =>
  obtain ⟨b,rfl,hb⟩ := one_own H.2
  exact ⟨a,b,rfl,H.1,hb⟩
noncomputable def neLC (xs : Array Value) : CF := ⟨990,9800,false,false,(fun b => b),none,fun c as os =>
  ⟨.builtin "list.__eq__" ⟨[.ref (A as 0),.ref (A as 1)],[]⟩,[liO xs (epO (os.getD 0 default)),liO #[] (epO (os.getD 1 default))],0,0,fun _ tk => .ok (.ret (.bool false)),fun _ _ => [liO xs (epO (os.getD 0 default)),liO #[] (epO (os.getD 1 default))],fun _ _ => []⟩⟩
theorem neLC_ok (w : World) (kt : KT) (xs : Array Value) (h : 0 < xs.size) : Ctr (model prog w) kt (neLC xs) := fun bl c as os _ _ _ _ =>
 ctr_any fun R s hd hu _ _ hst hown _ => by
  obtain ⟨a,b,rfl,ha,hb⟩ := two_own hown
  refine codeAny_builtin F.entry_list_eq ?_
  rw [Around.under_plainId (by decide +kernel)]
  refine (SeqAt.list_eq_lengthsAt a b xs #[] _ _ _ _ _ _ (by show (xs.size != 0) = true; exact bne_iff_ne.mpr (by omega))).inModel prog w R _ s ⟨ha,hb,?_⟩
  exact ⟨[],[],rfl,rfl,List.nodup_nil,fun _ h => (nomatch h),rfl,⟨ha,hb,trivial⟩,trivial,.toks s s.toks _⟩
theorem size_update (h : Heap) (a : Addr) (f : Obj → Obj) : (h.update a f).objs.size = h.objs.size := (Heap.SameBut.update h a f).1
theorem runs_size {M : Model} {Γ : Ctx} {p : Pos} {t : Sem PySem.Fin} {fs : List PySem.Frame} {s s' : Shared} {e : PySem.End} (h : Runs M Γ p t fs s e s') : s.heap.objs.size ≤ s'.heap.objs.size := by
  induction h <;> (try simp only [Heap.size_push,size_update,Shared.setGen] at *) <;> first | exact Nat.le_refl _ | assumption | omega | (simp only [Heap.size_push,size_update,Shared.setGen] at *; omega)
noncomputable def appV (vs : Array Value) : List UInt8 → List Nat → Array Value
 | [],_ => vs
 | x :: l,ts => appV (vs.push (.int x.toNat (ts.headD 0))) l ts.tail
theorem ints_snoc {vs : List Value} {ns : List Int} (h : PyProof.Rows.IntsAre vs ns) (n : Int) (t : Nat) : PyProof.Rows.IntsAre (vs ++ [.int n t]) (ns ++ [n]) := by
 induction h with
 | nil => exact .cons n t .nil
 | cons m u _ ih => exact .cons m u ih
theorem appV_ints : ∀ (l : List UInt8) (ts : List Nat) (vs : List Value) (ns : List Int),PyProof.Rows.IntsAre vs ns → ∃ vs',appV vs.toArray l ts = vs'.toArray ∧ PyProof.Rows.IntsAre vs' (ns ++ l.map fun x => (x.toNat : Int))
 | [],ts,vs,ns,h => ⟨vs,rfl,by simpa using h⟩
 | x :: l,ts,vs,ns,h => by
  have h' : PyProof.Rows.IntsAre (vs ++ [.int x.toNat (ts.headD 0)]) (ns ++ [(x.toNat : Int)]) := ints_snoc h _ _
  obtain ⟨vs',e,q⟩ := appV_ints l ts.tail _ _ h'
  refine ⟨vs',?_,by simpa using q⟩
  show appV (vs.toArray.push _) l ts.tail = _
  rw [← e]
  congr 1
  simp
noncomputable def toksO (o : Obj) : List Nat := (match o.data with | .seq xs _ => xs | _ => #[]).toList.map tokV
noncomputable def byC (l : List UInt8) : CF := ⟨900,9000,true,false,(fun b => b),none,fun c as os =>
 { code := .call (.builtin "bytes.__new__") ⟨[.type "bytes",.ref (A as 0)],[]⟩
   own := [liO (appV #[] l (toksO (os.getD 0 default))) (epO (os.getD 0 default))]
   nn := 0,nt := 1
   res := fun _ tk => .ok (.ret (.bytes l.toArray (A tk 0)))
   upd := fun _ _ => [liO (appV #[] l (toksO (os.getD 0 default))) (epO (os.getD 0 default))]
   new := fun _ _ => [] }⟩
theorem byC_ok (w : World) (kt : KT) (l : List UInt8) (hl : l.length ≤ 1000) : Ctr (model prog w) kt (byC l) := fun bl c as os _ _ _ _ => by
 intro Γ p s hc hbl hcalm hgf hd hu hst hown hnd _
 obtain ⟨a,rfl,ha⟩ := one_own hown
 obtain ⟨vs,e,q⟩ := appV_ints l (toksO (os.getD 0 default)) [] [] .nil
 have hL : s.heap.IsList a vs.toArray := ⟨_,ha,rfl,_,by show Data.seq _ _ = _; rw [show appV #[] l (toksO (os.getD 0 default)) = vs.toArray from e]⟩
 have z := bm_new (prog := prog) (w := w) (A := ⟨Γ.handled,frameCount Γ.below,none,none,unitsOf Γ.below⟩) (s := s) (E := fun _ _ => False) (Q := fun v s' => (∃ t,v = .bytes l.toArray t) ∧ (∀ b o,s.heap.get? b = some o → s'.heap.get? b = some o) ∧ s'.gens = s.gens ∧ s'.os = s.os) (hcalm rfl) hL (ns := l.map fun x => (x.toNat : Int)) (by simpa using q) (fun n hn => by
   obtain ⟨x,_,rfl⟩ := List.mem_map.mp hn
   have := x.toNat_lt
   omega) (by rw [List.length_map]; show _ ≤ 2 ^ 24; omega) (fun h' t k hk => ⟨⟨t,by
    congr 1
    unfold byteArr
    rw [List.map_map]
    congr 1
    conv => lhs; arg 1; ext x; simp
    exact List.map_id' l⟩,hk,rfl,rfl⟩)
 obtain ⟨r,s',hr,hw⟩ := z Γ p hc ⟨rfl,Nat.le_refl _,fun _ e => (by cases e),fun _ e => (by cases e),Nat.le_refl _⟩
 have hsz := runs_size hr
 have hr : Runs (model prog w) Γ p ((model prog w).den ((byC l).F c [a] os).code) [] s (.ret r) s' := by rw [← hc]; exact hr
 cases r with
 | error e => exact hw.elim
 | ok f =>
  cases f with
  | ret v =>
   obtain ⟨⟨t,rfl⟩,hk,hg,ho⟩ := hw
   exact ⟨[],[t],s',rfl,rfl,List.nodup_nil,fun _ h => (nomatch h),hr,⟨hk _ _ ha,trivial⟩,trivial,⟨fun b o e _ => hk b o e,hsz,hg,ho⟩⟩
  | next => exact hw.elim
  | brk => exact hw.elim
  | cont => exact hw.elim
noncomputable def kvL : List DictEntry → List Value
 | [] => []
 | e :: r => e.key :: e.val :: kvL r
noncomputable def valsO (o : Obj) : List Value := match o.data with
 | .seq xs _ => xs.toList
 | .dict es _ => kvL es.toList
 | .fields xs => xs.toList
 | .cell (some v) => [v]
 | _ => []
noncomputable def refV (v : Value) : Nat := match v with | .ref a => a | _ => 0
noncomputable def tV (os : List Obj) (j i : Nat) : Value := (valsO (os.getD j default)).getD i .none
noncomputable def tT (os : List Obj) (j i : Nat) : Nat := tokV (tV os j i)
noncomputable def tR (os : List Obj) (j i : Nat) : Nat := refV (tV os j i)
noncomputable def oE (os : List Obj) (j : Nat) : Nat := epO (os.getD j default)
noncomputable def oDk (os : List Obj) (j : Nat) : Nat := match (os.getD j default).dict with | some d => d | none => 0
noncomputable def cT (c : Code) (i : Nat) : Nat := tokV (argOf c i)
noncomputable def cR (c : Code) (i : Nat) : Nat := refV (argOf c i)
noncomputable def eqII : CF := ⟨990,9800,false,false,(fun b => b),none,fun c as os =>
 { code := .builtin "int.__eq__" ⟨[.int ((A as 0 : Nat) : Int) 0,.int ((A as 0 : Nat) : Int) 0],[]⟩
   own := [os.getD 0 default]
   nn := 0,nt := 0
   res := fun _ _ => .ok (.ret (.bool true))
   upd := fun _ _ => [os.getD 0 default]
   new := fun _ _ => [] }⟩
theorem eqII_ok (w : World) (kt : KT) : Ctr (model prog w) kt eqII := fun bl c as os _ _ _ _ => by
 intro Γ p s hc _ _ _ _ _ _ hown _ _
 refine ⟨[],[],s,rfl,rfl,List.nodup_nil,fun _ h => (nomatch h),?_,hown,trivial,⟨fun _ _ e _ => e,Nat.le_refl _,rfl,rfl⟩⟩
 show Runs (model prog w) Γ p ((model prog w).den (.builtin "int.__eq__" ⟨[.int ((A as 0 : Nat) : Int) 0,.int ((A as 0 : Nat) : Int) 0],[]⟩)) [] s (.ret (.ok (.ret (.bool true)))) s
 have e : (model prog w).den (.builtin "int.__eq__" ⟨[.int ((A as 0 : Nat) : Int) 0,.int ((A as 0 : Nat) : Int) 0],[]⟩) = .pure (.done (.ret (.bool (((A as 0 : Nat) : Int) == ((A as 0 : Nat) : Int))))) := by
  rw [den_builtin entry_int_eq]
  rfl
 rw [e,beq_self_eq_true]
 exact .done
noncomputable def dz (P : Params) (os : List Obj) (j : Nat) : Nat → List Str → List Value → List DictEntry
  | i,k :: ks,v :: vs => K P (.str k (tT os j i)) v :: dz P os j (i + 2) ks vs
  | _,_,_ => []
noncomputable def dd (P : Params) (os : List Obj) (j : Nat) (ks : List Str) (vs : List Value) : Obj := ⟨.type "dict",none,.dict (dz P os j 0 ks vs).toArray ks.length,#[]⟩
noncomputable def wt : List Obj → Nat → List (Nat × Obj) → List Obj
  | [],_,_ => []
  | o :: l,i,c => match c with
    | [] => o :: l
    | x :: r => match Nat.beq i x.1 with
      | true => x.2 :: wt l (i + 1) r
      | false => o :: wt l (i + 1) c
noncomputable def mkC (code : Code) (own : List Obj) (nn nt : Nat) (res : List Nat → List Nat → Result) (chg : List Nat → List Nat → List (Nat × Obj)) (new : List Nat → List Nat → List Obj) : CPre := ⟨code,own,nn,nt,res,fun ad tk => wt own 0 (chg ad tk),new⟩
noncomputable def ks0 : List Str := [t511,t529,t498,t530,t531,t532,t533,t534,t535,t536]
noncomputable def ks1 : List Str := [t509,t495,t496,t510,t511,t512,t505,t513,t497,t514,t506,t24,t515,t516,t517,t518,t519,t520,t521,t522,t523,t524,t525,t526,t527,t336]
noncomputable def ks2 : List Str := [t541,t566,t335]
noncomputable def ks3 : List Str := [t539,t489,t529,t352]
noncomputable def ks4 : List Str := [t542,t543,t544,t540]
noncomputable def ks5 : List Str := [t539,t537,t529,t352,t540,t502]
noncomputable def cf (D : Nat) (B : List (Code × Pos) → List (Code × Pos)) (F : Code → List Nat → List Obj → CPre) : CF := ⟨D,10 * D,true,true,B,none,F⟩
noncomputable def cg (D : Nat) (F : Code → List Nat → List Obj → CPre) : CF := ⟨D,10 * D,true,false,fun b => b,none,F⟩
noncomputable def nN {α : Type} : List Nat → List Nat → List α := fun _ _ => []
noncomputable def hB (P : Params) (b : Array UInt8) : Int := hashW P (.bytes b.toList)
noncomputable def hW (P : Params) (b : Array UInt8) : Int := reduceHash (Builtin.Tuple.tupleHashOf [reduceHash (P.strHash t491.cps),hB P b])
theorem ctr_any' {prog : Program} {w : World} {kt : KT} {D U : Nat} {calm gf : Bool} {bl : List (Code × Pos)} {as : List Nat} {P : CPre}
  (h : ∀ (A : Around) (s : Shared),A.depth ≤ D → A.units ≤ U → Own s.heap as P.own → as.Nodup → (∀ a ∈ as,kt.get a = none) → codeAny (model prog w) A P.code (Post as P s) s) :
  Ctr1 (model prog w) kt D U calm gf bl as P := fun Γ p s hc _ hcalm hgf hd hu hst hown hnd hno => by
 obtain ⟨r,s',hr,nad,ntk,a1,a2,a3,a4,a5,a6,a7,a8⟩ := h ⟨Γ.handled,frameCount Γ.below,none,some (guardsOf Γ.below),unitsOf Γ.below⟩ s hd hu hown hnd hno Γ p hc ⟨rfl,Nat.le_refl _,fun _ e => (by cases e),fun _ e => Option.some.inj e,Nat.le_refl _⟩
 refine ⟨nad,ntk,s',a1,a2,a3,a4,?_,a6,a7,a8⟩
 rw [← a5,← hc]
 exact hr
noncomputable def bes (P : Params) (os : List Obj) : List (Array UInt8) → Nat → List DictEntry
 | [],_ => []
 | k :: r,i => ⟨hB P k,.bytes k (tT os 0 i),tV os 0 (i + 1)⟩ :: bes P os r (i + 2)
theorem bes_keys (w : World) (os : List Obj) : ∀ (ks : List (Array UInt8)) (i : Nat),∀ e ∈ bes w.params os ks i,∃ k,(bytesKind prog w).is k e.key = true ∧ e.hash = (bytesKind prog w).hash k
 | [],_,_,h => nomatch h
 | k :: r,i,e,h => by
  rcases List.mem_cons.mp h with rfl | h
  · exact ⟨k.toList,by show (k.toList == k.toList) = true; simp,rfl⟩
  · exact bes_keys w os r (i + 2) e h
theorem bes_keysOf (w : World) (os : List Obj) (ks : List (Array UInt8)) (i : Nat) : KeysOf (bytesKind prog w) (bes w.params os ks i).toArray := fun e he => bes_keys w os ks i e (by simpa using he)
noncomputable def bGetC (P : Params) (ks : List (Array UInt8)) (n : Nat) : CF := ⟨990,9800,false,false,(fun b => b),none,fun c x y => mkC (.builtin "dict.__getitem__" ⟨[.ref (A x 0),.bytes (ks.getD n #[]) (cT c 1)],[]⟩) [dO (bes P y ks 0).toArray ks.length] (0) (0) (fun _ _ => .ok (.ret (tV y 0 (2 * n + 1)))) (fun _ _ => []) (fun _ _ => [])⟩
theorem bGetC_ok (w : World) (kt : KT) (P : Params) (hP : P = w.params) (ks : List (Array UInt8)) (n : Nat) (hf : ∀ os,findBy isBytes (bes P os ks 0).toArray (ks.getD n #[]).toList = some (tV os 0 (2 * n + 1))) : Ctr (model prog w) kt (bGetC P ks n) := fun bl c as os _ _ _ _ =>
 ctr_any fun A s hd hu _ _ hst hown _ => by
  subst hP
  obtain ⟨a,rfl,ha⟩ := one_own hown
  exact dGet_any (bytesKind prog w) (k := (ks.getD n #[]).toList) ha (by show ((ks.getD n #[]).toList == _) = true; simp) (bes_keysOf w os ks 0) (hf os) ⟨[],[],rfl,rfl,List.nodup_nil,fun _ h => (nomatch h),rfl,⟨ha,trivial⟩,trivial,.toks ..⟩
noncomputable def bGet2C (P : Params) (ks : List (Array UInt8)) (n : Nat) : CF := ⟨990,9800,false,false,(fun b => b),none,fun c x y => mkC (.builtin "dict.get" ⟨[.ref (A x 0),.bytes (ks.getD n #[]) (cT c 1),.none],[]⟩) [dO (bes P y ks 0).toArray ks.length] (0) (0) (fun _ _ => .ok (.ret (tV y 0 (2 * n + 1)))) (fun _ _ => []) (fun _ _ => [])⟩
theorem one_ne {kt : KT} {o : Obj} {a : Nat} (h1 : kt.get 1 = some o) (h : kt.get a = none) : (a == sysModules) = false := by
 have : a ≠ 1 := fun e => by rw [e,h1] at h; cases h
 exact beq_eq_false_iff_ne.mpr this
theorem bGet2C_ok (w : World) (kt : KT) (P : Params) (hP : P = w.params) (hk : ∃ o,kt.get 1 = some o) (ks : List (Array UInt8)) (n : Nat) (hf : ∀ os,findBy isBytes (bes P os ks 0).toArray (ks.getD n #[]).toList = some (tV os 0 (2 * n + 1))) : Ctr (model prog w) kt (bGet2C P ks n) := fun bl c as os _ _ _ _ =>
 ctr_any' fun R s hd hu hown _ hno => by
  subst hP
  obtain ⟨a,rfl,ha⟩ := one_own hown
  obtain ⟨o1,ho1⟩ := hk
  refine codeAny_builtin F.entry_dict_get ?_
  rw [Around.under_plainId (by decide +kernel)]
  have g := meets_dict_get_default (prog := prog) (w := w) (bytesKind prog w) (k := (ks.getD n #[]).toList) (key := .bytes (ks.getD n #[]) (cT c 1)) a (show ((ks.getD n #[]).toList == (ks.getD n #[]).toList) = true by simp) (one_ne ho1 (hno a (List.mem_cons_self ..))) .none
  have e := hf os
  have e' : findBy (bytesKind prog w).is (bes w.params os ks 0).toArray (ks.getD n #[]).toList = some (tV os 0 (2 * n + 1)) := e
  have h0 : ∃ f,s.heap.MapOf (bytesKind prog w) a f ∧ Post [a] ((bGet2C w.params ks n).F c [a] os) s (.ok (.ret ((f (ks.getD n #[]).toList).getD .none))) { s with toks := s.toks + 1 } :=
   Exists.intro (fun x => findBy (bytesKind prog w).is (bes w.params os ks 0).toArray x) (And.intro (⟨dO (bes w.params os ks 0).toArray ks.length,_,_,ha,dO_exact _ _,rfl,bes_keysOf w os ks 0,fun _ => rfl⟩ : Heap.MapOf _ _ _ _) (by
    show Post _ _ s (.ok (.ret ((findBy (bytesKind prog w).is (bes w.params os ks 0).toArray (ks.getD n #[]).toList).getD .none))) _
    rw [e']
    exact ⟨[],[],rfl,rfl,List.nodup_nil,fun _ h => (nomatch h),rfl,⟨ha,trivial⟩,trivial,.toks ..⟩))
  exact g R _ s h0
noncomputable def bPutC (P : Params) (ks : List (Array UInt8)) (k : Array UInt8) : CF := ⟨990,9800,false,false,(fun b => b),none,fun c x y => mkC (.builtin "dict.__setitem__" ⟨[.ref (A x 0),.bytes k (cT c 1),argOf c 2],[]⟩) [dO (bes P y ks 0).toArray ks.length] (0) (0) (fun _ _ => .ok (.ret .none)) (fun _ _ => [(0,dO (bes P y ks 0 ++ ([⟨hB P k,.bytes k (cT c 1),argOf c 2⟩] : List DictEntry)).toArray (ks.length + 1))]) (fun _ _ => [])⟩
theorem bPutC_ok (w : World) (kt : KT) (P : Params) (hP : P = w.params) (ks : List (Array UInt8)) (k : Array UInt8) (hz : ∀ os,(bes P os ks 0).toArray.size < 1000) (hf : ∀ os,((bes P os ks 0).toArray.findIdx? fun e => isBytes k.toList e.key) = none) : Ctr (model prog w) kt (bPutC P ks k) := fun bl c as os _ _ _ _ =>
 ctr_any fun R s hd hu _ _ hst hown _ => by
  subst hP
  obtain ⟨a,rfl,ha⟩ := one_own hown
  refine dPut_any (bytesKind prog w) (k := k.toList) ha (by show (k.toList == k.toList) = true; simp) (bes_keysOf w os ks 0) (hf os) (hz os) ⟨[],[],rfl,rfl,List.nodup_nil,fun _ h => (nomatch h),rfl,⟨?_,trivial⟩,trivial,Kept.upd ..⟩
  have z : (s.heap.update a (Obj.mapDictKeys (·.push ⟨(bytesKind prog w).hash k.toList,.bytes k (cT c 1),argOf c 2⟩))).get? a = some (Obj.mapDictKeys (·.push ⟨(bytesKind prog w).hash k.toList,.bytes k (cT c 1),argOf c 2⟩) (dO (bes w.params os ks 0).toArray ks.length)) := Heap.get?_update_self _ ha rfl
  refine z.trans (congrArg some ?_)
  show dO ((bes w.params os ks 0).toArray.push _) (ks.length + 1) = dO _ _
  rw [List.push_toArray]
  rfl
noncomputable def bS : Array UInt8 := #[115,101,97,114,99,104]
noncomputable def bA : Array UInt8 := #[97,110,99,104,111,114,115,101,97,114,99,104]
noncomputable def bP : Array UInt8 := #[112,111,112]
theorem g1 (a : Str) (t : Tok) (b : Array UInt8) (u : Tok) : Gives (Builtin.«str.__eq__» ⟨[.str a t,.bytes b u],[]⟩) (.val (Value.notImplemented)) :=
  .of_wp fun M A E s Q h => by obtain ⟨hp,g,d,tk,os⟩ := s; wp_walk; exact ⟨_,rfl,h⟩
theorem g2 (a : Str) (t : Tok) (b : Array UInt8) (u : Tok) : Gives (Builtin.«bytes.__eq__» ⟨[.bytes b u,.str a t],[]⟩) (.val (Value.notImplemented)) :=
 .of_wp fun M A E s Q h => by
  obtain ⟨hp,g,d,tk,os⟩ := s
  wp_walk
  refine wpAny_of_eq F.sub_str_bytes ?_
  wp_walk
  exact ⟨_,rfl,h⟩
section
variable {prog : Program} {w : World} {A : Around} {E : Value → Shared → Prop} {s : Shared}
theorem eqB_sb {a : Str} {t u : Tok} {b : Array UInt8} {Q : Bool → Shared → Prop} (h : Q false s) : wpAny (model prog w) A (eqBool (.str a t) (.bytes b u)) Q E s := by
 unfold eqBool
 refine wpAny_holding ?_
 refine wpAny_ite_split (fun hab => absurd (eq_of_beq hab) nofun) (fun _ => ?_)
 refine wpAny_bind (SeqAt.rc_eq_decline_or (k := false) (typeIs_str s a t) (typeIs_bytes s b u) (by decide) F.sub_bytes_str F.slot_str_eq FB.slot_bytes_eq
  (fun _ hq => call_gives F.slot_str_eq (typeIs_str s a t) F.entry_str_eq (F.args_str_eq_2 _ _) (g1 a t b u) hq)
  (fun _ hq => call_gives FB.slot_bytes_eq (typeIs_bytes s b u) FB.entry_bytes_eq (FB.args_bytes_eq_2 _ _) (g2 a t b u) hq)
  (fun _ hq => wpAny_of_eq (rfl : isSame (.str a t) (.bytes b u) = pure false) hq) (.inl rfl) (wpAny_truthy_bool h))
theorem eqB_bs {a : Str} {t u : Tok} {b : Array UInt8} {Q : Bool → Shared → Prop} (h : Q false s) : wpAny (model prog w) A (eqBool (.bytes b u) (.str a t)) Q E s := by
 unfold eqBool
 refine wpAny_holding ?_
 refine wpAny_ite_split (fun hab => absurd (eq_of_beq hab) nofun) (fun _ => ?_)
 refine wpAny_bind (SeqAt.rc_eq_decline_or (k := false) (typeIs_bytes s b u) (typeIs_str s a t) (by decide) F.sub_str_bytes FB.slot_bytes_eq F.slot_str_eq
  (fun _ hq => call_gives FB.slot_bytes_eq (typeIs_bytes s b u) FB.entry_bytes_eq (FB.args_bytes_eq_2 _ _) (g2 a t b u) hq)
  (fun _ hq => call_gives F.slot_str_eq (typeIs_str s a t) F.entry_str_eq (F.args_str_eq_2 _ _) (g1 a t b u) hq)
  (fun _ hq => wpAny_of_eq (rfl : isSame (.bytes b u) (.str a t) = pure false) hq) (.inl rfl) (wpAny_truthy_bool h))
end
noncomputable def mixIs : Sum Str (List UInt8) → Value → Bool
 | .inl x,v => Value.isStrOf x v
 | .inr b,v => isBytes b v
noncomputable def mixKind (prog : Program) (w : World) : KeyKind prog w (Sum Str (List UInt8)) where
 is := mixIs
 hash k := match k with | .inl x => hashStr w x | .inr b => hashW w.params (.bytes b)
 inj v a b ha hb := by
  cases a with
  | inl x => cases b with
   | inl y => exact congrArg Sum.inl ((strKind prog w).inj v x y ha hb)
   | inr y => obtain ⟨t,rfl⟩ := Value.isStrOf_shape ha; cases hb
  | inr x => cases b with
   | inl y => obtain ⟨t,rfl⟩ := isBytes_shape ha; cases hb
   | inr y => exact congrArg Sum.inr ((bytesKind prog w).inj v x y ha hb)
 byValue k v h := by
  cases k with
  | inl x => exact (strKind prog w).byValue x v h
  | inr x => exact (bytesKind prog w).byValue x v h
 pyHash := fun {A E s k v Q} hv h => by
  cases k with
  | inl x => exact (strKind prog w).pyHash hv h
  | inr x => exact (bytesKind prog w).pyHash hv h
 eqBool := fun {A E s a b u v Q} hu hv h => by
  cases a with
  | inl x => cases b with
   | inl y => exact (strKind prog w).eqBool hu hv (by simpa using h)
   | inr y =>
    obtain ⟨t,rfl⟩ := Value.isStrOf_shape hu
    obtain ⟨t',rfl⟩ := isBytes_shape hv
    exact eqB_sb (by simpa using h)
  | inr x => cases b with
   | inl y =>
    obtain ⟨t,rfl⟩ := isBytes_shape hu
    obtain ⟨t',rfl⟩ := Value.isStrOf_shape hv
    exact eqB_bs (by simpa using h)
   | inr y => exact (bytesKind prog w).eqBool hu hv (by simpa using h)
 «strs» k x t v h := by
  cases k with
  | inl y => exact (strKind prog w).«strs» y x t v h
  | inr y => cases h
noncomputable abbrev wKind (w : World) := tupleKind (mixKind prog w)
noncomputable def wKey (b : Array UInt8) : List (Sum Str (List UInt8)) := [.inl t491,.inr b.toList]
theorem hW_is (w : World) (b : Array UInt8) : hW w.params b = (wKind w).hash (wKey b) := by
 show reduceHash (Builtin.Tuple.tupleHashOf [_,_]) = reduceHash (Builtin.Tuple.tupleHashOf [hashStr w t491,hashW w.params (.bytes b.toList)])
 rfl
noncomputable def tpO (b : Array UInt8) (os : List Obj) (j : Nat) : Obj := ⟨.type "tuple",none,.seq #[.str t491 (tT os j 0),.bytes b (tT os j 1)] 0,#[]⟩
theorem tp_is {w : World} {h : Heap} {a : Nat} {b : Array UInt8} {os : List Obj} {j : Nat} (ha : h.get? a = some (tpO b os j)) : (wKind w).is h (wKey b) a :=
  ⟨_,_,_,ha,rfl,rfl,.cons (by show Value.isStrOf t491 (.str t491 (tT os j 0)) = true; simp [Value.isStrOf]) (.cons (by show (b.toList == b.toList) = true; simp) .nil)⟩
noncomputable def wes (P : Params) (as : List Nat) (os : List Obj) : List (Array UInt8) → Nat → Nat → List DictEntry
 | [],_,_ => []
 | k :: r,i,j => ⟨hW P k,.ref (A as j),tV os 0 (i + 1)⟩ :: wes P as os r (i + 2) (j + 1)
noncomputable def wtp (os : List Obj) : List (Array UInt8) → Nat → List Obj
 | [],_ => []
 | k :: r,j => tpO k os j :: wtp os r (j + 1)
noncomputable def wxs (as : List Nat) (os : List Obj) : List (Array UInt8) → Nat → Nat → List (List (Sum Str (List UInt8)) × Addr × Value)
 | [],_,_ => []
 | k :: r,i,j => (wKey k,A as j,tV os 0 (i + 1)) :: wxs as os r (i + 2) (j + 1)
theorem wes_xs (w : World) (as : List Nat) (os : List Obj) : ∀ (ks : List (Array UInt8)) (i j : Nat),wes w.params as os ks i j = (wxs as os ks i j).map (entryOfKey (wKind w))
 | [],_,_ => rfl
 | k :: r,i,j => by
  show _ :: _ = _ :: _
  rw [wes_xs w as os r (i + 2) (j + 1),hW_is w k]
  rfl
theorem wxs_keys (as : List Nat) (os : List Obj) : ∀ (ks : List (Array UInt8)) (i j : Nat),(wxs as os ks i j).map (·.1) = ks.map wKey
 | [],_,_ => rfl
 | k :: r,i,j => by
  show wKey k :: _ = _
  rw [wxs_keys as os r (i + 2) (j + 1)]; rfl
theorem wxs_is {w : World} {h : Heap} {os : List Obj} (as : List Nat) : ∀ (ks : List (Array UInt8)) (i j : Nat) (bs : List Nat),(∀ t,t < ks.length → A as (j + t) = A bs t) → Own h bs (wtp os ks j) → ∀ x ∈ wxs as os ks i j,(wKind w).is h x.1 x.2.1
 | [],_,_,_,_,_,_,hx => nomatch hx
 | k :: r,i,j,[],_,H,_,_ => H.elim
 | k :: r,i,j,b :: bs,e,H,x,hx => by
  rcases List.mem_cons.mp hx with rfl | hx
  · refine tp_is (os := os) (j := j) ?_
    have := e 0 (by simp)
    rw [Nat.add_zero] at this
    show h.get? (A as j) = _
    rw [this]
    exact H.1
  · exact wxs_is as r (i + 2) (j + 1) bs (fun t ht => by
     have := e (t + 1) (by simp; omega)
     rw [show j + 1 + t = j + (t + 1) by omega,this]; rfl) H.2 x hx
theorem wKey_inj {a b : Array UInt8} (h : wKey a = wKey b) : a = b := by
 have : a.toList = b.toList := by simpa [wKey] using h
 exact Array.toList_inj.mp this
theorem wxs_nodup (as : List Nat) (os : List Obj) (ks : List (Array UInt8)) (i j : Nat) (hn : ks.Nodup) : ((wxs as os ks i j).map (·.1)).Nodup := by
 rw [wxs_keys]
 unfold List.Nodup
 rw [List.pairwise_map]
 exact List.Pairwise.imp (fun h e => h (wKey_inj e)) hn
noncomputable def wdO (P : Params) (as : List Nat) (os : List Obj) (ks : List (Array UInt8)) : Obj := dO (wes P as os ks 0 2).toArray ks.length
theorem entry_contains : entryFor table "dict.__contains__" = some Builtin.«dict.__contains__» := entry_dict_contains
theorem own3 {h : Heap} {as : List Nat} {o1 o2 : Obj} {r : List Obj} (H : Own h as (o1 :: o2 :: r)) : ∃ a b bs,as = a :: b :: bs ∧ h.get? a = some o1 ∧ h.get? b = some o2 ∧ Own h bs r := by
 cases as with
 | nil => exact H.elim
 | cons a as => cases as with
  | nil => exact H.2.elim
  | cons b bs => exact ⟨a,b,bs,rfl,H.1,H.2.1,H.2.2⟩
theorem find_w {w : World} {A' : Around} {E : Value → Shared → Prop} {s : Shared} {a b : Nat} {bs : List Nat} {ks : List (Array UInt8)} {k : Array UInt8} {os : List Obj} {Q : Option Nat → Shared → Prop} (hu : A'.units < cLine) (hn : ks.Nodup)
  (ha : s.heap.get? a = some (wdO w.params (a :: b :: bs) os ks)) (hb : s.heap.get? b = some (tpO k os 1)) (hr : Own s.heap bs (wtp os ks 2))
  (h0 : k ∉ ks → Q none s) (h1 : ∀ j,ks[j]? = some k → Q (some j) s) : wpAny (model prog w) A' (dictFind a (.ref b) (hW w.params k)) Q E s := by
 rw [hW_is]
 have his : ∀ x ∈ wxs (a :: b :: bs) os ks 0 2,(wKind w).is s.heap x.1 x.2.1 := wxs_is _ ks 0 2 bs (fun t _ => by show A (a :: b :: bs) (2 + t) = _; rw [Nat.add_comm]; rfl) hr
 have key : ∀ (j : Nat) p,(wxs (a :: b :: bs) os ks 0 2)[j]? = some (wKey k,p) → ks[j]? = some k := fun j p hj => by
  have e : ((wxs (a :: b :: bs) os ks 0 2).map (·.1))[j]? = some (wKey k) := by rw [List.getElem?_map,hj]; rfl
  rw [wxs_keys,List.getElem?_map] at e
  cases hq : ks[j]? with
  | none => rw [hq] at e; cases e
  | some x => rw [hq] at e; exact congrArg some (wKey_inj (Option.some.inj e))
 refine wpAny_dictFind_heap (knd := wKind w) (xs := wxs (a :: b :: bs) os ks 0 2) (k := wKey k) hu (tp_is hb) ha rfl (wes_xs w _ os ks 0 2) his (wxs_nodup _ os ks 0 2 hn) (fun hno => h0 fun hm => ?_) (fun j p hj => h1 j (key j p hj))
 obtain ⟨j,hj⟩ := List.mem_iff_getElem?.mp hm
 have e : ((wxs (a :: b :: bs) os ks 0 2).map (·.1))[j]? = some (wKey k) := by rw [wxs_keys,List.getElem?_map,hj]; rfl
 rw [List.getElem?_map] at e
 cases hq : (wxs (a :: b :: bs) os ks 0 2)[j]? with
 | none => rw [hq] at e; cases e
 | some x =>
  rw [hq] at e
  have e : x.1 = wKey k := Option.some.inj e
  exact hno j x.2 (by rw [hq,← e])
theorem hash_w {w : World} {A' : Around} {E : Value → Shared → Prop} {s : Shared} {b : Nat} {k : Array UInt8} {os : List Obj} {Q : Int → Shared → Prop} (hu : A'.units < cLine) (hb : s.heap.get? b = some (tpO k os 1)) (h : Q (hW w.params k) { s with toks := s.toks + 3 }) :
  wpAny (model prog w) A' (PySem.pyHash (.ref b)) Q E s := by
 rw [hW_is] at h
 exact (wKind w).pyHash (k := wKey k) hu (tp_is hb) h
noncomputable def wInC (P : Params) (ks : List (Array UInt8)) (k : Array UInt8) (r : Bool) : CF := ⟨990,9800,false,false,(fun b => b),none,fun c as os =>
 { code := .builtin "dict.__contains__" ⟨[.ref (A as 0),.ref (A as 1)],[]⟩
   own := wdO P as os ks :: tpO k os 1 :: wtp os ks 2
   nn := 0,nt := 0
   res := fun _ _ => .ok (.ret (.bool r))
   upd := fun _ _ => wdO P as os ks :: tpO k os 1 :: wtp os ks 2
   new := fun _ _ => [] }⟩
theorem wInC_ok (w : World) (kt : KT) (P : Params) (hP : P = w.params) (hk : ∃ o,kt.get 1 = some o) (ks : List (Array UInt8)) (k : Array UInt8) (r : Bool) (hn : ks.Nodup) (hr : decide (k ∈ ks) = r) : Ctr (model prog w) kt (wInC P ks k r) := fun bl c as os _ _ _ _ =>
 ctr_any' fun R s hd hu hown _ hno => by
  subst hP
  obtain ⟨a,b,bs,rfl,ha,hb,hq⟩ := own3 hown
  obtain ⟨o1,ho1⟩ := hk
  refine codeAny_builtin entry_contains ?_
  rw [Around.under_plainId (by decide +kernel)]
  have hu' : R.in1.units < cLine := by
    have : R.units ≤ 9800 := hu
    show R.units + 1 < 9900
    omega
  have fin : ∀ v,v = r → Post (a :: b :: bs) ((wInC w.params ks k r).F c (a :: b :: bs) os) s (.ok (.ret (.bool v))) { s with toks := s.toks + 3 } := fun v e => by
    subst e
    exact ⟨[],[],rfl,rfl,List.nodup_nil,fun _ h => (nomatch h),rfl,hown,trivial,.toks ..⟩
  show wpAny _ _ (dictGet a (.ref b) >>= _) _ _ s
  refine wpAny_bind ?_
  unfold dictGet
  refine wpAny_holding ?_
  refine wpAny_bind (hash_w hu' hb (wpAny_bind (find_w (s := { s with toks := s.toks + 3 }) hu' hn ha hb hq (fun hno' => ?_) (fun j hj => ?_))))
  · refine wpAny_pure ?_
    show wpAny _ _ (Builtin.Dict.pendingKey? a (.ref b) >>= _) _ _ _
    have z : Post (a :: b :: bs) ((wInC w.params ks k r).F c (a :: b :: bs) os) s (.ok (.ret (.bool false))) { s with toks := s.toks + 3 } := fin false (by rw [← hr]; exact (decide_eq_false hno').symm)
    first
     | exact wpAny_bind (wpAny_pendingKey_other (one_ne ho1 (hno a (List.mem_cons_self ..))) (wpAny_pure z))
     | exact wpAny_bind (wpAny_pendingKey_other (one_ne ho1 (hno a (List.mem_cons_self ..))) (wpAny_pure ⟨_,rfl,z⟩))
  · have hm : k ∈ ks := List.mem_of_getElem? hj
    have hsz : (wes w.params (a :: b :: bs) os ks 0 2)[j]?.isSome = true := by
     rw [wes_xs,List.getElem?_map]
     have e : ((wxs (a :: b :: bs) os ks 0 2).map (·.1))[j]? = some (wKey k) := by rw [wxs_keys,List.getElem?_map,hj]; rfl
     rw [List.getElem?_map] at e
     cases h : (wxs (a :: b :: bs) os ks 0 2)[j]? with
     | none => rw [h] at e; cases e
     | some x => rfl
    refine wpAny_bind (wpAny_dictEntries (s := { s with toks := s.toks + 3 }) ha rfl ?_)
    have z : Post (a :: b :: bs) ((wInC w.params ks k r).F c (a :: b :: bs) os) s (.ok (.ret (.bool true))) { s with toks := s.toks + 3 } := fin true (by rw [← hr]; exact (decide_eq_true hm).symm)
    cases h : (wes w.params (a :: b :: bs) os ks 0 2)[j]? with
    | none => rw [h] at hsz; cases hsz
    | some x =>
     have h' : (wes w.params (a :: b :: bs) os ks 0 2).toArray[j]? = some x := by rw [List.getElem?_toArray]; exact h
     rw [h']
     first
      | exact wpAny_pure (wpAny_pure z)
      | exact wpAny_pure (wpAny_pure ⟨_,rfl,z⟩)
theorem wes_get (w : World) (as : List Nat) (os : List Obj) : ∀ (ks : List (Array UInt8)) (i j n : Nat) (k : Array UInt8),ks[n]? = some k → (wes w.params as os ks i j)[n]? = some ⟨hW w.params k,.ref (A as (j + n)),tV os 0 (i + 2 * n + 1)⟩
 | [],_,_,_,_,h => by simp at h
 | x :: r,i,j,0,k,h => by
  simp at h
  subst h
  rfl
 | x :: r,i,j,n + 1,k,h => by
  have := wes_get w as os r (i + 2) (j + 1) n k (by simpa using h)
  show (wes w.params as os r (i + 2) (j + 1))[n]? = _
  rw [this,show j + 1 + n = j + (n + 1) by omega,show i + 2 + 2 * n + 1 = i + 2 * (n + 1) + 1 by omega]
noncomputable def wGetC (P : Params) (ks : List (Array UInt8)) (n : Nat) : CF := ⟨990,9800,false,false,(fun b => b),none,fun c as os =>
 { code := .builtin "dict.__getitem__" ⟨[.ref (A as 0),.ref (A as 1)],[]⟩
   own := wdO P as os ks :: tpO (ks.getD n #[]) os 1 :: wtp os ks 2
   nn := 0,nt := 0
   res := fun _ _ => .ok (.ret (tV os 0 (2 * n + 1)))
   upd := fun _ _ => wdO P as os ks :: tpO (ks.getD n #[]) os 1 :: wtp os ks 2
   new := fun _ _ => [] }⟩
theorem wGetC_ok (w : World) (kt : KT) (P : Params) (hP : P = w.params) (ks : List (Array UInt8)) (n : Nat) (hn : ks.Nodup) (hr : n < ks.length) : Ctr (model prog w) kt (wGetC P ks n) := fun bl c as os _ _ _ _ =>
 ctr_any' fun R s hd hu hown _ hno => by
  subst hP
  obtain ⟨a,b,bs,rfl,ha,hb,hq⟩ := own3 hown
  have hk : ks[n]? = some (ks.getD n #[]) := by simp [hr]
  refine codeAny_builtin entry_dict_getitem ?_
  rw [Around.under_plainId (by decide +kernel)]
  have hu' : R.in1.units < cLine := by
   have : R.units ≤ 9800 := hu
   show R.units + 1 < 9900
   omega
  show wpAny _ _ (dictGet a (.ref b) >>= _) _ _ s
  refine wpAny_bind ?_
  unfold dictGet
  refine wpAny_holding ?_
  refine wpAny_bind (hash_w hu' hb (wpAny_bind (find_w (s := { s with toks := s.toks + 3 }) hu' hn ha hb hq (fun hno' => absurd (List.mem_of_getElem? hk) hno') (fun j hj => ?_))))
  have hjn : j = n := by
   have h1 := (List.getElem?_eq_some_iff.mp hj).1
   have h2 := (List.getElem?_inj h1 hn).mp (hj.trans hk.symm)
   exact h2
  subst hjn
  refine wpAny_bind (wpAny_dictEntries (s := { s with toks := s.toks + 3 }) ha rfl ?_)
  have h' : (wes w.params (a :: b :: bs) os ks 0 2).toArray[j]? = some ⟨hW w.params (ks.getD j #[]),.ref (A (a :: b :: bs) (2 + j)),tV os 0 (2 * j + 1)⟩ := by
   rw [List.getElem?_toArray,wes_get w _ os ks 0 2 j _ hk,Nat.zero_add]
  rw [h']
  have z : Post (a :: b :: bs) ((wGetC w.params ks j).F c (a :: b :: bs) os) s (.ok (.ret (tV os 0 (2 * j + 1)))) { s with toks := s.toks + 3 } :=
   ⟨[],[],rfl,rfl,List.nodup_nil,fun _ h => (nomatch h),rfl,hown,trivial,.toks ..⟩
  first
   | exact wpAny_pure (wpAny_pure z)
   | exact wpAny_pure (wpAny_pure ⟨_,rfl,z⟩)
theorem Own.keep {h h' : Heap} {a : Nat} (hs : Heap.SameBut a h h') : ∀ {bs : List Nat} {os : List Obj},a ∉ bs → Own h bs os → Own h' bs os
 | [],[],_,_ => trivial
 | [],_ :: _,_,H => H.elim
 | _ :: _,[],_,H => H.elim
 | b :: bs,o :: os,hn,H => ⟨(hs.2 b fun e => hn (e ▸ List.mem_cons_self ..)).trans H.1,Own.keep hs (fun hm => hn (List.mem_cons_of_mem _ hm)) H.2⟩
noncomputable def wPutC (P : Params) (ks : List (Array UInt8)) (k : Array UInt8) : CF := ⟨990,9800,false,false,(fun b => b),none,fun c as os =>
 { code := .builtin "dict.__setitem__" ⟨[.ref (A as 0),.ref (A as 1),argOf c 2],[]⟩
   own := wdO P as os ks :: tpO k os 1 :: wtp os ks 2
   nn := 0,nt := 0
   res := fun _ _ => .ok (.ret .none)
   upd := fun _ _ => dO (wes P as os ks 0 2 ++ ([⟨hW P k,.ref (A as 1),argOf c 2⟩] : List DictEntry)).toArray (ks.length + 1) :: tpO k os 1 :: wtp os ks 2
   new := fun _ _ => [] }⟩
theorem wPutC_ok (w : World) (kt : KT) (P : Params) (hP : P = w.params) (ks : List (Array UInt8)) (k : Array UInt8) (hn : ks.Nodup) (hr : k ∉ ks) (hz : ∀ as os,(wes P as os ks 0 2).toArray.size < 1000) : Ctr (model prog w) kt (wPutC P ks k) := fun bl c as os _ _ _ _ =>
 ctr_any' fun R s hd hu hown hnd hno => by
  subst hP
  obtain ⟨a,b,bs,rfl,ha,hb,hq⟩ := own3 hown
  refine codeAny_builtin entry_dict_setitem ?_
  rw [Around.under_plainId (by decide +kernel)]
  have hu' : R.in1.units < cLine := by
   have : R.units ≤ 9800 := hu
   show R.units + 1 < 9900
   omega
  show wpAny _ _ (Builtin.Dict.notOrdered "__setitem__" ⟨[.ref a,.ref b,argOf c 2],[]⟩ >>= _) _ _ s
  refine wpAny_bind (wpAny_notOrdered_dict ⟨_,ha,rfl⟩ ?_)
  show wpAny _ _ (dictSet a (.ref b) (argOf c 2) >>= _) _ _ s
  refine wpAny_bind ?_
  unfold dictSet
  refine wpAny_holding ?_
  refine wpAny_bind (hash_w hu' hb ?_)
  unfold dictSetHashed
  refine wpAny_holding ?_
  refine wpAny_bind (find_w (s := { s with toks := s.toks + 3 }) hu' hn ha hb hq (fun hno' => ?_) (fun j hj => absurd (List.mem_of_getElem? hj) hr))
  have hsame : Heap.SameBut a s.heap (s.heap.update a (Obj.mapDictKeys (·.push ⟨hW w.params k,.ref b,argOf c 2⟩))) := Heap.SameBut.update ..
  have z : (s.heap.update a (Obj.mapDictKeys (·.push ⟨hW w.params k,.ref b,argOf c 2⟩))).get? a = some (Obj.mapDictKeys (·.push ⟨hW w.params k,.ref b,argOf c 2⟩) (wdO w.params (a :: b :: bs) os ks)) := Heap.get?_update_self _ ha rfl
  have hna : a ∉ b :: bs := (List.nodup_cons.mp hnd).1
  have ho : Own (s.heap.update a (Obj.mapDictKeys (·.push ⟨hW w.params k,.ref b,argOf c 2⟩))) (b :: bs) (tpO k os 1 :: wtp os ks 2) := Own.keep hsame hna ⟨hb,hq⟩
  have fin : Post (a :: b :: bs) ((wPutC w.params ks k).F c (a :: b :: bs) os) s (.ok (.ret .none)) { s with heap := s.heap.update a (Obj.mapDictKeys (·.push ⟨hW w.params k,.ref b,argOf c 2⟩)),toks := s.toks + 3 } := by
   refine ⟨[],[],rfl,rfl,List.nodup_nil,fun _ h => (nomatch h),rfl,⟨z.trans (congrArg some ?_),ho⟩,trivial,⟨fun y o e hy => (hsame.2 y fun h => hy (by rw [h]; exact List.mem_cons_self ..)).trans e,by rw [hsame.1]; exact Nat.le_refl _,rfl,rfl⟩⟩
   show dO ((wes w.params (a :: b :: bs) os ks 0 2).toArray.push _) (ks.length + 1) = dO _ _
   rw [List.push_toArray]
   rfl
  refine wpAny_bind (wpAny_rule (wpAny_updateDictKeys (s := { s with toks := s.toks + 3 }) (hz := by have := hz (a :: b :: bs) os; show _ ≤ 2 ^ 24; omega) ha rfl (wpAny_pure fin)))
noncomputable def anyEs (os : List Obj) (j n : Nat) : List DictEntry := (List.range n).map fun i => entO (os.getD j default) i
noncomputable def lenDC (n : Nat) : CF := ⟨990,9800,false,false,(fun b => b),none,fun c x y => mkC (.builtin "len" ⟨[.ref (A x 0)],[]⟩) [dO (anyEs y 0 n).toArray (oE y 0)] (0) (1) (fun _ v => .ok (.ret (.int n (A v 0)))) (fun _ _ => []) (fun _ _ => [])⟩
theorem lenDC_ok (w : World) (kt : KT) (hk : ∃ o,kt.get 1 = some o) (n : Nat) (hn : n ≤ 1000) : Ctr (model prog w) kt (lenDC n) := fun bl c as os _ _ _ _ =>
 ctr_any' fun R s hd hu hown _ hno => by
  obtain ⟨a,rfl,ha⟩ := one_own hown
  obtain ⟨o1,ho1⟩ := hk
  have hs : (anyEs os 0 n).toArray.size = n := by simp [anyEs]
  refine codeAny_builtin entry_len ?_
  rw [Around.under_plainId plain_len]
  unfold Builtin.«len»
  refine wpAny_bind (m := oneArg "len" _) (wpAny_pure ?_)
  have hT : s.TypeIs (.ref a) "dict" := ⟨_,ha,rfl⟩
  refine wpAny_bind (m := callSpecial? _ (Str.ofString "__len__")) (wpAny_callSpecial?_slot (name := Str.ofString "__len__") hT F.slot_dict_len (wpAny_call_entry F.slot_dict_len hT F.entry_dict_len ?_ (F.args_dict_len_1 _)))
  show wpAny _ _ (dictSize a >>= _) _ _ s
  unfold dictSize
  refine wpAny_bind (wpAny_bind (wpAny_dictEntries ha rfl (wpAny_pure ?_)))
  show wpAny _ _ (Builtin.Dict.pendingCount a >>= _) _ _ s
  refine wpAny_bind (wpAny_pendingCount_other (one_ne ho1 (hno a (List.mem_cons_self ..))) ?_)
  refine wpAny_ret_mkInt ?_
  rw [hs]
  have e0 : ((n : Int) + ((0 : Nat) : Int)) = n := by omega
  rw [e0]
  refine wpAny_bind (wpAny_holding (wpAny_pure ?_))
  refine wpAny_bind (wpAny_letGo ?_)
  show wpAny _ _ (if (n : Int) < 0 then _ else _) _ _ _
  rw [if_neg (by omega)]
  show wpAny _ _ (if (n : Int) ≥ 2 ^ 63 then _ else _) _ _ _
  rw [if_neg (by omega)]
  exact wpAny_bind (wpAny_mkInt (wpAny_pure ⟨[],[s.toks + 1],rfl,rfl,List.nodup_nil,fun _ h => (nomatch h),rfl,⟨ha,trivial⟩,trivial,.toks ..⟩))
noncomputable def diC (n : Nat) : CF := ⟨990,9800,false,false,(fun b => b),none,fun c x y => mkC (.builtin "dict.__iter__" ⟨[.ref (A x 0)],[]⟩) [dO (anyEs y 0 n).toArray (oE y 0)] (1) (0) (fun u _ => .ok (.ret (.ref (A u 0)))) (fun _ _ => []) (fun _ _ => [⟨.type "dict_keyiterator",none,.fields #[.ref (A x 0),.int 0 0,.int n 0,.int (oE y 0) 0],#[]⟩])⟩
theorem diC_ok (w : World) (kt : KT) (hk : ∃ o,kt.get 1 = some o) (n : Nat) : Ctr (model prog w) kt (diC n) := fun bl c as os _ _ _ _ =>
 ctr_any' fun R s hd hu hown _ hno => by
  obtain ⟨a,rfl,ha⟩ := one_own hown
  obtain ⟨o1,ho1⟩ := hk
  have hs : (anyEs os 0 n).toArray.size = n := by simp [anyEs]
  refine codeAny_builtin F.entry_dict_iter ?_
  rw [Around.under_plainId (by decide +kernel)]
  unfold Builtin.«dict.__iter__»
  refine wpAny_bind ?_
  unfold Builtin.Dict.dictSlotNone
  refine wpAny_bind (wpAny_notOrdered_dict ⟨_,ha,rfl⟩ ?_)
  refine wpAny_pure ?_
  show wpAny _ _ (Builtin.Dict.showsAll a >>= _) _ _ s
  unfold Builtin.Dict.showsAll
  rw [if_neg (by rw [one_ne ho1 (hno a (List.mem_cons_self ..))]; exact Bool.false_ne_true)]
  refine wpAny_bind (wpAny_pure ?_)
  refine wpAny_bind (wpAny_dictEntries ha rfl ?_)
  refine wpAny_bind (wpAny_dictEpoch ha rfl ?_)
  refine wpAny_bind ?_
  show wpAny _ _ (alloc ⟨.type "dict_keyiterator",none,.fields #[.ref a,.int 0 0,.int ((anyEs os 0 n).toArray.size : Nat) 0,.int (oE os 0 : Nat) 0],#[]⟩ >>= fun x => pure (Value.ref x)) _ _ s
  rw [hs]
  refine wpAny_bind (wpAny_alloc (wpAny_pure ?_))
  have hg : (s.heap.push ⟨.type "dict_keyiterator",none,.fields #[.ref a,.int 0 0,.int (n : Nat) 0,.int (oE os 0 : Nat) 0],#[]⟩).get? s.heap.objs.size = some ⟨.type "dict_keyiterator",none,.fields #[.ref a,.int 0 0,.int (n : Nat) 0,.int (oE os 0 : Nat) 0],#[]⟩ := Heap.get?_push_size _ rfl
  have hb' : ∀ x ∈ [s.heap.objs.size],s.heap.objs.size ≤ x ∧ x < (s.heap.push ⟨.type "dict_keyiterator",none,.fields #[.ref a,.int 0 0,.int (n : Nat) 0,.int (oE os 0 : Nat) 0],#[]⟩).objs.size := by
   intro x hx
   rw [List.mem_singleton] at hx
   rw [hx,Heap.size_push]
   exact ⟨Nat.le_refl _,Nat.lt_succ_self _⟩
  exact wpAny_pure ⟨[s.heap.objs.size],[],rfl,rfl,by simp,hb',rfl,Own.push hown,⟨hg,trivial⟩,Kept.push s _ s.toks _⟩
theorem kt1 (P : Params) : ∃ o,(V P).kt.get 1 = some o := ⟨o1 P,by kernel_rfl⟩
theorem nd0 : ([] : List (Array UInt8)).Nodup := List.nodup_nil
theorem nd1 : ([bS] : List (Array UInt8)).Nodup := by decide +kernel
theorem nd2 : ([bS,bA] : List (Array UInt8)).Nodup := by decide +kernel
theorem nd3 : ([bS,bA,bP] : List (Array UInt8)).Nodup := by decide +kernel
theorem wIn_k (w : World) (b' : Bool) (ks : List (Array UInt8)) (k : Array UInt8) (r : Bool) (hn : ks.Nodup) (hr : decide (k ∈ ks) = r) : Ct w b' (wInC (PB w b') ks k r) := wInC_ok _ _ _ rfl (kt1 _) ks k r hn hr
theorem wPut_k (w : World) (b' : Bool) (ks : List (Array UInt8)) (k : Array UInt8) (hn : ks.Nodup) (hr : k ∉ ks) (hz : ∀ as os,(wes (PB w b') as os ks 0 2).toArray.size < 1000) : Ct w b' (wPutC (PB w b') ks k) := wPutC_ok _ _ _ rfl ks k hn hr hz
theorem wGet_k (w : World) (b' : Bool) (ks : List (Array UInt8)) (n : Nat) (hn : ks.Nodup) (hr : n < ks.length) : Ct w b' (wGetC (PB w b') ks n) := wGetC_ok _ _ _ rfl ks n hn hr
theorem bGet_k (w : World) (b' : Bool) (n : Nat) (hn : n = 0 ∨ n = 1 ∨ n = 2) : Ct w b' (bGetC (PB w b') [bS,bA,bP] n) := bGetC_ok _ _ _ rfl _ n fun os => by rcases hn with rfl | rfl | rfl <;> kernel_rfl
theorem bGet2_k (w : World) (b' : Bool) (n : Nat) (hn : n = 0 ∨ n = 1 ∨ n = 2) : Ct w b' (bGet2C (PB w b') [bS,bA,bP] n) := bGet2C_ok _ _ _ rfl (kt1 _) _ n fun os => by rcases hn with rfl | rfl | rfl <;> kernel_rfl
theorem bPut0 (w : World) (b' : Bool) : Ct w b' (bPutC (PB w b') [] bS) := bPutC_ok _ _ _ rfl _ _ (fun os => by show (0 : Nat) < 1000; decide) fun os => by kernel_rfl
theorem bPut1 (w : World) (b' : Bool) : Ct w b' (bPutC (PB w b') [bS] bA) := bPutC_ok _ _ _ rfl _ _ (fun os => by show (1 : Nat) < 1000; decide) fun os => by kernel_rfl
theorem bPut2 (w : World) (b' : Bool) : Ct w b' (bPutC (PB w b') [bS,bA] bP) := bPutC_ok _ _ _ rfl _ _ (fun os => by show (2 : Nat) < 1000; decide) fun os => by kernel_rfl
end Mine
namespace Mine
open PySem PySem.W PySem.W.X PySem.Builtin PySem.W.KBy
noncomputable def baIC (b : Array UInt8) : CF := ⟨990,9800,false,true,(fun b => b),none,fun c as _ =>
 { code := .builtin "bytearray.__init__" ⟨[.ref (A as 0),.bytes b (cT c 1)],[]⟩
   own := [baO #[]],nn := 0,nt := 0
   res := fun _ _ => .ok (.ret .none)
   upd := fun _ _ => [baO b]
   new := fun _ _ => [] }⟩
theorem bind1 (v : Value) : Bytes.bindOptional "bytearray.__init__" "bytearray" ["source","encoding","errors"] [v] [] = pure [some v,none,none] := by kernel_rfl
theorem look_by_index : typeLookup (.type "bytes") "__index__" = pure none := by rw [typeLookup_type,builtinLookup_eq_fast]; kernel_rfl
theorem buffer_full {id : String} {b : Array UInt8} {t : Tok} : Bytes.buffer? id (.bytes b t) true = pure (some b) := by
 unfold Bytes.buffer?
 rw [KBy.special_eq KBy.look_buffer,KBy.own_buffer,KBy.own_release]
 kernel_rfl
theorem baIC_ok (w : World) (kt : KT) (b : Array UInt8) (hb : b.size ≤ 1000) : Ctr (model prog w) kt (baIC b) := fun bl c as os _ _ _ _ => by
 refine ctr_wp fun Γ p s hc _ hgf hd hu hst hown hnd => ?_
 obtain ⟨a,rfl,ha⟩ := one_own hown
 show Sem.wp (model prog w) Γ ((model prog w).den (.builtin "bytearray.__init__" ⟨[.ref a,.bytes b (cT c 1)],[]⟩)) _ _ p s
 generalize htk : cT c 1 = tk
 rw [den_builtin entry_ba_init]
 unfold Builtin.«bytearray.__init__»
 have hall : ∀ p,allFree ((Γ.code,p) :: Γ.below) := fun p y hy => by
  rcases List.mem_cons.mp hy with rfl | hy
  · rw [hc]; show free (.builtin "bytearray.__init__" _) = true; kernel_rfl
  · exact hgf rfl y hy
 dsimp only
 rw [Sem.wp_bind']
 refine wp_ownRelease ha fun p' => ?_
 rw [if_neg Bool.false_ne_true,bind1]
 show Sem.wp (model prog w) Γ ((Bytes.exported (.ref a) <||> (do return (← Bytes.exportsOf (.ref a)) > 0)) >>= _) _ _ _ s
 simp only [orM,Sem.wp_bind']
 refine wp_exported (hall _) ?_
 show Sem.wp _ Γ (Bytes.exportsOf (.ref a) >>= fun n => pure (decide (n > 0))) _ _ _ s
 unfold Bytes.exportsOf
 simp only [Sem.wp_bind']
 refine (Sem.wp_load_of _ Γ _ _ s ha _).mpr ?_
 show Sem.wp (model prog w) Γ (Bytes.write (.ref a) (fun _ => #[]) >>= fun _ => _) _ _ _ s
 rw [Sem.wp_bind']
 refine wp_writeBa ha (by simp) ?_
 have ha2 : (s.heap.update a (Obj.mapBytearray fun _ => #[])).get? a = some (baO #[]) := Heap.get?_update_self _ ha rfl
 have hs1 : Heap.SameBut a s.heap (s.heap.update a (Obj.mapBytearray fun _ => #[])) := Heap.SameBut.update ..
 generalize hs2 : ({ s with heap := s.heap.update a (Obj.mapBytearray fun _ => #[]) } : Shared) = s2
 have ha3 : s2.heap.get? a = some (baO #[]) := by rw [← hs2]; exact ha2
 have hk : Kept s s2 [a] := by rw [← hs2]; exact Kept.ba (k := s.toks) ha
 clear hs2 ha2 hs1
 have hfin : Post [a] ((baIC b).F c [a] os) s (.ok (.ret .none)) { s2 with heap := s2.heap.update a (Obj.mapBytearray fun _ => b) } := by
  refine ⟨[],[],rfl,rfl,List.nodup_nil,fun _ h => (nomatch h),rfl,⟨Heap.get?_update_self _ ha3 rfl,trivial⟩,trivial,?_⟩
  have hk2 : Kept s2 { s2 with heap := s2.heap.update a (Obj.mapBytearray fun _ => b),toks := s2.toks } [a] := Kept.ba (k := s2.toks) ha3
  exact ⟨fun y o e hy => hk2.keep y o (hk.keep y o e hy) hy,Nat.le_trans hk.size hk2.size,hk2.gens.trans hk.gens,hk2.os.trans hk.os⟩
 rw [Sem.wp_bind']
 refine Sem.wp_mono _ _ _ (fun r p' s' h => ?_) (fun _ _ _ h => h.elim) _ _ (wp_any (Q := fun r s' => r = none ∧ s' = s2) (E := fun _ _ => False) fun R => wpAny_of_eq (a := (none : Option Str)) rfl ⟨rfl,rfl⟩)
 obtain ⟨rfl,rfl⟩ := h
 simp only [Option.isSome_none,Bool.false_eq_true,if_false]
 rw [KBy.special_eq look_by_index]
 show Sem.wp (model prog w) Γ ((Bytes.buffer? "bytearray.__init__" (.bytes b tk) true) >>= fun r => _) _ _ _ _
 rw [buffer_full]
 show Sem.wp (model prog w) Γ (rule "bytearray.__init__.bytes-like" >>= fun _ => Bytes.write (.ref a) (fun _ => b) >>= fun _ => ret .none) _ _ _ _
 rw [Sem.wp_bind']
 show Sem.wp (model prog w) Γ (Bytes.write (.ref a) (fun _ => b) >>= fun _ => ret .none) _ _ _ _
 rw [Sem.wp_bind']
 exact wp_writeBa ha3 (by omega) hfin
noncomputable def lenBC (b : Array UInt8) : CF := ⟨990,9800,false,false,(fun b => b),none,fun c as os =>
  ⟨.builtin "len" ⟨[.ref (A as 0)],[]⟩,[baO b],0,1,fun _ tk => .ok (.ret (.int b.size (A tk 0))),fun _ _ => [baO b],fun _ _ => []⟩⟩
theorem slot_ba_len : Slot "bytearray" "__len__" "bytearray.__len__" :=
 .of (owner := "bytearray") (n := "__len__") (by rw [typeLookup_type,builtinLookup_eq_fast]; kernel_rfl) (by decide +kernel) (by decide +kernel) (by decide +kernel)
  (by first | exact .inl (by decide +kernel) | exact .inr (by decide +kernel)) (by rw [isSubtype_type]; kernel_rfl)
theorem entry_ba_len : entryFor table "bytearray.__len__" = some Builtin.«bytearray.__len__» := entryFor_of_tree (by kernel_rfl)
theorem args_ba_len (a : Value) : argsOk "bytearray.__len__" ⟨[a],[]⟩ := by
  unfold argsOk; rw [signature?_of (id := "bytearray.__len__") (n := ['_','_','n','e','l','_','_']) (o := ['y','a','r','r','a','e','t','y','b']) (by kernel_rfl) (by kernel_rfl : Manifest.owners.lookup (String.ofList ['y','a','r','r','a','e','t','y','b'].reverse) = some Manifest.sig_bytearray)]; kernel_rfl
theorem lenBC_ok (w : World) (kt : KT) (b : Array UInt8) (hb : b.size ≤ 1000) : Ctr (model prog w) kt (lenBC b) := fun bl c as os _ _ _ _ =>
 ctr_any fun R s hd hu _ _ hst hown _ => by
  obtain ⟨a,rfl,ha⟩ := one_own hown
  refine codeAny_builtin entry_len ?_
  rw [Around.under_plainId plain_len]
  unfold Builtin.«len»
  refine wpAny_bind (m := oneArg "len" _) (wpAny_pure ?_)
  have hT : s.TypeIs (.ref a) "bytearray" := ⟨_,ha,rfl⟩
  refine wpAny_bind (m := callSpecial? _ (Str.ofString "__len__")) (wpAny_callSpecial?_slot (name := Str.ofString "__len__") hT slot_ba_len (wpAny_call_entry slot_ba_len hT entry_ba_len ?_ (args_ba_len _)))
  show wpAny _ _ (Bytes.payload (.ref a) >>= fun r => _) _ _ s
  refine wpAny_bind ?_
  unfold Bytes.payload Bytes.payload?
  refine wpAny_bind (wpAny_bind (wpAny_load ha ?_))
  refine wpAny_pure (wpAny_pure ?_)
  refine wpAny_ret_mkInt ?_
  refine wpAny_bind (wpAny_holding (wpAny_pure ?_))
  refine wpAny_bind (wpAny_letGo ?_)
  show wpAny _ _ (if (b.size : Int) < 0 then _ else _) _ _ _
  rw [if_neg (by omega)]
  show wpAny _ _ (if (b.size : Int) ≥ 2 ^ 63 then _ else _) _ _ _
  rw [if_neg (by omega)]
  exact wpAny_bind (wpAny_mkInt (wpAny_pure ⟨[],[s.toks + 1],rfl,rfl,List.nodup_nil,fun _ h => (nomatch h),rfl,⟨ha,trivial⟩,trivial,.toks ..⟩))
noncomputable def slBC (b : Array UInt8) (lo hi : Int) : CF := ⟨990,9800,false,false,(fun b => b),none,fun c as os =>
  ⟨.builtin "bytearray.__getitem__" ⟨[.ref (A as 0),.ref (A as 1)],[]⟩,[baO b,slO (some lo) (some hi) (tT os 1 0) (tT os 1 1)],1,0,fun ad tk => .ok (.ret (.ref (A ad 0))),fun _ _ => [baO b,slO (some lo) (some hi) (tT os 1 0) (tT os 1 1)],fun _ _ => [baO (KBy.picked b (some lo) (some hi))]⟩⟩
theorem entry_ba_getitem : entryFor table "bytearray.__getitem__" = some Builtin.«bytearray.__getitem__» := entryFor_of_tree (by kernel_rfl)
theorem slBC_ok (w : World) (kt : KT) (b : Array UInt8) (lo hi : Int) (hb : b.size ≤ 1000) : Ctr (model prog w) kt (slBC b lo hi) := fun bl c as os _ _ _ _ =>
 ctr_any fun R s hd hu _ _ hst hown _ => by
  obtain ⟨a,i,rfl,ha,hi'⟩ := two_own hown
  refine codeAny_builtin entry_ba_getitem ?_
  rw [Around.under_plainId (by decide +kernel)]
  have hT : s.TypeIs (.ref i) "slice" := ⟨_,hi',rfl⟩
  show wpAny _ _ (Bytes.subscript? (.ref i) >>= fun r => _) _ _ s
  refine wpAny_bind ?_
  unfold Bytes.subscript?
  refine wpAny_bind (wpAny_specialOf hT slice_no_index (wpAny_pure ?_))
  refine wpAny_bind (wpAny_typeOf hT ?_)
  show wpAny _ _ (Bytes.sliceParts (.ref i) >>= fun r => _) _ _ s
  refine wpAny_bind ?_
  unfold Bytes.sliceParts
  refine wpAny_bind (wpAny_field (x := .none) hi' rfl rfl ?_)
  kby_none
  refine wpAny_ite (KBy.ite_no (show ¬ ((Value.none == rawInt 0) = true) from Bool.false_ne_true) ?_)
  refine wpAny_bind (wpAny_field (x := .int lo (tT os 1 0)) hi' rfl rfl ?_)
  have go : wpAny (model prog w) R.in1 (sliceIndices (rawPart (some lo)) (rawPart (some hi)) (rawPart none) b.size) (fun r s' => r = sliceBounds (some lo) (some hi) none b.size ∧ s' = s) (fun _ _ => False) s :=
   wpAny_of_eq (sliceIndices_raw (some lo) (some hi) none b.size (fun e => nomatch e)) ⟨rfl,rfl⟩
  kby_int
  refine wpAny_bind (wpAny_field (x := .int hi (tT os 1 1)) hi' rfl rfl ?_)
  kby_int
  refine wpAny_pure ?_
  show wpAny _ _ (Bytes.payload (.ref a) >>= fun r => _) _ _ s
  refine wpAny_bind ?_
  unfold Bytes.payload Bytes.payload?
  refine wpAny_bind (wpAny_bind (wpAny_load ha ?_))
  refine wpAny_pure (wpAny_pure ?_)
  refine wpAny_bind (wpAny_mono go (fun r s' hr => ?_) fun _ _ e => e.elim)
  obtain ⟨hr1,hr2⟩ := hr
  rw [hr1,hr2]
  have hps : (KBy.picked b (some lo) (some hi)).size ≤ 1000 := Nat.le_trans (KBc.size_picked_le b _ _) hb
  refine wpAny_bind (wpAny_newObj_type (T := "bytearray") (data := .bytearray (KBy.picked b (some lo) (some hi))) (dict := none) (wpAny_pure ?_) (by show (KBy.picked b (some lo) (some hi)).size ≤ 2 ^ 24; omega))
  have hg : (s.heap.push (baO (KBy.picked b (some lo) (some hi)))).get? s.heap.objs.size = some (baO (KBy.picked b (some lo) (some hi))) := Heap.get?_push_size _ rfl
  have hb' : ∀ x ∈ [s.heap.objs.size],s.heap.objs.size ≤ x ∧ x < (s.heap.push (baO (KBy.picked b (some lo) (some hi)))).objs.size := by
   intro x hx
   rw [List.mem_singleton] at hx
   rw [hx,Heap.size_push]
   exact ⟨Nat.le_refl _,Nat.lt_succ_self _⟩
  exact ⟨[s.heap.objs.size],[],rfl,rfl,by simp,hb',rfl,Own.push hown,⟨hg,trivial⟩,Kept.push s (baO (KBy.picked b (some lo) (some hi))) s.toks _⟩
end Mine
namespace Mine
open PySem PySem.W PySem.W.X PySem.Builtin
variable (w : World) (b' : Bool)
section
variable (P : Params) (y : List Obj) (x : List Nat) (i0 : Nat)
noncomputable def Q0 : Obj := ⟨.ref 1014,(some (A x i0)),.plain,#[]⟩
noncomputable def Q1 (arr : Array UInt8) (at_ : Int) : Obj := dd P y i0 [t489,t337] [.bytes arr (tT y i0 1),.int at_ (tT y i0 3)]
end
noncomputable def nextE (P : Params) (arr : Array UInt8) (at_ : Int) : CF := ⟨900,9000,false,false,(fun b => b),none,fun c x y => mkC (.call (.ref 1004) ⟨[.ref (A x 0)],[]⟩) [Q0 x 1,Q1 P y 1 arr at_] (0) (0) (fun u v => .ok (.ret (.none))) nN nN⟩
theorem nextE_ok (arr : Array UInt8) (at_ : Int) (n : Nat) (hn : at_ = n) (hs : arr.size ≤ 1000) (hx : arr.size ≤ n) : Ct w b' (nextE (PB w b') arr at_) :=
 sV 6000 2 (Yh (j97 (j241 (j189 []))) <| Yd [] (lenC_ok _ _ arr hs) <| Yv 0 (bX (at_ ≥ (arr.size : Int))) (bF true) (bT (by omega)) <| Yn) [] []
section
variable (P : Params) (y : List Obj) (v : List Nat) (i0 : Nat)
noncomputable def Q2 (arr : Array UInt8) (at_ : Int) : Obj := dd P y 1 [t489,t337] [.bytes arr (tT y 1 1),.int (at_ + 1) (A v 1)]
end
noncomputable def sfI40 (P : Params) (arr : Array UInt8) (at_ : Int) : CF := ⟨800,8000,false,false,(fun b => b),none,fun c x y => mkC (.call (.ref 1046) ⟨[.ref (A x 0)],[]⟩) [Q0 x 1,Q1 P y 1 arr at_] (0) (2) (fun u v => .ok (.ret (.int 40 (A v 0)))) (fun u v => [(1,Q2 P y v arr at_)]) nN⟩
theorem sfI40_ok (arr : Array UInt8) (at_ : Int) (n : Nat) (hn : at_ = n) (hs : arr.size ≤ 1000) (hx : arr[n]? = some 40) : Ct w b' (sfI40 (PB w b') arr at_) :=
 sV 6000 2 (Yh (j266 []) <| Yc [0,1] (nextC_ok _ _ arr at_ n 40 hn hs hx) <| Yh (j415 []) <| Yn) [] [1,2]
section
variable (P : Params) (y : List Obj) (i0 : Nat)
noncomputable def Q3 (arr : Array UInt8) (at_ : Int) : Obj := dd P y i0 [t489,t337] [.bytes arr (tT y i0 1),.int at_ 1576]
end
noncomputable def sfI55 (P : Params) (arr : Array UInt8) (at_ : Int) : CF := ⟨800,8000,false,false,(fun b => b),none,fun c x y => mkC (.call (.ref 1046) ⟨[.ref (A x 0)],[]⟩) [Q0 x 1,Q3 P y 1 arr at_] (0) (2) (fun u v => .ok (.ret (.int 55 (A v 0)))) (fun u v => [(1,Q2 P y v arr at_)]) nN⟩
theorem sfI55_ok (arr : Array UInt8) (at_ : Int) (n : Nat) (hn : at_ = n) (hs : arr.size ≤ 1000) (hx : arr[n]? = some 55) : Ct w b' (sfI55 (PB w b') arr at_) :=
 sV 6000 2 (Yh (j266 []) <| Yc [0,1] (nextC_ok _ _ arr at_ n 55 hn hs hx) <| Yh (j415 []) <| Yn) [] [1,2]
noncomputable def sfI115 (P : Params) (arr : Array UInt8) (at_ : Int) : CF := ⟨800,8000,false,false,(fun b => b),none,fun c x y => mkC (.call (.ref 1046) ⟨[.ref (A x 0)],[]⟩) [Q0 x 1,Q1 P y 1 arr at_] (0) (2) (fun u v => .ok (.ret (.int 115 (A v 0)))) (fun u v => [(1,Q2 P y v arr at_)]) nN⟩
theorem sfI115_ok (arr : Array UInt8) (at_ : Int) (n : Nat) (hn : at_ = n) (hs : arr.size ≤ 1000) (hx : arr[n]? = some 115) : Ct w b' (sfI115 (PB w b') arr at_) :=
 sV 6000 2 (Yh (j266 []) <| Yc [0,1] (nextC_ok _ _ arr at_ n 115 hn hs hx) <| Yh (j415 []) <| Yn) [] [1,2]
noncomputable def sfI97 (P : Params) (arr : Array UInt8) (at_ : Int) : CF := ⟨800,8000,false,false,(fun b => b),none,fun c x y => mkC (.call (.ref 1046) ⟨[.ref (A x 0)],[]⟩) [Q0 x 1,Q1 P y 1 arr at_] (0) (2) (fun u v => .ok (.ret (.int 97 (A v 0)))) (fun u v => [(1,Q2 P y v arr at_)]) nN⟩
theorem sfI97_ok (arr : Array UInt8) (at_ : Int) (n : Nat) (hn : at_ = n) (hs : arr.size ≤ 1000) (hx : arr[n]? = some 97) : Ct w b' (sfI97 (PB w b') arr at_) :=
 sV 6000 2 (Yh (j266 []) <| Yc [0,1] (nextC_ok _ _ arr at_ n 97 hn hs hx) <| Yh (j415 []) <| Yn) [] [1,2]
noncomputable def sfI50 (P : Params) (arr : Array UInt8) (at_ : Int) : CF := ⟨800,8000,false,false,(fun b => b),none,fun c x y => mkC (.call (.ref 1046) ⟨[.ref (A x 0)],[]⟩) [Q0 x 1,Q1 P y 1 arr at_] (0) (2) (fun u v => .ok (.ret (.int 50 (A v 0)))) (fun u v => [(1,Q2 P y v arr at_)]) nN⟩
theorem sfI50_ok (arr : Array UInt8) (at_ : Int) (n : Nat) (hn : at_ = n) (hs : arr.size ≤ 1000) (hx : arr[n]? = some 50) : Ct w b' (sfI50 (PB w b') arr at_) :=
 sV 6000 2 (Yh (j266 []) <| Yc [0,1] (nextC_ok _ _ arr at_ n 50 hn hs hx) <| Yh (j415 []) <| Yn) [] [1,2]
noncomputable def sfI112 (P : Params) (arr : Array UInt8) (at_ : Int) : CF := ⟨800,8000,false,false,(fun b => b),none,fun c x y => mkC (.call (.ref 1046) ⟨[.ref (A x 0)],[]⟩) [Q0 x 1,Q1 P y 1 arr at_] (0) (2) (fun u v => .ok (.ret (.int 112 (A v 0)))) (fun u v => [(1,Q2 P y v arr at_)]) nN⟩
theorem sfI112_ok (arr : Array UInt8) (at_ : Int) (n : Nat) (hn : at_ = n) (hs : arr.size ≤ 1000) (hx : arr[n]? = some 112) : Ct w b' (sfI112 (PB w b') arr at_) :=
 sV 6000 2 (Yh (j266 []) <| Yc [0,1] (nextC_ok _ _ arr at_ n 112 hn hs hx) <| Yh (j415 []) <| Yn) [] [1,2]
section
variable (P : Params) (y : List Obj) (v : List Nat) (i0 : Nat)
noncomputable def Q4 (arr : Array UInt8) (at_ : Int) : Obj := dd P y 1 [t489,t337] [.bytes arr (tT y 1 1),.int (at_ + 1 + 1) (A v 1)]
end
noncomputable def sfB40 (P : Params) (arr : Array UInt8) (at_ : Int) : CF := ⟨800,8000,false,false,(fun b => b),none,fun c x y => mkC (.call (.ref 1046) ⟨[.ref (A x 0)],[]⟩) [Q0 x 1,Q1 P y 1 arr at_] (0) (2) (fun u v => .ok (.ret (.int 40 (A v 0)))) (fun u v => [(1,Q4 P y v arr at_)]) nN⟩
theorem sfB40_ok (arr : Array UInt8) (at_ : Int) (n : Nat) (hn : at_ = n) (hs : arr.size ≤ 1000) (hx : arr[n]? = some 32) (hy : arr[n + 1]? = some 40) : Ct w b' (sfB40 (PB w b') arr at_) :=
 sV 6000 2 (Yh (j266 []) <| Yc [0,1] (nextC_ok _ _ arr at_ n 32 hn hs hx) <| Yh (j313 (j332 (j104 []))) <| Yc [0,1] (nextC_ok _ _ arr (at_ + 1) (n + 1) 40 (by omega) hs hy) <| Yh (j219 (11 :: j76 (12 :: j312 []))) <| Yn) [] [6,7]
noncomputable def sfB115 (P : Params) (arr : Array UInt8) (at_ : Int) : CF := ⟨800,8000,false,false,(fun b => b),none,fun c x y => mkC (.call (.ref 1046) ⟨[.ref (A x 0)],[]⟩) [Q0 x 1,Q1 P y 1 arr at_] (0) (2) (fun u v => .ok (.ret (.int 115 (A v 0)))) (fun u v => [(1,Q4 P y v arr at_)]) nN⟩
theorem sfB115_ok (arr : Array UInt8) (at_ : Int) (n : Nat) (hn : at_ = n) (hs : arr.size ≤ 1000) (hx : arr[n]? = some 32) (hy : arr[n + 1]? = some 115) : Ct w b' (sfB115 (PB w b') arr at_) :=
 sV 6000 2 (Yh (j266 []) <| Yc [0,1] (nextC_ok _ _ arr at_ n 32 hn hs hx) <| Yh (j313 (j332 (j104 []))) <| Yc [0,1] (nextC_ok _ _ arr (at_ + 1) (n + 1) 115 (by omega) hs hy) <| Yh (j219 (11 :: j76 (12 :: j312 []))) <| Yn) [] [6,7]
noncomputable def sfB97 (P : Params) (arr : Array UInt8) (at_ : Int) : CF := ⟨800,8000,false,false,(fun b => b),none,fun c x y => mkC (.call (.ref 1046) ⟨[.ref (A x 0)],[]⟩) [Q0 x 1,Q1 P y 1 arr at_] (0) (2) (fun u v => .ok (.ret (.int 97 (A v 0)))) (fun u v => [(1,Q4 P y v arr at_)]) nN⟩
theorem sfB97_ok (arr : Array UInt8) (at_ : Int) (n : Nat) (hn : at_ = n) (hs : arr.size ≤ 1000) (hx : arr[n]? = some 32) (hy : arr[n + 1]? = some 97) : Ct w b' (sfB97 (PB w b') arr at_) :=
 sV 6000 2 (Yh (j266 []) <| Yc [0,1] (nextC_ok _ _ arr at_ n 32 hn hs hx) <| Yh (j313 (j332 (j104 []))) <| Yc [0,1] (nextC_ok _ _ arr (at_ + 1) (n + 1) 97 (by omega) hs hy) <| Yh (j219 (11 :: j76 (12 :: j312 []))) <| Yn) [] [6,7]
noncomputable def sfB49 (P : Params) (arr : Array UInt8) (at_ : Int) : CF := ⟨800,8000,false,false,(fun b => b),none,fun c x y => mkC (.call (.ref 1046) ⟨[.ref (A x 0)],[]⟩) [Q0 x 1,Q1 P y 1 arr at_] (0) (2) (fun u v => .ok (.ret (.int 49 (A v 0)))) (fun u v => [(1,Q4 P y v arr at_)]) nN⟩
theorem sfB49_ok (arr : Array UInt8) (at_ : Int) (n : Nat) (hn : at_ = n) (hs : arr.size ≤ 1000) (hx : arr[n]? = some 32) (hy : arr[n + 1]? = some 49) : Ct w b' (sfB49 (PB w b') arr at_) :=
 sV 6000 2 (Yh (j266 []) <| Yc [0,1] (nextC_ok _ _ arr at_ n 32 hn hs hx) <| Yh (j313 (j332 (j104 []))) <| Yc [0,1] (nextC_ok _ _ arr (at_ + 1) (n + 1) 49 (by omega) hs hy) <| Yh (j219 (11 :: j76 (12 :: j312 []))) <| Yn) [] [6,7]
noncomputable def sfB47 (P : Params) (arr : Array UInt8) (at_ : Int) : CF := ⟨800,8000,false,false,(fun b => b),none,fun c x y => mkC (.call (.ref 1046) ⟨[.ref (A x 0)],[]⟩) [Q0 x 1,Q1 P y 1 arr at_] (0) (2) (fun u v => .ok (.ret (.int 47 (A v 0)))) (fun u v => [(1,Q4 P y v arr at_)]) nN⟩
theorem sfB47_ok (arr : Array UInt8) (at_ : Int) (n : Nat) (hn : at_ = n) (hs : arr.size ≤ 1000) (hx : arr[n]? = some 32) (hy : arr[n + 1]? = some 47) : Ct w b' (sfB47 (PB w b') arr at_) :=
 sV 6000 2 (Yh (j266 []) <| Yc [0,1] (nextC_ok _ _ arr at_ n 32 hn hs hx) <| Yh (j313 (j332 (j104 []))) <| Yc [0,1] (nextC_ok _ _ arr (at_ + 1) (n + 1) 47 (by omega) hs hy) <| Yh (j219 (11 :: j76 (12 :: j312 []))) <| Yn) [] [6,7]
noncomputable def sfE (P : Params) (arr : Array UInt8) (at_ : Int) : CF := ⟨800,8000,false,false,(fun b => b),none,fun c x y => mkC (.call (.ref 1046) ⟨[.ref (A x 0)],[]⟩) [Q0 x 1,Q1 P y 1 arr at_] (0) (0) (fun u v => .ok (.ret (.none))) nN nN⟩
theorem sfE_ok (arr : Array UInt8) (at_ : Int) (n : Nat) (hn : at_ = n) (hs : arr.size ≤ 1000) (hx : arr.size ≤ n) : Ct w b' (sfE (PB w b') arr at_) :=
 sV 6000 2 (Yh (j266 []) <| Yc [0,1] (nextE_ok _ _ arr at_ n hn hs hx) <| Yh (j50 []) <| Yn) [] []
variable (w : World) (b' : Bool)
noncomputable def wdS (P : Params) (arr : Array UInt8) (at_ : Int) : CF := ⟨800,8000,false,true,(fun b => b),none,fun c x y => mkC (.call (.ref 1053) ⟨[.ref (A x 0)],[]⟩) [Q0 x 1,Q1 P y 1 arr at_] (0) (2) (fun u v => .ok (.ret (.bytes arS (A v 0)))) (fun u v => [(1,dd P y 1 [t489,t337] [.bytes arr (tT y 1 1),.int ((((((at_ + 1) + 1) + 1) + 1) + 1) + 1) (A v 1)])]) nN⟩
theorem wdS_ok (arr : Array UInt8) (at_ : Int) (n : Nat) (hn : at_ = n) (hs : arr.size ≤ 1000) (h0 : arr[n + 0]? = some 115) (h1 : arr[n + 1]? = some 101) (h2 : arr[n + 2]? = some 97) (h3 : arr[n + 3]? = some 114) (h4 : arr[n + 4]? = some 99) (h5 : arr[n + 5]? = some 104) (hb : arr.size ≤ n + 6) : Ct w b' (wdS (PB w b') arr at_) :=
 sV 2000 2 (Yh (j349 []) <| Yd [3] (initC0_ok _ _) <| Yh (j379 []) <| YC [0,1] (nextC (PB w b') arr at_ 115) (nextC_ok _ _ arr _ (n + 0) 115 (by omega) hs h0) <| Yh (j376 []) <| YD [3] (appC #[] 115) (appC_ok _ _ _ _ (by decide)) <| Yh (j176 []) <| YC [0,1] (nextC (PB w b') arr (at_ + 1) 101) (nextC_ok _ _ arr _ (n + 1) 101 (by omega) hs h1) <| Yh (j377 (j158 (15 :: j157 []))) <| YD [3] (appC #[115] 101) (appC_ok _ _ _ _ (by decide)) <| Yh (j176 []) <| YC [0,1] (nextC (PB w b') arr ((at_ + 1) + 1) 97) (nextC_ok _ _ arr _ (n + 2) 97 (by omega) hs h2) <| Yh (j141 (16 :: j76 (17 :: j158 (18 :: j157 [])))) <| YD [3] (appC #[115,101] 97) (appC_ok _ _ _ _ (by decide)) <| Yh (j176 []) <| YC [0,1] (nextC (PB w b') arr (((at_ + 1) + 1) + 1) 114) (nextC_ok _ _ arr _ (n + 3) 114 (by omega) hs h3) <| Yh (j141 (19 :: j76 (20 :: j158 (21 :: j157 [])))) <| YD [3] (appC #[115,101,97] 114) (appC_ok _ _ _ _ (by decide)) <| Yh (j176 []) <| YC [0,1] (nextC (PB w b') arr ((((at_ + 1) + 1) + 1) + 1) 99) (nextC_ok _ _ arr _ (n + 4) 99 (by omega) hs h4) <| Yh (j141 (22 :: j76 (23 :: j158 (24 :: j157 [])))) <| YD [3] (appC #[115,101,97,114] 99) (appC_ok _ _ _ _ (by decide)) <| Yh (j176 []) <| YC [0,1] (nextC (PB w b') arr (((((at_ + 1) + 1) + 1) + 1) + 1) 104) (nextC_ok _ _ arr _ (n + 5) 104 (by omega) hs h5) <| Yh (j141 (25 :: j76 (26 :: j158 (27 :: j157 [])))) <| YD [3] (appC #[115,101,97,114,99] 104) (appC_ok _ _ _ _ (by decide)) <| Yh (j176 []) <| YC [0,1] (nextE (PB w b') arr ((((((at_ + 1) + 1) + 1) + 1) + 1) + 1)) (nextE_ok _ _ arr _ (n + 6) (by omega) hs hb) <| Yh (j136 []) <| YL 1 [3] (bytesOfC arS) (bytesOfC_ok _ _ _ (by decide)) <| Yn) [] [39,33]
noncomputable def wdA (P : Params) (arr : Array UInt8) (at_ : Int) : CF := ⟨800,8000,false,true,(fun b => b),none,fun c x y => mkC (.call (.ref 1053) ⟨[.ref (A x 0)],[]⟩) [Q0 x 1,Q1 P y 1 arr at_] (0) (2) (fun u v => .ok (.ret (.bytes arA (A v 0)))) (fun u v => [(1,dd P y 1 [t489,t337] [.bytes arr (tT y 1 1),.int ((((((((((((at_ + 1) + 1) + 1) + 1) + 1) + 1) + 1) + 1) + 1) + 1) + 1) + 1) (A v 1)])]) nN⟩
theorem wdA_ok (arr : Array UInt8) (at_ : Int) (n : Nat) (hn : at_ = n) (hs : arr.size ≤ 1000) (h0 : arr[n + 0]? = some 97) (h1 : arr[n + 1]? = some 110) (h2 : arr[n + 2]? = some 99) (h3 : arr[n + 3]? = some 104) (h4 : arr[n + 4]? = some 111) (h5 : arr[n + 5]? = some 114) (h6 : arr[n + 6]? = some 115) (h7 : arr[n + 7]? = some 101) (h8 : arr[n + 8]? = some 97) (h9 : arr[n + 9]? = some 114) (h10 : arr[n + 10]? = some 99) (h11 : arr[n + 11]? = some 104) (hb : arr.size ≤ n + 12) : Ct w b' (wdA (PB w b') arr at_) :=
 sV 2000 2 (Yh (j349 []) <| Yd [3] (initC0_ok _ _) <| Yh (j379 []) <| YC [0,1] (nextC (PB w b') arr at_ 97) (nextC_ok _ _ arr _ (n + 0) 97 (by omega) hs h0) <| Yh (j376 []) <| YD [3] (appC #[] 97) (appC_ok _ _ _ _ (by decide)) <| Yh (j176 []) <| YC [0,1] (nextC (PB w b') arr (at_ + 1) 110) (nextC_ok _ _ arr _ (n + 1) 110 (by omega) hs h1) <| Yh (j377 (j158 (15 :: j157 []))) <| YD [3] (appC #[97] 110) (appC_ok _ _ _ _ (by decide)) <| Yh (j176 []) <| YC [0,1] (nextC (PB w b') arr ((at_ + 1) + 1) 99) (nextC_ok _ _ arr _ (n + 2) 99 (by omega) hs h2) <| Yh (j141 (16 :: j76 (17 :: j158 (18 :: j157 [])))) <| YD [3] (appC #[97,110] 99) (appC_ok _ _ _ _ (by decide)) <| Yh (j176 []) <| YC [0,1] (nextC (PB w b') arr (((at_ + 1) + 1) + 1) 104) (nextC_ok _ _ arr _ (n + 3) 104 (by omega) hs h3) <| Yh (j141 (19 :: j76 (20 :: j158 (21 :: j157 [])))) <| YD [3] (appC #[97,110,99] 104) (appC_ok _ _ _ _ (by decide)) <| Yh (j176 []) <| YC [0,1] (nextC (PB w b') arr ((((at_ + 1) + 1) + 1) + 1) 111) (nextC_ok _ _ arr _ (n + 4) 111 (by omega) hs h4) <| Yh (j141 (22 :: j76 (23 :: j158 (24 :: j157 [])))) <| YD [3] (appC #[97,110,99,104] 111) (appC_ok _ _ _ _ (by decide)) <| Yh (j176 []) <| YC [0,1] (nextC (PB w b') arr (((((at_ + 1) + 1) + 1) + 1) + 1) 114) (nextC_ok _ _ arr _ (n + 5) 114 (by omega) hs h5) <| Yh (j141 (25 :: j76 (26 :: j158 (27 :: j157 [])))) <| YD [3] (appC #[97,110,99,104,111] 114) (appC_ok _ _ _ _ (by decide)) <| Yh (j176 []) <| YC [0,1] (nextC (PB w b') arr ((((((at_ + 1) + 1) + 1) + 1) + 1) + 1) 115) (nextC_ok _ _ arr _ (n + 6) 115 (by omega) hs h6) <| Yh (j141 (28 :: j76 (29 :: j158 (30 :: j157 [])))) <| YD [3] (appC #[97,110,99,104,111,114] 115) (appC_ok _ _ _ _ (by decide)) <| Yh (j176 []) <| YC [0,1] (nextC (PB w b') arr (((((((at_ + 1) + 1) + 1) + 1) + 1) + 1) + 1) 101) (nextC_ok _ _ arr _ (n + 7) 101 (by omega) hs h7) <| Yh (j141 (31 :: j76 (32 :: j158 (33 :: j157 [])))) <| YD [3] (appC #[97,110,99,104,111,114,115] 101) (appC_ok _ _ _ _ (by decide)) <| Yh (j176 []) <| YC [0,1] (nextC (PB w b') arr ((((((((at_ + 1) + 1) + 1) + 1) + 1) + 1) + 1) + 1) 97) (nextC_ok _ _ arr _ (n + 8) 97 (by omega) hs h8) <| Yh (j141 (34 :: j76 (35 :: j158 (36 :: j157 [])))) <| YD [3] (appC #[97,110,99,104,111,114,115,101] 97) (appC_ok _ _ _ _ (by decide)) <| Yh (j176 []) <| YC [0,1] (nextC (PB w b') arr (((((((((at_ + 1) + 1) + 1) + 1) + 1) + 1) + 1) + 1) + 1) 114) (nextC_ok _ _ arr _ (n + 9) 114 (by omega) hs h9) <| Yh (j141 (37 :: j76 (38 :: j158 (39 :: j157 [])))) <| YD [3] (appC #[97,110,99,104,111,114,115,101,97] 114) (appC_ok _ _ _ _ (by decide)) <| Yh (j176 []) <| YC [0,1] (nextC (PB w b') arr ((((((((((at_ + 1) + 1) + 1) + 1) + 1) + 1) + 1) + 1) + 1) + 1) 99) (nextC_ok _ _ arr _ (n + 10) 99 (by omega) hs h10) <| Yh (j141 (40 :: j76 (41 :: j158 (42 :: j157 [])))) <| YD [3] (appC #[97,110,99,104,111,114,115,101,97,114] 99) (appC_ok _ _ _ _ (by decide)) <| Yh (j176 []) <| YC [0,1] (nextC (PB w b') arr (((((((((((at_ + 1) + 1) + 1) + 1) + 1) + 1) + 1) + 1) + 1) + 1) + 1) 104) (nextC_ok _ _ arr _ (n + 11) 104 (by omega) hs h11) <| Yh (j141 (43 :: j76 (44 :: j158 (45 :: j157 [])))) <| YD [3] (appC #[97,110,99,104,111,114,115,101,97,114,99] 104) (appC_ok _ _ _ _ (by decide)) <| Yh (j176 []) <| YC [0,1] (nextE (PB w b') arr ((((((((((((at_ + 1) + 1) + 1) + 1) + 1) + 1) + 1) + 1) + 1) + 1) + 1) + 1)) (nextE_ok _ _ arr _ (n + 12) (by omega) hs hb) <| Yh (j136 []) <| YL 1 [3] (bytesOfC arA) (bytesOfC_ok _ _ _ (by decide)) <| Yn) [] [75,69]
noncomputable def wdP (P : Params) (arr : Array UInt8) (at_ : Int) : CF := ⟨800,8000,false,true,(fun b => b),none,fun c x y => mkC (.call (.ref 1053) ⟨[.ref (A x 0)],[]⟩) [Q0 x 1,Q1 P y 1 arr at_] (0) (2) (fun u v => .ok (.ret (.bytes #[112,111,112] (A v 0)))) (fun u v => [(1,dd P y 1 [t489,t337] [.bytes arr (tT y 1 1),.int ((((at_ + 1) + 1) + 1) + 1) (A v 1)])]) nN⟩
theorem wdP_ok (arr : Array UInt8) (at_ : Int) (n : Nat) (hn : at_ = n) (hs : arr.size ≤ 1000) (h0 : arr[n + 0]? = some 112) (h1 : arr[n + 1]? = some 111) (h2 : arr[n + 2]? = some 112) (hb : arr[n + 3]? = some 32) : Ct w b' (wdP (PB w b') arr at_) :=
 sV 2000 2 (Yh (j349 []) <| Yd [3] (initC0_ok _ _) <| Yh (j379 []) <| YC [0,1] (nextC (PB w b') arr at_ 112) (nextC_ok _ _ arr _ (n + 0) 112 (by omega) hs h0) <| Yh (j376 []) <| YD [3] (appC #[] 112) (appC_ok _ _ _ _ (by decide)) <| Yh (j176 []) <| YC [0,1] (nextC (PB w b') arr (at_ + 1) 111) (nextC_ok _ _ arr _ (n + 1) 111 (by omega) hs h1) <| Yh (j377 (j158 (15 :: j157 []))) <| YD [3] (appC #[112] 111) (appC_ok _ _ _ _ (by decide)) <| Yh (j176 []) <| YC [0,1] (nextC (PB w b') arr ((at_ + 1) + 1) 112) (nextC_ok _ _ arr _ (n + 2) 112 (by omega) hs h2) <| Yh (j141 (16 :: j76 (17 :: j158 (18 :: j157 [])))) <| YD [3] (appC #[112,111] 112) (appC_ok _ _ _ _ (by decide)) <| Yh (j176 []) <| YC [0,1] (nextC (PB w b') arr (((at_ + 1) + 1) + 1) 32) (nextC_ok _ _ arr _ (n + 3) 32 (by omega) hs hb) <| Yh (j141 (19 :: j76 (20 :: j332 (j53 (21 :: j86 (j2 [])))))) <| YL 1 [3] (bytesOfC #[112,111,112]) (bytesOfC_ok _ _ _ (by decide)) <| Yn) [] [26,21]
section
variable (P : Params) (y : List Obj) (v : List Nat) (i0 : Nat)
noncomputable def Q5 (arr : Array UInt8) (at_ : Int) : Obj := dd P y 1 [t489,t337] [.bytes arr (tT y 1 1),.int ((at_ + 1) + 1) (A v 1)]
end
noncomputable def wd7 (P : Params) (arr : Array UInt8) (at_ : Int) : CF := ⟨800,8000,false,true,(fun b => b),none,fun c x y => mkC (.call (.ref 1053) ⟨[.ref (A x 0)],[]⟩) [Q0 x 1,Q1 P y 1 arr at_] (0) (2) (fun u v => .ok (.ret (.bytes #[55] (A v 0)))) (fun u v => [(1,Q5 P y v arr at_)]) nN⟩
theorem wd7_ok (arr : Array UInt8) (at_ : Int) (n : Nat) (hn : at_ = n) (hs : arr.size ≤ 1000) (h0 : arr[n + 0]? = some 55) (hb : arr[n + 1]? = some 32) : Ct w b' (wd7 (PB w b') arr at_) :=
 sV 2000 2 (Yh (j349 []) <| Yd [3] (initC0_ok _ _) <| Yh (j379 []) <| YC [0,1] (nextC (PB w b') arr at_ 55) (nextC_ok _ _ arr _ (n + 0) 55 (by omega) hs h0) <| Yh (j376 []) <| YD [3] (appC #[] 55) (appC_ok _ _ _ _ (by decide)) <| Yh (j176 []) <| YC [0,1] (nextC (PB w b') arr (at_ + 1) 32) (nextC_ok _ _ arr _ (n + 1) 32 (by omega) hs hb) <| Yh (j377 (j332 (j53 (15 :: j86 (j2 []))))) <| YL 1 [3] (bytesOfC #[55]) (bytesOfC_ok _ _ _ (by decide)) <| Yn) [] [14,9]
noncomputable def wd1 (P : Params) (arr : Array UInt8) (at_ : Int) : CF := ⟨800,8000,false,true,(fun b => b),none,fun c x y => mkC (.call (.ref 1053) ⟨[.ref (A x 0)],[]⟩) [Q0 x 1,Q1 P y 1 arr at_] (0) (2) (fun u v => .ok (.ret (.bytes #[49] (A v 0)))) (fun u v => [(1,Q5 P y v arr at_)]) nN⟩
theorem wd1_ok (arr : Array UInt8) (at_ : Int) (n : Nat) (hn : at_ = n) (hs : arr.size ≤ 1000) (h0 : arr[n + 0]? = some 49) (hb : arr[n + 1]? = some 32) : Ct w b' (wd1 (PB w b') arr at_) :=
 sV 2000 2 (Yh (j349 []) <| Yd [3] (initC0_ok _ _) <| Yh (j379 []) <| YC [0,1] (nextC (PB w b') arr at_ 49) (nextC_ok _ _ arr _ (n + 0) 49 (by omega) hs h0) <| Yh (j376 []) <| YD [3] (appC #[] 49) (appC_ok _ _ _ _ (by decide)) <| Yh (j176 []) <| YC [0,1] (nextC (PB w b') arr (at_ + 1) 32) (nextC_ok _ _ arr _ (n + 1) 32 (by omega) hs hb) <| Yh (j377 (j332 (j53 (15 :: j86 (j2 []))))) <| YL 1 [3] (bytesOfC #[49]) (bytesOfC_ok _ _ _ (by decide)) <| Yn) [] [14,9]
noncomputable def wd2 (P : Params) (arr : Array UInt8) (at_ : Int) : CF := ⟨800,8000,false,true,(fun b => b),none,fun c x y => mkC (.call (.ref 1053) ⟨[.ref (A x 0)],[]⟩) [Q0 x 1,Q1 P y 1 arr at_] (0) (2) (fun u v => .ok (.ret (.bytes #[50] (A v 0)))) (fun u v => [(1,Q5 P y v arr at_)]) nN⟩
theorem wd2_ok (arr : Array UInt8) (at_ : Int) (n : Nat) (hn : at_ = n) (hs : arr.size ≤ 1000) (h0 : arr[n + 0]? = some 50) (hb : arr[n + 1]? = some 32) : Ct w b' (wd2 (PB w b') arr at_) :=
 sV 2000 2 (Yh (j349 []) <| Yd [3] (initC0_ok _ _) <| Yh (j379 []) <| YC [0,1] (nextC (PB w b') arr at_ 50) (nextC_ok _ _ arr _ (n + 0) 50 (by omega) hs h0) <| Yh (j376 []) <| YD [3] (appC #[] 50) (appC_ok _ _ _ _ (by decide)) <| Yh (j176 []) <| YC [0,1] (nextC (PB w b') arr (at_ + 1) 32) (nextC_ok _ _ arr _ (n + 1) 32 (by omega) hs hb) <| Yh (j377 (j332 (j53 (15 :: j86 (j2 []))))) <| YL 1 [3] (bytesOfC #[50]) (bytesOfC_ok _ _ _ (by decide)) <| Yn) [] [14,9]
noncomputable def wda (P : Params) (arr : Array UInt8) (at_ : Int) : CF := ⟨800,8000,false,true,(fun b => b),none,fun c x y => mkC (.call (.ref 1053) ⟨[.ref (A x 0)],[]⟩) [Q0 x 1,Q1 P y 1 arr at_] (0) (2) (fun u v => .ok (.ret (.bytes #[97] (A v 0)))) (fun u v => [(1,Q5 P y v arr at_)]) nN⟩
theorem wda_ok (arr : Array UInt8) (at_ : Int) (n : Nat) (hn : at_ = n) (hs : arr.size ≤ 1000) (h0 : arr[n + 0]? = some 97) (hb : arr[n + 1]? = some 32) : Ct w b' (wda (PB w b') arr at_) :=
 sV 2000 2 (Yh (j349 []) <| Yd [3] (initC0_ok _ _) <| Yh (j379 []) <| YC [0,1] (nextC (PB w b') arr at_ 97) (nextC_ok _ _ arr _ (n + 0) 97 (by omega) hs h0) <| Yh (j376 []) <| YD [3] (appC #[] 97) (appC_ok _ _ _ _ (by decide)) <| Yh (j176 []) <| YC [0,1] (nextC (PB w b') arr (at_ + 1) 32) (nextC_ok _ _ arr _ (n + 1) 32 (by omega) hs hb) <| Yh (j377 (j332 (j53 (15 :: j86 (j2 []))))) <| YL 1 [3] (bytesOfC #[97]) (bytesOfC_ok _ _ _ (by decide)) <| Yn) [] [14,9]
variable (w : World) (b' : Bool)
noncomputable def rn7 (P : Params) : CF := cg 700 fun c x y => mkC (.call (.ref 974) ⟨[.bytes #[55] (cT c 0)],[]⟩) [] (1) (1) (fun u v => .ok (.ret (.ref (A u 0)))) nN (fun u v => [⟨.type "tuple",none,.seq #[.str t195 1386,.int 7 (A v 0)] 0,#[]⟩])
theorem rn7_ok : Ct w b' (rn7 (PB w b')) :=
 sV 6000 0 (Yh (j461 []) <| Yc [3] (eqII_ok _ _) <| Yh (j432 (j426 (14 :: 5 :: 15 :: j12 (16 :: j439 (17 :: j435 (18 :: j324 (19 :: j302 (20 :: j333 (21 :: j33 (j283 (j233 (4 :: j11 (23 :: 4 :: j471 (j1 (24 :: j76 (25 :: j222 (j0 (3 :: [])))))))))))))))))) <| Yn) [20] [31]
noncomputable def rnS (P : Params) : CF := cg 700 fun c x y => mkC (.call (.ref 974) ⟨[.bytes arS (cT c 0)],[]⟩) [] (0) (0) (fun u v => .ok (.ret (.none))) nN nN
theorem rnS_ok : Ct w b' (rnS (PB w b')) :=
 sV 6000 0 (Yh (j461 []) <| Yc [3] (eqII_ok _ _) <| Yh (j432 (j203 [])) <| Yc [7] (eqII_ok _ _) <| Yh (j120 (13 :: j6 (14 :: j58 (16 :: j203 [])))) <| Yc [11] (eqII_ok _ _) <| Yh (j120 (17 :: j6 (18 :: j58 (20 :: j203 [])))) <| Yc [15] (eqII_ok _ _) <| Yh (j120 (21 :: j6 (22 :: j58 (24 :: j203 [])))) <| Yc [19] (eqII_ok _ _) <| Yh (j120 (25 :: j6 (26 :: j58 (28 :: j203 [])))) <| Yc [23] (eqII_ok _ _) <| Yh (j120 (29 :: j6 (30 :: j58 (32 :: j426 (34 :: 5 :: 35 :: j12 (36 :: j439 (37 :: j435 (38 :: j324 (39 :: j302 (40 :: j333 (41 :: j381 (j12 (j471 (42 :: j42 (j1 (43 :: j49 (j53 (44 :: j98 (45 :: 46 :: j267 []))))))))))))))))))) <| Yc [41] (eqII_ok _ _) <| Yh (46 :: 2 :: 47 :: j6 (48 :: j58 (50 :: 44 :: j11 (46 :: j3 (45 :: j123 []))))) <| Yc [45] (eqII_ok _ _) <| Yh (46 :: 2 :: 51 :: j6 (52 :: j58 (54 :: 44 :: j3 (j11 (55 :: j12 (j22 (56 :: j12 (57 :: j6 (58 :: j58 (60 :: 43 :: j3 (j210 (61 :: j98 (62 :: 63 :: j267 []))))))))))))) <| Yc [58] (eqII_ok _ _) <| Yh (63 :: 2 :: 64 :: j6 (65 :: j58 (67 :: 61 :: j11 (63 :: j3 (62 :: j11 (69 :: 5 :: j310 (71 :: j58 (73 :: 43 :: j12 (j210 (74 :: j46 (75 :: j12 (76 :: j6 (j135 (77 :: j42 (j210 (78 :: j302 (79 :: j333 (80 :: j381 (j110 (43 :: j12 (j144 (j1 (81 :: j302 (82 :: j333 (83 :: j381 (j110 [])))))))))))))))))))))))))) <| Yn) [] []
noncomputable def rn1 (P : Params) : CF := cg 700 fun c x y => mkC (.call (.ref 974) ⟨[.bytes #[49] (cT c 0)],[]⟩) [] (1) (1) (fun u v => .ok (.ret (.ref (A u 0)))) nN (fun u v => [⟨.type "tuple",none,.seq #[.str t195 1386,.int 1 (A v 0)] 0,#[]⟩])
theorem rn1_ok : Ct w b' (rn1 (PB w b')) :=
 sV 6000 0 (Yh (j461 []) <| Yc [3] (eqII_ok _ _) <| Yh (j432 (j426 (14 :: 5 :: 15 :: j12 (16 :: j439 (17 :: j435 (18 :: j324 (19 :: j302 (20 :: j333 (21 :: j33 (j283 (j233 (4 :: j11 (23 :: 4 :: j471 (j1 (24 :: j76 (25 :: j222 (j0 (3 :: [])))))))))))))))))) <| Yn) [20] [31]
noncomputable def rn2 (P : Params) : CF := cg 700 fun c x y => mkC (.call (.ref 974) ⟨[.bytes #[50] (cT c 0)],[]⟩) [] (1) (1) (fun u v => .ok (.ret (.ref (A u 0)))) nN (fun u v => [⟨.type "tuple",none,.seq #[.str t195 1386,.int 2 (A v 0)] 0,#[]⟩])
theorem rn2_ok : Ct w b' (rn2 (PB w b')) :=
 sV 6000 0 (Yh (j461 []) <| Yc [3] (eqII_ok _ _) <| Yh (j432 (j426 (14 :: 5 :: 15 :: j12 (16 :: j439 (17 :: j435 (18 :: j324 (19 :: j302 (20 :: j333 (21 :: j33 (j283 (j233 (4 :: j11 (23 :: 4 :: j471 (j1 (24 :: j76 (25 :: j222 (j0 (3 :: [])))))))))))))))))) <| Yn) [20] [31]
noncomputable def rnP (P : Params) : CF := cg 700 fun c x y => mkC (.call (.ref 974) ⟨[.bytes #[112,111,112] (cT c 0)],[]⟩) [] (0) (0) (fun u v => .ok (.ret (.none))) nN nN
theorem rnP_ok : Ct w b' (rnP (PB w b')) :=
 sV 6000 0 (Yh (j461 []) <| Yc [3] (eqII_ok _ _) <| Yh (j432 (j203 [])) <| Yc [7] (eqII_ok _ _) <| Yh (j120 (13 :: j6 (14 :: j58 (16 :: j203 [])))) <| Yc [11] (eqII_ok _ _) <| Yh (j120 (17 :: j6 (18 :: j58 (20 :: j426 (22 :: 5 :: 23 :: j12 (24 :: j439 (25 :: j435 (26 :: j324 (27 :: j302 (28 :: j333 (29 :: j381 (j12 (j471 (30 :: j42 (j1 (31 :: j49 (j53 (32 :: j98 (33 :: 34 :: j267 []))))))))))))))))))) <| Yc [29] (eqII_ok _ _) <| Yh (34 :: 2 :: 35 :: j6 (36 :: j58 (38 :: 32 :: j11 (34 :: j3 (33 :: j123 []))))) <| Yc [33] (eqII_ok _ _) <| Yh (34 :: 2 :: 39 :: j6 (40 :: j58 (42 :: 32 :: j11 (34 :: j3 (33 :: j123 []))))) <| Yc [37] (eqII_ok _ _) <| Yh (34 :: 2 :: 43 :: j6 (44 :: j58 (46 :: 32 :: j11 (34 :: j3 (33 :: j11 (48 :: 5 :: 49 :: j6 (50 :: j58 (52 :: 31 :: j3 (j210 (53 :: j98 (54 :: 55 :: j267 []))))))))))) <| Yc [50] (eqII_ok _ _) <| Yh (55 :: 2 :: j450 (57 :: j58 (59 :: 53 :: j11 (55 :: j3 (54 :: j123 []))))) <| Yc [54] (eqII_ok _ _) <| Yh (55 :: 2 :: 60 :: j6 (61 :: j58 (63 :: 53 :: j11 (55 :: j3 (54 :: j123 []))))) <| Yc [58] (eqII_ok _ _) <| Yh (55 :: 2 :: 64 :: j6 (65 :: j58 (67 :: 53 :: j11 (55 :: j3 (54 :: j11 (69 :: 5 :: j310 (71 :: j58 (73 :: 31 :: j11 [])))))))) <| Yn) [] []
noncomputable def rnA (P : Params) : CF := cg 700 fun c x y => mkC (.call (.ref 974) ⟨[.bytes arA (cT c 0)],[]⟩) [] (0) (0) (fun u v => .ok (.ret (.none))) nN nN
theorem rnA_ok : Ct w b' (rnA (PB w b')) :=
 sV 6000 0 (Yh (j461 []) <| Yc [3] (eqII_ok _ _) <| Yh (j432 (j203 [])) <| Yc [7] (eqII_ok _ _) <| Yh (j120 (13 :: j6 (14 :: j58 (16 :: j203 [])))) <| Yc [11] (eqII_ok _ _) <| Yh (j120 (17 :: j6 (18 :: j58 (20 :: j203 [])))) <| Yc [15] (eqII_ok _ _) <| Yh (j120 (21 :: j6 (22 :: j58 (24 :: j203 [])))) <| Yc [19] (eqII_ok _ _) <| Yh (j120 (25 :: j6 (26 :: j58 (28 :: j203 [])))) <| Yc [23] (eqII_ok _ _) <| Yh (j120 (29 :: j6 (30 :: j58 (32 :: j203 [])))) <| Yc [27] (eqII_ok _ _) <| Yh (j120 (33 :: j6 (34 :: j58 (36 :: j203 [])))) <| Yc [31] (eqII_ok _ _) <| Yh (j120 (37 :: j6 (38 :: j58 (40 :: j203 [])))) <| Yc [35] (eqII_ok _ _) <| Yh (j120 (41 :: j6 (42 :: j58 (44 :: j203 [])))) <| Yc [39] (eqII_ok _ _) <| Yh (j120 (45 :: j6 (46 :: j58 (48 :: j203 [])))) <| Yc [43] (eqII_ok _ _) <| Yh (j120 (49 :: j6 (50 :: j58 (52 :: j203 [])))) <| Yc [47] (eqII_ok _ _) <| Yh (j120 (53 :: j6 (54 :: j58 (56 :: j426 (58 :: 5 :: 59 :: j12 (60 :: j439 (61 :: j435 (62 :: j324 (63 :: j302 (64 :: j333 (65 :: j381 (j12 (j471 (66 :: j42 (j1 (67 :: j49 (j53 (68 :: j98 (69 :: 70 :: j267 []))))))))))))))))))) <| Yc [65] (eqII_ok _ _) <| Yh (j395 (71 :: j6 (72 :: j58 (74 :: j387 [])))) <| Yc [69] (eqII_ok _ _) <| Yh (j395 (75 :: j6 (76 :: j58 (78 :: j387 [])))) <| Yc [73] (eqII_ok _ _) <| Yh (j395 (79 :: j6 (80 :: j58 (82 :: j387 [])))) <| Yc [77] (eqII_ok _ _) <| Yh (j395 (83 :: j6 (84 :: j58 (86 :: j387 [])))) <| Yc [81] (eqII_ok _ _) <| Yh (j395 (87 :: j6 (88 :: j58 (90 :: j387 [])))) <| Yc [85] (eqII_ok _ _) <| Yh (j395 (91 :: j6 (92 :: j58 (94 :: j387 [])))) <| Yc [89] (eqII_ok _ _) <| Yh (j395 (95 :: j6 (96 :: j58 (98 :: j387 [])))) <| Yc [93] (eqII_ok _ _) <| Yh (j395 (99 :: j6 (100 :: j58 (102 :: 68 :: j3 (j11 (103 :: j12 (j22 (104 :: j12 (105 :: j6 (106 :: j58 (108 :: 67 :: j3 (j210 (109 :: j98 (110 :: 111 :: j267 [])))))))))))))) <| Yc [106] (eqII_ok _ _) <| Yh (j388 (112 :: j6 (113 :: j58 (115 :: j408 [])))) <| Yc [110] (eqII_ok _ _) <| Yh (j388 (116 :: j6 (117 :: j58 (119 :: j408 [])))) <| Yc [114] (eqII_ok _ _) <| Yh (j388 (120 :: j6 (121 :: j58 (123 :: j408 [])))) <| Yc [118] (eqII_ok _ _) <| Yh (j388 (124 :: j6 (125 :: j58 (127 :: j408 [])))) <| Yc [122] (eqII_ok _ _) <| Yh (j388 (128 :: j6 (129 :: j58 (131 :: j408 [])))) <| Yc [126] (eqII_ok _ _) <| Yh (j388 (132 :: j6 (133 :: j58 (135 :: j408 [])))) <| Yc [130] (eqII_ok _ _) <| Yh (j388 (136 :: j6 (137 :: j58 (139 :: j373 (j11 (141 :: 5 :: 142 :: j6 (143 :: j58 (145 :: 67 :: j12 (j210 (146 :: j46 (147 :: j12 (148 :: j6 (j135 (149 :: j42 (j210 (150 :: j302 (151 :: j333 (152 :: j381 (j110 (67 :: j12 (j144 (j1 (153 :: j302 (154 :: j333 (155 :: j381 (j110 [])))))))))))))))))))))))))) <| Yn) [] []
noncomputable def whCode (fp : List Nat) (i : Nat) (loc : Nat) (qual : Str) (fn code : Nat) (cells : List (Str × Nat)) : Code := match fnAt fp prog.main.body with
 | some (.FunctionDef _ _ body _ _ _ scope _ _ _) => match body[i]? with
  | some (.While t b e _) => .whileLoop t b e ⟨scope,loc,3,cells,qual,some fn,.ref code,some loc,0⟩
  | _ => default
 | _ => default
noncomputable def intOf (v : Value) : Int := match v with | .int i _ => i | _ => 0
noncomputable def strFr (P : Params) (src fnd : Nat) (k0 k1 k2 k3 : Nat) (d : Int) (t1 : Nat) (y : Int) (t3 : Nat) : Obj :=
  ⟨.type "frame",none,.dict #[K P (.str t554 k0) (.ref src),K P (.str t557 k1) (.int d t1),K P (.str t561 k2) (.ref fnd),K P (.str t564 k3) (.int y t3)] 4,#[]⟩
noncomputable def strFr0 (P : Params) (src fnd : Nat) (k0 k1 k2 : Nat) (d : Int) (t1 : Nat) : Obj :=
  ⟨.type "frame",none,.dict #[K P (.str t554 k0) (.ref src),K P (.str t557 k1) (.int d t1),K P (.str t561 k2) (.ref fnd)] 3,#[]⟩
noncomputable def strC (P : Params) (arr : Array UInt8) (at_ end_ : Int) (b e : Array UInt8) : CF := ⟨800,8000,false,true,(fun b => b),none,fun c as os =>
 { code := whCode [119] 1 (A as 3) (⟨#[115,99,97,110,95,115,116,114,105,110,103,46,60,108,111,99,97,108,115,62,46]⟩) 1081 1080 []
   own := srcO P (A as 1) (kT os 1 0) (kT os 1 1) (vT os 1 0) (vT os 1 1) arr at_ ++ [baO b,strFr P (A as 0) (A as 2) (kT os 3 0) (kT os 3 1) (kT os 3 2) (kT os 3 3) 1 (vT os 3 1) (intOf (vE os 3 3)) (vT os 3 3)]
   nn := 0,nt := 3
   res := fun _ _ => .ok .next
   upd := fun _ tk => srcO P (A as 1) (kT os 1 0) (kT os 1 1) (vT os 1 0) (A tk 0) arr end_ ++ [baO e,strFr P (A as 0) (A as 2) (kT os 3 0) (kT os 3 1) (kT os 3 2) (kT os 3 3) 0 (A tk 1) 41 (A tk 2)]
   new := fun _ _ => [] }⟩
theorem strC_end (w : World) (b' : Bool) (arr : Array UInt8) (at_ : Int) (n : Nat) (b : Array UInt8) (hn : at_ = n) (hs : arr.size ≤ 1000) (hx : arr[n]? = some 41) : Ct w b' (strC (PB w b') arr at_ (at_ + 1) b b) :=
 sV 600 4 (Yh (9 :: j53 (10 :: j221 [])) <| Yc [0,1] (nextC_ok _ _ arr at_ n 41 hn hs hx) <| Yh (j199 (j236 (j15 (j91 (j11 []))))) <| Yn) [] [3,7,2]
noncomputable def Letter (x : UInt8) : Prop := x = 97 ∨ x = 98 ∨ x = 99
theorem x92 {x : UInt8} (h : Letter x) : ((x.toNat : Int) == 92) = false := by rcases h with rfl | rfl | rfl <;> rfl
theorem x13 {x : UInt8} (h : Letter x) : ((x.toNat : Int) == 13) = false := by rcases h with rfl | rfl | rfl <;> rfl
theorem x40 {x : UInt8} (h : Letter x) : ((x.toNat : Int) == 40) = false := by rcases h with rfl | rfl | rfl <;> rfl
theorem x41 {x : UInt8} (h : Letter x) : ((x.toNat : Int) == 41) = false := by rcases h with rfl | rfl | rfl <;> rfl
theorem strC_step (w : World) (b' : Bool) (arr : Array UInt8) (at_ end_ : Int) (n : Nat) (b e : Array UInt8) (x : UInt8) (hn : at_ = n) (hs : arr.size ≤ 1000) (hx : arr[n]? = some x) (hl : Letter x) (hb : b.size < 1000)
  (ih : Ct w b' (strC (PB w b') arr (at_ + 1) end_ (b.push x) e)) : Ct w b' (strC (PB w b') arr at_ end_ b e) :=
 sV 600 4 (Yh (9 :: j53 (10 :: j221 [])) <| Yc [0,1] (nextC_ok _ _ arr at_ n x hn hs hx) <| Yh (j199 (9 :: j85 [])) <| Yv 0 (bE ((x.toNat : Int) == 92)) (bF false) (bEq (x92 hl)) <| Yh (j404 []) <| Yv 0 (bE ((x.toNat : Int) == 13)) (bF false) (bEq (x13 hl)) <| Yh (j404 []) <| Yv 0 (bE ((x.toNat : Int) == 40)) (bF false) (bEq (x40 hl)) <| Yh (j404 []) <| Yv 0 (bE ((x.toNat : Int) == 41)) (bF false) (bEq (x41 hl)) <| Yh (j285 (j6 (j45 []))) <| Yd [2] (appC_ok _ _ b x hb) <| Yd [0,1,2,3] ih <| Yn) [] [7,8,9]
noncomputable def strC0 (P : Params) (arr : Array UInt8) (at_ end_ : Int) (b e : Array UInt8) : CF := ⟨800,8000,false,true,(fun b => b),none,fun c as os =>
 { code := whCode [119] 1 (A as 3) (⟨#[115,99,97,110,95,115,116,114,105,110,103,46,60,108,111,99,97,108,115,62,46]⟩) 1081 1080 []
   own := srcO P (A as 1) (kT os 1 0) (kT os 1 1) (vT os 1 0) (vT os 1 1) arr at_ ++ [baO b,strFr0 P (A as 0) (A as 2) (kT os 3 0) (kT os 3 1) (kT os 3 2) 1 (vT os 3 1)]
   nn := 0,nt := 4
   res := fun _ _ => .ok .next
   upd := fun _ tk => srcO P (A as 1) (kT os 1 0) (kT os 1 1) (vT os 1 0) (A tk 0) arr end_ ++ [baO e,strFr P (A as 0) (A as 2) (kT os 3 0) (kT os 3 1) (kT os 3 2) (A tk 3) 0 (A tk 1) 41 (A tk 2)]
   new := fun _ _ => [] }⟩
theorem strC0_end (w : World) (b' : Bool) (arr : Array UInt8) (at_ : Int) (n : Nat) (b : Array UInt8) (hn : at_ = n) (hs : arr.size ≤ 1000) (hx : arr[n]? = some 41) : Ct w b' (strC0 (PB w b') arr at_ (at_ + 1) b b) :=
 sV 600 4 (Yh (9 :: j53 (10 :: j221 [])) <| Yc [0,1] (nextC_ok _ _ arr at_ n 41 hn hs hx) <| Yh (j199 (j236 (j15 (j91 (j11 []))))) <| Yn) [] [3,7,2,5]
theorem strC0_step (w : World) (b' : Bool) (arr : Array UInt8) (at_ end_ : Int) (n : Nat) (b e : Array UInt8) (x : UInt8) (hn : at_ = n) (hs : arr.size ≤ 1000) (hx : arr[n]? = some x) (hl : Letter x) (hb : b.size < 1000)
  (ih : Ct w b' (strC (PB w b') arr (at_ + 1) end_ (b.push x) e)) : Ct w b' (strC0 (PB w b') arr at_ end_ b e) :=
 sV 600 4 (Yh (9 :: j53 (10 :: j221 [])) <| Yc [0,1] (nextC_ok _ _ arr at_ n x hn hs hx) <| Yh (j199 (9 :: j85 [])) <| Yv 0 (bE ((x.toNat : Int) == 92)) (bF false) (bEq (x92 hl)) <| Yh (j404 []) <| Yv 0 (bE ((x.toNat : Int) == 13)) (bF false) (bEq (x13 hl)) <| Yh (j404 []) <| Yv 0 (bE ((x.toNat : Int) == 40)) (bF false) (bEq (x40 hl)) <| Yh (j404 []) <| Yv 0 (bE ((x.toNat : Int) == 41)) (bF false) (bEq (x41 hl)) <| Yh (j285 (j6 (j45 []))) <| Yd [2] (appC_ok _ _ b x hb) <| Yd [0,1,2,3] ih <| Yn) [] [7,8,9,5]
theorem strC_all (w : World) (b' : Bool) (arr : Array UInt8) (hs : arr.size ≤ 1000) : ∀ (ls : List UInt8) (n : Nat) (b : Array UInt8),(∀ x ∈ ls,Letter x) → (∀ i,i < ls.length → arr[n + i]? = ls[i]?) → arr[n + ls.length]? = some 41 → b.size + ls.length ≤ 1000 →
  Ct w b' (strC (PB w b') arr n (n + ls.length + 1 : Nat) b (b ++ ls.toArray))
 | [],n,b,_,_,h2,_ => by
  have z := strC_end w b' arr n n b rfl hs h2
  have e : b ++ ([] : List UInt8).toArray = b := by simp
  rw [e]; exact z
 | x :: ls,n,b,hl,h1,h2,hb => by
  have hx : arr[n]? = some x := by have := h1 0 (by simp); simpa using this
  have ih := strC_all w b' arr hs ls (n + 1) (b.push x) (fun y hy => hl y (List.mem_cons_of_mem _ hy)) (fun i hi => by
   have := h1 (i + 1) (by simp; omega)
   rw [show n + 1 + i = n + (i + 1) by omega,this]; simp) (by rw [show n + 1 + ls.length = n + (x :: ls).length by simp; omega]; exact h2) (by rw [Array.size_push]; simp at hb; omega)
  have e : b ++ (x :: ls).toArray = b.push x ++ ls.toArray := by
   apply Array.ext'; simp
  have e2 : n + (x :: ls).length + 1 = n + 1 + ls.length + 1 := by simp; omega
  rw [e,e2]
  exact strC_step w b' arr n _ n b _ x rfl hs hx (hl x (List.mem_cons_self ..)) (by simp at hb; omega) ih
theorem strC0_all (w : World) (b' : Bool) (arr : Array UInt8) (hs : arr.size ≤ 1000) : ∀ (ls : List UInt8) (n : Nat),(∀ x ∈ ls,Letter x) → (∀ i,i < ls.length → arr[n + i]? = ls[i]?) → arr[n + ls.length]? = some 41 → ls.length ≤ 999 →
  Ct w b' (strC0 (PB w b') arr n (n + ls.length + 1 : Nat) #[] ls.toArray)
 | [],n,_,_,h2,_ => strC0_end w b' arr n n #[] rfl hs h2
 | x :: ls,n,hl,h1,h2,hb => by
  have hx : arr[n]? = some x := by have := h1 0 (by simp); simpa using this
  have ih := strC_all w b' arr hs ls (n + 1) #[x] (fun y hy => hl y (List.mem_cons_of_mem _ hy)) (fun i hi => by
   have := h1 (i + 1) (by simp; omega)
   rw [show n + 1 + i = n + (i + 1) by omega,this]; simp) (by rw [show n + 1 + ls.length = n + (x :: ls).length by simp; omega]; exact h2) (by simp at hb ⊢; omega)
  have e : (x :: ls).toArray = #[x] ++ ls.toArray := by
   apply Array.ext'; simp
  have e2 : n + (x :: ls).length + 1 = n + 1 + ls.length + 1 := by simp; omega
  rw [e,e2]
  exact strC0_step w b' arr n _ n #[] _ x rfl hs hx (hl x (List.mem_cons_self ..)) (by simp) ih
variable (w : World) (b' : Bool)
section
variable (u : List Nat) (i0 : Nat)
noncomputable def Q6 : Obj := ⟨.ref 143,(some (A u i0)),.plain,#[]⟩
end
noncomputable def rgS (P : Params) : CF := cg 690 fun c x y => mkC (.call (.ref 1116) ⟨[.bytes arS (cT c 0)],[]⟩) [] (2) (5) (fun u v => .ok (.ret (.ref (A u 0)))) nN (fun u v => [Q6 u 1,⟨.type "dict",none,.dict #[K P (.str t542 (A v 1)) (.str t198 (A v 0)),K P (.str t543 (A v 2)) (.bytes arS (cT c 0)),K P (.str t544 (A v 3)) (.bool true),K P (.str t540 (A v 4)) (.int 3 348)] 4,#[]⟩])
theorem rgS_ok : Ct w b' (rgS (PB w b')) :=
 sV 6000 0 (Yh (j428 []) <| Yc [] (rnS_ok _ _) <| Yh (j175 (j53 (7 :: j98 (j0 (j3 (j7 (8 :: j374 (j459 [])))))))) <| Yn) [4,3] [8,15,17,19,21]
noncomputable def rgA (P : Params) : CF := cg 690 fun c x y => mkC (.call (.ref 1116) ⟨[.bytes arA (cT c 0)],[]⟩) [] (2) (5) (fun u v => .ok (.ret (.ref (A u 0)))) nN (fun u v => [Q6 u 1,⟨.type "dict",none,.dict #[K P (.str t542 (A v 1)) (.str t198 (A v 0)),K P (.str t543 (A v 2)) (.bytes arA (cT c 0)),K P (.str t544 (A v 3)) (.bool true),K P (.str t540 (A v 4)) (.int 3 348)] 4,#[]⟩])
theorem rgA_ok : Ct w b' (rgA (PB w b')) :=
 sV 6000 0 (Yh (j428 []) <| Yc [] (rnA_ok _ _) <| Yh (j175 (j53 (7 :: j98 (j0 (j3 (j7 (8 :: j374 (j459 [])))))))) <| Yn) [4,3] [8,15,17,19,21]
noncomputable def rgP (P : Params) : CF := cg 690 fun c x y => mkC (.call (.ref 1116) ⟨[.bytes #[112,111,112] (cT c 0)],[]⟩) [] (2) (5) (fun u v => .ok (.ret (.ref (A u 0)))) nN (fun u v => [Q6 u 1,⟨.type "dict",none,.dict #[K P (.str t542 (A v 1)) (.str t198 (A v 0)),K P (.str t543 (A v 2)) (.bytes #[112,111,112] (cT c 0)),K P (.str t544 (A v 3)) (.bool true),K P (.str t540 (A v 4)) (.int 3 348)] 4,#[]⟩])
theorem rgP_ok : Ct w b' (rgP (PB w b')) :=
 sV 6000 0 (Yh (j428 []) <| Yc [] (rnP_ok _ _) <| Yh (j175 (j53 (7 :: j98 (j0 (j3 (j7 (8 :: j374 (j459 [])))))))) <| Yn) [4,3] [8,15,17,19,21]
section
variable (P : Params) (v : List Nat) (i0 i1 i2 i3 i4 i5 : Nat)
noncomputable def Q7 : Obj := ⟨.type "dict",none,.dict #[K P (.str t542 (A v i0)) (.str t195 (A v i1)),K P (.str t543 (A v i2)) (.int 7 (A v i3)),K P (.str t544 (A v i4)) (.bool false),K P (.str t540 (A v i5)) (.int 3 348)] 4,#[]⟩
end
noncomputable def rg7 (P : Params) : CF := cg 690 fun c x y => mkC (.call (.ref 1116) ⟨[.bytes #[55] (cT c 0)],[]⟩) [] (2) (6) (fun u v => .ok (.ret (.ref (A u 0)))) nN (fun u v => [Q6 u 1,Q7 P v 2 0 3 1 4 5])
theorem rg7_ok : Ct w b' (rg7 (PB w b')) :=
 sV 6000 0 (Yh (j428 []) <| Yc [] (rn7_ok _ _) <| Yh (j94 (j316 (0 :: j45 (j324 (8 :: j245 (j459 [])))))) <| Yn) [4,3] [7,1,14,16,18,20]
section
variable (P : Params) (v : List Nat) (i0 i1 i2 i3 i4 i5 : Nat)
noncomputable def Q8 : Obj := ⟨.type "dict",none,.dict #[K P (.str t542 (A v i0)) (.str t195 (A v i1)),K P (.str t543 (A v i2)) (.int 1 (A v i3)),K P (.str t544 (A v i4)) (.bool false),K P (.str t540 (A v i5)) (.int 3 348)] 4,#[]⟩
end
noncomputable def rg1 (P : Params) : CF := cg 690 fun c x y => mkC (.call (.ref 1116) ⟨[.bytes #[49] (cT c 0)],[]⟩) [] (2) (6) (fun u v => .ok (.ret (.ref (A u 0)))) nN (fun u v => [Q6 u 1,Q8 P v 2 0 3 1 4 5])
theorem rg1_ok : Ct w b' (rg1 (PB w b')) :=
 sV 6000 0 (Yh (j428 []) <| Yc [] (rn1_ok _ _) <| Yh (j94 (j316 (0 :: j45 (j324 (8 :: j245 (j459 [])))))) <| Yn) [4,3] [7,1,14,16,18,20]
section
variable (P : Params) (v : List Nat) (i0 i1 i2 i3 i4 i5 : Nat)
noncomputable def Q9 : Obj := ⟨.type "dict",none,.dict #[K P (.str t542 (A v i0)) (.str t195 (A v i1)),K P (.str t543 (A v i2)) (.int 2 (A v i3)),K P (.str t544 (A v i4)) (.bool false),K P (.str t540 (A v i5)) (.int 3 348)] 4,#[]⟩
end
noncomputable def rg2 (P : Params) : CF := cg 690 fun c x y => mkC (.call (.ref 1116) ⟨[.bytes #[50] (cT c 0)],[]⟩) [] (2) (6) (fun u v => .ok (.ret (.ref (A u 0)))) nN (fun u v => [Q6 u 1,Q9 P v 2 0 3 1 4 5])
theorem rg2_ok : Ct w b' (rg2 (PB w b')) :=
 sV 6000 0 (Yh (j428 []) <| Yc [] (rn2_ok _ _) <| Yh (j94 (j316 (0 :: j45 (j324 (8 :: j245 (j459 [])))))) <| Yn) [4,3] [7,1,14,16,18,20]
section
variable (P : Params) (y : List Obj) (v : List Nat) (i0 i1 : Nat)
noncomputable def Q10 (arr : Array UInt8) (end_ : Int) : Obj := dd P y i0 [t489,t337] [.bytes arr (tT y i0 1),.int end_ (A v i1)]
end
noncomputable def scS (P : Params) (arr : Array UInt8) (at_ end_ : Int) (l : Array UInt8) : CF := cf 790 (fun b => b) fun c x y => mkC (.call (.ref 1081) ⟨[.ref (A x 0)],[]⟩) [Q0 x 1,Q1 P y 1 arr at_] (0) (2) (fun u v => .ok (.ret (.bytes l (A v 0)))) (fun u v => [(1,Q10 P y v 1 1 arr end_)]) nN
theorem scS_ok (arr : Array UInt8) (at_ end_ : Int) (l : Array UInt8) (hl : l.size ≤ 1000) (hp : Ct w b' (strC0 (PB w b') arr at_ end_ #[] l)) : Ct w b' (scS (PB w b') arr at_ end_ l) :=
 sV 6000 2 (Yh (j349 []) <| Yd [3] (initC0_ok _ _) <| Yh (j297 (j58 (13 :: 8 :: j6 []))) <| Yc [0,1,3,2] hp <| Yh (j97 []) <| YL 1 [3] (bytesOfC l) (bytesOfC_ok _ _ _ hl) <| Yn) [] [8,4]
variable (w : World) (b' : Bool)
section
variable (P : Params) (y : List Obj) (x : List Nat) (ad : List Nat) (v : List Nat) (i0 i1 i2 i3 i4 i5 i6 : Nat)
noncomputable def Q11 : Obj := ⟨.ref 1206,(some (A x i0)),.plain,#[]⟩
noncomputable def Q12 : Obj := dd P y i0 [t509] [.ref (A x i1)]
noncomputable def Q13 : Obj := ⟨.ref 867,(some (A x i0)),.plain,#[]⟩
noncomputable def Q14 (u : Int) : Obj := dd P y i0 ks0 [.ref (A x i1),.bool false,.ref (A x i2),.ref (tR y i0 7),.ref (A x i3),.ref (tR y i0 11),.int u (tT y i0 13),.int 12800 (tT y i0 15),.int 3 (tT y i0 17),.int 0 (tT y i0 19)]
noncomputable def Q15 : Obj := ⟨.ref 586,(some (A x i0)),.plain,#[]⟩
noncomputable def Q16 : Obj := dd P y i0 [t495,t496,t497,t498,t499,t500,t501,t502,t491,t503,t504,t505,t506,t507] [.int 500 926,.int 20 927,.int 250 928,.int 15 929,.int 31 930,.int 65535 931,.int 65535 932,.int 65535 933,.int 127 934,.int 1500 935,.int 11 936,.int 15 937,.int 600 938,.int 16777216 912]
noncomputable def Q17 : Obj := ⟨.type "list",none,.seq #[] (oE y i0),#[]⟩
noncomputable def Q18 : Obj := ⟨.type "dict",none,.dict #[⟨1,.int 1 (tT y i0 0),.ref (tR y i0 1)⟩,⟨2,.int 2 (tT y i0 2),.ref (tR y i0 3)⟩,⟨3,.int 3 (tT y i0 4),.ref (tR y i0 5)⟩] 3,#[]⟩
noncomputable def Q19 (u : Int) (l : Array UInt8) : Obj := dd P y i0 ks0 [.ref (A x i1),.bool false,.ref (A x i2),.ref (tR y i0 7),.ref (A x i3),.ref (tR y i0 11),.int (u + (l.size : Int)) (A v i4),.int 12800 (tT y i0 15),.int 4 (A v i5),.int 0 (tT y i0 19)]
noncomputable def Q20 : Obj := ⟨.type "dict",none,.dict #[⟨1,.int 1 (tT y i0 0),.ref (tR y i0 1)⟩,⟨2,.int 2 (tT y i0 2),.ref (tR y i0 3)⟩,⟨3,.int 3 (tT y i0 4),.ref (tR y i0 5)⟩,⟨4,.int 4 (A v i1),.ref (A ad 1)⟩] 4,#[]⟩
noncomputable def Q21 (l : Array UInt8) : Obj := ⟨.type "tuple",none,.seq #[.int (l.size : Int) (A v i0),.bool false,.int 0 (A v i1)] 0,#[]⟩
noncomputable def Q22 : Obj := ⟨.type "dict",none,.dict #[K P (.str t542 (A v i0)) (.str t399 (A v i1)),K P (.str t543 (A v i2)) (.ref (A ad i3)),K P (.str t544 (A v i4)) (.bool false),K P (.str t540 (A v i5)) (.int 3 348)] 4,#[]⟩
noncomputable def Q23 : Obj := ⟨.ref 239,(some (A ad i0)),.plain,#[]⟩
noncomputable def Q24 (l : Array UInt8) : Obj := ⟨.type "dict",none,.dict #[K P (.str t541 (A v i0)) (.ref (A ad i1)),K P (.str t566 (A v i2)) (.int 0 (A v i3)),K P (.str t335 (A v i4)) (.int (l.size : Int) (A v i5))] 3,#[]⟩
noncomputable def Q25 : Obj := ⟨.ref 164,(some (A ad i0)),.plain,#[]⟩
noncomputable def Q26 : Obj := ⟨.type "dict",none,.dict #[K P (.str t539 (A v i0)) (.int 4 (A v i1)),K P (.str t489 (A v i2)) (.ref (A ad i3)),K P (.str t529 (A v i4)) (.bool false),K P (.str t352 (A v i5)) (.int 0 (A v i6))] 4,#[]⟩
noncomputable def Q27 (l : Array UInt8) : Obj := ⟨.type "bytearray",none,.bytearray l 0,#[]⟩
end
noncomputable def str3 (P : Params) (u : Int) (l : Array UInt8) : CF := cf 700 (fun b => b) fun c x y => mkC (.call (.ref 1144) ⟨[.ref (A x 0),.bytes l (cT c 1)],[]⟩) [Q11 x 1,Q12 P y x 1 2,Q13 x 3,Q14 P y x 3 4 6 7 u,Q15 x 5,Q16 P y 5,Q17 y 6,Q18 y 7] (8) (19) (fun ad v => .ok (.ret (.ref (A ad 0)))) (fun ad v => [(3,Q19 P y x v 3 4 6 7 0 1 u l),(7,Q20 y ad v 7 1)]) (fun ad v => [Q6 ad 2,Q21 v 2 3 l,Q22 P ad v 8 4 9 3 10 11,Q23 ad 4,Q24 P ad v 12 5 13 5 14 6 l,Q25 ad 6,Q26 P ad v 15 1 16 7 17 18 7,Q27 l])
theorem str3_ok (u : Int) (l : Array UInt8) (hl : l.size ≤ 1000) (hu : 0 ≤ u ∧ u ≤ 100000) : Ct w b' (str3 (PB w b') u l) :=
 sV 2000 8 (Yh (j0 (14 :: j49 (j38 (j138 (j368 (14 :: j1 (15 :: j49 (j2 [])))))))) <| Yd [] (lenC_ok _ _ l hl) <| Yh (15 :: j473 (j114 (j384 (j27 [])))) <| Yv 0 (bX ((l.size : Int) < 0)) (bF false) (bN (by omega)) <| Yh [16,2] <| Yv 0 (bX ((l.size : Int) > 65535)) (bF false) (bN (by omega)) <| Yh (0 :: 15 :: j368 (j215 [])) <| Yd [] (lenC_ok _ _ l hl) <| Yh (j1 (17 :: j27 (j368 (j19 (18 :: j437 (j114 [])))))) <| Yv 2 (bX (u + 12800 + (l.size : Int) > 16777216)) (bF false) (bN (by omega)) <| Yh (17 :: j473 (j420 (19 :: j345 (20 :: j412 (17 :: j244 (j356 (j466 (15 :: j469 (22 :: j345 (23 :: j412 (j84 (25 :: j212 (26 :: j131 (j448 (j215 (27 :: j3 [])))))))))))))))) <| Yd [21] (baIC_ok _ _ l hl) <| Yh (26 :: 25 :: j87 (24 :: j125 (j7 (28 :: j337 (j25 []))))) <| Yd [21] (lenBC_ok _ _ l hl) <| Yh (j84 (30 :: j212 (31 :: j3 (j107 (29 :: j125 (28 :: 2 :: j84 (33 :: j90 (34 :: j131 (32 :: j146 []))))))))) <| Yn) [27,15,26,24,23,19,18,21] [40,24,11,34,68,69,71,51,88,90,92,94,77,79,81,58,60,62,64]
section
variable (P : Params) (y : List Obj) (x : List Nat) (ad : List Nat) (v : List Nat) (i0 i1 i2 i3 i4 i5 i6 : Nat)
noncomputable def Q28 (u : Int) : Obj := dd P y i0 ks0 [.ref (A x i1),.bool false,.ref (A x i2),.ref (tR y i0 7),.ref (A x i3),.ref (tR y i0 11),.int u (tT y i0 13),.int 12800 (tT y i0 15),.int 4 (tT y i0 17),.int 0 (tT y i0 19)]
noncomputable def Q29 : Obj := ⟨.type "dict",none,.dict #[⟨1,.int 1 (tT y i0 0),.ref (tR y i0 1)⟩,⟨2,.int 2 (tT y i0 2),.ref (tR y i0 3)⟩,⟨3,.int 3 (tT y i0 4),.ref (tR y i0 5)⟩,⟨4,.int 4 (tT y i0 6),.ref (tR y i0 7)⟩] 4,#[]⟩
noncomputable def Q30 (u : Int) (l : Array UInt8) : Obj := dd P y i0 ks0 [.ref (A x i1),.bool false,.ref (A x i2),.ref (tR y i0 7),.ref (A x i3),.ref (tR y i0 11),.int (u + (l.size : Int)) (A v i4),.int 12800 (tT y i0 15),.int 5 (A v i5),.int 0 (tT y i0 19)]
noncomputable def Q31 : Obj := ⟨.type "dict",none,.dict #[⟨1,.int 1 (tT y i0 0),.ref (tR y i0 1)⟩,⟨2,.int 2 (tT y i0 2),.ref (tR y i0 3)⟩,⟨3,.int 3 (tT y i0 4),.ref (tR y i0 5)⟩,⟨4,.int 4 (tT y i0 6),.ref (tR y i0 7)⟩,⟨5,.int 5 (A v i1),.ref (A ad i2)⟩] 5,#[]⟩
noncomputable def Q32 : Obj := ⟨.type "dict",none,.dict #[K P (.str t539 (A v i0)) (.int 5 (A v i1)),K P (.str t489 (A v i2)) (.ref (A ad i3)),K P (.str t529 (A v i4)) (.bool false),K P (.str t352 (A v i5)) (.int 0 (A v i6))] 4,#[]⟩
end
noncomputable def str4 (P : Params) (u : Int) (l : Array UInt8) : CF := cf 700 (fun b => b) fun c x y => mkC (.call (.ref 1144) ⟨[.ref (A x 0),.bytes l (cT c 1)],[]⟩) [Q11 x 1,Q12 P y x 1 2,Q13 x 3,Q28 P y x 3 4 6 7 u,Q15 x 5,Q16 P y 5,Q17 y 6,Q29 y 7] (8) (19) (fun ad v => .ok (.ret (.ref (A ad 0)))) (fun ad v => [(3,Q30 P y x v 3 4 6 7 0 1 u l),(7,Q31 y ad v 7 1 1)]) (fun ad v => [Q6 ad 2,Q21 v 2 3 l,Q22 P ad v 8 4 9 3 10 11,Q23 ad 4,Q24 P ad v 12 5 13 5 14 6 l,Q25 ad 6,Q32 P ad v 15 1 16 7 17 18 7,Q27 l])
theorem str4_ok (u : Int) (l : Array UInt8) (hl : l.size ≤ 1000) (hu : 0 ≤ u ∧ u ≤ 100000) : Ct w b' (str4 (PB w b') u l) :=
 sV 2000 8 (Yh (j0 (14 :: j49 (j38 (j138 (j368 (14 :: j1 (15 :: j49 (j2 [])))))))) <| Yd [] (lenC_ok _ _ l hl) <| Yh (15 :: j473 (j114 (j384 (j27 [])))) <| Yv 0 (bX ((l.size : Int) < 0)) (bF false) (bN (by omega)) <| Yh [16,2] <| Yv 0 (bX ((l.size : Int) > 65535)) (bF false) (bN (by omega)) <| Yh (0 :: 15 :: j368 (j215 [])) <| Yd [] (lenC_ok _ _ l hl) <| Yh (j1 (17 :: j27 (j368 (j19 (18 :: j437 (j114 [])))))) <| Yv 2 (bX (u + 12800 + (l.size : Int) > 16777216)) (bF false) (bN (by omega)) <| Yh (17 :: j473 (j420 (19 :: j345 (20 :: j412 (17 :: j244 (j356 (j466 (15 :: j469 (22 :: j345 (23 :: j412 (j84 (25 :: j212 (26 :: j131 (j448 (j215 (27 :: j3 [])))))))))))))))) <| Yd [21] (baIC_ok _ _ l hl) <| Yh (26 :: 25 :: j87 (24 :: j125 (j7 (28 :: j337 (j25 []))))) <| Yd [21] (lenBC_ok _ _ l hl) <| Yh (j84 (30 :: j212 (31 :: j3 (j107 (29 :: j125 (28 :: 2 :: j84 (33 :: j90 (34 :: j131 (32 :: j146 []))))))))) <| Yn) [27,15,26,24,23,19,18,21] [40,24,11,34,68,69,71,51,88,90,92,94,77,79,81,58,60,62,64]
section
variable (P : Params) (y : List Obj) (x : List Nat) (ad : List Nat) (v : List Nat) (i0 i1 i2 i3 i4 i5 i6 : Nat)
noncomputable def Q33 (u : Int) : Obj := dd P y i0 ks0 [.ref (A x i1),.bool false,.ref (A x i2),.ref (tR y i0 7),.ref (A x i3),.ref (tR y i0 11),.int u (tT y i0 13),.int 12800 (tT y i0 15),.int 5 (tT y i0 17),.int 0 (tT y i0 19)]
noncomputable def Q34 : Obj := ⟨.type "dict",none,.dict #[⟨1,.int 1 (tT y i0 0),.ref (tR y i0 1)⟩,⟨2,.int 2 (tT y i0 2),.ref (tR y i0 3)⟩,⟨3,.int 3 (tT y i0 4),.ref (tR y i0 5)⟩,⟨4,.int 4 (tT y i0 6),.ref (tR y i0 7)⟩,⟨5,.int 5 (tT y i0 8),.ref (tR y i0 9)⟩] 5,#[]⟩
noncomputable def Q35 (u : Int) (l : Array UInt8) : Obj := dd P y i0 ks0 [.ref (A x i1),.bool false,.ref (A x i2),.ref (tR y i0 7),.ref (A x i3),.ref (tR y i0 11),.int (u + (l.size : Int)) (A v i4),.int 12800 (tT y i0 15),.int 6 (A v i5),.int 0 (tT y i0 19)]
noncomputable def Q36 : Obj := ⟨.type "dict",none,.dict #[⟨1,.int 1 (tT y i0 0),.ref (tR y i0 1)⟩,⟨2,.int 2 (tT y i0 2),.ref (tR y i0 3)⟩,⟨3,.int 3 (tT y i0 4),.ref (tR y i0 5)⟩,⟨4,.int 4 (tT y i0 6),.ref (tR y i0 7)⟩,⟨5,.int 5 (tT y i0 8),.ref (tR y i0 9)⟩,⟨6,.int 6 (A v i1),.ref (A ad i2)⟩] 6,#[]⟩
noncomputable def Q37 : Obj := ⟨.type "dict",none,.dict #[K P (.str t539 (A v i0)) (.int 6 (A v i1)),K P (.str t489 (A v i2)) (.ref (A ad i3)),K P (.str t529 (A v i4)) (.bool false),K P (.str t352 (A v i5)) (.int 0 (A v i6))] 4,#[]⟩
end
noncomputable def str5 (P : Params) (u : Int) (l : Array UInt8) : CF := cf 700 (fun b => b) fun c x y => mkC (.call (.ref 1144) ⟨[.ref (A x 0),.bytes l (cT c 1)],[]⟩) [Q11 x 1,Q12 P y x 1 2,Q13 x 3,Q33 P y x 3 4 6 7 u,Q15 x 5,Q16 P y 5,Q17 y 6,Q34 y 7] (8) (19) (fun ad v => .ok (.ret (.ref (A ad 0)))) (fun ad v => [(3,Q35 P y x v 3 4 6 7 0 1 u l),(7,Q36 y ad v 7 1 1)]) (fun ad v => [Q6 ad 2,Q21 v 2 3 l,Q22 P ad v 8 4 9 3 10 11,Q23 ad 4,Q24 P ad v 12 5 13 5 14 6 l,Q25 ad 6,Q37 P ad v 15 1 16 7 17 18 7,Q27 l])
theorem str5_ok (u : Int) (l : Array UInt8) (hl : l.size ≤ 1000) (hu : 0 ≤ u ∧ u ≤ 100000) : Ct w b' (str5 (PB w b') u l) :=
 sV 2000 8 (Yh (j0 (14 :: j49 (j38 (j138 (j368 (14 :: j1 (15 :: j49 (j2 [])))))))) <| Yd [] (lenC_ok _ _ l hl) <| Yh (15 :: j473 (j114 (j384 (j27 [])))) <| Yv 0 (bX ((l.size : Int) < 0)) (bF false) (bN (by omega)) <| Yh [16,2] <| Yv 0 (bX ((l.size : Int) > 65535)) (bF false) (bN (by omega)) <| Yh (0 :: 15 :: j368 (j215 [])) <| Yd [] (lenC_ok _ _ l hl) <| Yh (j1 (17 :: j27 (j368 (j19 (18 :: j437 (j114 [])))))) <| Yv 2 (bX (u + 12800 + (l.size : Int) > 16777216)) (bF false) (bN (by omega)) <| Yh (17 :: j473 (j420 (19 :: j345 (20 :: j412 (17 :: j244 (j356 (j466 (15 :: j469 (22 :: j345 (23 :: j412 (j84 (25 :: j212 (26 :: j131 (j448 (j215 (27 :: j3 [])))))))))))))))) <| Yd [21] (baIC_ok _ _ l hl) <| Yh (26 :: 25 :: j87 (24 :: j125 (j7 (28 :: j337 (j25 []))))) <| Yd [21] (lenBC_ok _ _ l hl) <| Yh (j84 (30 :: j212 (31 :: j3 (j107 (29 :: j125 (28 :: 2 :: j84 (33 :: j90 (34 :: j131 (32 :: j146 []))))))))) <| Yn) [27,15,26,24,23,19,18,21] [40,24,11,34,68,69,71,51,88,90,92,94,77,79,81,58,60,62,64]
noncomputable def nth' (l : List (Code × Pos)) (i : Nat) : Code × Pos := l.getD i default
noncomputable def cdS (c : Code) : List Stmt := match c with | .func b _ => b | .block b _ => b | .body b _ => b | .whileLoop _ b _ _ => b | .forLoop _ _ b _ _ => b | _ => []
noncomputable def cdO (c : Code) : List Stmt := match c with | .whileLoop _ _ b _ => b | .forLoop _ _ _ b _ => b | _ => []
noncomputable def cdE (c : Code) : Env := match c with | .func _ e => e | .block _ e => e | .body _ e => e | .whileLoop _ _ _ e => e | .forLoop _ _ _ _ e => e | .compLoop _ _ _ _ e => e | .compStart _ _ _ _ e => e | .handlers _ _ e => e | .expr _ e => e | _ => default
noncomputable def cdX (c : Code) : PySem.Expr := match c with | .whileLoop t _ _ _ => t | .forLoop t _ _ _ _ => t | .compLoop t _ _ _ _ => t | .compStart t _ _ _ _ => t | .expr t _ => t | _ => default
noncomputable def cdA (c : Code) : Args := match c with | .builtin _ a => a | .call _ a => a | _ => {}
noncomputable def shF (x : Code × Pos) : Code × Pos := (.func (cdS x.1) (cdE x.1),x.2)
noncomputable def shB (n : String) (x : Code × Pos) : Code × Pos := (.builtin n (cdA x.1),x.2)
noncomputable def shW (x : Code × Pos) : Code × Pos := (.whileLoop (cdX x.1) (cdS x.1) (cdO x.1) (cdE x.1),x.2)
variable (w : World) (b' : Bool)
noncomputable def tkS3_sh (l : List (Code × Pos)) : List (Code × Pos) := [shF (nth' l 0),shF (nth' l 1),shF (nth' l 2),shW (nth' l 3),shF (nth' l 4),shF (nth' l 5),shF (nth' l 6),shF (nth' l 7),shB "claim.caller" (nth' l 8)]
noncomputable def tkS3 (P : Params) (arr : Array UInt8) (at_ end_ u : Int) (l : Array UInt8) : CF := cf 680 tkS3_sh fun c x y => mkC (.call (.ref 1187) ⟨[.ref (A x 2),.ref (A x 0),.bool false,.ref (cR c 3)],[]⟩) [Q0 x 1,Q1 P y 1 arr at_,Q11 x 3,Q12 P y x 3 4,Q13 x 5,Q14 P y x 5 6 8 9 u,Q15 x 7,Q16 P y 7,Q17 y 8,Q18 y 9] (8) (20) (fun ad v => .ok (.ret (.ref (A ad 0)))) (fun ad v => [(1,Q10 P y v 1 0 arr end_),(5,Q19 P y x v 5 6 8 9 1 2 u l),(9,Q20 y ad v 9 2)]) (fun ad v => [Q6 ad 2,Q21 v 3 4 l,Q22 P ad v 9 5 10 3 11 12,Q23 ad 4,Q24 P ad v 13 5 14 6 15 7 l,Q25 ad 6,Q26 P ad v 16 2 17 7 18 19 8,Q27 l])
theorem tkS3_ok (arr : Array UInt8) (at_ end_ u : Int) (l : Array UInt8) (n : Nat) (hn : at_ = n) (hs : arr.size ≤ 1000) (h0 : arr[n]? = some 40) (hl : l.size ≤ 1000) (hu : 0 ≤ u ∧ u ≤ 100000) (hp : Ct w b' (strC0 (PB w b') arr (at_ + 1) end_ #[] l)) : Ct w b' (tkS3 (PB w b') arr at_ end_ u l) :=
 sV 6000 10 (Yh (j384 (j3 (j250 []))) <| Yc [0,1] (sfI40_ok _ _ arr at_ n hn hs h0) <| Yh (16 :: j270 (18 :: j198 (j256 (5 :: j37 (5 :: j311 (0 :: [])))))) <| YC [0,1] (scS (PB w b') arr (at_ + 1) end_ l) (scS_ok _ _ _ _ _ _ hl hp) <| Yh [0] <| Yc [2,3,4,5,6,7,8,9] (str3_ok _ _ u l hl hu) <| Yh (16 :: j6 (17 :: 27 :: j282 [])) <| Yn) [13,14,15,16,17,18,19,20] [14,15,16,17,18,19,20,21,22,23,24,25,26,27,28,29,30,31,32,33]
noncomputable def tkS4 (P : Params) (arr : Array UInt8) (at_ end_ u : Int) (l : Array UInt8) : CF := cf 680 tkS3_sh fun c x y => mkC (.call (.ref 1187) ⟨[.ref (A x 2),.ref (A x 0),.bool false,.ref (cR c 3)],[]⟩) [Q0 x 1,Q1 P y 1 arr at_,Q11 x 3,Q12 P y x 3 4,Q13 x 5,Q28 P y x 5 6 8 9 u,Q15 x 7,Q16 P y 7,Q17 y 8,Q29 y 9] (8) (20) (fun ad v => .ok (.ret (.ref (A ad 0)))) (fun ad v => [(1,Q10 P y v 1 0 arr end_),(5,Q30 P y x v 5 6 8 9 1 2 u l),(9,Q31 y ad v 9 2 1)]) (fun ad v => [Q6 ad 2,Q21 v 3 4 l,Q22 P ad v 9 5 10 3 11 12,Q23 ad 4,Q24 P ad v 13 5 14 6 15 7 l,Q25 ad 6,Q32 P ad v 16 2 17 7 18 19 8,Q27 l])
theorem tkS4_ok (arr : Array UInt8) (at_ end_ u : Int) (l : Array UInt8) (n : Nat) (hn : at_ = n) (hs : arr.size ≤ 1000) (hx : arr[n]? = some 32) (h0 : arr[n + 1]? = some 40) (hl : l.size ≤ 1000) (hu : 0 ≤ u ∧ u ≤ 100000) (hp : Ct w b' (strC0 (PB w b') arr ((at_ + 1) + 1) end_ #[] l)) : Ct w b' (tkS4 (PB w b') arr at_ end_ u l) :=
 sV 6000 10 (Yh (j384 (j3 (j250 []))) <| Yc [0,1] (sfB40_ok _ _ arr at_ n hn hs hx h0) <| Yh (16 :: j270 (18 :: j198 (j256 (5 :: j37 (5 :: j311 (0 :: [])))))) <| YC [0,1] (scS (PB w b') arr ((at_ + 1) + 1) end_ l) (scS_ok _ _ _ _ _ _ hl hp) <| Yh [0] <| Yc [2,3,4,5,6,7,8,9] (str4_ok _ _ u l hl hu) <| Yh (16 :: j6 (17 :: 27 :: j282 [])) <| Yn) [13,14,15,16,17,18,19,20] [14,15,16,17,18,19,20,21,22,23,24,25,26,27,28,29,30,31,32,33]
noncomputable def tkS5 (P : Params) (arr : Array UInt8) (at_ end_ u : Int) (l : Array UInt8) : CF := cf 680 tkS3_sh fun c x y => mkC (.call (.ref 1187) ⟨[.ref (A x 2),.ref (A x 0),.bool false,.ref (cR c 3)],[]⟩) [Q0 x 1,Q1 P y 1 arr at_,Q11 x 3,Q12 P y x 3 4,Q13 x 5,Q33 P y x 5 6 8 9 u,Q15 x 7,Q16 P y 7,Q17 y 8,Q34 y 9] (8) (20) (fun ad v => .ok (.ret (.ref (A ad 0)))) (fun ad v => [(1,Q10 P y v 1 0 arr end_),(5,Q35 P y x v 5 6 8 9 1 2 u l),(9,Q36 y ad v 9 2 1)]) (fun ad v => [Q6 ad 2,Q21 v 3 4 l,Q22 P ad v 9 5 10 3 11 12,Q23 ad 4,Q24 P ad v 13 5 14 6 15 7 l,Q25 ad 6,Q37 P ad v 16 2 17 7 18 19 8,Q27 l])
theorem tkS5_ok (arr : Array UInt8) (at_ end_ u : Int) (l : Array UInt8) (n : Nat) (hn : at_ = n) (hs : arr.size ≤ 1000) (h0 : arr[n]? = some 40) (hl : l.size ≤ 1000) (hu : 0 ≤ u ∧ u ≤ 100000) (hp : Ct w b' (strC0 (PB w b') arr (at_ + 1) end_ #[] l)) : Ct w b' (tkS5 (PB w b') arr at_ end_ u l) :=
 sV 6000 10 (Yh (j384 (j3 (j250 []))) <| Yc [0,1] (sfI40_ok _ _ arr at_ n hn hs h0) <| Yh (16 :: j270 (18 :: j198 (j256 (5 :: j37 (5 :: j311 (0 :: [])))))) <| YC [0,1] (scS (PB w b') arr (at_ + 1) end_ l) (scS_ok _ _ _ _ _ _ hl hp) <| Yh [0] <| Yc [2,3,4,5,6,7,8,9] (str5_ok _ _ u l hl hu) <| Yh (16 :: j6 (17 :: 27 :: j282 [])) <| Yn) [13,14,15,16,17,18,19,20] [14,15,16,17,18,19,20,21,22,23,24,25,26,27,28,29,30,31,32,33]
section
variable (P : Params) (y : List Obj) (v : List Nat) (i0 i1 : Nat)
noncomputable def Q38 : Obj := dd P y i0 [t509] [.ref (tR y i0 1)]
noncomputable def Q39 (arr : Array UInt8) (at_ : Int) : Obj := dd P y i0 [t489,t337] [.bytes arr (tT y i0 1),.int (((((((((at_ + 1) + 1) - 1) + 1) + 1) + 1) + 1) + 1) + 1) (A v i1)]
noncomputable def Q40 : Obj := ⟨.type "dict",none,.dict #[K P (.str t542 (A v 3)) (.str t198 (A v 1)),K P (.str t543 (A v 4)) (.bytes arS (A v 2)),K P (.str t544 (A v 5)) (.bool true),K P (.str t540 (A v 6)) (.int 3 348)] 4,#[]⟩
end
noncomputable def tkSB (P : Params) (arr : Array UInt8) (at_ : Int) : CF := cf 680 tkS3_sh fun c x y => mkC (.call (.ref 1187) ⟨[.ref (A x 2),.ref (A x 0),.bool false,.ref (cR c 3)],[]⟩) [Q0 x 1,Q1 P y 1 arr at_,Q11 x 3,Q38 P y 3] (2) (7) (fun u v => .ok (.ret (.ref (A u 0)))) (fun u v => [(1,Q39 P y v 1 0 arr at_)]) (fun u v => [Q6 u 1,Q40 P v])
theorem tkSB_ok (arr : Array UInt8) (at_ : Int) (n : Nat) (hn : at_ = n) (hs : arr.size ≤ 1000) (hx : arr[n]? = some 32) (h0 : arr[n + 1 + 0]? = some 115) (h1 : arr[n + 1 + 1]? = some 101) (h2 : arr[n + 1 + 2]? = some 97) (h3 : arr[n + 1 + 3]? = some 114) (h4 : arr[n + 1 + 4]? = some 99) (h5 : arr[n + 1 + 5]? = some 104) (hb : arr.size ≤ n + 1 + 6) : Ct w b' (tkSB (PB w b') arr at_) :=
 sV 6000 4 (Yh (j326 []) <| Yc [0,1] (sfB115_ok _ _ arr at_ n hn hs hx h0) <| Yh (j390 []) <| YC [0,1] (wdS (PB w b') arr (((at_ + 1) + 1) - 1)) (wdS_ok _ _ arr _ (n + 1) (by omega) hs h0 h1 h2 h3 h4 h5 hb) <| Yh [0] <| Yc [] (rgS_ok _ _) <| Yh (j338 []) <| Yn) [8,9] [20,21,19,22,23,24,25]
noncomputable def tkSI (P : Params) (arr : Array UInt8) (at_ : Int) : CF := cf 680 tkS3_sh fun c x y => mkC (.call (.ref 1187) ⟨[.ref (A x 2),.ref (A x 0),.bool false,.ref (cR c 3)],[]⟩) [Q0 x 1,Q1 P y 1 arr at_,Q11 x 3,Q38 P y 3] (2) (7) (fun u v => .ok (.ret (.ref (A u 0)))) (fun u v => [(1,dd P y 1 [t489,t337] [.bytes arr (tT y 1 1),.int ((((((((at_ + 1) - 1) + 1) + 1) + 1) + 1) + 1) + 1) (A v 0)])]) (fun u v => [Q6 u 1,Q40 P v])
theorem tkSI_ok (arr : Array UInt8) (at_ : Int) (n : Nat) (hn : at_ = n) (hs : arr.size ≤ 1000) (h0 : arr[n + 0 + 0]? = some 115) (h1 : arr[n + 0 + 1]? = some 101) (h2 : arr[n + 0 + 2]? = some 97) (h3 : arr[n + 0 + 3]? = some 114) (h4 : arr[n + 0 + 4]? = some 99) (h5 : arr[n + 0 + 5]? = some 104) (hb : arr.size ≤ n + 0 + 6) : Ct w b' (tkSI (PB w b') arr at_) :=
 sV 6000 4 (Yh (j326 []) <| Yc [0,1] (sfI115_ok _ _ arr at_ n hn hs h0) <| Yh (j390 []) <| YC [0,1] (wdS (PB w b') arr ((at_ + 1) - 1)) (wdS_ok _ _ arr _ (n + 0) (by omega) hs h0 h1 h2 h3 h4 h5 hb) <| Yh [0] <| Yc [] (rgS_ok _ _) <| Yh (j338 []) <| Yn) [8,9] [20,21,19,22,23,24,25]
section
variable (P : Params) (v : List Nat) (i0 : Nat)
noncomputable def Q41 : Obj := ⟨.type "dict",none,.dict #[K P (.str t542 (A v 3)) (.str t198 (A v 1)),K P (.str t543 (A v 4)) (.bytes arA (A v 2)),K P (.str t544 (A v 5)) (.bool true),K P (.str t540 (A v 6)) (.int 3 348)] 4,#[]⟩
end
noncomputable def tkAI (P : Params) (arr : Array UInt8) (at_ : Int) : CF := cf 680 tkS3_sh fun c x y => mkC (.call (.ref 1187) ⟨[.ref (A x 2),.ref (A x 0),.bool false,.ref (cR c 3)],[]⟩) [Q0 x 1,Q1 P y 1 arr at_,Q11 x 3,Q38 P y 3] (2) (7) (fun u v => .ok (.ret (.ref (A u 0)))) (fun u v => [(1,dd P y 1 [t489,t337] [.bytes arr (tT y 1 1),.int ((((((((((((((at_ + 1) - 1) + 1) + 1) + 1) + 1) + 1) + 1) + 1) + 1) + 1) + 1) + 1) + 1) (A v 0)])]) (fun u v => [Q6 u 1,Q41 P v])
theorem tkAI_ok (arr : Array UInt8) (at_ : Int) (n : Nat) (hn : at_ = n) (hs : arr.size ≤ 1000) (h0 : arr[n + 0 + 0]? = some 97) (h1 : arr[n + 0 + 1]? = some 110) (h2 : arr[n + 0 + 2]? = some 99) (h3 : arr[n + 0 + 3]? = some 104) (h4 : arr[n + 0 + 4]? = some 111) (h5 : arr[n + 0 + 5]? = some 114) (h6 : arr[n + 0 + 6]? = some 115) (h7 : arr[n + 0 + 7]? = some 101) (h8 : arr[n + 0 + 8]? = some 97) (h9 : arr[n + 0 + 9]? = some 114) (h10 : arr[n + 0 + 10]? = some 99) (h11 : arr[n + 0 + 11]? = some 104) (hb : arr.size ≤ n + 0 + 12) : Ct w b' (tkAI (PB w b') arr at_) :=
 sV 6000 4 (Yh (j326 []) <| Yc [0,1] (sfI97_ok _ _ arr at_ n hn hs h0) <| Yh (j390 []) <| YC [0,1] (wdA (PB w b') arr ((at_ + 1) - 1)) (wdA_ok _ _ arr _ (n + 0) (by omega) hs h0 h1 h2 h3 h4 h5 h6 h7 h8 h9 h10 h11 hb) <| Yh [0] <| Yc [] (rgA_ok _ _) <| Yh (j338 []) <| Yn) [8,9] [20,21,19,22,23,24,25]
section
variable (P : Params) (y : List Obj) (v : List Nat) (i0 i1 : Nat)
noncomputable def Q42 (arr : Array UInt8) (at_ : Int) : Obj := dd P y i0 [t489,t337] [.bytes arr (tT y i0 1),.int (((((((((((((((at_ + 1) + 1) - 1) + 1) + 1) + 1) + 1) + 1) + 1) + 1) + 1) + 1) + 1) + 1) + 1) (A v i1)]
end
noncomputable def tkAB (P : Params) (arr : Array UInt8) (at_ : Int) : CF := cf 680 tkS3_sh fun c x y => mkC (.call (.ref 1187) ⟨[.ref (A x 2),.ref (A x 0),.bool false,.ref (cR c 3)],[]⟩) [Q0 x 1,Q1 P y 1 arr at_,Q11 x 3,Q38 P y 3] (2) (7) (fun u v => .ok (.ret (.ref (A u 0)))) (fun u v => [(1,Q42 P y v 1 0 arr at_)]) (fun u v => [Q6 u 1,Q41 P v])
theorem tkAB_ok (arr : Array UInt8) (at_ : Int) (n : Nat) (hn : at_ = n) (hs : arr.size ≤ 1000) (hx : arr[n]? = some 32) (h0 : arr[n + 1 + 0]? = some 97) (h1 : arr[n + 1 + 1]? = some 110) (h2 : arr[n + 1 + 2]? = some 99) (h3 : arr[n + 1 + 3]? = some 104) (h4 : arr[n + 1 + 4]? = some 111) (h5 : arr[n + 1 + 5]? = some 114) (h6 : arr[n + 1 + 6]? = some 115) (h7 : arr[n + 1 + 7]? = some 101) (h8 : arr[n + 1 + 8]? = some 97) (h9 : arr[n + 1 + 9]? = some 114) (h10 : arr[n + 1 + 10]? = some 99) (h11 : arr[n + 1 + 11]? = some 104) (hb : arr.size ≤ n + 1 + 12) : Ct w b' (tkAB (PB w b') arr at_) :=
 sV 6000 4 (Yh (j326 []) <| Yc [0,1] (sfB97_ok _ _ arr at_ n hn hs hx h0) <| Yh (j390 []) <| YC [0,1] (wdA (PB w b') arr (((at_ + 1) + 1) - 1)) (wdA_ok _ _ arr _ (n + 1) (by omega) hs h0 h1 h2 h3 h4 h5 h6 h7 h8 h9 h10 h11 hb) <| Yh [0] <| Yc [] (rgA_ok _ _) <| Yh (j338 []) <| Yn) [8,9] [20,21,19,22,23,24,25]
section
variable (P : Params) (y : List Obj) (v : List Nat) (i0 i1 : Nat)
noncomputable def Q43 (arr : Array UInt8) (at_ : Int) : Obj := dd P y i0 [t489,t337] [.bytes arr (tT y i0 1),.int ((((((at_ + 1) - 1) + 1) + 1) + 1) + 1) (A v i1)]
end
noncomputable def tkP (P : Params) (arr : Array UInt8) (at_ : Int) : CF := cf 680 tkS3_sh fun c x y => mkC (.call (.ref 1187) ⟨[.ref (A x 2),.ref (A x 0),.bool false,.ref (cR c 3)],[]⟩) [Q0 x 1,Q1 P y 1 arr at_,Q11 x 3,Q38 P y 3] (2) (7) (fun u v => .ok (.ret (.ref (A u 0)))) (fun u v => [(1,Q43 P y v 1 0 arr at_)]) (fun u v => [Q6 u 1,⟨.type "dict",none,.dict #[K P (.str t542 (A v 3)) (.str t198 (A v 1)),K P (.str t543 (A v 4)) (.bytes #[112,111,112] (A v 2)),K P (.str t544 (A v 5)) (.bool true),K P (.str t540 (A v 6)) (.int 3 348)] 4,#[]⟩])
theorem tkP_ok (arr : Array UInt8) (at_ : Int) (n : Nat) (hn : at_ = n) (hs : arr.size ≤ 1000) (h0 : arr[n + 0 + 0]? = some 112) (h1 : arr[n + 0 + 1]? = some 111) (h2 : arr[n + 0 + 2]? = some 112) (hb : arr[n + 0 + 3]? = some 32) : Ct w b' (tkP (PB w b') arr at_) :=
 sV 6000 4 (Yh (j326 []) <| Yc [0,1] (sfI112_ok _ _ arr at_ n hn hs h0) <| Yh (j390 []) <| YC [0,1] (wdP (PB w b') arr ((at_ + 1) - 1)) (wdP_ok _ _ arr _ (n + 0) (by omega) hs h0 h1 h2 hb) <| Yh [0] <| Yc [] (rgP_ok _ _) <| Yh (j338 []) <| Yn) [8,9] [20,21,19,22,23,24,25]
section
variable (P : Params) (y : List Obj) (v : List Nat) (i0 : Nat)
noncomputable def Q44 (arr : Array UInt8) (at_ : Int) : Obj := dd P y 1 [t489,t337] [.bytes arr (tT y 1 1),.int ((((at_ + 1) - 1) + 1) + 1) (A v 0)]
end
noncomputable def tk7 (P : Params) (arr : Array UInt8) (at_ : Int) : CF := cf 680 tkS3_sh fun c x y => mkC (.call (.ref 1187) ⟨[.ref (A x 2),.ref (A x 0),.bool false,.ref (cR c 3)],[]⟩) [Q0 x 1,Q3 P y 1 arr at_,Q11 x 3,Q38 P y 3] (2) (7) (fun u v => .ok (.ret (.ref (A u 0)))) (fun u v => [(1,Q44 P y v arr at_)]) (fun u v => [Q6 u 1,Q7 P v 3 1 4 2 5 6])
theorem tk7_ok (arr : Array UInt8) (at_ : Int) (n : Nat) (hn : at_ = n) (hs : arr.size ≤ 1000) (h0 : arr[n + 0 + 0]? = some 55) (hb : arr[n + 0 + 1]? = some 32) : Ct w b' (tk7 (PB w b') arr at_) :=
 sV 6000 4 (Yh (j326 []) <| Yc [0,1] (sfI55_ok _ _ arr at_ n hn hs h0) <| Yh (j390 []) <| YC [0,1] (wd7 (PB w b') arr ((at_ + 1) - 1)) (wd7_ok _ _ arr _ (n + 0) (by omega) hs h0 hb) <| Yh [0] <| Yc [] (rg7_ok _ _) <| Yh (j338 []) <| Yn) [8,9] [20,21,22,23,24,25,26]
noncomputable def tk2 (P : Params) (arr : Array UInt8) (at_ : Int) : CF := cf 680 tkS3_sh fun c x y => mkC (.call (.ref 1187) ⟨[.ref (A x 2),.ref (A x 0),.bool false,.ref (cR c 3)],[]⟩) [Q0 x 1,Q1 P y 1 arr at_,Q11 x 3,Q38 P y 3] (2) (7) (fun u v => .ok (.ret (.ref (A u 0)))) (fun u v => [(1,Q44 P y v arr at_)]) (fun u v => [Q6 u 1,Q9 P v 3 1 4 2 5 6])
theorem tk2_ok (arr : Array UInt8) (at_ : Int) (n : Nat) (hn : at_ = n) (hs : arr.size ≤ 1000) (h0 : arr[n + 0 + 0]? = some 50) (hb : arr[n + 0 + 1]? = some 32) : Ct w b' (tk2 (PB w b') arr at_) :=
 sV 6000 4 (Yh (j326 []) <| Yc [0,1] (sfI50_ok _ _ arr at_ n hn hs h0) <| Yh (j390 []) <| YC [0,1] (wd2 (PB w b') arr ((at_ + 1) - 1)) (wd2_ok _ _ arr _ (n + 0) (by omega) hs h0 hb) <| Yh [0] <| Yc [] (rg2_ok _ _) <| Yh (j338 []) <| Yn) [8,9] [20,21,22,23,24,25,26]
noncomputable def tk1 (P : Params) (arr : Array UInt8) (at_ : Int) : CF := cf 680 tkS3_sh fun c x y => mkC (.call (.ref 1187) ⟨[.ref (A x 2),.ref (A x 0),.bool false,.ref (cR c 3)],[]⟩) [Q0 x 1,Q1 P y 1 arr at_,Q11 x 3,Q38 P y 3] (2) (7) (fun u v => .ok (.ret (.ref (A u 0)))) (fun u v => [(1,dd P y 1 [t489,t337] [.bytes arr (tT y 1 1),.int (((((at_ + 1) + 1) - 1) + 1) + 1) (A v 0)])]) (fun u v => [Q6 u 1,Q8 P v 3 1 4 2 5 6])
theorem tk1_ok (arr : Array UInt8) (at_ : Int) (n : Nat) (hn : at_ = n) (hs : arr.size ≤ 1000) (hx : arr[n]? = some 32) (h0 : arr[n + 1 + 0]? = some 49) (hb : arr[n + 1 + 1]? = some 32) : Ct w b' (tk1 (PB w b') arr at_) :=
 sV 6000 4 (Yh (j326 []) <| Yc [0,1] (sfB49_ok _ _ arr at_ n hn hs hx h0) <| Yh (j390 []) <| YC [0,1] (wd1 (PB w b') arr (((at_ + 1) + 1) - 1)) (wd1_ok _ _ arr _ (n + 1) (by omega) hs h0 hb) <| Yh [0] <| Yc [] (rg1_ok _ _) <| Yh (j338 []) <| Yn) [8,9] [20,21,22,23,24,25,26]
noncomputable def tkE (P : Params) (arr : Array UInt8) (at_ : Int) : CF := cf 680 tkS3_sh fun c x y => mkC (.call (.ref 1187) ⟨[.ref (cR c 0),.ref (A x 0),.bool false,.ref (cR c 3)],[]⟩) [Q0 x 1,Q1 P y 1 arr at_] (0) (0) (fun u v => .ok (.ret (.none))) nN nN
theorem tkE_ok (arr : Array UInt8) (at_ : Int) (n : Nat) (hn : at_ = n) (hs : arr.size ≤ 1000) (hx : arr.size ≤ n) : Ct w b' (tkE (PB w b') arr at_) :=
 sV 6000 2 (Yh (j1 (j50 (j250 []))) <| Yc [0,1] (sfE_ok _ _ arr at_ n hn hs hx) <| Yh (8 :: j6 (9 :: 10 :: j142 [])) <| Yn) [] []
noncomputable def tka (P : Params) (arr : Array UInt8) (at_ : Int) : CF := cf 680 tkS3_sh fun c x y => mkC (.call (.ref 1187) ⟨[.ref (A x 2),.ref (A x 0),.bool false,.ref (cR c 3)],[]⟩) [Q0 x 1,Q1 P y 1 arr at_,Q11 x 3,Q38 P y 3] (2) (7) (fun u v => .ok (.ret (.ref (A u 0)))) (fun u v => [(1,dd P y 1 [t489,t337] [.bytes arr (tT y 1 1),.int ((at_ + 1 + 1 + 1 - 1) + 1 + 1) (A v 0)])]) (fun u v => [Q6 u 1,⟨.type "dict",none,.dict #[K P (.str t542 (A v 3)) (.str t198 (A v 1)),K P (.str t543 (A v 4)) (.bytes #[97] (A v 2)),K P (.str t544 (A v 5)) (.bool false),K P (.str t540 (A v 6)) (.int 3 348)] 4,#[]⟩])
theorem tka_ok (arr : Array UInt8) (at_ : Int) (n : Nat) (hn : at_ = n) (hs : arr.size ≤ 1000) (hx : arr[n]? = some 32) (h0 : arr[n + 1]? = some 47) (h1 : arr[n + 2]? = some 97) (h2 : arr[n + 2 + 1]? = some 32) : Ct w b' (tka (PB w b') arr at_) :=
 sV 6000 4 (Yh (j326 []) <| Yc [0,1] (sfB47_ok _ _ arr at_ n hn hs hx h0) <| Yh (j327 (j150 (5 :: j37 (5 :: j32 (j305 (j51 (j104 []))))))) <| YC [0,1] (nextC (PB w b') arr (at_ + 1 + 1) 97) (nextC_ok _ _ arr _ (n + 2) 97 (by omega) hs h1) <| Yh (13 :: j350 (j93 (j1 (14 :: j321 (0 :: []))))) <| YC [0,1] (wda (PB w b') arr (at_ + 1 + 1 + 1 - 1)) (wda_ok _ _ arr _ (n + 2) (by omega) hs h1 h2) <| Yh (j1 (15 :: j98 (j0 (j3 (j7 (16 :: j374 (18 :: j90 (19 :: j131 (17 :: j146 (j297 (20 :: j282 []))))))))))) <| Yn) [12,11] [26,33,25,40,42,44,46]
variable (w : World) (b' : Bool)
noncomputable def F0_sh (l : List (Code × Pos)) : List (Code × Pos) := [shW (nth' l 0),shF (nth' l 1),shF (nth' l 2),shF (nth' l 3),shF (nth' l 4),shB "claim.caller" (nth' l 5)]
section
variable (P : Params) (y : List Obj) (x : List Nat) (u : List Nat) (v : List Nat) (i0 i1 i2 i3 i4 i5 i6 i7 i8 i9 : Nat)
noncomputable def Q45 : Obj := pinO (A x 0) ⟨.none,none,.fields #[],#[]⟩
noncomputable def Q46 : Obj := ⟨.ref 1751,(some (A x i0)),.plain,#[]⟩
noncomputable def Q47 : Obj := ⟨.type "list",none,.seq #[.ref (A x i0)] (oE y i1),#[]⟩
noncomputable def Q48 : Obj := ⟨.ref 1451,(some (A x 5)),.plain,#[]⟩
noncomputable def Q49 : Obj := dd P y 5 [t491,t554,t555] [.str t554 (tT y 5 1),.ref (A x 8),.none]
noncomputable def Q50 : Obj := ⟨.ref 1312,(some (A x i0)),.plain,#[]⟩
noncomputable def Q51 : Obj := dd P y i0 [t537,t410] [.int 500 926,.ref (A x i1)]
noncomputable def Q52 : Obj := pinO (A x 0) ⟨.none,none,.fields #[.int 962 0,.int 4 0,.ref (A u 0)],#[]⟩
noncomputable def Q53 : Obj := ⟨.type "code",none,.fields #[.str t561 (A v i0),.str t562 (A v i1),.str t166 (A v i2),.int 962 0,.int 1 0,.int 0 0,.int 0 0,.int 19 0,.ref (A u i3),.bool true,.int 181 0,.ref (A u i4),.none,.ref (A u i5),.ref (A u i6),.ref (A u i7),.int (Int.ofNat (A v i8)) 0,.int 962 0,.str t166 (A v i9)],#[]⟩
noncomputable def Q54 : Obj := ⟨.type "tuple",none,.seq #[.str t559 (A v i0)] 0,#[]⟩
noncomputable def Q55 : Obj := ⟨.none,none,.fields #[],#[]⟩
noncomputable def Q56 : Obj := ⟨.type "tuple",none,.seq #[.str t489 (A v i0)] 0,#[]⟩
noncomputable def Q57 : Obj := ⟨.type "tuple",none,.seq #[] 0,#[]⟩
noncomputable def Q58 : Obj := ⟨.none,none,.func (F [137,0] t561 t562 0 [] .none .none .none .none none .none .none 0),#[]⟩
end
noncomputable def F0 (P : Params) (arr : Array UInt8) (at_ end_ u : Int) (l : Array UInt8) : CF := cf 670 F0_sh fun c x y => mkC (.call (.ref 1663) ⟨[.ref (A x 1)],[]⟩) [Q45 x,Q46 x 2,dd P y 2 ks1 [.ref (A x 10),.ref (A x 16),.ref (tR y 2 5),.ref (A x 6),.ref (A x 12),.ref (tR y 2 11),.none,.ref (tR y 2 15),.ref (A x 3),.ref (tR y 2 19),.ref (tR y 2 21),.ref (tR y 2 23),.ref (tR y 2 25),.none,.none,.none,.none,.none,.int 0 (tT y 2 37),.int 1 2007,.bool false,.bool false,.none,.none,.none,.none],Q47 y x 4 3,Q48 x,Q49 P y x,Q11 x 7,Q12 P y x 7 10,Q0 x 9,Q3 P y 9 arr at_,Q13 x 11,Q14 P y x 11 12 14 15 u,Q15 x 13,Q16 P y 13,Q17 y 14,Q18 y 15,Q50 x 17,Q51 P y x 17 18,Q17 y 18] (14) (28) (fun ad v => .ok (.ret (.none))) (fun ad v => [(0,Q52 x ad),(2,dd P y 2 ks1 [.ref (A x 10),.ref (A x 16),.ref (tR y 2 5),.ref (A x 6),.ref (A x 12),.ref (tR y 2 11),.none,.ref (tR y 2 15),.ref (A x 3),.ref (tR y 2 19),.ref (tR y 2 21),.ref (tR y 2 23),.ref (tR y 2 25),.none,.none,.none,.none,.none,.int 1 (A v 0),.int 1 2007,.bool false,.bool false,.none,.none,.none,.none]),(9,Q10 P y v 9 1 arr end_),(11,Q19 P y x v 11 12 14 15 2 3 u l),(15,Q20 y ad v 15 3),(18,⟨.type "list",none,.seq #[.ref (A ad 2)] (oE y 18 + 1),#[]⟩)]) (fun ad v => [Q53 ad v 4 5 6 3 4 5 6 7 7 8,Q21 v 9 10 l,Q6 ad 8,Q54 v 11,Q55,Q56 v 12,Q57,Q58,Q22 P ad v 17 13 18 9 19 20,Q23 ad 10,Q24 P ad v 21 11 22 14 23 15 l,Q25 ad 12,Q26 P ad v 24 3 25 13 26 27 16,Q27 l])
theorem F0_ok (arr : Array UInt8) (at_ end_ u : Int) (l : Array UInt8) (n : Nat) (hn : at_ = n) (hs : arr.size ≤ 1000) (h0 : arr[n]? = some 40) (hl : l.size ≤ 1000) (hu : 0 ≤ u ∧ u ≤ 100000) (hp : Ct w b' (strC0 (PB w b') arr (at_ + 1) end_ #[] l)) : Ct w b' (F0 (PB w b') arr at_ end_ u l) :=
 sW 6000 18 (Yh (j273 (j214 (26 :: j187 (27 :: j186 (27 :: j216 (29 :: j378 (28 :: j85 []))))))) <| Yc [8,9,6,7,10,11,12,13,14,15] (tkS3_ok _ _ arr at_ end_ u l n hn hs h0 hl hu hp) <| Yh (26 :: j188 (46 :: j27 (j92 (40 :: 4 :: j59 (47 :: j122 (22 :: j37 (23 :: 47 :: j1 (48 :: j211 (24 :: j52 (j235 (47 :: j59 (49 :: j65 [])))))))))))) <| Yn) [30,33,32,25,26,27,28,29,34,35,36,37,38,39] [3,27,28,29,19,20,21,24,25,30,31,22,23,32,33,34,35,36,37,38,39,40,41,42,43,44,45,46]
section
variable (y : List Obj) (x : List Nat) (u : List Nat) (i0 : Nat)
noncomputable def Q59 : Obj := pinO (A x 0) ⟨.none,none,.fields #[.int 962 0,.int 4 0,.ref (tR y 0 2)],#[]⟩
noncomputable def Q60 : Obj := ⟨.type "list",none,.seq #[.ref (tR y 18 0)] (oE y 18),#[]⟩
noncomputable def Q61 : Obj := ⟨.type "list",none,.seq #[.ref (tR y 18 0),.ref (A u 1)] (oE y 18 + 1),#[]⟩
end
noncomputable def F1 (P : Params) (arr : Array UInt8) (at_ end_ u : Int) (l : Array UInt8) : CF := cf 670 F0_sh fun c x y => mkC (.call (.ref 1663) ⟨[.ref (A x 1)],[]⟩) [Q59 y x,Q46 x 2,dd P y 2 ks1 [.ref (A x 10),.ref (A x 16),.ref (tR y 2 5),.ref (A x 6),.ref (A x 12),.ref (tR y 2 11),.none,.ref (tR y 2 15),.ref (A x 3),.ref (tR y 2 19),.ref (tR y 2 21),.ref (tR y 2 23),.ref (tR y 2 25),.none,.none,.none,.none,.none,.int 1 (tT y 2 37),.int 1 2007,.bool false,.bool false,.none,.none,.none,.none],Q47 y x 4 3,Q48 x,Q49 P y x,Q11 x 7,Q12 P y x 7 10,Q0 x 9,Q1 P y 9 arr at_,Q13 x 11,Q28 P y x 11 12 14 15 u,Q15 x 13,Q16 P y 13,Q17 y 14,Q29 y 15,Q50 x 17,Q51 P y x 17 18,Q60 y] (8) (21) (fun ad v => .ok (.ret (.none))) (fun ad v => [(2,dd P y 2 ks1 [.ref (A x 10),.ref (A x 16),.ref (tR y 2 5),.ref (A x 6),.ref (A x 12),.ref (tR y 2 11),.none,.ref (tR y 2 15),.ref (A x 3),.ref (tR y 2 19),.ref (tR y 2 21),.ref (tR y 2 23),.ref (tR y 2 25),.none,.none,.none,.none,.none,.int 2 (A v 0),.int 1 2007,.bool false,.bool false,.none,.none,.none,.none]),(9,Q10 P y v 9 1 arr end_),(11,Q30 P y x v 11 12 14 15 2 3 u l),(15,Q31 y ad v 15 3 0),(18,Q61 y ad)]) (fun ad v => [Q21 v 4 5 l,Q6 ad 2,Q22 P ad v 10 6 11 3 12 13,Q23 ad 4,Q24 P ad v 14 5 15 7 16 8 l,Q25 ad 6,Q32 P ad v 17 3 18 7 19 20 9,Q27 l])
theorem F1_ok (arr : Array UInt8) (at_ end_ u : Int) (l : Array UInt8) (n : Nat) (hn : at_ = n) (hs : arr.size ≤ 1000) (hx : arr[n]? = some 32) (h0 : arr[n + 1]? = some 40) (hl : l.size ≤ 1000) (hu : 0 ≤ u ∧ u ≤ 100000) (hp : Ct w b' (strC0 (PB w b') arr (at_ + 1 + 1) end_ #[] l)) : Ct w b' (F1 (PB w b') arr at_ end_ u l) :=
 sW 6000 18 (Yh (j273 (j214 (26 :: j187 (27 :: j186 (27 :: j216 (29 :: j151 (28 :: j85 []))))))) <| Yc [8,9,6,7,10,11,12,13,14,15] (tkS4_ok _ _ arr at_ end_ u l n hn hs hx h0 hl hu hp) <| Yh (26 :: j188 (40 :: j27 (32 :: j8 (34 :: 4 :: j59 (41 :: j122 (22 :: j37 (23 :: 41 :: j1 (42 :: j211 (24 :: j52 (j235 (41 :: j59 (43 :: j65 [])))))))))))) <| Yn) [27,26,28,29,30,31,32,33] [3,20,21,22,23,24,25,26,27,28,29,30,31,32,33,34,35,36,37,38,39]
section
variable (y : List Obj) (i0 : Nat)
noncomputable def Q62 : Obj := ⟨.type "list",none,.seq #[] (oE y 3 + 1),#[]⟩
end
noncomputable def F3 (P : Params) (arr : Array UInt8) (at_ : Int) : CF := cf 670 F0_sh fun c x y => mkC (.call (.ref 1663) ⟨[.ref (A x 1)],[]⟩) [Q59 y x,Q46 x 2,dd P y 2 ks1 [.ref (tR y 2 1),.ref (tR y 2 3),.ref (tR y 2 5),.ref (A x 6),.ref (tR y 2 9),.ref (tR y 2 11),.none,.ref (tR y 2 15),.ref (A x 3),.ref (tR y 2 19),.ref (tR y 2 21),.ref (tR y 2 23),.ref (tR y 2 25),.none,.none,.none,.none,.none,.int 3 (tT y 2 37),.int 1 2007,.bool false,.bool false,.none,.none,.none,.ref (tR y 2 51)],Q47 y x 4 3,Q48 x,Q49 P y x,Q11 x 7,Q38 P y 7,Q0 x 9,Q1 P y 9 arr at_] (0) (1) (fun u v => .ok (.ret (.none))) (fun u v => [(2,dd P y 2 ks1 [.ref (tR y 2 1),.ref (tR y 2 3),.ref (tR y 2 5),.ref (A x 6),.ref (tR y 2 9),.ref (tR y 2 11),.none,.ref (tR y 2 15),.ref (A x 3),.ref (tR y 2 19),.ref (tR y 2 21),.ref (tR y 2 23),.ref (tR y 2 25),.none,.none,.none,.none,.none,.int 4 (A v 0),.int 1 2007,.bool false,.bool false,.none,.none,.none,.none]),(3,Q62 y)]) nN
theorem F3_ok (arr : Array UInt8) (at_ : Int) (n : Nat) (hn : at_ = n) (hs : arr.size ≤ 1000) (hx : arr.size ≤ n) : Ct w b' (F3 (PB w b') arr at_) :=
 sW 6000 9 (Yh (j0 (16 :: j214 (17 :: j187 (18 :: j186 (18 :: j216 (20 :: j151 (19 :: j85 []))))))) <| Yc [8,9] (tkE_ok _ _ arr at_ n hn hs hx) <| Yh (17 :: j188 (23 :: j434 (j36 (j236 (24 :: j233 (25 :: j233 (23 :: j3 (j60 (4 :: 9 :: j42 []))))))))) <| Yc [4] (eqII_ok _ _) <| Yh (23 :: j101 (j133 (j12 (17 :: j165 [])))) <| Yn) [] [3]
variable (w : World) (b' : Bool)
section
variable (x : List Nat) (i0 : Nat)
noncomputable def Q63 : Obj := ⟨.ref 239,(some (A x i0)),.plain,#[]⟩
noncomputable def Q64 : Obj := ⟨.ref 164,(some (A x i0)),.plain,#[]⟩
end
noncomputable def ooS (P : Params) (b : Array UInt8) (st mn : Int) (o : Array UInt8) : CF := cf 740 (fun b => b) fun c x y => mkC (.call (.ref 415) ⟨[.ref (A x 0)],[]⟩) [Q63 x 1,dd P y 1 ks2 [.ref (A x 2),.int st (tT y 1 3),.int mn (tT y 1 5)],Q64 x 3,dd P y 3 ks3 [tV y 3 1,.ref (A x 4),tV y 3 5,tV y 3 7],⟨.type "bytearray",none,.bytearray b 0,#[]⟩] (0) (1) (fun u v => .ok (.ret (.bytes o (A v 0)))) nN nN
theorem ooS_ok (b : Array UInt8) (st mn : Int) (o : Array UInt8) (hb : b.size ≤ 1000) (ho : KBy.picked b (some st) (some (st + mn)) = o) (hc : o.size ≤ 1000) : Ct w b' (ooS (PB w b') b st mn o) := by
 subst ho
 exact sV 6000 5 (Yh (j0 (11 :: j113 (j138 (j209 (11 :: j138 (j35 (j35 (j199 [])))))))) <| Yd [4,6] (slBC_ok _ _ b st (st + mn) hb) <| YL 1 [7] (bytesOfC (KBy.picked b (some st) (some (st + mn)))) (bytesOfC_ok _ _ _ hc) <| Yn) [] [7]
section
variable (P : Params) (y : List Obj) (x : List Nat) (u : List Nat) (v : List Nat) (i0 i1 i2 i3 i4 i5 : Nat)
noncomputable def Q65 : Obj := ⟨.ref 143,(some (A x i0)),.plain,#[]⟩
noncomputable def Q66 : Obj := dd P y i0 ks4 [.str t399 (tT y i0 1),.ref (A x i1),.bool false,.int 3 348]
noncomputable def Q67 : Obj := ⟨.type "dict",none,.dict #[K P (.str t542 (A v i0)) (.str t399 (tT y i1 1)),K P (.str t543 (A v i2)) (.ref (A u i3)),K P (.str t544 (A v i4)) (.bool false),K P (.str t540 (A v i5)) (.int 3 348)] 4,#[]⟩
end
noncomputable def stP (P : Params) (st mn a e : Int) : CF := cf 740 (fun b => b) fun c x y => mkC (.call (.ref 1774) ⟨[.ref (A x 0),.int a (cT c 1),.int e (cT c 2)],[]⟩) [Q65 x 1,Q66 P y x 1 2,Q63 x 3,dd P y 3 ks2 [.ref (tR y 3 1),.int st (tT y 3 3),.int mn (tT y 3 5)]] (4) (8) (fun u v => .ok (.ret (.ref (A u 0)))) nN (fun u v => [Q6 u 1,Q67 P y u v 1 1 2 2 3 4,Q23 u 3,⟨.type "dict",none,.dict #[K P (.str t541 (A v 5)) (.ref (tR y 3 1)),K P (.str t566 (A v 6)) (.int (st + a) (A v 0)),K P (.str t335 (A v 7)) (.int e (cT c 2))] 3,#[]⟩])
theorem stP_ok (st mn a e : Int) (ha : 0 ≤ a) (hc : 0 ≤ e) (hm : a + e ≤ mn) : Ct w b' (stP (PB w b') st mn a e) :=
 sV 6000 4 (Yh (j0 (10 :: j68 (j18 (j138 (j32 (j1 (11 :: j68 (0 :: j6 (j1 (12 :: j51 [])))))))))) <| Yv 0 (bX (a < 0)) (bF false) (bN (by omega)) <| Yh [12] <| Yv 0 (bX (e < 0)) (bF false) (bN (by omega)) <| Yh (j385 (j209 [])) <| Yv 1 (bX (a + e > mn)) (bF false) (bN (by omega)) <| Yh (0 :: 11 :: j209 (j35 (j32 (j84 (14 :: j212 (15 :: j3 (j107 (13 :: j125 (j384 (j49 (j38 (j138 (j304 (j35 (j84 (18 :: j90 (19 :: j131 (17 :: j146 [])))))))))))))))))) <| Yn) [12,11,8,7] [16,38,40,42,44,22,24,26]
section
variable (P : Params) (y : List Obj) (x : List Nat) (i0 i1 i2 : Nat)
noncomputable def Q68 : Obj := dd P y 1 ks1 [.ref (tR y 1 1),.ref (A x 2),.ref (tR y 1 5),.ref (tR y 1 7),.ref (tR y 1 9),.ref (tR y 1 11),.none,.ref (tR y 1 15),.ref (tR y 1 17),.ref (tR y 1 19),.ref (tR y 1 21),.ref (tR y 1 23),.ref (tR y 1 25),.none,.none,.none,.none,.none,tV y 1 37,.int 1 2007,.bool false,.bool false,.none,.none,.none,.ref (tR y 1 51)]
noncomputable def Q69 : Obj := ⟨.type "list",none,.seq #[.ref (A x i0),.ref (A x i1)] (oE y i2),#[]⟩
noncomputable def Q70 (st1 : Int) (mn1 : Int) : Obj := dd P y i0 ks2 [.ref (A x i1),.int st1 (tT y i0 3),.int mn1 (tT y i0 5)]
noncomputable def Q71 : Obj := dd P y i0 ks3 [tV y i0 1,.ref (A x i1),.bool false,.int 0 (tT y i0 7)]
noncomputable def Q72 (b1 : Array UInt8) : Obj := ⟨.type "bytearray",none,.bytearray b1 0,#[]⟩
noncomputable def Q73 (st2 : Int) (mn2 : Int) : Obj := dd P y i0 ks2 [.ref (A x i1),.int st2 (tT y i0 3),.int mn2 (tT y i0 5)]
noncomputable def Q74 (b2 : Array UInt8) : Obj := ⟨.type "bytearray",none,.bytearray b2 0,#[]⟩
end
noncomputable def twS (P : Params) (b1 : Array UInt8) (st1 mn1 : Int) (o b2 : Array UInt8) (st2 mn2 : Int) (s : Array UInt8) : CF := cf 730 (fun b => b) fun c x y => mkC (.call (.ref 1789) ⟨[.ref (A x 0)],[]⟩) [Q46 x 1,Q68 P y x,Q50 x 3,Q51 P y x 3 4,Q69 y x 7 5 4,Q65 x 6,Q66 P y x 6 14,Q65 x 8,Q66 P y x 8 9,Q63 x 10,Q70 P y x 10 11 st1 mn1,Q64 x 12,Q71 P y x 12 13,Q72 b1,Q63 x 15,Q73 P y x 15 16 st2 mn2,Q64 x 17,Q71 P y x 17 18,Q74 b2] (1) (2) (fun u v => .ok (.ret (.ref (A u 0)))) nN (fun u v => [⟨.type "tuple",none,.seq #[.ref (A x 7),.bytes o (A v 0),.bytes s (A v 1)] 0,#[]⟩])
theorem twS_ok (b1 : Array UInt8) (st1 mn1 : Int) (o b2 : Array UInt8) (st2 mn2 : Int) (s : Array UInt8) (hb1 : b1.size ≤ 1000) (ho : KBy.picked b1 (some st1) (some (st1 + mn1)) = o) (hco : o.size ≤ 1000) (hb2 : b2.size ≤ 1000) (hs : KBy.picked b2 (some st2) (some (st2 + mn2)) = s) (hcs : s.size ≤ 1000) : Ct w b' (twS (PB w b') b1 st1 mn1 o b2 st2 mn2 s) :=
 sV 6000 19 (Yh (j273 (j76 (26 :: j27 (6 :: j315 (8 :: j383 (27 :: j255 (j201 (j177 (26 :: 25 :: j413 (28 :: j296 (j445 (j295 (25 :: j413 (29 :: j296 (j445 (j295 (30 :: j6 (31 :: j58 (33 :: 25 :: j12 (j178 (4 :: j200 (j79 (34 :: j76 (35 :: j76 (36 :: j46 (j375 (j273 (j1 (37 :: j76 (38 :: j76 (39 :: j46 (j200 (j35 (0 :: 25 :: j38 (j25 (0 :: [])))))))))))))))))))))))))))))))))))) <| Yc [9,10,11,12,13] (ooS_ok _ _ b1 st1 mn1 o hb1 ho hco) <| Yh (0 :: 25 :: j178 (0 :: [])) <| Yc [14,15,16,17,18] (ooS_ok _ _ b2 st2 mn2 s hb2 hs hcs) <| Yn) [34] [59,61]
noncomputable def foCode (fp : List Nat) (i : Nat) (it loc : Nat) (qual : Str) (fn code : Nat) (cells : List (Str × Nat)) : Code := match fnAt fp prog.main.body with
 | some (.FunctionDef _ _ body _ _ _ scope _ _ _) => match body[i]? with
  | some (.For t _ b e _) => .forLoop t (.ref it) b e ⟨scope,loc,3,cells,qual,some fn,.ref code,some loc,0⟩
  | _ => default
 | _ => default
noncomputable def plFr (P : Params) (o s : Array UInt8) (k0 k1 k2 k3 t0 t1 t2 t3 : Nat) (b y : Int) : Obj :=
  ⟨.type "frame",none,.dict #[K P (.str t489 k0) (.bytes o t0),K P (.str t490 k1) (.bytes s t1),K P (.str t340 k2) (.int b t2),K P (.str t397 k3) (.int y t3)] 4,#[]⟩
noncomputable def plFr0 (P : Params) (o s : Array UInt8) (k0 k1 k2 t0 t1 t2 : Nat) (b : Int) : Obj :=
  ⟨.type "frame",none,.dict #[K P (.str t489 k0) (.bytes o t0),K P (.str t490 k1) (.bytes s t1),K P (.str t340 k2) (.int b t2)] 3,#[]⟩
noncomputable def cut (o s : Array UInt8) (i : Int) : Array UInt8 := KBy.picked o (some i) (some (i + s.size))
noncomputable def plRes (r : Option Int) (t : Nat) : Result := match r with | some j => .ok (.ret (.int j t)) | none => .ok .next
noncomputable def plC (P : Params) (o s : Array UInt8) (i left y : Int) (r : Option Int) (v' l' y' : Int) : CF := ⟨800,8000,true,false,(fun b => b),none,fun c x os => mkC (foCode [146] 0 (A x 0) (A x 1) (⟨#[115,116,114,105,110,103,95,112,108,97,99,101,46,60,108,111,99,97,108,115,62,46]⟩) 1782 1781 []) [itO i left,plFr P o s (kT os 1 0) (kT os 1 1) (kT os 1 2) (kT os 1 3) (vT os 1 0) (vT os 1 1) (vT os 1 2) (vT os 1 3) (intOf (vE os 1 2)) y] (0) (1) (fun _ v => plRes r (A v 0)) (fun _ v => [(0,itO v' l'),(1,plFr P o s (kT os 1 0) (kT os 1 1) (kT os 1 2) (kT os 1 3) (vT os 1 0) (vT os 1 1) (vT os 1 2) (A v 0) (intOf (vE os 1 2)) y')]) (fun _ _ => [])⟩
theorem plC_end (w : World) (b' : Bool) (o s : Array UInt8) (i y : Int) : Ct w b' (plC (PB w b') o s i ((0 : Nat) : Int) y none i ((0 : Nat) : Int) y) := fun bl c as os _ _ _ _ => by
 refine sf 600 2 (Yh (j124 (9 :: [])) <| Yn) [] (fun _ => [vT os 1 3]) rfl rfl (fun _ => rfl) (List.nodup_nil) rfl ?_
 intro ad tk Γ p hA hc hbl hcalm
 subst hA
 obtain ⟨code,h,ow,blw,past⟩ := Γ
 cases hc
 cases hcalm rfl
 kernel_rfl
theorem plC_hit (w : World) (b' : Bool) (o s : Array UInt8) (i y : Int) (k : Nat) (ho : o.size ≤ 1000) (hs : s.size ≤ 1000) (he : ((cut o s i).toList == s.toList) = true) : Ct w b' (plC (PB w b') o s i ((k + 1 : Nat) : Int) y (some i) (i + 1) (((k + 1 : Nat) : Int) - 1) i) :=
 sV 600 2 (Yh (j341 []) <| Yd [] (lenC_ok _ _ s hs) <| YL 1 [2] (slC o (some i) (some (i + s.size))) (slC_ok _ _ o _ _ ho) <| Yh [7] <| YD [] (eqC (cut o s i) s true) (eqC_ok _ _ _ _ _ he) <| Yh [7] <| Yn) [] [0]
theorem plC_step (w : World) (b' : Bool) (o s : Array UInt8) (i y : Int) (k : Nat) (r : Option Int) (v' l' y' : Int) (ho : o.size ≤ 1000) (hs : s.size ≤ 1000) (he : ((cut o s i).toList == s.toList) = false)
  (ih : Ct w b' (plC (PB w b') o s (i + 1) (((k + 1 : Nat) : Int) - 1) i r v' l' y')) : Ct w b' (plC (PB w b') o s i ((k + 1 : Nat) : Int) y r v' l' y') :=
 sV 600 2 (Yh (j341 []) <| Yd [] (lenC_ok _ _ s hs) <| YL 1 [2] (slC o (some i) (some (i + s.size))) (slC_ok _ _ o _ _ ho) <| Yh [7] <| YD [] (eqC (cut o s i) s false) (eqC_ok _ _ _ _ _ he) <| Yd [0,1] ih <| Yn) [] [5] (h := fun _ => by cases r <;> kernel_rfl)
section
variable (P : Params) (y : List Obj) (i0 : Nat)
noncomputable def Q75 (o : Array UInt8) (s : Array UInt8) : Obj := plFr0 P o s (kT y 1 0) (kT y 1 1) (kT y 1 2) (vT y 1 0) (vT y 1 1) (vT y 1 2) (intOf (vE y 1 2))
end
noncomputable def plC0 (P : Params) (o s : Array UInt8) (i left : Int) (r : Option Int) (v' l' y' : Int) : CF := ⟨800,8000,true,false,(fun b => b),none,fun c x y => mkC (foCode [146] 0 (A x 0) (A x 1) (⟨#[115,116,114,105,110,103,95,112,108,97,99,101,46,60,108,111,99,97,108,115,62,46]⟩) 1782 1781 []) [itO i left,Q75 P y o s] (0) (2) (fun _ v => plRes r (A v 0)) (fun _ v => [(0,itO v' l'),(1,plFr P o s (kT y 1 0) (kT y 1 1) (kT y 1 2) (A v 1) (vT y 1 0) (vT y 1 1) (vT y 1 2) (A v 0) (intOf (vE y 1 2)) y')]) (fun _ _ => [])⟩
noncomputable def plCe (P : Params) (o s : Array UInt8) (i : Int) : CF := ⟨800,8000,true,false,(fun b => b),none,fun c x y => mkC (foCode [146] 0 (A x 0) (A x 1) (⟨#[115,116,114,105,110,103,95,112,108,97,99,101,46,60,108,111,99,97,108,115,62,46]⟩) 1782 1781 []) [itO i ((0 : Nat) : Int),Q75 P y o s] (0) (0) (fun _ v => .ok .next) (fun _ v => []) (fun _ _ => [])⟩
theorem plCe_ok (w : World) (b' : Bool) (o s : Array UInt8) (i : Int) : Ct w b' (plCe (PB w b') o s i) :=
 sV 600 2 (Yh (j124 (9 :: [])) <| Yn) [] []
theorem plC0_hit (w : World) (b' : Bool) (o s : Array UInt8) (i : Int) (k : Nat) (ho : o.size ≤ 1000) (hs : s.size ≤ 1000) (he : ((cut o s i).toList == s.toList) = true) : Ct w b' (plC0 (PB w b') o s i ((k + 1 : Nat) : Int) (some i) (i + 1) (((k + 1 : Nat) : Int) - 1) i) :=
 sV 600 2 (Yh (j341 []) <| Yd [] (lenC_ok _ _ s hs) <| YL 1 [2] (slC o (some i) (some (i + s.size))) (slC_ok _ _ o _ _ ho) <| Yh [7] <| YD [] (eqC (cut o s i) s true) (eqC_ok _ _ _ _ _ he) <| Yh [7] <| Yn) [] [0,1]
theorem plC0_step (w : World) (b' : Bool) (o s : Array UInt8) (i : Int) (k : Nat) (r : Option Int) (v' l' y' : Int) (ho : o.size ≤ 1000) (hs : s.size ≤ 1000) (he : ((cut o s i).toList == s.toList) = false)
  (ih : Ct w b' (plC (PB w b') o s (i + 1) (((k + 1 : Nat) : Int) - 1) i r v' l' y')) : Ct w b' (plC0 (PB w b') o s i ((k + 1 : Nat) : Int) r v' l' y') :=
 sV 600 2 (Yh (j341 []) <| Yd [] (lenC_ok _ _ s hs) <| YL 1 [2] (slC o (some i) (some (i + s.size))) (slC_ok _ _ o _ _ ho) <| Yh [7] <| YD [] (eqC (cut o s i) s false) (eqC_ok _ _ _ _ _ he) <| Yd [0,1] ih <| Yn) [] [5,1] (h := fun _ => by cases r <;> kernel_rfl)
noncomputable def spC (o s : Array UInt8) (r : Option Int) : CF := ⟨780,7800,true,false,(fun b => b),none,fun c _ _ =>
 { code := .call (.ref 1782) ⟨[.bytes o (tokV (argOf c 0)),.bytes s (tokV (argOf c 1))],[]⟩
   own := [],nn := 0,nt := 1
   res := fun _ tk => match r with | some j => .ok (.ret (.int j (A tk 0))) | none => .ok (.ret .none)
   upd := fun _ _ => []
   new := fun _ _ => [] }⟩
theorem spC_hit (w : World) (b' : Bool) (o s : Array UInt8) (left j v' l' y' : Int) (ho : o.size ≤ 1000) (hs : s.size ≤ 1000) (hl : (if (0 : Int) < (o.size : Int) - s.size + 1 then (o.size : Int) - s.size + 1 - 0 else 0) = left)
  (hp : Ct w b' (plC0 (PB w b') o s 0 left (some j) v' l' y')) : Ct w b' (spC o s (some j)) :=
 sV 600 0 (Yh (j1 (6 :: j337 [])) <| Yd [] (lenC_ok _ _ o ho) <| Yh (j156 []) <| Yd [] (lenC_ok _ _ s hs) <| Yh (j442 []) <| YD [1] (rgC 0 ((o.size : Int) - s.size + 1) left) (rgC_ok _ _ _ _ _ (by omega) (by omega) hl) <| Yh [8] <| Yc [2,0] hp <| Yn) [] [9]
theorem spC_miss (w : World) (b' : Bool) (o s : Array UInt8) (left v' l' y' : Int) (ho : o.size ≤ 1000) (hs : s.size ≤ 1000) (hl : (if (0 : Int) < (o.size : Int) - s.size + 1 then (o.size : Int) - s.size + 1 - 0 else 0) = left)
  (hp : Ct w b' (plC0 (PB w b') o s 0 left none v' l' y')) : Ct w b' (spC o s none) :=
 sV 600 0 (Yh (j1 (6 :: j337 [])) <| Yd [] (lenC_ok _ _ o ho) <| Yh (j156 []) <| Yd [] (lenC_ok _ _ s hs) <| Yh (j442 []) <| YD [1] (rgC 0 ((o.size : Int) - s.size + 1) left) (rgC_ok _ _ _ _ _ (by omega) (by omega) hl) <| Yh [8] <| Yc [2,0] hp <| Yn) [] [0]
theorem spC_short (w : World) (b' : Bool) (o s : Array UInt8) (ho : o.size ≤ 1000) (hs : s.size ≤ 1000) (hl : (if (0 : Int) < (o.size : Int) - s.size + 1 then (o.size : Int) - s.size + 1 - 0 else 0) = ((0 : Nat) : Int)) : Ct w b' (spC o s none) :=
 sV 600 0 (Yh (j1 (6 :: j337 [])) <| Yd [] (lenC_ok _ _ o ho) <| Yh (j156 []) <| Yd [] (lenC_ok _ _ s hs) <| Yh (j442 []) <| YD [1] (rgC 0 ((o.size : Int) - s.size + 1) ((0 : Nat) : Int)) (rgC_ok _ _ _ _ _ (by omega) (by omega) hl) <| Yh [8] <| Yc [2,0] (plCe_ok _ _ o s 0) <| Yn) [] [0]
noncomputable def plF (o s : Array UInt8) : Nat → Nat → Option Nat
 | 0,_ => none
 | k + 1,i => if ((cut o s i).toList == s.toList) = true then some i else plF o s k (i + 1)
noncomputable def castO (r : Option Nat) : Option Int := match r with | some j => some (j : Int) | none => none
theorem plC_all (w : World) (b' : Bool) (o s : Array UInt8) (ho : o.size ≤ 1000) (hs : s.size ≤ 1000) : ∀ (k i : Nat) (y : Int),∃ v' l' y',Ct w b' (plC (PB w b') o s i (k : Nat) y (castO (plF o s k i)) v' l' y')
 | 0,i,y => ⟨_,_,_,plC_end w b' o s i y⟩
 | k + 1,i,y => by
  unfold plF
  cases he : ((cut o s i).toList == s.toList) with
  | true =>
   rw [if_pos rfl]
   exact ⟨_,_,_,plC_hit w b' o s i y k ho hs he⟩
  | false =>
   rw [if_neg Bool.false_ne_true]
   obtain ⟨v',l',y',z⟩ := plC_all w b' o s ho hs k (i + 1) i
   refine ⟨v',l',y',plC_step w b' o s i y k _ v' l' y' ho hs he ?_⟩
   have e : ((k + 1 : Nat) : Int) - 1 = (k : Nat) := by omega
   rw [e]
   exact z
theorem spC_all (w : World) (b' : Bool) (o s : Array UInt8) (ho : o.size ≤ 1000) (hs : s.size ≤ 1000) : Ct w b' (spC o s (castO (plF o s (o.size + 1 - s.size) 0))) := by
 cases hk : o.size + 1 - s.size with
 | zero => exact spC_short w b' o s ho hs (by rw [if_neg (by omega)]; rfl)
 | succ k =>
  have hl : (if (0 : Int) < (o.size : Int) - s.size + 1 then (o.size : Int) - s.size + 1 - 0 else 0) = ((k + 1 : Nat) : Int) := by rw [if_pos (by omega)]; omega
  unfold plF
  cases he : ((cut o s (0 : Nat)).toList == s.toList) with
  | true =>
   rw [if_pos rfl]
   exact spC_hit w b' o s _ _ _ _ _ ho hs hl (plC0_hit w b' o s 0 k ho hs he)
  | false =>
   rw [if_neg Bool.false_ne_true]
   obtain ⟨v',l',y',z⟩ := plC_all w b' o s ho hs k 1 0
   have e : ((k + 1 : Nat) : Int) - 1 = (k : Nat) := by omega
   have q := plC0_step w b' o s 0 k _ v' l' y' ho hs he (by rw [e]; exact z)
   show Ctr _ _ (spC o s (castO (plF o s k 1)))
   cases hr : plF o s k 1 with
   | none => rw [hr] at q; exact spC_miss w b' o s _ _ _ _ ho hs hl q
   | some j => rw [hr] at q; exact spC_hit w b' o s _ _ _ _ _ ho hs hl q
noncomputable def vsL (os : List Obj) (j k : Nat) : Array Value := ((List.range k).map (tV os j)).toArray
noncomputable def extC (k : Nat) : CF := ⟨990,9800,false,false,(fun b => b),none,fun c as os =>
  ⟨.builtin "list.extend" ⟨[.ref (A as 0),.ref (A as 1)],[]⟩,[liO #[] (oE os 0),liO (vsL os 1 k) (oE os 1)],0,0,fun _ tk => .ok (.ret .none),fun _ _ => [liO (vsL os 1 k) (oE os 0 + 1),liO (vsL os 1 k) (oE os 1)],fun _ _ => []⟩⟩
theorem vsL_size (os : List Obj) (j k : Nat) : (vsL os j k).size = k := by unfold vsL; simp
theorem extC_ok (w : World) (kt : KT) (k : Nat) (hk : 0 < k ∧ k ≤ 100) : Ctr (model prog w) kt (extC k) := fun bl c as os _ _ _ _ =>
 ctr_any fun R s hd hu hh hg hst hown hnd => by
  obtain ⟨a,b,rfl,ha,hb⟩ := two_own hown
  have hz := vsL_size os 1 k
  refine codeAny_builtin PySem.F.entry_list_extend ?_
  rw [Around.under_plainId (by decide +kernel)]
  have hab : a ≠ b := by
    have := hnd
    intro e
    subst e
    simp at this
  have hl : sizeLine ≥ 1000 := by decide
  have g := AutoSeq1.list_extend_list_list_0 a #[] (oE os 0) b (vsL os 1 k) (oE os 1) (by simp) (by simp) (by rw [hz,Array.size_empty]; omega)
  refine g _ _ _ _ _ ⟨ha,hb,?_⟩
  refine ⟨[],[],rfl,rfl,List.nodup_nil,fun _ h => (nomatch h),rfl,⟨?_,?_,trivial⟩,trivial,?_⟩
  · have z : (s.heap.update a (Obj.mapSeq fun x => x ++ vsL os 1 k)).get? a = some (Obj.mapSeq (fun x => x ++ vsL os 1 k) (liO #[] (oE os 0))) := Heap.get?_update_self _ ha rfl
    refine z.trans (congrArg some ?_)
    show (⟨.type "list",none,.seq (#[] ++ vsL os 1 k) (if ((#[] ++ vsL os 1 k : Array Value).size == (#[] : Array Value).size) = true then oE os 0 else oE os 0 + 1),#[]⟩ : Obj) = _
    have h2 : ((#[] ++ vsL os 1 k : Array Value).size == (#[] : Array Value).size) = false := by
     rw [Array.empty_append,hz]
     simp
     omega
    rw [h2]
    show (⟨.type "list",none,.seq (#[] ++ vsL os 1 k) (oE os 0 + 1),#[]⟩ : Obj) = _
    rw [Array.empty_append]
    rfl
  · exact (Heap.get?_update_other _ _ hab).trans hb
  · have := Kept.upd s a (Obj.mapSeq fun x => x ++ vsL os 1 k) s.toks
    exact ⟨fun y o e hy => this.keep y o e (fun h => hy (by rw [List.mem_singleton.mp h]; exact List.mem_cons_self ..)),this.size,this.gens,this.os⟩
noncomputable def iaC (k : Nat) : CF := ⟨990,9800,false,false,(fun b => b),none,fun c as os =>
  ⟨.builtin "list.__iadd__" ⟨[.ref (A as 0),.ref (A as 1)],[]⟩,[liO #[] (oE os 0),liO (vsL os 1 k) (oE os 1)],0,0,fun _ tk => .ok (.ret (.ref (A as 0))),fun _ _ => [liO (vsL os 1 k) (oE os 0 + 1),liO (vsL os 1 k) (oE os 1)],fun _ _ => []⟩⟩
theorem iaC_ok (w : World) (kt : KT) (k : Nat) (hk : 0 < k ∧ k ≤ 100) : Ctr (model prog w) kt (iaC k) := fun bl c as os _ _ _ _ =>
 ctr_any fun R s hd hu hh hg hst hown hnd => by
  obtain ⟨a,b,rfl,ha,hb⟩ := two_own hown
  have hz := vsL_size os 1 k
  refine codeAny_builtin PySem.F.entry_list_iadd ?_
  rw [Around.under_plainId (by decide +kernel)]
  have hab : a ≠ b := by
    have := hnd
    intro e
    subst e
    simp at this
  have hl : sizeLine ≥ 1000 := by decide
  have g := AutoSeq1.list___iadd___list_list_0 a #[] (oE os 0) b (vsL os 1 k) (oE os 1) (by simp) (by simp) (by rw [hz,Array.size_empty]; omega)
  refine g _ _ _ _ _ ⟨ha,hb,?_⟩
  refine ⟨[],[],rfl,rfl,List.nodup_nil,fun _ h => (nomatch h),rfl,⟨?_,?_,trivial⟩,trivial,?_⟩
  · have z : (s.heap.update a (Obj.mapSeq fun x => x ++ vsL os 1 k)).get? a = some (Obj.mapSeq (fun x => x ++ vsL os 1 k) (liO #[] (oE os 0))) := Heap.get?_update_self _ ha rfl
    refine z.trans (congrArg some ?_)
    show (⟨.type "list",none,.seq (#[] ++ vsL os 1 k) (if ((#[] ++ vsL os 1 k : Array Value).size == (#[] : Array Value).size) = true then oE os 0 else oE os 0 + 1),#[]⟩ : Obj) = _
    have h2 : ((#[] ++ vsL os 1 k : Array Value).size == (#[] : Array Value).size) = false := by
     rw [Array.empty_append,hz]
     simp
     omega
    rw [h2]
    show (⟨.type "list",none,.seq (#[] ++ vsL os 1 k) (oE os 0 + 1),#[]⟩ : Obj) = _
    rw [Array.empty_append]
    rfl
  · exact (Heap.get?_update_other _ _ hab).trans hb
  · have := Kept.upd s a (Obj.mapSeq fun x => x ++ vsL os 1 k) s.toks
    exact ⟨fun y o e hy => this.keep y o e (fun h => hy (by rw [List.mem_singleton.mp h]; exact List.mem_cons_self ..)),this.size,this.gens,this.os⟩
noncomputable def spN (o s : Array UInt8) : CF := ⟨780,7800,true,false,(fun b => b),none,fun c _ _ =>
 { code := .call (.ref 1782) ⟨[.bytes o (tokV (argOf c 0)),.bytes s (tokV (argOf c 1))],[]⟩
   own := [],nn := 0,nt := 0
   res := fun _ tk => .ok (.ret .none)
   upd := fun _ _ => []
   new := fun _ _ => [] }⟩
theorem spN_of {M : Model} {kt : KT} {o s : Array UInt8} (h : Ctr M kt (spC o s none)) : Ctr M kt (spN o s) := fun bl c as os hB hp hc ho Γ p s e1 e2 e3 e4 e5 e6 e7 e8 e9 e10 => by
 obtain ⟨nad,ntk,s',h1,h2,h3,h4,h5,h6,h7,h8⟩ := h bl c as os hB hp hc ho Γ p s e1 e2 e3 e4 e5 e6 e7 e8 e9 e10
 exact ⟨nad,[],s',h1,rfl,h3,h4,h5,h6,h7,h8⟩
variable (w : World) (b' : Bool)
section
variable (P : Params) (y : List Obj) (x : List Nat) (u : List Nat) (v : List Nat) (i0 i1 i2 i3 i4 i5 : Nat)
noncomputable def Q76 : Obj := dd P y i0 [t537,t410] [.int 500 926,.ref (A u i1)]
noncomputable def Q77 : Obj := ⟨.type "list",none,.seq #[.ref (A u i0),.ref (A u i1),.ref (A u i2),.ref (A u i3)] 1,#[]⟩
noncomputable def Q78 : Obj := ⟨.type "dict",none,.dict #[K P (.str t542 (A v i0)) (.str t197 (A v i1)),K P (.str t543 (A v i2)) (.bool true),K P (.str t544 (A v i3)) (.bool false),K P (.str t540 (A v i4)) (.int 3 348)] 4,#[]⟩
noncomputable def Q79 (st1 : Int) (o : Array UInt8) (s : Array UInt8) (j : Int) : Obj := ⟨.type "dict",none,.dict #[K P (.str t541 (A v i0)) (.ref (A x i1)),K P (.str t566 (A v i2)) (.int (st1 + (j + (s.size : Int))) (A v i3)),K P (.str t335 (A v i4)) (.int ((o.size : Int) - (j + (s.size : Int))) (A v i5))] 3,#[]⟩
noncomputable def Q80 (st1 : Int) (s : Array UInt8) (j : Int) : Obj := ⟨.type "dict",none,.dict #[K P (.str t541 (A v i0)) (.ref (A x i1)),K P (.str t566 (A v i2)) (.int (st1 + j) (A v i3)),K P (.str t335 (A v i4)) (.int (s.size : Int) (A v i5))] 3,#[]⟩
noncomputable def Q81 (st1 : Int) (j : Int) : Obj := ⟨.type "dict",none,.dict #[K P (.str t541 (A v i0)) (.ref (A x i1)),K P (.str t566 (A v i2)) (.int (st1 + 0) (A v i3)),K P (.str t335 (A v i4)) (.int j (A v i5))] 3,#[]⟩
end
noncomputable def opSF (P : Params) (b1 : Array UInt8) (st1 mn1 : Int) (o b2 : Array UInt8) (st2 mn2 : Int) (s : Array UInt8) (j : Int) : CF := cf 715 (fun b => b) fun c x y => mkC (.call (.ref 1796) ⟨[.ref (A x 0)],[]⟩) [Q46 x 1,Q68 P y x,Q50 x 3,Q51 P y x 3 4,Q69 y x 7 5 4,Q65 x 6,Q66 P y x 6 14,Q65 x 8,Q66 P y x 8 9,Q63 x 10,Q70 P y x 10 11 st1 mn1,Q64 x 12,Q71 P y x 12 13,Q72 b1,Q63 x 15,Q73 P y x 15 16 st2 mn2,Q64 x 17,Q71 P y x 17 18,Q74 b2] (15) (32) (fun u v => .ok (.ret (.none))) (fun u v => [(3,Q76 P y u 3 0)]) (fun u v => [Q77 u 1 2 3 4,Q6 u 5,Q6 u 6,Q6 u 7,Q6 u 8,Q67 P y u v 7 8 8 9 9 10,Q67 P y u v 11 8 12 10 13 14,Q67 P y u v 15 8 16 11 17 18,Q78 P v 19 0 20 21 22,Q23 u 12,Q23 u 13,Q23 u 14,Q79 P x v 23 11 24 1 25 2 st1 o s j,Q80 P x v 26 11 27 3 28 4 st1 s j,Q81 P x v 29 11 30 5 31 6 st1 j])
theorem opSF_ok (b1 : Array UInt8) (st1 mn1 : Int) (o b2 : Array UInt8) (st2 mn2 : Int) (s : Array UInt8) (hb1 : b1.size ≤ 1000) (ho : KBy.picked b1 (some st1) (some (st1 + mn1)) = o) (hco : o.size ≤ 1000) (hb2 : b2.size ≤ 1000) (hs : KBy.picked b2 (some st2) (some (st2 + mn2)) = s) (hcs : s.size ≤ 1000) (j : Int) (hj : 0 ≤ j) (hjo : j + (s.size : Int) ≤ (o.size : Int)) (hmn : (o.size : Int) ≤ mn1) (hsp : Ct w b' (spC o s (some j))) : Ct w b' (opSF (PB w b') b1 st1 mn1 o b2 st2 mn2 s j) :=
 sV 6000 19 (Yh (j273 (j149 [])) <| Yc [0,1,2,3,4,5,6,7,8,9,10,11,12,13,14,15,16,17,18] (twS_ok _ _ b1 st1 mn1 o b2 st2 mn2 s hb1 ho hco hb2 hs hcs) <| Yh (26 :: j6 (27 :: j303 (29 :: 25 :: j12 (j223 [])))) <| Yc [] hsp <| Yh (25 :: j3 (j413 (30 :: j27 (4 :: j37 (4 :: j19 (31 :: j238 (j72 (j445 (j275 (j6 (32 :: j42 (30 :: j3 (j171 (j229 (j1 (34 :: j27 (j209 (4 :: j199 (35 :: j42 (4 :: 8 :: j87 (j236 (30 :: 25 :: 2 :: j13 [])))))))))))))))))))))) <| Yd [] (lenC_ok _ _ s hcs) <| Yh (25 :: j159 (j13 [])) <| Yd [] (lenC_ok _ _ o hco) <| Yh [25,0] <| YC [7,8,9,10] (stP (PB w b') st1 mn1 (j + (s.size : Int)) ((o.size : Int) - (j + (s.size : Int)))) (stP_ok _ _ st1 mn1 _ _ (by omega) (by omega) (by omega)) <| Yh (25 :: j350 (j13 [])) <| Yd [] (lenC_ok _ _ s hcs) <| Yh [0] <| YC [7,8,9,10] (stP (PB w b') st1 mn1 j (s.size : Int)) (stP_ok _ _ st1 mn1 _ _ (by omega) (by omega) (by omega)) <| Yh (0 :: 25 :: j5 []) <| YC [7,8,9,10] (stP (PB w b') st1 mn1 0 j) (stP_ok _ _ st1 mn1 _ _ (by omega) (by omega) (by omega)) <| Yh (25 :: j3 (j335 (25 :: j7 (50 :: j245 (52 :: j90 (53 :: j131 (51 :: j146 (49 :: 54 :: j162 (j1 (56 :: j98 (j209 (36 :: j3 (j284 (55 :: j283 (j209 (j35 (36 :: j133 []))))))))))))))))) <| Yd [30,49] (extC_ok _ _ 4 (by decide)) <| Yn) [30,31,35,39,46,32,36,40,45,33,37,41,34,38,42] [68,38,37,48,47,57,6,39,40,41,42,49,50,51,52,58,59,60,61,75,77,79,81,43,44,45,53,54,55,62,63,64]
section
variable (P : Params) (x : List Nat) (u : List Nat) (v : List Nat) (i0 i1 i2 i3 i4 : Nat)
noncomputable def Q82 : Obj := ⟨.type "list",none,.seq #[.ref (A x i0),.ref (A u i1)] 1,#[]⟩
noncomputable def Q83 : Obj := ⟨.type "dict",none,.dict #[K P (.str t542 (A v i0)) (.str t197 (A v i1)),K P (.str t543 (A v i2)) (.bool false),K P (.str t544 (A v i3)) (.bool false),K P (.str t540 (A v i4)) (.int 3 348)] 4,#[]⟩
end
noncomputable def opSN (P : Params) (b1 : Array UInt8) (st1 mn1 : Int) (o b2 : Array UInt8) (st2 mn2 : Int) (s : Array UInt8) : CF := cf 715 (fun b => b) fun c x y => mkC (.call (.ref 1796) ⟨[.ref (A x 0)],[]⟩) [Q46 x 1,Q68 P y x,Q50 x 3,Q51 P y x 3 4,Q69 y x 7 5 4,Q65 x 6,Q66 P y x 6 14,Q65 x 8,Q66 P y x 8 9,Q63 x 10,Q70 P y x 10 11 st1 mn1,Q64 x 12,Q71 P y x 12 13,Q72 b1,Q63 x 15,Q73 P y x 15 16 st2 mn2,Q64 x 17,Q71 P y x 17 18,Q74 b2] (3) (5) (fun u v => .ok (.ret (.none))) (fun u v => [(3,Q76 P y u 3 0)]) (fun u v => [Q82 x u 7 1,Q6 u 2,Q83 P v 1 0 2 3 4])
theorem opSN_ok (b1 : Array UInt8) (st1 mn1 : Int) (o b2 : Array UInt8) (st2 mn2 : Int) (s : Array UInt8) (hb1 : b1.size ≤ 1000) (ho : KBy.picked b1 (some st1) (some (st1 + mn1)) = o) (hco : o.size ≤ 1000) (hb2 : b2.size ≤ 1000) (hs : KBy.picked b2 (some st2) (some (st2 + mn2)) = s) (hcs : s.size ≤ 1000) (hsp : Ct w b' (spC o s none)) : Ct w b' (opSN (PB w b') b1 st1 mn1 o b2 st2 mn2 s) :=
 sV 6000 19 (Yh (j273 (j149 [])) <| Yc [0,1,2,3,4,5,6,7,8,9,10,11,12,13,14,15,16,17,18] (twS_ok _ _ b1 st1 mn1 o b2 st2 mn2 s hb1 ho hco hb2 hs hcs) <| Yh (26 :: j6 (27 :: j303 (29 :: 25 :: j12 (j223 [])))) <| Yc [] (spN_of hsp) <| Yh (25 :: j3 (j413 (30 :: j27 (4 :: j37 (4 :: j19 (31 :: j238 (j72 (j445 (j275 (j6 (32 :: j42 (30 :: j3 (j171 (j229 (j1 (34 :: j27 (j209 (4 :: j199 (35 :: j42 (4 :: 8 :: j87 (j236 (30 :: 25 :: 2 :: j335 (25 :: j7 (37 :: j245 (39 :: j90 (40 :: j131 (38 :: j146 (j1 (42 :: j98 (j209 (36 :: j3 (j284 (41 :: j283 (j209 (j35 (36 :: j133 [])))))))))))))))))))))))))))))))))))) <| Yd [30,35] (extC_ok _ _ 2 (by decide)) <| Yn) [30,33,32] [34,41,43,45,47]
variable (w : World) (b' : Bool)
section
variable (P : Params) (x : List Nat) (u : List Nat) (v : List Nat) (i0 i1 i2 i3 i4 i5 : Nat)
noncomputable def Q84 : Obj := ⟨.type "list",none,.seq #[.ref (A u i0),.ref (A u i1),.ref (A u i2)] 1,#[]⟩
noncomputable def Q85 (st1 : Int) (o : Array UInt8) (s : Array UInt8) : Obj := ⟨.type "dict",none,.dict #[K P (.str t541 (A v i0)) (.ref (A x i1)),K P (.str t566 (A v i2)) (.int (st1 + (s.size : Int)) (A v i3)),K P (.str t335 (A v i4)) (.int ((o.size : Int) - (s.size : Int)) (A v i5))] 3,#[]⟩
noncomputable def Q86 (st1 : Int) (s : Array UInt8) : Obj := ⟨.type "dict",none,.dict #[K P (.str t541 (A v i0)) (.ref (A x i1)),K P (.str t566 (A v i2)) (.int (st1 + 0) (A v i3)),K P (.str t335 (A v i4)) (.int (s.size : Int) (A v i5))] 3,#[]⟩
end
noncomputable def opAF (P : Params) (b1 : Array UInt8) (st1 mn1 : Int) (o b2 : Array UInt8) (st2 mn2 : Int) (s : Array UInt8) : CF := cf 715 (fun b => b) fun c x y => mkC (.call (.ref 1803) ⟨[.ref (A x 0)],[]⟩) [Q46 x 1,Q68 P y x,Q50 x 3,Q51 P y x 3 4,Q69 y x 7 5 4,Q65 x 6,Q66 P y x 6 14,Q65 x 8,Q66 P y x 8 9,Q63 x 10,Q70 P y x 10 11 st1 mn1,Q64 x 12,Q71 P y x 12 13,Q72 b1,Q63 x 15,Q73 P y x 15 16 st2 mn2,Q64 x 17,Q71 P y x 17 18,Q74 b2] (11) (23) (fun u v => .ok (.ret (.none))) (fun u v => [(3,Q76 P y u 3 0)]) (fun u v => [Q84 u 1 2 3,Q6 u 4,Q6 u 5,Q6 u 6,Q67 P y u v 5 8 6 7 7 8,Q67 P y u v 9 8 10 8 11 12,Q78 P v 13 0 14 15 16,Q23 u 9,Q23 u 10,Q85 P x v 17 11 18 1 19 2 st1 o s,Q86 P x v 20 11 21 3 22 4 st1 s])
theorem opAF_ok (b1 : Array UInt8) (st1 mn1 : Int) (o b2 : Array UInt8) (st2 mn2 : Int) (s : Array UInt8) (hb1 : b1.size ≤ 1000) (ho : KBy.picked b1 (some st1) (some (st1 + mn1)) = o) (hco : o.size ≤ 1000) (hb2 : b2.size ≤ 1000) (hs : KBy.picked b2 (some st2) (some (st2 + mn2)) = s) (hcs : s.size ≤ 1000) (hjo : (s.size : Int) ≤ (o.size : Int)) (hmn : (o.size : Int) ≤ mn1) (heq : ((KBy.picked o none (some (s.size : Int))).toList == s.toList) = true) : Ct w b' (opAF (PB w b') b1 st1 mn1 o b2 st2 mn2 s) :=
 sV 6000 19 (Yh (j273 (j149 [])) <| Yc [0,1,2,3,4,5,6,7,8,9,10,11,12,13,14,15,16,17,18] (twS_ok _ _ b1 st1 mn1 o b2 st2 mn2 s hb1 ho hco hb2 hs hcs) <| Yh (26 :: j6 (27 :: j303 (29 :: 25 :: j62 (j413 (30 :: j27 (4 :: j37 (4 :: j19 (31 :: j238 (j72 (j445 (j275 (j6 (32 :: j42 (30 :: j3 (j171 (j229 (j1 (34 :: j27 (j209 (4 :: j199 (35 :: j42 (4 :: 8 :: j87 (j236 (30 :: 25 :: j13 [])))))))))))))))))))))))) <| Yd [] (lenC_ok _ _ s hcs) <| YD [31] (slC o none (some (s.size : Int))) (slC_ok _ _ o _ _ hco) <| Yh [25] <| YD [] (eqC (KBy.picked o none (some (s.size : Int))) s true) (eqC_ok _ _ _ _ _ heq) <| Yh (0 :: 25 :: j13 []) <| Yd [] (lenC_ok _ _ s hcs) <| Yh (j273 []) <| Yd [] (lenC_ok _ _ o hco) <| Yh (j273 []) <| Yd [] (lenC_ok _ _ s hcs) <| Yh [0] <| YC [7,8,9,10] (stP (PB w b') st1 mn1 (s.size : Int) ((o.size : Int) - (s.size : Int))) (stP_ok _ _ st1 mn1 _ _ (by omega) (by omega) (by omega)) <| Yh (25 :: j3 (j335 (25 :: j38 (j13 [])))) <| Yd [] (lenC_ok _ _ s hcs) <| Yh [0] <| YC [7,8,9,10] (stP (PB w b') st1 mn1 0 (s.size : Int)) (stP_ok _ _ st1 mn1 _ _ (by omega) (by omega) (by omega)) <| Yh (j7 (46 :: j245 (48 :: j90 (49 :: j131 (47 :: j146 (j1 (51 :: j98 (j209 (36 :: j3 (j284 (50 :: j283 (j209 (j35 (36 :: j133 [])))))))))))))) <| Yd [30,44] (extC_ok _ _ 3 (by decide)) <| Yn) [30,32,36,42,33,37,41,34,38,35,39] [58,37,36,49,48,38,39,40,41,50,51,52,53,65,67,69,71,42,43,44,54,55,56]
noncomputable def opAN (P : Params) (b1 : Array UInt8) (st1 mn1 : Int) (o b2 : Array UInt8) (st2 mn2 : Int) (s : Array UInt8) : CF := cf 715 (fun b => b) fun c x y => mkC (.call (.ref 1803) ⟨[.ref (A x 0)],[]⟩) [Q46 x 1,Q68 P y x,Q50 x 3,Q51 P y x 3 4,Q69 y x 7 5 4,Q65 x 6,Q66 P y x 6 14,Q65 x 8,Q66 P y x 8 9,Q63 x 10,Q70 P y x 10 11 st1 mn1,Q64 x 12,Q71 P y x 12 13,Q72 b1,Q63 x 15,Q73 P y x 15 16 st2 mn2,Q64 x 17,Q71 P y x 17 18,Q74 b2] (3) (5) (fun u v => .ok (.ret (.none))) (fun u v => [(3,Q76 P y u 3 0)]) (fun u v => [Q82 x u 7 1,Q6 u 2,Q83 P v 1 0 2 3 4])
theorem opAN_ok (b1 : Array UInt8) (st1 mn1 : Int) (o b2 : Array UInt8) (st2 mn2 : Int) (s : Array UInt8) (hb1 : b1.size ≤ 1000) (ho : KBy.picked b1 (some st1) (some (st1 + mn1)) = o) (hco : o.size ≤ 1000) (hb2 : b2.size ≤ 1000) (hs : KBy.picked b2 (some st2) (some (st2 + mn2)) = s) (hcs : s.size ≤ 1000) (heq : ((KBy.picked o none (some (s.size : Int))).toList == s.toList) = false) : Ct w b' (opAN (PB w b') b1 st1 mn1 o b2 st2 mn2 s) :=
 sV 6000 19 (Yh (j273 (j149 [])) <| Yc [0,1,2,3,4,5,6,7,8,9,10,11,12,13,14,15,16,17,18] (twS_ok _ _ b1 st1 mn1 o b2 st2 mn2 s hb1 ho hco hb2 hs hcs) <| Yh (26 :: j6 (27 :: j303 (29 :: 25 :: j62 (j413 (30 :: j27 (4 :: j37 (4 :: j19 (31 :: j238 (j72 (j445 (j275 (j6 (32 :: j42 (30 :: j3 (j171 (j229 (j1 (34 :: j27 (j209 (4 :: j199 (35 :: j42 (4 :: 8 :: j87 (j236 (30 :: 25 :: j13 [])))))))))))))))))))))))) <| Yd [] (lenC_ok _ _ s hcs) <| YD [31] (slC o none (some (s.size : Int))) (slC_ok _ _ o _ _ hco) <| Yh [25] <| YD [] (eqC (KBy.picked o none (some (s.size : Int))) s false) (eqC_ok _ _ _ _ _ heq) <| Yh (25 :: j335 (25 :: j7 (38 :: j245 (40 :: j90 (41 :: j131 (39 :: j146 (j1 (43 :: j98 (j209 (36 :: j3 (j284 (42 :: j283 (j209 (j35 (36 :: j133 []))))))))))))))) <| Yd [30,36] (extC_ok _ _ 2 (by decide)) <| Yn) [30,34,33] [35,42,44,46,48]
variable (w : World) (b' : Bool)
section
variable (P : Params) (y : List Obj) (x : List Nat) (i0 i1 i2 i3 i4 : Nat)
noncomputable def Q87 : Obj := ⟨.ref 564,(some (A x i0)),.plain,#[]⟩
noncomputable def Q88 : Obj := dd P y i0 [t537,t410] [.int 20 927,.ref (A x i1)]
noncomputable def Q89 : Obj := ⟨.type "list",none,.seq #[.ref (A x i0),.ref (A x i1),.ref (A x i2)] (oE y i3),#[]⟩
noncomputable def Q90 : Obj := dd P y i0 ks4 [.str t61 (tT y i0 1),.ref (A x i1),.bool false,.int 3 348]
noncomputable def Q91 : Obj := ⟨.ref 218,(some (A x i0)),.plain,#[]⟩
noncomputable def Q92 : Obj := dd P y i0 ks5 [.int 3 (tT y i0 1),.int 200 2009,.bool false,.int 0 (tT y i0 7),.int 3 348,.ref (A x i1)]
noncomputable def Q93 : Obj := ⟨.type "dict",none,.dict #[] 0,#[]⟩
noncomputable def Q94 : Obj := ⟨.type "tuple",none,.seq #[.str t491 (tT y i0 0),.bytes arS (tT y i0 1)] 0,#[]⟩
noncomputable def Q95 : Obj := dd P y i0 ks5 [.int 2 (tT y i0 1),.int 200 2009,.bool true,.int 0 (tT y i0 7),.int 3 348,.ref (A x i1)]
noncomputable def Q96 : Obj := dd P y i0 ks5 [.int 1 (tT y i0 1),.int 600 938,.bool true,.int 0 (tT y i0 7),.int 3 348,.ref (A x i1)]
noncomputable def Q97 : Obj := ⟨.type "dict",none,.dict #[⟨hW P arS,.ref (A x i0),.ref (A x i1)⟩,⟨hW P arA,.ref (A x i2),.ref (tR y i3 3)⟩,⟨hW P #[112,111,112],.ref (A x i4),.ref (tR y i3 5)⟩] 3,#[]⟩
noncomputable def Q98 : Obj := ⟨.type "tuple",none,.seq #[.str t491 (tT y i0 0),.bytes arA (tT y i0 1)] 0,#[]⟩
noncomputable def Q99 : Obj := ⟨.type "tuple",none,.seq #[.str t491 (tT y i0 0),.bytes #[112,111,112] (tT y i0 1)] 0,#[]⟩
noncomputable def Q100 : Obj := ⟨.type "tuple",none,.seq #[.ref (tR y 22 0),.ref (tR y 22 1)] 0,#[]⟩
noncomputable def Q101 : Obj := ⟨.type "tuple",none,.seq #[.ref (A x 16),.ref (tR y 22 1)] 0,#[]⟩
end
noncomputable def fdS (P : Params) : CF := cf 700 (fun b => b) fun c x y => mkC (.call (.ref 519) ⟨[.ref (A x 0),.ref (A x 8)],[]⟩) [Q87 x 1,Q88 P y x 1 2,Q89 y x 14 9 3 2,Q65 x 4,Q90 P y x 4 5,Q91 x 6,Q92 P y x 6 7,Q93,Q94 y 8,Q65 x 10,Q90 P y x 10 11,Q91 x 12,Q95 P y x 12 13,Q93,Q65 x 15,Q90 P y x 15 16,Q91 x 17,Q96 P y x 17 18,Q97 P y x 19 22 20 18 21,Q94 y 19,Q98 y 20,Q99 y 21,Q100 y] (1) (0) (fun u v => .ok (.ret (.ref (A u 0)))) nN (fun u v => [Q101 y x])
theorem fdS_ok : Ct w b' (fdS (PB w b')) :=
 sV 6000 23 (Yh (j0 (29 :: j434 (j138 (j50 (30 :: j233 (31 :: j233 (j362 (j372 (j39 (j178 (j364 (j356 [])))))))))))) <| YD [7,8] (wInC (PB w b') [] bS false) (wIn_k _ _ _ _ _ nd0 (by decide +kernel)) <| Yh (j449 (j446 (j39 (17 :: j8 (18 :: j364 (19 :: j3 [])))))) <| YD [13,8] (wInC (PB w b') [] bS false) (wIn_k _ _ _ _ _ nd0 (by decide +kernel)) <| Yh (j449 (j329 (j39 (j308 (j364 (j448 [])))))) <| YD [18,8,19,20,21] (wInC (PB w b') [bS,bA,bP] bS true) (wIn_k _ _ _ _ _ nd3 (by decide +kernel)) <| Yh (29 :: 2 :: j308 (4 :: 24 :: j6 [])) <| YD [18,8,19,20,21] (wGetC (PB w b') [bS,bA,bP] 0) (wGet_k _ _ _ _ nd3 (by decide +kernel)) <| Yh (28 :: j12 []) <| Yn) [26] []
section
variable (P : Params) (y : List Obj) (x : List Nat) (i0 i1 i2 i3 i4 : Nat)
noncomputable def Q102 : Obj := ⟨.type "dict",none,.dict #[⟨hW P arS,.ref (A x i0),.ref (tR y i1 1)⟩,⟨hW P arA,.ref (A x i2),.ref (A x i3)⟩,⟨hW P #[112,111,112],.ref (A x i4),.ref (tR y i1 5)⟩] 3,#[]⟩
end
noncomputable def fdA (P : Params) : CF := cf 700 (fun b => b) fun c x y => mkC (.call (.ref 519) ⟨[.ref (A x 0),.ref (A x 8)],[]⟩) [Q87 x 1,Q88 P y x 1 2,Q89 y x 14 9 3 2,Q65 x 4,Q90 P y x 4 5,Q91 x 6,Q92 P y x 6 7,Q93,Q98 y 8,Q65 x 10,Q90 P y x 10 11,Q91 x 12,Q95 P y x 12 13,Q93,Q65 x 15,Q90 P y x 15 16,Q91 x 17,Q96 P y x 17 18,Q102 P y x 19 18 20 22 21,Q94 y 19,Q98 y 20,Q99 y 21,Q100 y] (1) (0) (fun u v => .ok (.ret (.ref (A u 0)))) nN (fun u v => [Q101 y x])
theorem fdA_ok : Ct w b' (fdA (PB w b')) :=
 sV 6000 23 (Yh (j0 (29 :: j434 (j138 (j50 (30 :: j233 (31 :: j233 (j362 (j372 (j39 (j178 (j364 (j356 [])))))))))))) <| YD [7,8] (wInC (PB w b') [] bA false) (wIn_k _ _ _ _ _ nd0 (by decide +kernel)) <| Yh (j449 (j446 (j39 (17 :: j8 (18 :: j364 (19 :: j3 [])))))) <| YD [13,8] (wInC (PB w b') [] bA false) (wIn_k _ _ _ _ _ nd0 (by decide +kernel)) <| Yh (j449 (j329 (j39 (j308 (j364 (j448 [])))))) <| YD [18,8,19,20,21] (wInC (PB w b') [bS,bA,bP] bA true) (wIn_k _ _ _ _ _ nd3 (by decide +kernel)) <| Yh (29 :: 2 :: j308 (4 :: 24 :: j6 [])) <| YD [18,8,19,20,21] (wGetC (PB w b') [bS,bA,bP] 1) (wGet_k _ _ _ _ nd3 (by decide +kernel)) <| Yh (28 :: j12 []) <| Yn) [26] []
section
variable (P : Params) (y : List Obj) (x : List Nat) (i0 i1 i2 i3 i4 : Nat)
noncomputable def Q103 : Obj := ⟨.type "dict",none,.dict #[⟨hW P arS,.ref (A x i0),.ref (tR y i1 1)⟩,⟨hW P arA,.ref (A x i2),.ref (tR y i1 3)⟩,⟨hW P #[112,111,112],.ref (A x i3),.ref (A x i4)⟩] 3,#[]⟩
end
noncomputable def fdP (P : Params) : CF := cf 700 (fun b => b) fun c x y => mkC (.call (.ref 519) ⟨[.ref (A x 0),.ref (A x 8)],[]⟩) [Q87 x 1,Q88 P y x 1 2,Q89 y x 14 9 3 2,Q65 x 4,Q90 P y x 4 5,Q91 x 6,Q92 P y x 6 7,Q93,Q99 y 8,Q65 x 10,Q90 P y x 10 11,Q91 x 12,Q95 P y x 12 13,Q93,Q65 x 15,Q90 P y x 15 16,Q91 x 17,Q96 P y x 17 18,Q103 P y x 19 18 20 21 22,Q94 y 19,Q98 y 20,Q99 y 21,Q100 y] (1) (0) (fun u v => .ok (.ret (.ref (A u 0)))) nN (fun u v => [Q101 y x])
theorem fdP_ok : Ct w b' (fdP (PB w b')) :=
 sV 6000 23 (Yh (j0 (29 :: j434 (j138 (j50 (30 :: j233 (31 :: j233 (j362 (j372 (j39 (j178 (j364 (j356 [])))))))))))) <| YD [7,8] (wInC (PB w b') [] bP false) (wIn_k _ _ _ _ _ nd0 (by decide +kernel)) <| Yh (j449 (j446 (j39 (17 :: j8 (18 :: j364 (19 :: j3 [])))))) <| YD [13,8] (wInC (PB w b') [] bP false) (wIn_k _ _ _ _ _ nd0 (by decide +kernel)) <| Yh (j449 (j329 (j39 (j308 (j364 (j448 [])))))) <| YD [18,8,19,20,21] (wInC (PB w b') [bS,bA,bP] bP true) (wIn_k _ _ _ _ _ nd3 (by decide +kernel)) <| Yh (29 :: 2 :: j308 (4 :: 24 :: j6 [])) <| YD [18,8,19,20,21] (wGetC (PB w b') [bS,bA,bP] 2) (wGet_k _ _ _ _ nd3 (by decide +kernel)) <| Yh (28 :: j12 []) <| Yn) [26] []
variable (w : World) (b' : Bool)
section
variable (P : Params) (y : List Obj) (x : List Nat) (v : List Nat) (i0 i1 : Nat)
noncomputable def Q104 : Obj := dd P y 2 ks1 [.ref (tR y 2 1),.ref (A x 35),.ref (A x 10),.ref (A x 6),.ref (tR y 2 9),.ref (tR y 2 11),.none,.ref (tR y 2 15),.ref (A x 3),.ref (A x 34),.ref (A x 23),.ref (A x 18),.ref (A x 13),.none,.none,.none,.none,.none,.int 2 (tT y 2 37),.int 1 2007,.bool false,.bool false,.none,.none,.none,.none]
noncomputable def Q105 : Obj := ⟨.type "tuple",none,.seq #[.ref (tR y i0 0),.ref (A x i1)] 0,#[]⟩
noncomputable def Q106 : Obj := dd P y i0 ks4 [.str t548 (tT y i0 1),.bytes arS (tT y i0 3),.bool true,.int 3 348]
noncomputable def Q107 : Obj := ⟨.type "dict",none,.dict #[⟨hB P arS,.bytes arS (tT y i0 0),.ref 1796⟩,⟨hB P arA,.bytes arA (tT y i0 2),.ref 1803⟩,⟨hB P #[112,111,112],.bytes #[112,111,112] (tT y i0 4),.ref 1760⟩] 3,#[]⟩
noncomputable def Q108 : Obj := dd P y 2 ks1 [.ref (tR y 2 1),.ref (A x 35),.ref (A x 10),.ref (A x 6),.ref (tR y 2 9),.ref (tR y 2 11),.none,.ref (tR y 2 15),.ref (A x 3),.ref (A x 34),.ref (A x 23),.ref (A x 18),.ref (A x 13),.none,.none,.none,.none,.none,.int 3 (A v 0),.int 1 2007,.bool false,.bool false,.none,.none,.none,.ref (A x 32)]
end
noncomputable def F2 (P : Params) (arr : Array UInt8) (at_ : Int) (b1 : Array UInt8) (st1 mn1 : Int) (o b2 : Array UInt8) (st2 mn2 : Int) (s : Array UInt8) (j : Int) : CF := cf 670 F0_sh fun c x y => mkC (.call (.ref 1663) ⟨[.ref (A x 1)],[]⟩) [Q59 y x,Q46 x 2,Q104 P y x,Q47 y x 4 3,Q48 x,Q49 P y x,Q11 x 7,Q38 P y 7,Q0 x 9,Q1 P y 9 arr at_,Q87 x 11,Q88 P y x 11 12,Q89 y x 23 18 13 12,Q65 x 14,Q90 P y x 14 15,Q91 x 16,Q92 P y x 16 17,Q93,Q65 x 19,Q90 P y x 19 20,Q91 x 21,Q95 P y x 21 22,Q93,Q65 x 24,Q90 P y x 24 25,Q91 x 26,Q96 P y x 26 27,Q97 P y x 28 31 29 27 30,Q94 y 28,Q98 y 29,Q99 y 30,Q105 y x 31 32,Q65 x 33,Q106 P y 33,Q107 P y 34,Q50 x 36,Q51 P y x 36 37,Q69 y x 40 38 37,Q65 x 39,Q66 P y x 39 47,Q65 x 41,Q66 P y x 41 42,Q63 x 43,Q70 P y x 43 44 st1 mn1,Q64 x 45,Q71 P y x 45 46,Q72 b1,Q63 x 48,Q73 P y x 48 49 st2 mn2,Q64 x 50,Q71 P y x 50 51,Q74 b2] (15) (34) (fun u v => .ok (.ret (.none))) (fun u v => [(2,Q108 P y x v),(9,Q39 P y v 9 1 arr at_),(36,Q76 P y u 36 0)]) (fun u v => [Q77 u 1 2 3 4,Q6 u 5,Q6 u 6,Q6 u 7,Q6 u 8,Q67 P y u v 9 41 10 9 11 12,Q67 P y u v 13 41 14 10 15 16,Q67 P y u v 17 41 18 11 19 20,Q78 P v 21 2 22 23 24,Q23 u 12,Q23 u 13,Q23 u 14,Q79 P x v 25 44 26 3 27 4 st1 o s j,Q80 P x v 28 44 29 5 30 6 st1 s j,Q81 P x v 31 44 32 7 33 8 st1 j])
theorem F2_ok (arr : Array UInt8) (at_ : Int) (n : Nat) (hn : at_ = n) (hs : arr.size ≤ 1000) (hx : arr[n]? = some 32) (h0 : arr[n + 1 + 0]? = some 115) (h1 : arr[n + 1 + 1]? = some 101) (h2 : arr[n + 1 + 2]? = some 97) (h3 : arr[n + 1 + 3]? = some 114) (h4 : arr[n + 1 + 4]? = some 99) (h5 : arr[n + 1 + 5]? = some 104) (hb : arr.size ≤ n + 1 + 6) (b1 : Array UInt8) (st1 mn1 : Int) (o b2 : Array UInt8) (st2 mn2 : Int) (s : Array UInt8) (hb1 : b1.size ≤ 1000) (ho : KBy.picked b1 (some st1) (some (st1 + mn1)) = o) (hco : o.size ≤ 1000) (hb2 : b2.size ≤ 1000) (hs2 : KBy.picked b2 (some st2) (some (st2 + mn2)) = s) (hcs : s.size ≤ 1000) (j : Int) (hj : 0 ≤ j) (hjo : j + (s.size : Int) ≤ (o.size : Int)) (hmn : (o.size : Int) ≤ mn1) (hsp : Ct w b' (spC o s (some j))) : Ct w b' (F2 (PB w b') arr at_ b1 st1 mn1 o b2 st2 mn2 s j) :=
 sW 6000 51 (Yh (j355 []) <| Yc [8,9,6,7] (tkSB_ok _ _ arr at_ n hn hs hx h0 h1 h2 h3 h4 h5 hb) <| Yh (j358 []) <| Yc [10,11,12,13,14,15,16,17,67,18,19,20,21,22,23,24,25,26,27,28,29,30,31] (fdS_ok _ _) <| Yh (j336 []) <| Yd [34] (bGet2_k _ _ 0 (by decide)) <| Yh (j359 []) <| Yd [73,37] (iaC_ok _ _ 2 (by decide)) <| Yh (j361 []) <| Yc [1,2,35,36,37,38,39,40,41,42,43,44,45,46,47,48,49,50,51] (opSF_ok _ _ b1 st1 mn1 o b2 st2 mn2 s hb1 ho hco hb2 hs2 hcs j hj hjo hmn hsp) <| Yh (j360 (97 :: j65 [])) <| Yn) [76,77,78,79,80,81,82,83,84,85,86,87,88,89,90] [3,20,91,92,93,94,95,96,97,98,99,100,101,102,103,104,105,106,107,108,109,110,111,112,113,114,115,116,117,118,119,120,121,122]
noncomputable def N2 (P : Params) (arr : Array UInt8) (at_ : Int) (b1 : Array UInt8) (st1 mn1 : Int) (o b2 : Array UInt8) (st2 mn2 : Int) (s : Array UInt8) : CF := cf 670 F0_sh fun c x y => mkC (.call (.ref 1663) ⟨[.ref (A x 1)],[]⟩) [Q59 y x,Q46 x 2,Q104 P y x,Q47 y x 4 3,Q48 x,Q49 P y x,Q11 x 7,Q38 P y 7,Q0 x 9,Q1 P y 9 arr at_,Q87 x 11,Q88 P y x 11 12,Q89 y x 23 18 13 12,Q65 x 14,Q90 P y x 14 15,Q91 x 16,Q92 P y x 16 17,Q93,Q65 x 19,Q90 P y x 19 20,Q91 x 21,Q95 P y x 21 22,Q93,Q65 x 24,Q90 P y x 24 25,Q91 x 26,Q96 P y x 26 27,Q97 P y x 28 31 29 27 30,Q94 y 28,Q98 y 29,Q99 y 30,Q105 y x 31 32,Q65 x 33,Q106 P y 33,Q107 P y 34,Q50 x 36,Q51 P y x 36 37,Q69 y x 40 38 37,Q65 x 39,Q66 P y x 39 47,Q65 x 41,Q66 P y x 41 42,Q63 x 43,Q70 P y x 43 44 st1 mn1,Q64 x 45,Q71 P y x 45 46,Q72 b1,Q63 x 48,Q73 P y x 48 49 st2 mn2,Q64 x 50,Q71 P y x 50 51,Q74 b2] (3) (7) (fun u v => .ok (.ret (.none))) (fun u v => [(2,Q108 P y x v),(9,Q39 P y v 9 1 arr at_),(36,Q76 P y u 36 0)]) (fun u v => [Q82 x u 40 1,Q6 u 2,Q83 P v 3 2 4 5 6])
theorem N2_ok (arr : Array UInt8) (at_ : Int) (n : Nat) (hn : at_ = n) (hs : arr.size ≤ 1000) (hx : arr[n]? = some 32) (h0 : arr[n + 1 + 0]? = some 115) (h1 : arr[n + 1 + 1]? = some 101) (h2 : arr[n + 1 + 2]? = some 97) (h3 : arr[n + 1 + 3]? = some 114) (h4 : arr[n + 1 + 4]? = some 99) (h5 : arr[n + 1 + 5]? = some 104) (hb : arr.size ≤ n + 1 + 6) (b1 : Array UInt8) (st1 mn1 : Int) (o b2 : Array UInt8) (st2 mn2 : Int) (s : Array UInt8) (hb1 : b1.size ≤ 1000) (ho : KBy.picked b1 (some st1) (some (st1 + mn1)) = o) (hco : o.size ≤ 1000) (hb2 : b2.size ≤ 1000) (hs2 : KBy.picked b2 (some st2) (some (st2 + mn2)) = s) (hcs : s.size ≤ 1000) (hsp : Ct w b' (spC o s none)) : Ct w b' (N2 (PB w b') arr at_ b1 st1 mn1 o b2 st2 mn2 s) :=
 sW 6000 51 (Yh (j355 []) <| Yc [8,9,6,7] (tkSB_ok _ _ arr at_ n hn hs hx h0 h1 h2 h3 h4 h5 hb) <| Yh (j358 []) <| Yc [10,11,12,13,14,15,16,17,67,18,19,20,21,22,23,24,25,26,27,28,29,30,31] (fdS_ok _ _) <| Yh (j336 []) <| Yd [34] (bGet2_k _ _ 0 (by decide)) <| Yh (j359 []) <| Yd [73,37] (iaC_ok _ _ 2 (by decide)) <| Yh (j361 []) <| Yc [1,2,35,36,37,38,39,40,41,42,43,44,45,46,47,48,49,50,51] (opSN_ok _ _ b1 st1 mn1 o b2 st2 mn2 s hb1 ho hco hb2 hs2 hcs hsp) <| Yh (j360 (85 :: j65 [])) <| Yn) [76,77,78] [3,20,91,92,93,94,95]
section
variable (P : Params) (y : List Obj) (x : List Nat) (v : List Nat) (i0 : Nat)
noncomputable def Q109 : Obj := dd P y 2 ks1 [.ref (tR y 2 1),.ref (A x 35),.ref (A x 10),.ref (A x 6),.ref (tR y 2 9),.ref (tR y 2 11),.none,.ref (tR y 2 15),.ref (A x 3),.ref (A x 34),.ref (A x 23),.ref (A x 18),.ref (A x 13),.none,.none,.none,.none,.none,.int 8 (tT y 2 37),.int 1 2007,.bool false,.bool false,.none,.none,.none,.none]
noncomputable def Q110 : Obj := dd P y 2 ks1 [.ref (tR y 2 1),.ref (A x 35),.ref (A x 10),.ref (A x 6),.ref (tR y 2 9),.ref (tR y 2 11),.none,.ref (tR y 2 15),.ref (A x 3),.ref (A x 34),.ref (A x 23),.ref (A x 18),.ref (A x 13),.none,.none,.none,.none,.none,.int 9 (A v 0),.int 1 2007,.bool false,.bool false,.none,.none,.none,.ref (A x 32)]
end
noncomputable def F8 (P : Params) (arr : Array UInt8) (at_ : Int) (b1 : Array UInt8) (st1 mn1 : Int) (o b2 : Array UInt8) (st2 mn2 : Int) (s : Array UInt8) (j : Int) : CF := cf 670 F0_sh fun c x y => mkC (.call (.ref 1663) ⟨[.ref (A x 1)],[]⟩) [Q59 y x,Q46 x 2,Q109 P y x,Q47 y x 4 3,Q48 x,Q49 P y x,Q11 x 7,Q38 P y 7,Q0 x 9,Q1 P y 9 arr at_,Q87 x 11,Q88 P y x 11 12,Q89 y x 23 18 13 12,Q65 x 14,Q90 P y x 14 15,Q91 x 16,Q92 P y x 16 17,Q93,Q65 x 19,Q90 P y x 19 20,Q91 x 21,Q95 P y x 21 22,Q93,Q65 x 24,Q90 P y x 24 25,Q91 x 26,Q96 P y x 26 27,Q97 P y x 28 31 29 27 30,Q94 y 28,Q98 y 29,Q99 y 30,Q105 y x 31 32,Q65 x 33,Q106 P y 33,Q107 P y 34,Q50 x 36,Q51 P y x 36 37,Q69 y x 40 38 37,Q65 x 39,Q66 P y x 39 47,Q65 x 41,Q66 P y x 41 42,Q63 x 43,Q70 P y x 43 44 st1 mn1,Q64 x 45,Q71 P y x 45 46,Q72 b1,Q63 x 48,Q73 P y x 48 49 st2 mn2,Q64 x 50,Q71 P y x 50 51,Q74 b2] (15) (34) (fun u v => .ok (.ret (.none))) (fun u v => [(2,Q110 P y x v),(9,Q39 P y v 9 1 arr at_),(36,Q76 P y u 36 0)]) (fun u v => [Q77 u 1 2 3 4,Q6 u 5,Q6 u 6,Q6 u 7,Q6 u 8,Q67 P y u v 9 41 10 9 11 12,Q67 P y u v 13 41 14 10 15 16,Q67 P y u v 17 41 18 11 19 20,Q78 P v 21 2 22 23 24,Q23 u 12,Q23 u 13,Q23 u 14,Q79 P x v 25 44 26 3 27 4 st1 o s j,Q80 P x v 28 44 29 5 30 6 st1 s j,Q81 P x v 31 44 32 7 33 8 st1 j])
theorem F8_ok (arr : Array UInt8) (at_ : Int) (n : Nat) (hn : at_ = n) (hs : arr.size ≤ 1000) (hx : arr[n]? = some 32) (h0 : arr[n + 1 + 0]? = some 115) (h1 : arr[n + 1 + 1]? = some 101) (h2 : arr[n + 1 + 2]? = some 97) (h3 : arr[n + 1 + 3]? = some 114) (h4 : arr[n + 1 + 4]? = some 99) (h5 : arr[n + 1 + 5]? = some 104) (hb : arr.size ≤ n + 1 + 6) (b1 : Array UInt8) (st1 mn1 : Int) (o b2 : Array UInt8) (st2 mn2 : Int) (s : Array UInt8) (hb1 : b1.size ≤ 1000) (ho : KBy.picked b1 (some st1) (some (st1 + mn1)) = o) (hco : o.size ≤ 1000) (hb2 : b2.size ≤ 1000) (hs2 : KBy.picked b2 (some st2) (some (st2 + mn2)) = s) (hcs : s.size ≤ 1000) (j : Int) (hj : 0 ≤ j) (hjo : j + (s.size : Int) ≤ (o.size : Int)) (hmn : (o.size : Int) ≤ mn1) (hsp : Ct w b' (spC o s (some j))) : Ct w b' (F8 (PB w b') arr at_ b1 st1 mn1 o b2 st2 mn2 s j) :=
 sW 6000 51 (Yh (j355 []) <| Yc [8,9,6,7] (tkSB_ok _ _ arr at_ n hn hs hx h0 h1 h2 h3 h4 h5 hb) <| Yh (j358 []) <| Yc [10,11,12,13,14,15,16,17,67,18,19,20,21,22,23,24,25,26,27,28,29,30,31] (fdS_ok _ _) <| Yh (j336 []) <| Yd [34] (bGet2_k _ _ 0 (by decide)) <| Yh (j359 []) <| Yd [73,37] (iaC_ok _ _ 2 (by decide)) <| Yh (j361 []) <| Yc [1,2,35,36,37,38,39,40,41,42,43,44,45,46,47,48,49,50,51] (opSF_ok _ _ b1 st1 mn1 o b2 st2 mn2 s hb1 ho hco hb2 hs2 hcs j hj hjo hmn hsp) <| Yh (j360 (97 :: j65 [])) <| Yn) [76,77,78,79,80,81,82,83,84,85,86,87,88,89,90] [3,20,91,92,93,94,95,96,97,98,99,100,101,102,103,104,105,106,107,108,109,110,111,112,113,114,115,116,117,118,119,120,121,122]
noncomputable def N8 (P : Params) (arr : Array UInt8) (at_ : Int) (b1 : Array UInt8) (st1 mn1 : Int) (o b2 : Array UInt8) (st2 mn2 : Int) (s : Array UInt8) : CF := cf 670 F0_sh fun c x y => mkC (.call (.ref 1663) ⟨[.ref (A x 1)],[]⟩) [Q59 y x,Q46 x 2,Q109 P y x,Q47 y x 4 3,Q48 x,Q49 P y x,Q11 x 7,Q38 P y 7,Q0 x 9,Q1 P y 9 arr at_,Q87 x 11,Q88 P y x 11 12,Q89 y x 23 18 13 12,Q65 x 14,Q90 P y x 14 15,Q91 x 16,Q92 P y x 16 17,Q93,Q65 x 19,Q90 P y x 19 20,Q91 x 21,Q95 P y x 21 22,Q93,Q65 x 24,Q90 P y x 24 25,Q91 x 26,Q96 P y x 26 27,Q97 P y x 28 31 29 27 30,Q94 y 28,Q98 y 29,Q99 y 30,Q105 y x 31 32,Q65 x 33,Q106 P y 33,Q107 P y 34,Q50 x 36,Q51 P y x 36 37,Q69 y x 40 38 37,Q65 x 39,Q66 P y x 39 47,Q65 x 41,Q66 P y x 41 42,Q63 x 43,Q70 P y x 43 44 st1 mn1,Q64 x 45,Q71 P y x 45 46,Q72 b1,Q63 x 48,Q73 P y x 48 49 st2 mn2,Q64 x 50,Q71 P y x 50 51,Q74 b2] (3) (7) (fun u v => .ok (.ret (.none))) (fun u v => [(2,Q110 P y x v),(9,Q39 P y v 9 1 arr at_),(36,Q76 P y u 36 0)]) (fun u v => [Q82 x u 40 1,Q6 u 2,Q83 P v 3 2 4 5 6])
theorem N8_ok (arr : Array UInt8) (at_ : Int) (n : Nat) (hn : at_ = n) (hs : arr.size ≤ 1000) (hx : arr[n]? = some 32) (h0 : arr[n + 1 + 0]? = some 115) (h1 : arr[n + 1 + 1]? = some 101) (h2 : arr[n + 1 + 2]? = some 97) (h3 : arr[n + 1 + 3]? = some 114) (h4 : arr[n + 1 + 4]? = some 99) (h5 : arr[n + 1 + 5]? = some 104) (hb : arr.size ≤ n + 1 + 6) (b1 : Array UInt8) (st1 mn1 : Int) (o b2 : Array UInt8) (st2 mn2 : Int) (s : Array UInt8) (hb1 : b1.size ≤ 1000) (ho : KBy.picked b1 (some st1) (some (st1 + mn1)) = o) (hco : o.size ≤ 1000) (hb2 : b2.size ≤ 1000) (hs2 : KBy.picked b2 (some st2) (some (st2 + mn2)) = s) (hcs : s.size ≤ 1000) (hsp : Ct w b' (spC o s none)) : Ct w b' (N8 (PB w b') arr at_ b1 st1 mn1 o b2 st2 mn2 s) :=
 sW 6000 51 (Yh (j355 []) <| Yc [8,9,6,7] (tkSB_ok _ _ arr at_ n hn hs hx h0 h1 h2 h3 h4 h5 hb) <| Yh (j358 []) <| Yc [10,11,12,13,14,15,16,17,67,18,19,20,21,22,23,24,25,26,27,28,29,30,31] (fdS_ok _ _) <| Yh (j336 []) <| Yd [34] (bGet2_k _ _ 0 (by decide)) <| Yh (j359 []) <| Yd [73,37] (iaC_ok _ _ 2 (by decide)) <| Yh (j361 []) <| Yc [1,2,35,36,37,38,39,40,41,42,43,44,45,46,47,48,49,50,51] (opSN_ok _ _ b1 st1 mn1 o b2 st2 mn2 s hb1 ho hco hb2 hs2 hcs hsp) <| Yh (j360 (85 :: j65 [])) <| Yn) [76,77,78] [3,20,91,92,93,94,95]
section
variable (P : Params) (y : List Obj) (x : List Nat) (v : List Nat) (i0 : Nat)
noncomputable def Q111 : Obj := dd P y 2 ks1 [.ref (tR y 2 1),.ref (A x 35),.ref (A x 10),.ref (A x 6),.ref (tR y 2 9),.ref (tR y 2 11),.none,.ref (tR y 2 15),.ref (A x 3),.ref (A x 34),.ref (A x 23),.ref (A x 18),.ref (A x 13),.none,.none,.none,.none,.none,.int 7 (tT y 2 37),.int 1 2007,.bool false,.bool false,.none,.none,.none,.none]
noncomputable def Q112 : Obj := dd P y 2 ks1 [.ref (tR y 2 1),.ref (A x 35),.ref (A x 10),.ref (A x 6),.ref (tR y 2 9),.ref (tR y 2 11),.none,.ref (tR y 2 15),.ref (A x 3),.ref (A x 34),.ref (A x 23),.ref (A x 18),.ref (A x 13),.none,.none,.none,.none,.none,.int 8 (A v 0),.int 1 2007,.bool false,.bool false,.none,.none,.none,.ref (A x 32)]
end
noncomputable def A7 (P : Params) (arr : Array UInt8) (at_ : Int) (b1 : Array UInt8) (st1 mn1 : Int) (o b2 : Array UInt8) (st2 mn2 : Int) (s : Array UInt8) (j : Int) : CF := cf 670 F0_sh fun c x y => mkC (.call (.ref 1663) ⟨[.ref (A x 1)],[]⟩) [Q59 y x,Q46 x 2,Q111 P y x,Q47 y x 4 3,Q48 x,Q49 P y x,Q11 x 7,Q38 P y 7,Q0 x 9,Q1 P y 9 arr at_,Q87 x 11,Q88 P y x 11 12,Q89 y x 23 18 13 12,Q65 x 14,Q90 P y x 14 15,Q91 x 16,Q92 P y x 16 17,Q93,Q65 x 19,Q90 P y x 19 20,Q91 x 21,Q95 P y x 21 22,Q93,Q65 x 24,Q90 P y x 24 25,Q91 x 26,Q96 P y x 26 27,Q97 P y x 28 31 29 27 30,Q94 y 28,Q98 y 29,Q99 y 30,Q105 y x 31 32,Q65 x 33,Q106 P y 33,Q107 P y 34,Q50 x 36,Q51 P y x 36 37,Q69 y x 40 38 37,Q65 x 39,Q66 P y x 39 47,Q65 x 41,Q66 P y x 41 42,Q63 x 43,Q70 P y x 43 44 st1 mn1,Q64 x 45,Q71 P y x 45 46,Q72 b1,Q63 x 48,Q73 P y x 48 49 st2 mn2,Q64 x 50,Q71 P y x 50 51,Q74 b2] (15) (34) (fun u v => .ok (.ret (.none))) (fun u v => [(2,Q112 P y x v),(9,Q39 P y v 9 1 arr at_),(36,Q76 P y u 36 0)]) (fun u v => [Q77 u 1 2 3 4,Q6 u 5,Q6 u 6,Q6 u 7,Q6 u 8,Q67 P y u v 9 41 10 9 11 12,Q67 P y u v 13 41 14 10 15 16,Q67 P y u v 17 41 18 11 19 20,Q78 P v 21 2 22 23 24,Q23 u 12,Q23 u 13,Q23 u 14,Q79 P x v 25 44 26 3 27 4 st1 o s j,Q80 P x v 28 44 29 5 30 6 st1 s j,Q81 P x v 31 44 32 7 33 8 st1 j])
theorem A7_ok (arr : Array UInt8) (at_ : Int) (n : Nat) (hn : at_ = n) (hs : arr.size ≤ 1000) (hx : arr[n]? = some 32) (h0 : arr[n + 1 + 0]? = some 115) (h1 : arr[n + 1 + 1]? = some 101) (h2 : arr[n + 1 + 2]? = some 97) (h3 : arr[n + 1 + 3]? = some 114) (h4 : arr[n + 1 + 4]? = some 99) (h5 : arr[n + 1 + 5]? = some 104) (hb : arr.size ≤ n + 1 + 6) (b1 : Array UInt8) (st1 mn1 : Int) (o b2 : Array UInt8) (st2 mn2 : Int) (s : Array UInt8) (hb1 : b1.size ≤ 1000) (ho : KBy.picked b1 (some st1) (some (st1 + mn1)) = o) (hco : o.size ≤ 1000) (hb2 : b2.size ≤ 1000) (hs2 : KBy.picked b2 (some st2) (some (st2 + mn2)) = s) (hcs : s.size ≤ 1000) (j : Int) (hj : 0 ≤ j) (hjo : j + (s.size : Int) ≤ (o.size : Int)) (hmn : (o.size : Int) ≤ mn1) (hsp : Ct w b' (spC o s (some j))) : Ct w b' (A7 (PB w b') arr at_ b1 st1 mn1 o b2 st2 mn2 s j) :=
 sW 6000 51 (Yh (j355 []) <| Yc [8,9,6,7] (tkSB_ok _ _ arr at_ n hn hs hx h0 h1 h2 h3 h4 h5 hb) <| Yh (j358 []) <| Yc [10,11,12,13,14,15,16,17,67,18,19,20,21,22,23,24,25,26,27,28,29,30,31] (fdS_ok _ _) <| Yh (j336 []) <| Yd [34] (bGet2_k _ _ 0 (by decide)) <| Yh (j359 []) <| Yd [73,37] (iaC_ok _ _ 2 (by decide)) <| Yh (j361 []) <| Yc [1,2,35,36,37,38,39,40,41,42,43,44,45,46,47,48,49,50,51] (opSF_ok _ _ b1 st1 mn1 o b2 st2 mn2 s hb1 ho hco hb2 hs2 hcs j hj hjo hmn hsp) <| Yh (j360 (97 :: j65 [])) <| Yn) [76,77,78,79,80,81,82,83,84,85,86,87,88,89,90] [3,20,91,92,93,94,95,96,97,98,99,100,101,102,103,104,105,106,107,108,109,110,111,112,113,114,115,116,117,118,119,120,121,122]
noncomputable def AN7 (P : Params) (arr : Array UInt8) (at_ : Int) (b1 : Array UInt8) (st1 mn1 : Int) (o b2 : Array UInt8) (st2 mn2 : Int) (s : Array UInt8) : CF := cf 670 F0_sh fun c x y => mkC (.call (.ref 1663) ⟨[.ref (A x 1)],[]⟩) [Q59 y x,Q46 x 2,Q111 P y x,Q47 y x 4 3,Q48 x,Q49 P y x,Q11 x 7,Q38 P y 7,Q0 x 9,Q1 P y 9 arr at_,Q87 x 11,Q88 P y x 11 12,Q89 y x 23 18 13 12,Q65 x 14,Q90 P y x 14 15,Q91 x 16,Q92 P y x 16 17,Q93,Q65 x 19,Q90 P y x 19 20,Q91 x 21,Q95 P y x 21 22,Q93,Q65 x 24,Q90 P y x 24 25,Q91 x 26,Q96 P y x 26 27,Q97 P y x 28 31 29 27 30,Q94 y 28,Q98 y 29,Q99 y 30,Q105 y x 31 32,Q65 x 33,Q106 P y 33,Q107 P y 34,Q50 x 36,Q51 P y x 36 37,Q69 y x 40 38 37,Q65 x 39,Q66 P y x 39 47,Q65 x 41,Q66 P y x 41 42,Q63 x 43,Q70 P y x 43 44 st1 mn1,Q64 x 45,Q71 P y x 45 46,Q72 b1,Q63 x 48,Q73 P y x 48 49 st2 mn2,Q64 x 50,Q71 P y x 50 51,Q74 b2] (3) (7) (fun u v => .ok (.ret (.none))) (fun u v => [(2,Q112 P y x v),(9,Q39 P y v 9 1 arr at_),(36,Q76 P y u 36 0)]) (fun u v => [Q82 x u 40 1,Q6 u 2,Q83 P v 3 2 4 5 6])
theorem AN7_ok (arr : Array UInt8) (at_ : Int) (n : Nat) (hn : at_ = n) (hs : arr.size ≤ 1000) (hx : arr[n]? = some 32) (h0 : arr[n + 1 + 0]? = some 115) (h1 : arr[n + 1 + 1]? = some 101) (h2 : arr[n + 1 + 2]? = some 97) (h3 : arr[n + 1 + 3]? = some 114) (h4 : arr[n + 1 + 4]? = some 99) (h5 : arr[n + 1 + 5]? = some 104) (hb : arr.size ≤ n + 1 + 6) (b1 : Array UInt8) (st1 mn1 : Int) (o b2 : Array UInt8) (st2 mn2 : Int) (s : Array UInt8) (hb1 : b1.size ≤ 1000) (ho : KBy.picked b1 (some st1) (some (st1 + mn1)) = o) (hco : o.size ≤ 1000) (hb2 : b2.size ≤ 1000) (hs2 : KBy.picked b2 (some st2) (some (st2 + mn2)) = s) (hcs : s.size ≤ 1000) (hsp : Ct w b' (spC o s none)) : Ct w b' (AN7 (PB w b') arr at_ b1 st1 mn1 o b2 st2 mn2 s) :=
 sW 6000 51 (Yh (j355 []) <| Yc [8,9,6,7] (tkSB_ok _ _ arr at_ n hn hs hx h0 h1 h2 h3 h4 h5 hb) <| Yh (j358 []) <| Yc [10,11,12,13,14,15,16,17,67,18,19,20,21,22,23,24,25,26,27,28,29,30,31] (fdS_ok _ _) <| Yh (j336 []) <| Yd [34] (bGet2_k _ _ 0 (by decide)) <| Yh (j359 []) <| Yd [73,37] (iaC_ok _ _ 2 (by decide)) <| Yh (j361 []) <| Yc [1,2,35,36,37,38,39,40,41,42,43,44,45,46,47,48,49,50,51] (opSN_ok _ _ b1 st1 mn1 o b2 st2 mn2 s hb1 ho hco hb2 hs2 hcs hsp) <| Yh (j360 (85 :: j65 [])) <| Yn) [76,77,78] [3,20,91,92,93,94,95]
section
variable (P : Params) (y : List Obj) (i0 : Nat)
noncomputable def Q113 : Obj := dd P y i0 ks4 [.str t548 (tT y i0 1),.bytes arA (tT y i0 3),.bool true,.int 3 348]
end
noncomputable def A2 (P : Params) (arr : Array UInt8) (at_ : Int) (b1 : Array UInt8) (st1 mn1 : Int) (o b2 : Array UInt8) (st2 mn2 : Int) (s : Array UInt8) : CF := cf 670 F0_sh fun c x y => mkC (.call (.ref 1663) ⟨[.ref (A x 1)],[]⟩) [Q59 y x,Q46 x 2,Q104 P y x,Q47 y x 4 3,Q48 x,Q49 P y x,Q11 x 7,Q38 P y 7,Q0 x 9,Q1 P y 9 arr at_,Q87 x 11,Q88 P y x 11 12,Q89 y x 23 18 13 12,Q65 x 14,Q90 P y x 14 15,Q91 x 16,Q92 P y x 16 17,Q93,Q65 x 19,Q90 P y x 19 20,Q91 x 21,Q95 P y x 21 22,Q93,Q65 x 24,Q90 P y x 24 25,Q91 x 26,Q96 P y x 26 27,Q102 P y x 28 27 29 31 30,Q94 y 28,Q98 y 29,Q99 y 30,Q105 y x 31 32,Q65 x 33,Q113 P y 33,Q107 P y 34,Q50 x 36,Q51 P y x 36 37,Q69 y x 40 38 37,Q65 x 39,Q66 P y x 39 47,Q65 x 41,Q66 P y x 41 42,Q63 x 43,Q70 P y x 43 44 st1 mn1,Q64 x 45,Q71 P y x 45 46,Q72 b1,Q63 x 48,Q73 P y x 48 49 st2 mn2,Q64 x 50,Q71 P y x 50 51,Q74 b2] (11) (25) (fun u v => .ok (.ret (.none))) (fun u v => [(2,Q108 P y x v),(9,Q42 P y v 9 1 arr at_),(36,Q76 P y u 36 0)]) (fun u v => [Q84 u 1 2 3,Q6 u 4,Q6 u 5,Q6 u 6,Q67 P y u v 7 41 8 7 9 10,Q67 P y u v 11 41 12 8 13 14,Q78 P v 15 2 16 17 18,Q23 u 9,Q23 u 10,Q85 P x v 19 44 20 3 21 4 st1 o s,Q86 P x v 22 44 23 5 24 6 st1 s])
theorem A2_ok (arr : Array UInt8) (at_ : Int) (n : Nat) (hn : at_ = n) (hs : arr.size ≤ 1000) (hx : arr[n]? = some 32) (h0 : arr[n + 1 + 0]? = some 97) (h1 : arr[n + 1 + 1]? = some 110) (h2 : arr[n + 1 + 2]? = some 99) (h3 : arr[n + 1 + 3]? = some 104) (h4 : arr[n + 1 + 4]? = some 111) (h5 : arr[n + 1 + 5]? = some 114) (h6 : arr[n + 1 + 6]? = some 115) (h7 : arr[n + 1 + 7]? = some 101) (h8 : arr[n + 1 + 8]? = some 97) (h9 : arr[n + 1 + 9]? = some 114) (h10 : arr[n + 1 + 10]? = some 99) (h11 : arr[n + 1 + 11]? = some 104) (hb : arr.size ≤ n + 1 + 12) (b1 : Array UInt8) (st1 mn1 : Int) (o b2 : Array UInt8) (st2 mn2 : Int) (s : Array UInt8) (hb1 : b1.size ≤ 1000) (ho : KBy.picked b1 (some st1) (some (st1 + mn1)) = o) (hco : o.size ≤ 1000) (hb2 : b2.size ≤ 1000) (hs2 : KBy.picked b2 (some st2) (some (st2 + mn2)) = s) (hcs : s.size ≤ 1000) (hjo : (s.size : Int) ≤ (o.size : Int)) (hmn : (o.size : Int) ≤ mn1) (heq : ((KBy.picked o none (some (s.size : Int))).toList == s.toList) = true) : Ct w b' (A2 (PB w b') arr at_ b1 st1 mn1 o b2 st2 mn2 s) :=
 sW 6000 51 (Yh (j355 []) <| Yc [8,9,6,7] (tkAB_ok _ _ arr at_ n hn hs hx h0 h1 h2 h3 h4 h5 h6 h7 h8 h9 h10 h11 hb) <| Yh (j358 []) <| Yc [10,11,12,13,14,15,16,17,67,18,19,20,21,22,23,24,25,26,27,28,29,30,31] (fdA_ok _ _) <| Yh (j336 []) <| Yd [34] (bGet2_k _ _ 1 (by decide)) <| Yh (j359 []) <| Yd [73,37] (iaC_ok _ _ 2 (by decide)) <| Yh (j361 []) <| Yc [1,2,35,36,37,38,39,40,41,42,43,44,45,46,47,48,49,50,51] (opAF_ok _ _ b1 st1 mn1 o b2 st2 mn2 s hb1 ho hco hb2 hs2 hcs hjo hmn heq) <| Yh (j360 (93 :: j65 [])) <| Yn) [76,77,78,79,80,81,82,83,84,85,86] [3,20,91,92,93,94,95,96,97,98,99,100,101,102,103,104,105,106,107,108,109,110,111,112,113]
noncomputable def AN2 (P : Params) (arr : Array UInt8) (at_ : Int) (b1 : Array UInt8) (st1 mn1 : Int) (o b2 : Array UInt8) (st2 mn2 : Int) (s : Array UInt8) : CF := cf 670 F0_sh fun c x y => mkC (.call (.ref 1663) ⟨[.ref (A x 1)],[]⟩) [Q59 y x,Q46 x 2,Q104 P y x,Q47 y x 4 3,Q48 x,Q49 P y x,Q11 x 7,Q38 P y 7,Q0 x 9,Q1 P y 9 arr at_,Q87 x 11,Q88 P y x 11 12,Q89 y x 23 18 13 12,Q65 x 14,Q90 P y x 14 15,Q91 x 16,Q92 P y x 16 17,Q93,Q65 x 19,Q90 P y x 19 20,Q91 x 21,Q95 P y x 21 22,Q93,Q65 x 24,Q90 P y x 24 25,Q91 x 26,Q96 P y x 26 27,Q102 P y x 28 27 29 31 30,Q94 y 28,Q98 y 29,Q99 y 30,Q105 y x 31 32,Q65 x 33,Q113 P y 33,Q107 P y 34,Q50 x 36,Q51 P y x 36 37,Q69 y x 40 38 37,Q65 x 39,Q66 P y x 39 47,Q65 x 41,Q66 P y x 41 42,Q63 x 43,Q70 P y x 43 44 st1 mn1,Q64 x 45,Q71 P y x 45 46,Q72 b1,Q63 x 48,Q73 P y x 48 49 st2 mn2,Q64 x 50,Q71 P y x 50 51,Q74 b2] (3) (7) (fun u v => .ok (.ret (.none))) (fun u v => [(2,Q108 P y x v),(9,Q42 P y v 9 1 arr at_),(36,Q76 P y u 36 0)]) (fun u v => [Q82 x u 40 1,Q6 u 2,Q83 P v 3 2 4 5 6])
theorem AN2_ok (arr : Array UInt8) (at_ : Int) (n : Nat) (hn : at_ = n) (hs : arr.size ≤ 1000) (hx : arr[n]? = some 32) (h0 : arr[n + 1 + 0]? = some 97) (h1 : arr[n + 1 + 1]? = some 110) (h2 : arr[n + 1 + 2]? = some 99) (h3 : arr[n + 1 + 3]? = some 104) (h4 : arr[n + 1 + 4]? = some 111) (h5 : arr[n + 1 + 5]? = some 114) (h6 : arr[n + 1 + 6]? = some 115) (h7 : arr[n + 1 + 7]? = some 101) (h8 : arr[n + 1 + 8]? = some 97) (h9 : arr[n + 1 + 9]? = some 114) (h10 : arr[n + 1 + 10]? = some 99) (h11 : arr[n + 1 + 11]? = some 104) (hb : arr.size ≤ n + 1 + 12) (b1 : Array UInt8) (st1 mn1 : Int) (o b2 : Array UInt8) (st2 mn2 : Int) (s : Array UInt8) (hb1 : b1.size ≤ 1000) (ho : KBy.picked b1 (some st1) (some (st1 + mn1)) = o) (hco : o.size ≤ 1000) (hb2 : b2.size ≤ 1000) (hs2 : KBy.picked b2 (some st2) (some (st2 + mn2)) = s) (hcs : s.size ≤ 1000) (heq : ((KBy.picked o none (some (s.size : Int))).toList == s.toList) = false) : Ct w b' (AN2 (PB w b') arr at_ b1 st1 mn1 o b2 st2 mn2 s) :=
 sW 6000 51 (Yh (j355 []) <| Yc [8,9,6,7] (tkAB_ok _ _ arr at_ n hn hs hx h0 h1 h2 h3 h4 h5 h6 h7 h8 h9 h10 h11 hb) <| Yh (j358 []) <| Yc [10,11,12,13,14,15,16,17,67,18,19,20,21,22,23,24,25,26,27,28,29,30,31] (fdA_ok _ _) <| Yh (j336 []) <| Yd [34] (bGet2_k _ _ 1 (by decide)) <| Yh (j359 []) <| Yd [73,37] (iaC_ok _ _ 2 (by decide)) <| Yh (j361 []) <| Yc [1,2,35,36,37,38,39,40,41,42,43,44,45,46,47,48,49,50,51] (opAN_ok _ _ b1 st1 mn1 o b2 st2 mn2 s hb1 ho hco hb2 hs2 hcs heq) <| Yh (j360 (85 :: j65 [])) <| Yn) [76,77,78] [3,20,91,92,93,94,95]
variable (w : World) (b' : Bool)
section
variable (P : Params) (y : List Obj) (x : List Nat) (v : List Nat) (i0 : Nat)
noncomputable def Q114 : Obj := dd P y 2 ks1 [.ref (tR y 2 1),.ref (A x 35),.ref (A x 10),.ref (A x 6),.ref (tR y 2 9),.ref (tR y 2 11),.none,.ref (tR y 2 15),.ref (A x 3),.ref (A x 34),.ref (A x 23),.ref (A x 18),.ref (A x 13),.none,.none,.none,.none,.none,.int 4 (tT y 2 37),.int 1 2007,.bool false,.bool false,.none,.none,.none,.none]
noncomputable def Q115 : Obj := dd P y i0 ks4 [.str t548 (tT y i0 1),.bytes #[112,111,112] (tT y i0 3),.bool true,.int 3 348]
noncomputable def Q116 : Obj := dd P y 2 ks1 [.ref (tR y 2 1),.ref (A x 35),.ref (A x 10),.ref (A x 6),.ref (tR y 2 9),.ref (tR y 2 11),.none,.ref (tR y 2 15),.ref (A x 3),.ref (A x 34),.ref (A x 23),.ref (A x 18),.ref (A x 13),.none,.none,.none,.none,.none,.int 5 (A v 0),.int 1 2007,.bool false,.bool false,.none,.none,.none,.ref (A x 32)]
end
noncomputable def F4 (P : Params) (arr : Array UInt8) (at_ : Int) : CF := cf 670 F0_sh fun c x y => mkC (.call (.ref 1663) ⟨[.ref (A x 1)],[]⟩) [Q59 y x,Q46 x 2,Q114 P y x,Q47 y x 4 3,Q48 x,Q49 P y x,Q11 x 7,Q38 P y 7,Q0 x 9,Q3 P y 9 arr at_,Q87 x 11,Q88 P y x 11 12,Q89 y x 23 18 13 12,Q65 x 14,Q90 P y x 14 15,Q91 x 16,Q92 P y x 16 17,Q93,Q65 x 19,Q90 P y x 19 20,Q91 x 21,Q95 P y x 21 22,Q93,Q65 x 24,Q90 P y x 24 25,Q91 x 26,Q96 P y x 26 27,Q103 P y x 28 27 29 30 31,Q94 y 28,Q98 y 29,Q99 y 30,Q105 y x 31 32,Q65 x 33,Q115 P y 33,Q107 P y 34,Q50 x 36,Q51 P y x 36 37,⟨.type "list",none,.seq #[.ref (tR y 37 0),.ref (tR y 37 1),.ref (tR y 37 2),.ref (tR y 37 3)] (oE y 37),#[]⟩] (0) (2) (fun u v => .ok (.ret (.none))) (fun u v => [(2,Q116 P y x v),(9,Q43 P y v 9 1 arr at_),(37,⟨.type "list",none,.seq #[.ref (tR y 37 0),.ref (tR y 37 1),.ref (tR y 37 2)] (oE y 37 + 1),#[]⟩)]) nN
theorem F4_ok (arr : Array UInt8) (at_ : Int) (n : Nat) (hn : at_ = n) (hs : arr.size ≤ 1000) (h0 : arr[n + 0 + 0]? = some 112) (h1 : arr[n + 0 + 1]? = some 111) (h2 : arr[n + 0 + 2]? = some 112) (hb : arr[n + 0 + 3]? = some 32) : Ct w b' (F4 (PB w b') arr at_) :=
 sW 6000 37 (Yh (j0 (44 :: j214 (45 :: j187 (46 :: j186 (46 :: j216 (48 :: j151 (47 :: j85 []))))))) <| Yc [8,9,6,7] (tkP_ok _ _ arr at_ n hn hs h0 h1 h2 hb) <| Yh (45 :: j188 (53 :: j27 (j309 (j96 (54 :: j191 (55 :: j220 (56 :: j280 (56 :: j1 (57 :: j46 (j309 (j148 (58 :: j218 [])))))))))))) <| Yc [10,11,12,13,14,15,16,17,53,18,19,20,21,22,23,24,25,26,27,28,29,30,31] (fdP_ok _ _) <| Yh (j450 (60 :: j12 (54 :: j252 (61 :: j154 (62 :: j154 (63 :: j281 [])))))) <| Yd [34] (bGet2_k _ _ 2 (by decide)) <| Yh (63 :: j251 (64 :: j247 [])) <| Yd [59,37] (iaC_ok _ _ 4 (by decide)) <| Yh (65 :: 66 :: j6 (63 :: j253 (67 :: j314 (68 :: j46 (j36 (j207 (69 :: j242 (43 :: 70 :: j162 (69 :: 41 :: j8 (42 :: 43 :: j353 (63 :: j59 (71 :: j65 [])))))))))))) <| Yn) [] [3,20]
section
variable (P : Params) (y : List Obj) (x : List Nat) (v : List Nat) (i0 : Nat)
noncomputable def Q117 : Obj := dd P y 2 ks1 [.ref (tR y 2 1),.ref (A x 35),.ref (A x 10),.ref (A x 6),.ref (tR y 2 9),.ref (tR y 2 11),.none,.ref (tR y 2 15),.ref (A x 3),.ref (A x 34),.ref (A x 23),.ref (A x 18),.ref (A x 13),.none,.none,.none,.none,.none,.int 5 (tT y 2 37),.int 1 2007,.bool false,.bool false,.none,.none,.none,.ref (A x 32)]
noncomputable def Q118 : Obj := ⟨.type "list",none,.seq #[.ref (tR y 37 0),.ref (tR y 37 1),.ref (tR y 37 2)] (oE y 37),#[]⟩
noncomputable def Q119 : Obj := dd P y 2 ks1 [.ref (tR y 2 1),.ref (A x 35),.ref (A x 10),.ref (A x 6),.ref (tR y 2 9),.ref (tR y 2 11),.none,.ref (tR y 2 15),.ref (A x 3),.ref (A x 34),.ref (A x 23),.ref (A x 18),.ref (A x 13),.none,.none,.none,.none,.none,.int 6 (A v 0),.int 1 2007,.bool false,.bool false,.none,.none,.none,.ref (A x 32)]
noncomputable def Q120 : Obj := ⟨.type "list",none,.seq #[.ref (tR y 37 0),.ref (tR y 37 1)] (oE y 37 + 1),#[]⟩
end
noncomputable def F5 (P : Params) (arr : Array UInt8) (at_ : Int) : CF := cf 670 F0_sh fun c x y => mkC (.call (.ref 1663) ⟨[.ref (A x 1)],[]⟩) [Q59 y x,Q46 x 2,Q117 P y x,Q47 y x 4 3,Q48 x,Q49 P y x,Q11 x 7,Q38 P y 7,Q0 x 9,Q1 P y 9 arr at_,Q87 x 11,Q88 P y x 11 12,Q89 y x 23 18 13 12,Q65 x 14,Q90 P y x 14 15,Q91 x 16,Q92 P y x 16 17,Q93,Q65 x 19,Q90 P y x 19 20,Q91 x 21,Q95 P y x 21 22,Q93,Q65 x 24,Q90 P y x 24 25,Q91 x 26,Q96 P y x 26 27,Q103 P y x 28 27 29 30 31,Q94 y 28,Q98 y 29,Q99 y 30,Q105 y x 31 32,Q65 x 33,Q115 P y 33,Q107 P y 34,Q50 x 36,Q51 P y x 36 37,Q118 y] (0) (2) (fun u v => .ok (.ret (.none))) (fun u v => [(2,Q119 P y x v),(9,Q43 P y v 9 1 arr at_),(37,Q120 y)]) nN
theorem F5_ok (arr : Array UInt8) (at_ : Int) (n : Nat) (hn : at_ = n) (hs : arr.size ≤ 1000) (h0 : arr[n + 0 + 0]? = some 112) (h1 : arr[n + 0 + 1]? = some 111) (h2 : arr[n + 0 + 2]? = some 112) (hb : arr[n + 0 + 3]? = some 32) : Ct w b' (F5 (PB w b') arr at_) :=
 sW 6000 37 (Yh (j0 (44 :: j214 (45 :: j187 (46 :: j186 (46 :: j216 (48 :: j151 (47 :: j85 []))))))) <| Yc [8,9,6,7] (tkP_ok _ _ arr at_ n hn hs h0 h1 h2 hb) <| Yh (45 :: j188 (53 :: j27 (j309 (j96 (54 :: j191 (55 :: j220 (56 :: j280 (56 :: j1 (57 :: j46 (j309 (j148 (58 :: j218 [])))))))))))) <| Yc [10,11,12,13,14,15,16,17,53,18,19,20,21,22,23,24,25,26,27,28,29,30,31] (fdP_ok _ _) <| Yh (j450 (60 :: j12 (54 :: j252 (61 :: j154 (62 :: j154 (63 :: j281 [])))))) <| Yd [34] (bGet2_k _ _ 2 (by decide)) <| Yh (63 :: j251 (64 :: j247 [])) <| Yd [59,37] (iaC_ok _ _ 3 (by decide)) <| Yh (65 :: 66 :: j6 (63 :: j253 (67 :: j314 (68 :: j46 (j36 (j207 (69 :: j242 (43 :: 70 :: j162 (69 :: 41 :: j8 (42 :: 43 :: j353 (63 :: j59 (71 :: j65 [])))))))))))) <| Yn) [] [3,20]
section
variable (y : List Obj) (i0 : Nat)
noncomputable def Q121 : Obj := ⟨.type "list",none,.seq #[.ref (tR y 37 0),.ref (tR y 37 1)] (oE y 37),#[]⟩
end
noncomputable def F6 (P : Params) (arr : Array UInt8) (at_ : Int) : CF := cf 670 F0_sh fun c x y => mkC (.call (.ref 1663) ⟨[.ref (A x 1)],[]⟩) [Q59 y x,Q46 x 2,dd P y 2 ks1 [.ref (tR y 2 1),.ref (A x 35),.ref (A x 10),.ref (A x 6),.ref (tR y 2 9),.ref (tR y 2 11),.none,.ref (tR y 2 15),.ref (A x 3),.ref (A x 34),.ref (A x 23),.ref (A x 18),.ref (A x 13),.none,.none,.none,.none,.none,.int 6 (tT y 2 37),.int 1 2007,.bool false,.bool false,.none,.none,.none,.ref (A x 32)],Q47 y x 4 3,Q48 x,Q49 P y x,Q11 x 7,Q38 P y 7,Q0 x 9,Q1 P y 9 arr at_,Q87 x 11,Q88 P y x 11 12,Q89 y x 23 18 13 12,Q65 x 14,Q90 P y x 14 15,Q91 x 16,Q92 P y x 16 17,Q93,Q65 x 19,Q90 P y x 19 20,Q91 x 21,Q95 P y x 21 22,Q93,Q65 x 24,Q90 P y x 24 25,Q91 x 26,Q96 P y x 26 27,Q103 P y x 28 27 29 30 31,Q94 y 28,Q98 y 29,Q99 y 30,Q105 y x 31 32,Q65 x 33,Q115 P y 33,Q107 P y 34,Q50 x 36,Q51 P y x 36 37,Q121 y] (0) (2) (fun u v => .ok (.ret (.none))) (fun u v => [(2,dd P y 2 ks1 [.ref (tR y 2 1),.ref (A x 35),.ref (A x 10),.ref (A x 6),.ref (tR y 2 9),.ref (tR y 2 11),.none,.ref (tR y 2 15),.ref (A x 3),.ref (A x 34),.ref (A x 23),.ref (A x 18),.ref (A x 13),.none,.none,.none,.none,.none,.int 7 (A v 0),.int 1 2007,.bool false,.bool false,.none,.none,.none,.ref (A x 32)]),(9,Q43 P y v 9 1 arr at_),(37,⟨.type "list",none,.seq #[.ref (tR y 37 0)] (oE y 37 + 1),#[]⟩)]) nN
theorem F6_ok (arr : Array UInt8) (at_ : Int) (n : Nat) (hn : at_ = n) (hs : arr.size ≤ 1000) (h0 : arr[n + 0 + 0]? = some 112) (h1 : arr[n + 0 + 1]? = some 111) (h2 : arr[n + 0 + 2]? = some 112) (hb : arr[n + 0 + 3]? = some 32) : Ct w b' (F6 (PB w b') arr at_) :=
 sW 6000 37 (Yh (j0 (44 :: j214 (45 :: j187 (46 :: j186 (46 :: j216 (48 :: j151 (47 :: j85 []))))))) <| Yc [8,9,6,7] (tkP_ok _ _ arr at_ n hn hs h0 h1 h2 hb) <| Yh (45 :: j188 (53 :: j27 (j309 (j96 (54 :: j191 (55 :: j220 (56 :: j280 (56 :: j1 (57 :: j46 (j309 (j148 (58 :: j218 [])))))))))))) <| Yc [10,11,12,13,14,15,16,17,53,18,19,20,21,22,23,24,25,26,27,28,29,30,31] (fdP_ok _ _) <| Yh (j450 (60 :: j12 (54 :: j252 (61 :: j154 (62 :: j154 (63 :: j281 [])))))) <| Yd [34] (bGet2_k _ _ 2 (by decide)) <| Yh (63 :: j251 (64 :: j247 [])) <| Yd [59,37] (iaC_ok _ _ 2 (by decide)) <| Yh (65 :: 66 :: j6 (63 :: j253 (67 :: j314 (68 :: j46 (j36 (j207 (69 :: j242 (43 :: 70 :: j162 (69 :: 41 :: j8 (42 :: 43 :: j353 (63 :: j59 (71 :: j65 [])))))))))))) <| Yn) [] [3,20]
noncomputable def A4 (P : Params) (arr : Array UInt8) (at_ : Int) : CF := cf 670 F0_sh fun c x y => mkC (.call (.ref 1663) ⟨[.ref (A x 1)],[]⟩) [Q59 y x,Q46 x 2,Q114 P y x,Q47 y x 4 3,Q48 x,Q49 P y x,Q11 x 7,Q38 P y 7,Q0 x 9,Q3 P y 9 arr at_,Q87 x 11,Q88 P y x 11 12,Q89 y x 23 18 13 12,Q65 x 14,Q90 P y x 14 15,Q91 x 16,Q92 P y x 16 17,Q93,Q65 x 19,Q90 P y x 19 20,Q91 x 21,Q95 P y x 21 22,Q93,Q65 x 24,Q90 P y x 24 25,Q91 x 26,Q96 P y x 26 27,Q103 P y x 28 27 29 30 31,Q94 y 28,Q98 y 29,Q99 y 30,Q105 y x 31 32,Q65 x 33,Q115 P y 33,Q107 P y 34,Q50 x 36,Q51 P y x 36 37,Q118 y] (0) (2) (fun u v => .ok (.ret (.none))) (fun u v => [(2,Q116 P y x v),(9,Q43 P y v 9 1 arr at_),(37,Q120 y)]) nN
theorem A4_ok (arr : Array UInt8) (at_ : Int) (n : Nat) (hn : at_ = n) (hs : arr.size ≤ 1000) (h0 : arr[n + 0 + 0]? = some 112) (h1 : arr[n + 0 + 1]? = some 111) (h2 : arr[n + 0 + 2]? = some 112) (hb : arr[n + 0 + 3]? = some 32) : Ct w b' (A4 (PB w b') arr at_) :=
 sW 6000 37 (Yh (j0 (44 :: j214 (45 :: j187 (46 :: j186 (46 :: j216 (48 :: j151 (47 :: j85 []))))))) <| Yc [8,9,6,7] (tkP_ok _ _ arr at_ n hn hs h0 h1 h2 hb) <| Yh (45 :: j188 (53 :: j27 (j309 (j96 (54 :: j191 (55 :: j220 (56 :: j280 (56 :: j1 (57 :: j46 (j309 (j148 (58 :: j218 [])))))))))))) <| Yc [10,11,12,13,14,15,16,17,53,18,19,20,21,22,23,24,25,26,27,28,29,30,31] (fdP_ok _ _) <| Yh (j450 (60 :: j12 (54 :: j252 (61 :: j154 (62 :: j154 (63 :: j281 [])))))) <| Yd [34] (bGet2_k _ _ 2 (by decide)) <| Yh (63 :: j251 (64 :: j247 [])) <| Yd [59,37] (iaC_ok _ _ 3 (by decide)) <| Yh (65 :: 66 :: j6 (63 :: j253 (67 :: j314 (68 :: j46 (j36 (j207 (69 :: j242 (43 :: 70 :: j162 (69 :: 41 :: j8 (42 :: 43 :: j353 (63 :: j59 (71 :: j65 [])))))))))))) <| Yn) [] [3,20]
noncomputable def A5 (P : Params) (arr : Array UInt8) (at_ : Int) : CF := cf 670 F0_sh fun c x y => mkC (.call (.ref 1663) ⟨[.ref (A x 1)],[]⟩) [Q59 y x,Q46 x 2,Q117 P y x,Q47 y x 4 3,Q48 x,Q49 P y x,Q11 x 7,Q38 P y 7,Q0 x 9,Q1 P y 9 arr at_,Q87 x 11,Q88 P y x 11 12,Q89 y x 23 18 13 12,Q65 x 14,Q90 P y x 14 15,Q91 x 16,Q92 P y x 16 17,Q93,Q65 x 19,Q90 P y x 19 20,Q91 x 21,Q95 P y x 21 22,Q93,Q65 x 24,Q90 P y x 24 25,Q91 x 26,Q96 P y x 26 27,Q103 P y x 28 27 29 30 31,Q94 y 28,Q98 y 29,Q99 y 30,Q105 y x 31 32,Q65 x 33,Q115 P y 33,Q107 P y 34,Q50 x 36,Q51 P y x 36 37,Q121 y] (0) (2) (fun u v => .ok (.ret (.none))) (fun u v => [(2,Q119 P y x v),(9,Q43 P y v 9 1 arr at_),(37,⟨.type "list",none,.seq #[.ref (tR y 37 0)] (oE y 37 + 1),#[]⟩)]) nN
theorem A5_ok (arr : Array UInt8) (at_ : Int) (n : Nat) (hn : at_ = n) (hs : arr.size ≤ 1000) (h0 : arr[n + 0 + 0]? = some 112) (h1 : arr[n + 0 + 1]? = some 111) (h2 : arr[n + 0 + 2]? = some 112) (hb : arr[n + 0 + 3]? = some 32) : Ct w b' (A5 (PB w b') arr at_) :=
 sW 6000 37 (Yh (j0 (44 :: j214 (45 :: j187 (46 :: j186 (46 :: j216 (48 :: j151 (47 :: j85 []))))))) <| Yc [8,9,6,7] (tkP_ok _ _ arr at_ n hn hs h0 h1 h2 hb) <| Yh (45 :: j188 (53 :: j27 (j309 (j96 (54 :: j191 (55 :: j220 (56 :: j280 (56 :: j1 (57 :: j46 (j309 (j148 (58 :: j218 [])))))))))))) <| Yc [10,11,12,13,14,15,16,17,53,18,19,20,21,22,23,24,25,26,27,28,29,30,31] (fdP_ok _ _) <| Yh (j450 (60 :: j12 (54 :: j252 (61 :: j154 (62 :: j154 (63 :: j281 [])))))) <| Yd [34] (bGet2_k _ _ 2 (by decide)) <| Yh (63 :: j251 (64 :: j247 [])) <| Yd [59,37] (iaC_ok _ _ 2 (by decide)) <| Yh (65 :: 66 :: j6 (63 :: j253 (67 :: j314 (68 :: j46 (j36 (j207 (69 :: j242 (43 :: 70 :: j162 (69 :: 41 :: j8 (42 :: 43 :: j353 (63 :: j59 (71 :: j65 [])))))))))))) <| Yn) [] [3,20]
variable (w : World) (b' : Bool)
noncomputable def F7 (P : Params) (arr : Array UInt8) (at_ end_ u : Int) (l : Array UInt8) : CF := cf 670 F0_sh fun c x y => mkC (.call (.ref 1663) ⟨[.ref (A x 1)],[]⟩) [Q59 y x,Q46 x 2,dd P y 2 ks1 [.ref (A x 10),.ref (A x 16),.ref (tR y 2 5),.ref (A x 6),.ref (A x 12),.ref (tR y 2 11),.none,.ref (tR y 2 15),.ref (A x 3),.ref (tR y 2 19),.ref (tR y 2 21),.ref (tR y 2 23),.ref (tR y 2 25),.none,.none,.none,.none,.none,.int 7 (tT y 2 37),.int 1 2007,.bool false,.bool false,.none,.none,.none,.ref (tR y 2 51)],Q47 y x 4 3,Q48 x,Q49 P y x,Q11 x 7,Q12 P y x 7 10,Q0 x 9,Q1 P y 9 arr at_,Q13 x 11,Q33 P y x 11 12 14 15 u,Q15 x 13,Q16 P y 13,Q17 y 14,Q34 y 15,Q50 x 17,Q51 P y x 17 18,Q60 y] (8) (21) (fun ad v => .ok (.ret (.none))) (fun ad v => [(2,dd P y 2 ks1 [.ref (A x 10),.ref (A x 16),.ref (tR y 2 5),.ref (A x 6),.ref (A x 12),.ref (tR y 2 11),.none,.ref (tR y 2 15),.ref (A x 3),.ref (tR y 2 19),.ref (tR y 2 21),.ref (tR y 2 23),.ref (tR y 2 25),.none,.none,.none,.none,.none,.int 8 (A v 0),.int 1 2007,.bool false,.bool false,.none,.none,.none,.none]),(9,Q10 P y v 9 1 arr end_),(11,Q35 P y x v 11 12 14 15 2 3 u l),(15,Q36 y ad v 15 3 0),(18,Q61 y ad)]) (fun ad v => [Q21 v 4 5 l,Q6 ad 2,Q22 P ad v 10 6 11 3 12 13,Q23 ad 4,Q24 P ad v 14 5 15 7 16 8 l,Q25 ad 6,Q37 P ad v 17 3 18 7 19 20 9,Q27 l])
theorem F7_ok (arr : Array UInt8) (at_ end_ u : Int) (l : Array UInt8) (n : Nat) (hn : at_ = n) (hs : arr.size ≤ 1000) (h0 : arr[n]? = some 40) (hl : l.size ≤ 1000) (hu : 0 ≤ u ∧ u ≤ 100000) (hp : Ct w b' (strC0 (PB w b') arr (at_ + 1) end_ #[] l)) : Ct w b' (F7 (PB w b') arr at_ end_ u l) :=
 sW 6000 18 (Yh (j273 (j214 (26 :: j187 (27 :: j186 (27 :: j216 (29 :: j151 (28 :: j85 []))))))) <| Yc [8,9,6,7,10,11,12,13,14,15] (tkS5_ok _ _ arr at_ end_ u l n hn hs h0 hl hu hp) <| Yh (26 :: j188 (40 :: j27 (32 :: j8 (34 :: 4 :: j59 (41 :: j122 (22 :: j37 (23 :: 41 :: j1 (42 :: j211 (24 :: j52 (j235 (41 :: j59 (43 :: j65 [])))))))))))) <| Yn) [27,26,28,29,30,31,32,33] [3,20,21,22,23,24,25,26,27,28,29,30,31,32,33,34,35,36,37,38,39]
noncomputable def A6 (P : Params) (arr : Array UInt8) (at_ end_ u : Int) (l : Array UInt8) : CF := cf 670 F0_sh fun c x y => mkC (.call (.ref 1663) ⟨[.ref (A x 1)],[]⟩) [Q59 y x,Q46 x 2,dd P y 2 ks1 [.ref (A x 10),.ref (A x 16),.ref (tR y 2 5),.ref (A x 6),.ref (A x 12),.ref (tR y 2 11),.none,.ref (tR y 2 15),.ref (A x 3),.ref (tR y 2 19),.ref (tR y 2 21),.ref (tR y 2 23),.ref (tR y 2 25),.none,.none,.none,.none,.none,.int 6 (tT y 2 37),.int 1 2007,.bool false,.bool false,.none,.none,.none,.ref (tR y 2 51)],Q47 y x 4 3,Q48 x,Q49 P y x,Q11 x 7,Q12 P y x 7 10,Q0 x 9,Q1 P y 9 arr at_,Q13 x 11,Q33 P y x 11 12 14 15 u,Q15 x 13,Q16 P y 13,Q17 y 14,Q34 y 15,Q50 x 17,Q51 P y x 17 18,Q60 y] (8) (21) (fun ad v => .ok (.ret (.none))) (fun ad v => [(2,dd P y 2 ks1 [.ref (A x 10),.ref (A x 16),.ref (tR y 2 5),.ref (A x 6),.ref (A x 12),.ref (tR y 2 11),.none,.ref (tR y 2 15),.ref (A x 3),.ref (tR y 2 19),.ref (tR y 2 21),.ref (tR y 2 23),.ref (tR y 2 25),.none,.none,.none,.none,.none,.int 7 (A v 0),.int 1 2007,.bool false,.bool false,.none,.none,.none,.none]),(9,Q10 P y v 9 1 arr end_),(11,Q35 P y x v 11 12 14 15 2 3 u l),(15,Q36 y ad v 15 3 0),(18,Q61 y ad)]) (fun ad v => [Q21 v 4 5 l,Q6 ad 2,Q22 P ad v 10 6 11 3 12 13,Q23 ad 4,Q24 P ad v 14 5 15 7 16 8 l,Q25 ad 6,Q37 P ad v 17 3 18 7 19 20 9,Q27 l])
theorem A6_ok (arr : Array UInt8) (at_ end_ u : Int) (l : Array UInt8) (n : Nat) (hn : at_ = n) (hs : arr.size ≤ 1000) (h0 : arr[n]? = some 40) (hl : l.size ≤ 1000) (hu : 0 ≤ u ∧ u ≤ 100000) (hp : Ct w b' (strC0 (PB w b') arr (at_ + 1) end_ #[] l)) : Ct w b' (A6 (PB w b') arr at_ end_ u l) :=
 sW 6000 18 (Yh (j273 (j214 (26 :: j187 (27 :: j186 (27 :: j216 (29 :: j151 (28 :: j85 []))))))) <| Yc [8,9,6,7,10,11,12,13,14,15] (tkS5_ok _ _ arr at_ end_ u l n hn hs h0 hl hu hp) <| Yh (26 :: j188 (40 :: j27 (32 :: j8 (34 :: 4 :: j59 (41 :: j122 (22 :: j37 (23 :: 41 :: j1 (42 :: j211 (24 :: j52 (j235 (41 :: j59 (43 :: j65 [])))))))))))) <| Yn) [27,26,28,29,30,31,32,33] [3,20,21,22,23,24,25,26,27,28,29,30,31,32,33,34,35,36,37,38,39]
noncomputable def F9 (P : Params) (arr : Array UInt8) (at_ : Int) : CF := cf 670 F0_sh fun c x y => mkC (.call (.ref 1663) ⟨[.ref (A x 1)],[]⟩) [Q59 y x,Q46 x 2,dd P y 2 ks1 [.ref (tR y 2 1),.ref (tR y 2 3),.ref (tR y 2 5),.ref (A x 6),.ref (tR y 2 9),.ref (tR y 2 11),.none,.ref (tR y 2 15),.ref (A x 3),.ref (tR y 2 19),.ref (tR y 2 21),.ref (tR y 2 23),.ref (tR y 2 25),.none,.none,.none,.none,.none,.int 9 (tT y 2 37),.int 1 2007,.bool false,.bool false,.none,.none,.none,.ref (tR y 2 51)],Q47 y x 4 3,Q48 x,Q49 P y x,Q11 x 7,Q38 P y 7,Q0 x 9,Q1 P y 9 arr at_] (0) (1) (fun u v => .ok (.ret (.none))) (fun u v => [(2,dd P y 2 ks1 [.ref (tR y 2 1),.ref (tR y 2 3),.ref (tR y 2 5),.ref (A x 6),.ref (tR y 2 9),.ref (tR y 2 11),.none,.ref (tR y 2 15),.ref (A x 3),.ref (tR y 2 19),.ref (tR y 2 21),.ref (tR y 2 23),.ref (tR y 2 25),.none,.none,.none,.none,.none,.int 10 (A v 0),.int 1 2007,.bool false,.bool false,.none,.none,.none,.none]),(3,Q62 y)]) nN
theorem F9_ok (arr : Array UInt8) (at_ : Int) (n : Nat) (hn : at_ = n) (hs : arr.size ≤ 1000) (hx : arr.size ≤ n) : Ct w b' (F9 (PB w b') arr at_) :=
 sW 6000 9 (Yh (j0 (16 :: j214 (17 :: j187 (18 :: j186 (18 :: j216 (20 :: j151 (19 :: j85 []))))))) <| Yc [8,9] (tkE_ok _ _ arr at_ n hn hs hx) <| Yh (17 :: j188 (23 :: j434 (j36 (j236 (24 :: j233 (25 :: j233 (23 :: j3 (j60 (4 :: 9 :: j42 []))))))))) <| Yc [4] (eqII_ok _ _) <| Yh (23 :: j101 (j133 (j12 (17 :: j165 [])))) <| Yn) [] [3]
noncomputable def A8 (P : Params) (arr : Array UInt8) (at_ : Int) : CF := cf 670 F0_sh fun c x y => mkC (.call (.ref 1663) ⟨[.ref (A x 1)],[]⟩) [Q59 y x,Q46 x 2,dd P y 2 ks1 [.ref (tR y 2 1),.ref (tR y 2 3),.ref (tR y 2 5),.ref (A x 6),.ref (tR y 2 9),.ref (tR y 2 11),.none,.ref (tR y 2 15),.ref (A x 3),.ref (tR y 2 19),.ref (tR y 2 21),.ref (tR y 2 23),.ref (tR y 2 25),.none,.none,.none,.none,.none,.int 8 (tT y 2 37),.int 1 2007,.bool false,.bool false,.none,.none,.none,.ref (tR y 2 51)],Q47 y x 4 3,Q48 x,Q49 P y x,Q11 x 7,Q38 P y 7,Q0 x 9,Q1 P y 9 arr at_] (0) (1) (fun u v => .ok (.ret (.none))) (fun u v => [(2,dd P y 2 ks1 [.ref (tR y 2 1),.ref (tR y 2 3),.ref (tR y 2 5),.ref (A x 6),.ref (tR y 2 9),.ref (tR y 2 11),.none,.ref (tR y 2 15),.ref (A x 3),.ref (tR y 2 19),.ref (tR y 2 21),.ref (tR y 2 23),.ref (tR y 2 25),.none,.none,.none,.none,.none,.int 9 (A v 0),.int 1 2007,.bool false,.bool false,.none,.none,.none,.none]),(3,Q62 y)]) nN
theorem A8_ok (arr : Array UInt8) (at_ : Int) (n : Nat) (hn : at_ = n) (hs : arr.size ≤ 1000) (hx : arr.size ≤ n) : Ct w b' (A8 (PB w b') arr at_) :=
 sW 6000 9 (Yh (j0 (16 :: j214 (17 :: j187 (18 :: j186 (18 :: j216 (20 :: j151 (19 :: j85 []))))))) <| Yc [8,9] (tkE_ok _ _ arr at_ n hn hs hx) <| Yh (17 :: j188 (23 :: j434 (j36 (j236 (24 :: j233 (25 :: j233 (23 :: j3 (j60 (4 :: 9 :: j42 []))))))))) <| Yc [4] (eqII_ok _ _) <| Yh (23 :: j101 (j133 (j12 (17 :: j165 [])))) <| Yn) [] [3]
theorem toArray_iff {a b : Array UInt8} (h : a.toList = b.toList) : a = b := by
  cases a; cases b; cases h; rfl
theorem strI (w : World) (b' : Bool) (arr : Array UInt8) (hs : arr.size ≤ 1000) (ls : List UInt8) (n : Nat) (at_ end_ : Int) (ha : at_ = n) (he : end_ = (n + ls.length + 1 : Nat)) (hl : ∀ x ∈ ls,Letter x) (hx : ∀ i,i < ls.length → arr[n + i]? = ls[i]?) (hc : arr[n + ls.length]? = some 41) (hz : ls.length ≤ 999) :
  Ct w b' (strC0 (PB w b') arr at_ end_ #[] ls.toArray) := by
 subst ha he
 exact strC0_all w b' arr hs ls n hl hx hc hz
theorem clip_n (n : Nat) (x : Int) (k : Nat) (h : x = k) : clipAt n x = min k n := by subst h; exact clipAt_nat n k
theorem pick0 (l : Array UInt8) : KBy.picked l (some 0) (some (0 + (l.size : Int))) = l := by
 apply toArray_iff
 rw [KBc.picked_eq]
 simp only [Option.elim]
 rw [clip_n l.size 0 0 rfl,clip_n l.size (0 + (l.size : Int)) l.size (by omega)]
 simp [List.take_of_length_le]
theorem L97 : ∀ x ∈ ([97] : List UInt8),Letter x := fun x hx => by
  rw [List.mem_singleton.mp hx]; exact Or.inl rfl
theorem L97_98 : ∀ x ∈ ([97,98] : List UInt8),Letter x := fun x hx => by
 rcases List.mem_cons.mp hx with rfl | hx
 · exact Or.inl rfl
 · rw [List.mem_singleton.mp hx]; exact Or.inr (Or.inl rfl)
variable (w : World) (b' : Bool)
noncomputable def LRF_sh (l : List (Code × Pos)) : List (Code × Pos) := [shF (nth' l 0),shB "claim.caller" (nth' l 1)]
section
variable (P : Params) (y : List Obj) (x : List Nat) (u : List Nat) (v : List Nat) (i0 i1 i2 i3 : Nat)
noncomputable def Q122 : Obj := dd P y 2 ks1 [.ref (A x 8),.ref (A x 12),.ref (A x 15),.ref (A x 6),.ref (A x 4),.ref (tR y 2 11),.none,.ref (tR y 2 15),.ref (A x 3),.ref (A x 39),.ref (A x 28),.ref (A x 23),.ref (A x 18),.none,.none,.none,.none,.none,.int 0 (tT y 2 37),.int 1 2007,.bool false,.bool false,.none,.none,.none,.none]
noncomputable def Q123 : Obj := dd P y 9 ks0 [.ref (A x 4),.bool false,.ref (A x 10),.ref (tR y 9 7),.ref (A x 11),.ref (tR y 9 11),.int 3200 (tT y 9 13),.int 12800 (tT y 9 15),.int 3 (tT y 9 17),.int 0 (tT y 9 19)]
noncomputable def Q124 : Obj := dd P y 2 ks1 [.ref (A x 8),.ref (A x 12),.ref (A x 15),.ref (A x 6),.ref (A x 4),.ref (tR y 2 11),.none,.ref (tR y 2 15),.ref (A x 3),.ref (A x 39),.ref (A x 28),.ref (A x 23),.ref (A x 18),.none,.none,.none,.none,.none,.int 4 (A v 0),.int 1 2007,.bool false,.bool false,.none,.none,.none,.none]
noncomputable def Q125 : Obj := ⟨.type "list",none,.seq #[] (oE y 3 + 2),#[]⟩
noncomputable def Q126 (l1 : Array UInt8) (l2 : Array UInt8) : Obj := dd P y 9 ks0 [.ref (A x 4),.bool false,.ref (A x 10),.ref (tR y 9 7),.ref (A x 11),.ref (tR y 9 11),.int (3200 + (l1.size : Int) + (l2.size : Int)) (A v 1),.int 12800 (tT y 9 15),.int 5 (A v 2),.int 0 (tT y 9 19)]
noncomputable def Q127 : Obj := ⟨.type "dict",none,.dict #[⟨1,.int 1 (tT y 11 0),.ref (tR y 11 1)⟩,⟨2,.int 2 (tT y 11 2),.ref (tR y 11 3)⟩,⟨3,.int 3 (tT y 11 4),.ref (tR y 11 5)⟩,⟨4,.int 4 (A v 3),.ref (A u 1)⟩,⟨5,.int 5 (A v 2),.ref (A u 2)⟩] 5,#[]⟩
noncomputable def Q128 : Obj := ⟨.type "list",none,.seq #[.ref (A u 4),.ref (A u 5)] (oE y 14 + 2),#[]⟩
noncomputable def Q129 (l1 : Array UInt8) : Obj := ⟨.type "tuple",none,.seq #[.int (l1.size : Int) (A v 9),.bool false,.int 0 (A v 10)] 0,#[]⟩
noncomputable def Q130 (l2 : Array UInt8) : Obj := ⟨.type "tuple",none,.seq #[.int (l2.size : Int) (A v 11),.bool false,.int 0 (A v 12)] 0,#[]⟩
noncomputable def Q131 (l1 : Array UInt8) : Obj := ⟨.type "dict",none,.dict #[K P (.str t541 (A v i0)) (.ref (A u i1)),K P (.str t566 (A v i2)) (.int 0 (A v 18)),K P (.str t335 (A v i3)) (.int (l1.size : Int) (A v 19))] 3,#[]⟩
noncomputable def Q132 (l2 : Array UInt8) : Obj := ⟨.type "dict",none,.dict #[K P (.str t541 (A v i0)) (.ref (A u i1)),K P (.str t566 (A v i2)) (.int 0 (A v 20)),K P (.str t335 (A v i3)) (.int (l2.size : Int) (A v 21))] 3,#[]⟩
noncomputable def Q133 (l1 : Array UInt8) : Obj := ⟨.type "bytearray",none,.bytearray l1 0,#[]⟩
noncomputable def Q134 (l2 : Array UInt8) : Obj := ⟨.type "bytearray",none,.bytearray l2 0,#[]⟩
end
noncomputable def LRF (P : Params) (arr : Array UInt8) (e1 e2 : Int) (l1 l2 : Array UInt8) (j : Int) : CF := cf 660 LRF_sh fun c x y => mkC (.call (.ref 1848) ⟨[.ref (A x 1),.bytes arr (cT c 1)],[]⟩) [Q45 x,Q46 x 2,Q122 P y x,Q17 y 3,Q15 x 5,Q16 P y 5,Q11 x 7,Q12 P y x 7 8,Q13 x 9,Q123 P y x,Q17 y 10,Q18 y 11,Q50 x 13,Q51 P y x 13 14,Q17 y 14,Q87 x 16,Q88 P y x 16 17,Q89 y x 28 23 18 17,Q65 x 19,Q90 P y x 19 20,Q91 x 21,Q92 P y x 21 22,Q93,Q65 x 24,Q90 P y x 24 25,Q91 x 26,Q95 P y x 26 27,Q93,Q65 x 29,Q90 P y x 29 30,Q91 x 31,Q96 P y x 31 32,Q97 P y x 33 36 34 32 35,Q94 y 33,Q98 y 34,Q99 y 35,Q105 y x 36 37,Q65 x 38,Q106 P y 38,Q107 P y 39] (37) (77) (fun u v => .ok (.ret (.none))) (fun u v => [(0,Q52 x u),(2,Q124 P y x v),(3,Q125 y),(9,Q126 P y x v l1 l2),(11,Q127 y u v),(13,Q76 P y u 13 3),(14,Q128 y u)]) (fun u v => [Q53 u v 4 5 6 6 7 8 9 10 7 8,Q129 v l1,Q130 v l2,Q77 u 11 12 13 14,Q6 u 15,Q6 u 16,Q54 v 13,Q55,Q56 v 14,Q57,Q58,Q6 u 17,Q6 u 18,Q6 u 19,Q6 u 20,Q22 P u v 30 15 31 21 32 33,Q22 P u v 34 16 35 22 36 37,Q22 P u v 38 15 39 23 40 41,Q22 P u v 42 15 43 24 44 45,Q22 P u v 46 15 47 25 48 49,Q78 P v 50 17 51 52 53,Q23 u 26,Q23 u 27,Q23 u 28,Q23 u 29,Q23 u 30,Q131 P u v 54 31 55 56 l1,Q132 P u v 57 32 58 59 l2,⟨.type "dict",none,.dict #[K P (.str t541 (A v 60)) (.ref (A u 31)),K P (.str t566 (A v 61)) (.int (0 + (j + (l2.size : Int))) (A v 22)),K P (.str t335 (A v 62)) (.int ((l1.size : Int) - (j + (l2.size : Int))) (A v 23))] 3,#[]⟩,⟨.type "dict",none,.dict #[K P (.str t541 (A v 63)) (.ref (A u 31)),K P (.str t566 (A v 64)) (.int (0 + j) (A v 24)),K P (.str t335 (A v 65)) (.int (l2.size : Int) (A v 25))] 3,#[]⟩,⟨.type "dict",none,.dict #[K P (.str t541 (A v 66)) (.ref (A u 31)),K P (.str t566 (A v 67)) (.int (0 + 0) (A v 26)),K P (.str t335 (A v 68)) (.int j (A v 27))] 3,#[]⟩,Q25 u 33,Q25 u 34,Q26 P u v 69 3 70 35 71 72 28,Q32 P u v 73 2 74 36 75 76 29,Q133 l1,Q134 l2])
theorem LRF_ok (arr : Array UInt8) (e1 e2 : Int) (l1 l2 : Array UInt8) (n1 n2 : Nat) (he1 : e1 = n1) (he2 : e2 = n2) (hs : arr.size ≤ 1000) (hl1 : l1.size ≤ 1000) (hl2 : l2.size ≤ 1000) (g0 : arr[0]? = some 40) (hp1 : Ct w b' (strC0 (PB w b') arr (0 + 1) e1 #[] l1)) (g1 : arr[n1]? = some 32) (g2 : arr[n1 + 1]? = some 40) (hp2 : Ct w b' (strC0 (PB w b') arr (e1 + 1 + 1) e2 #[] l2)) (hx : arr[n2]? = some 32) (h0 : arr[n2 + 1 + 0]? = some 115) (h1 : arr[n2 + 1 + 1]? = some 101) (h2 : arr[n2 + 1 + 2]? = some 97) (h3 : arr[n2 + 1 + 3]? = some 114) (h4 : arr[n2 + 1 + 4]? = some 99) (h5 : arr[n2 + 1 + 5]? = some 104) (hb : arr.size ≤ n2 + 1 + 6) (j : Int) (hj : 0 ≤ j) (hjo : j + (l2.size : Int) ≤ (l1.size : Int)) (hsp : Ct w b' (spC l1 l2 (some j))) : Ct w b' (LRF (PB w b') arr e1 e2 l1 l2 j) :=
 sW 6000 39 (Yh (j0 (46 :: j352 (47 :: j277 (49 :: j90 (50 :: j107 (48 :: j239 (52 :: j90 (53 :: j276 (51 :: j243 (54 :: j348 (54 :: j346 (47 :: j343 (55 :: j389 []))))))))))))) <| Yc [0,1,2,3,46,45,6,7,43,42,8,9,4,5,10,11,12,13,14] (F0_ok _ _ arr 0 e1 3200 l1 0 rfl hs g0 hl1 (by omega) hp1) <| Yh (j261 []) <| YC [0,1,2,3,46,45,6,7,43,42,8,9,4,5,10,11,12,13,14] (F1 (PB w b') arr e1 e2 (3200 + (l1.size : Int)) l2) (F1_ok _ _ arr e1 e2 _ l2 n1 he1 hs g1 g2 hl2 (by omega) hp2) <| Yh (j261 []) <| YC [0,1,2,3,46,45,6,7,43,42,15,16,17,18,19,20,21,22,23,24,25,26,27,28,29,30,31,32,33,34,35,36,37,38,39,12,13,14,65,66,52,58,59,60,61,62,63,67,68,69,70,71] (F2 (PB w b') arr e2 l1 0 (l1.size : Int) l1 l2 0 (l2.size : Int) l2 j) (F2_ok _ _ arr e2 n2 he2 hs hx h0 h1 h2 h3 h4 h5 hb l1 0 _ l1 l2 0 _ l2 hl1 (pick0 l1) hl1 hl2 (pick0 l2) hl2 j hj hjo (Int.le_refl _) hsp) <| Yh (j261 []) <| YC [0,1,2,3,46,45,6,7,43,42] (F3 (PB w b') arr (((((((((e2 + 1) + 1) - 1) + 1) + 1) + 1) + 1) + 1) + 1)) (F3_ok _ _ arr _ (n2 + 1 + 6) (by omega) hs hb) <| Yh (j224 (j347 [])) <| Yn) [50,51,64,72,52,65,53,54,55,56,57,73,74,75,76,58,66,77,78,79,80,59,67,81,82,83,60,68,84,85,86,61,69,62,70,63,71] [138,77,78,46,47,48,49,50,51,52,53,79,80,54,55,56,81,102,57,58,82,83,103,104,105,106,107,108,59,84,60,61,62,63,85,86,87,88,109,110,111,112,113,114,115,116,117,118,119,120,121,122,123,124,64,65,66,89,90,91,125,126,127,128,129,130,131,132,133,67,68,69,70,92,93,94,95]
noncomputable def LRN (P : Params) (arr : Array UInt8) (e1 e2 : Int) (l1 l2 : Array UInt8) : CF := cf 660 LRF_sh fun c x y => mkC (.call (.ref 1848) ⟨[.ref (A x 1),.bytes arr (cT c 1)],[]⟩) [Q45 x,Q46 x 2,Q122 P y x,Q17 y 3,Q15 x 5,Q16 P y 5,Q11 x 7,Q12 P y x 7 8,Q13 x 9,Q123 P y x,Q17 y 10,Q18 y 11,Q50 x 13,Q51 P y x 13 14,Q17 y 14,Q87 x 16,Q88 P y x 16 17,Q89 y x 28 23 18 17,Q65 x 19,Q90 P y x 19 20,Q91 x 21,Q92 P y x 21 22,Q93,Q65 x 24,Q90 P y x 24 25,Q91 x 26,Q95 P y x 26 27,Q93,Q65 x 29,Q90 P y x 29 30,Q91 x 31,Q96 P y x 31 32,Q97 P y x 33 36 34 32 35,Q94 y 33,Q98 y 34,Q99 y 35,Q105 y x 36 37,Q65 x 38,Q106 P y 38,Q107 P y 39] (25) (50) (fun u v => .ok (.ret (.none))) (fun u v => [(0,Q52 x u),(2,Q124 P y x v),(3,Q125 y),(9,Q126 P y x v l1 l2),(11,Q127 y u v),(13,Q76 P y u 13 3),(14,Q128 y u)]) (fun u v => [Q53 u v 4 5 6 6 7 8 9 10 7 8,Q129 v l1,Q130 v l2,⟨.type "list",none,.seq #[.ref (A u 4),.ref (A u 11)] 1,#[]⟩,Q6 u 12,Q6 u 13,Q54 v 13,Q55,Q56 v 14,Q57,Q58,Q6 u 14,Q22 P u v 24 15 25 15 26 27,Q22 P u v 28 16 29 16 30 31,Q83 P v 32 17 33 34 35,Q23 u 17,Q23 u 18,Q131 P u v 36 19 37 38 l1,Q132 P u v 39 20 40 41 l2,Q25 u 21,Q25 u 22,Q26 P u v 42 3 43 23 44 45 22,Q32 P u v 46 2 47 24 48 49 23,Q133 l1,Q134 l2])
theorem LRN_ok (arr : Array UInt8) (e1 e2 : Int) (l1 l2 : Array UInt8) (n1 n2 : Nat) (he1 : e1 = n1) (he2 : e2 = n2) (hs : arr.size ≤ 1000) (hl1 : l1.size ≤ 1000) (hl2 : l2.size ≤ 1000) (g0 : arr[0]? = some 40) (hp1 : Ct w b' (strC0 (PB w b') arr (0 + 1) e1 #[] l1)) (g1 : arr[n1]? = some 32) (g2 : arr[n1 + 1]? = some 40) (hp2 : Ct w b' (strC0 (PB w b') arr (e1 + 1 + 1) e2 #[] l2)) (hx : arr[n2]? = some 32) (h0 : arr[n2 + 1 + 0]? = some 115) (h1 : arr[n2 + 1 + 1]? = some 101) (h2 : arr[n2 + 1 + 2]? = some 97) (h3 : arr[n2 + 1 + 3]? = some 114) (h4 : arr[n2 + 1 + 4]? = some 99) (h5 : arr[n2 + 1 + 5]? = some 104) (hb : arr.size ≤ n2 + 1 + 6) (hsp : Ct w b' (spC l1 l2 none)) : Ct w b' (LRN (PB w b') arr e1 e2 l1 l2) :=
 sW 6000 39 (Yh (j0 (46 :: j352 (47 :: j277 (49 :: j90 (50 :: j107 (48 :: j239 (52 :: j90 (53 :: j276 (51 :: j243 (54 :: j348 (54 :: j346 (47 :: j343 (55 :: j389 []))))))))))))) <| Yc [0,1,2,3,46,45,6,7,43,42,8,9,4,5,10,11,12,13,14] (F0_ok _ _ arr 0 e1 3200 l1 0 rfl hs g0 hl1 (by omega) hp1) <| Yh (j261 []) <| YC [0,1,2,3,46,45,6,7,43,42,8,9,4,5,10,11,12,13,14] (F1 (PB w b') arr e1 e2 (3200 + (l1.size : Int)) l2) (F1_ok _ _ arr e1 e2 _ l2 n1 he1 hs g1 g2 hl2 (by omega) hp2) <| Yh (j261 []) <| YC [0,1,2,3,46,45,6,7,43,42,15,16,17,18,19,20,21,22,23,24,25,26,27,28,29,30,31,32,33,34,35,36,37,38,39,12,13,14,65,66,52,58,59,60,61,62,63,67,68,69,70,71] (N2 (PB w b') arr e2 l1 0 (l1.size : Int) l1 l2 0 (l2.size : Int) l2) (N2_ok _ _ arr e2 n2 he2 hs hx h0 h1 h2 h3 h4 h5 hb l1 0 _ l1 l2 0 _ l2 hl1 (pick0 l1) hl1 hl2 (pick0 l2) hl2 hsp) <| Yh (j261 []) <| YC [0,1,2,3,46,45,6,7,43,42] (F3 (PB w b') arr (((((((((e2 + 1) + 1) - 1) + 1) + 1) + 1) + 1) + 1) + 1)) (F3_ok _ _ arr _ (n2 + 1 + 6) (by omega) hs hb) <| Yh (j224 (j347 [])) <| Yn) [50,51,64,72,52,65,53,54,55,56,57,73,58,66,74,59,67,60,68,61,69,62,70,63,71] [111,77,78,46,47,48,49,50,51,52,53,79,80,54,55,56,81,102,57,58,82,83,59,84,60,61,62,63,85,86,87,88,103,104,105,106,64,65,66,89,90,91,67,68,69,70,92,93,94,95]
noncomputable def LRA (P : Params) (arr : Array UInt8) (e1 e2 : Int) (l1 l2 : Array UInt8) : CF := cf 660 LRF_sh fun c x y => mkC (.call (.ref 1848) ⟨[.ref (A x 1),.bytes arr (cT c 1)],[]⟩) [Q45 x,Q46 x 2,Q122 P y x,Q17 y 3,Q15 x 5,Q16 P y 5,Q11 x 7,Q12 P y x 7 8,Q13 x 9,Q123 P y x,Q17 y 10,Q18 y 11,Q50 x 13,Q51 P y x 13 14,Q17 y 14,Q87 x 16,Q88 P y x 16 17,Q89 y x 28 23 18 17,Q65 x 19,Q90 P y x 19 20,Q91 x 21,Q92 P y x 21 22,Q93,Q65 x 24,Q90 P y x 24 25,Q91 x 26,Q95 P y x 26 27,Q93,Q65 x 29,Q90 P y x 29 30,Q91 x 31,Q96 P y x 31 32,Q102 P y x 33 32 34 36 35,Q94 y 33,Q98 y 34,Q99 y 35,Q105 y x 36 37,Q65 x 38,Q113 P y 38,Q107 P y 39] (33) (68) (fun u v => .ok (.ret (.none))) (fun u v => [(0,Q52 x u),(2,Q124 P y x v),(3,Q125 y),(9,Q126 P y x v l1 l2),(11,Q127 y u v),(13,Q76 P y u 13 3),(14,Q128 y u)]) (fun u v => [Q53 u v 4 5 6 6 7 8 9 10 7 8,Q129 v l1,Q130 v l2,Q84 u 11 12 13,Q6 u 14,Q6 u 15,Q54 v 13,Q55,Q56 v 14,Q57,Q58,Q6 u 16,Q6 u 17,Q6 u 18,Q22 P u v 28 15 29 19 30 31,Q22 P u v 32 16 33 20 34 35,Q22 P u v 36 15 37 21 38 39,Q22 P u v 40 15 41 22 42 43,Q78 P v 44 17 45 46 47,Q23 u 23,Q23 u 24,Q23 u 25,Q23 u 26,Q131 P u v 48 27 49 50 l1,Q132 P u v 51 28 52 53 l2,⟨.type "dict",none,.dict #[K P (.str t541 (A v 54)) (.ref (A u 27)),K P (.str t566 (A v 55)) (.int (0 + (l2.size : Int)) (A v 22)),K P (.str t335 (A v 56)) (.int ((l1.size : Int) - (l2.size : Int)) (A v 23))] 3,#[]⟩,⟨.type "dict",none,.dict #[K P (.str t541 (A v 57)) (.ref (A u 27)),K P (.str t566 (A v 58)) (.int (0 + 0) (A v 24)),K P (.str t335 (A v 59)) (.int (l2.size : Int) (A v 25))] 3,#[]⟩,Q25 u 29,Q25 u 30,Q26 P u v 60 3 61 31 62 63 26,Q32 P u v 64 2 65 32 66 67 27,Q133 l1,Q134 l2])
theorem LRA_ok (arr : Array UInt8) (e1 e2 : Int) (l1 l2 : Array UInt8) (n1 n2 : Nat) (he1 : e1 = n1) (he2 : e2 = n2) (hs : arr.size ≤ 1000) (hl1 : l1.size ≤ 1000) (hl2 : l2.size ≤ 1000) (g0 : arr[0]? = some 40) (hp1 : Ct w b' (strC0 (PB w b') arr (0 + 1) e1 #[] l1)) (g1 : arr[n1]? = some 32) (g2 : arr[n1 + 1]? = some 40) (hp2 : Ct w b' (strC0 (PB w b') arr (e1 + 1 + 1) e2 #[] l2)) (hx : arr[n2]? = some 32) (h0 : arr[n2 + 1 + 0]? = some 97) (h1 : arr[n2 + 1 + 1]? = some 110) (h2 : arr[n2 + 1 + 2]? = some 99) (h3 : arr[n2 + 1 + 3]? = some 104) (h4 : arr[n2 + 1 + 4]? = some 111) (h5 : arr[n2 + 1 + 5]? = some 114) (h6 : arr[n2 + 1 + 6]? = some 115) (h7 : arr[n2 + 1 + 7]? = some 101) (h8 : arr[n2 + 1 + 8]? = some 97) (h9 : arr[n2 + 1 + 9]? = some 114) (h10 : arr[n2 + 1 + 10]? = some 99) (h11 : arr[n2 + 1 + 11]? = some 104) (hb : arr.size ≤ n2 + 1 + 12) (hjo : (l2.size : Int) ≤ (l1.size : Int)) (heq : ((KBy.picked l1 none (some (l2.size : Int))).toList == l2.toList) = true) : Ct w b' (LRA (PB w b') arr e1 e2 l1 l2) :=
 sW 6000 39 (Yh (j0 (46 :: j352 (47 :: j277 (49 :: j90 (50 :: j107 (48 :: j239 (52 :: j90 (53 :: j276 (51 :: j243 (54 :: j348 (54 :: j346 (47 :: j343 (55 :: j389 []))))))))))))) <| Yc [0,1,2,3,46,45,6,7,43,42,8,9,4,5,10,11,12,13,14] (F0_ok _ _ arr 0 e1 3200 l1 0 rfl hs g0 hl1 (by omega) hp1) <| Yh (j261 []) <| YC [0,1,2,3,46,45,6,7,43,42,8,9,4,5,10,11,12,13,14] (F1 (PB w b') arr e1 e2 (3200 + (l1.size : Int)) l2) (F1_ok _ _ arr e1 e2 _ l2 n1 he1 hs g1 g2 hl2 (by omega) hp2) <| Yh (j261 []) <| YC [0,1,2,3,46,45,6,7,43,42,15,16,17,18,19,20,21,22,23,24,25,26,27,28,29,30,31,32,33,34,35,36,37,38,39,12,13,14,65,66,52,58,59,60,61,62,63,67,68,69,70,71] (A2 (PB w b') arr e2 l1 0 (l1.size : Int) l1 l2 0 (l2.size : Int) l2) (A2_ok _ _ arr e2 n2 he2 hs hx h0 h1 h2 h3 h4 h5 h6 h7 h8 h9 h10 h11 hb l1 0 _ l1 l2 0 _ l2 hl1 (pick0 l1) hl1 hl2 (pick0 l2) hl2 hjo (Int.le_refl _) heq) <| Yh (j261 []) <| YC [0,1,2,3,46,45,6,7,43,42] (F3 (PB w b') arr (((((((((((((((e2 + 1) + 1) - 1) + 1) + 1) + 1) + 1) + 1) + 1) + 1) + 1) + 1) + 1) + 1) + 1)) (F3_ok _ _ arr _ (n2 + 1 + 12) (by omega) hs hb) <| Yh (j224 (j347 [])) <| Yn) [50,51,64,72,52,65,53,54,55,56,57,73,74,75,58,66,76,77,78,59,67,79,80,60,68,81,82,61,69,62,70,63,71] [129,77,78,46,47,48,49,50,51,52,53,79,80,54,55,56,81,102,57,58,82,83,103,104,105,106,59,84,60,61,62,63,85,86,87,88,107,108,109,110,111,112,113,114,115,116,117,118,64,65,66,89,90,91,119,120,121,122,123,124,67,68,69,70,92,93,94,95]
noncomputable def LRAN (P : Params) (arr : Array UInt8) (e1 e2 : Int) (l1 l2 : Array UInt8) : CF := cf 660 LRF_sh fun c x y => mkC (.call (.ref 1848) ⟨[.ref (A x 1),.bytes arr (cT c 1)],[]⟩) [Q45 x,Q46 x 2,Q122 P y x,Q17 y 3,Q15 x 5,Q16 P y 5,Q11 x 7,Q12 P y x 7 8,Q13 x 9,Q123 P y x,Q17 y 10,Q18 y 11,Q50 x 13,Q51 P y x 13 14,Q17 y 14,Q87 x 16,Q88 P y x 16 17,Q89 y x 28 23 18 17,Q65 x 19,Q90 P y x 19 20,Q91 x 21,Q92 P y x 21 22,Q93,Q65 x 24,Q90 P y x 24 25,Q91 x 26,Q95 P y x 26 27,Q93,Q65 x 29,Q90 P y x 29 30,Q91 x 31,Q96 P y x 31 32,Q102 P y x 33 32 34 36 35,Q94 y 33,Q98 y 34,Q99 y 35,Q105 y x 36 37,Q65 x 38,Q113 P y 38,Q107 P y 39] (25) (50) (fun u v => .ok (.ret (.none))) (fun u v => [(0,Q52 x u),(2,Q124 P y x v),(3,Q125 y),(9,Q126 P y x v l1 l2),(11,Q127 y u v),(13,Q76 P y u 13 3),(14,Q128 y u)]) (fun u v => [Q53 u v 4 5 6 6 7 8 9 10 7 8,Q129 v l1,Q130 v l2,⟨.type "list",none,.seq #[.ref (A u 4),.ref (A u 11)] 1,#[]⟩,Q6 u 12,Q6 u 13,Q54 v 13,Q55,Q56 v 14,Q57,Q58,Q6 u 14,Q22 P u v 24 15 25 15 26 27,Q22 P u v 28 16 29 16 30 31,Q83 P v 32 17 33 34 35,Q23 u 17,Q23 u 18,Q131 P u v 36 19 37 38 l1,Q132 P u v 39 20 40 41 l2,Q25 u 21,Q25 u 22,Q26 P u v 42 3 43 23 44 45 22,Q32 P u v 46 2 47 24 48 49 23,Q133 l1,Q134 l2])
theorem LRAN_ok (arr : Array UInt8) (e1 e2 : Int) (l1 l2 : Array UInt8) (n1 n2 : Nat) (he1 : e1 = n1) (he2 : e2 = n2) (hs : arr.size ≤ 1000) (hl1 : l1.size ≤ 1000) (hl2 : l2.size ≤ 1000) (g0 : arr[0]? = some 40) (hp1 : Ct w b' (strC0 (PB w b') arr (0 + 1) e1 #[] l1)) (g1 : arr[n1]? = some 32) (g2 : arr[n1 + 1]? = some 40) (hp2 : Ct w b' (strC0 (PB w b') arr (e1 + 1 + 1) e2 #[] l2)) (hx : arr[n2]? = some 32) (h0 : arr[n2 + 1 + 0]? = some 97) (h1 : arr[n2 + 1 + 1]? = some 110) (h2 : arr[n2 + 1 + 2]? = some 99) (h3 : arr[n2 + 1 + 3]? = some 104) (h4 : arr[n2 + 1 + 4]? = some 111) (h5 : arr[n2 + 1 + 5]? = some 114) (h6 : arr[n2 + 1 + 6]? = some 115) (h7 : arr[n2 + 1 + 7]? = some 101) (h8 : arr[n2 + 1 + 8]? = some 97) (h9 : arr[n2 + 1 + 9]? = some 114) (h10 : arr[n2 + 1 + 10]? = some 99) (h11 : arr[n2 + 1 + 11]? = some 104) (hb : arr.size ≤ n2 + 1 + 12) (heq : ((KBy.picked l1 none (some (l2.size : Int))).toList == l2.toList) = false) : Ct w b' (LRAN (PB w b') arr e1 e2 l1 l2) :=
 sW 6000 39 (Yh (j0 (46 :: j352 (47 :: j277 (49 :: j90 (50 :: j107 (48 :: j239 (52 :: j90 (53 :: j276 (51 :: j243 (54 :: j348 (54 :: j346 (47 :: j343 (55 :: j389 []))))))))))))) <| Yc [0,1,2,3,46,45,6,7,43,42,8,9,4,5,10,11,12,13,14] (F0_ok _ _ arr 0 e1 3200 l1 0 rfl hs g0 hl1 (by omega) hp1) <| Yh (j261 []) <| YC [0,1,2,3,46,45,6,7,43,42,8,9,4,5,10,11,12,13,14] (F1 (PB w b') arr e1 e2 (3200 + (l1.size : Int)) l2) (F1_ok _ _ arr e1 e2 _ l2 n1 he1 hs g1 g2 hl2 (by omega) hp2) <| Yh (j261 []) <| YC [0,1,2,3,46,45,6,7,43,42,15,16,17,18,19,20,21,22,23,24,25,26,27,28,29,30,31,32,33,34,35,36,37,38,39,12,13,14,65,66,52,58,59,60,61,62,63,67,68,69,70,71] (AN2 (PB w b') arr e2 l1 0 (l1.size : Int) l1 l2 0 (l2.size : Int) l2) (AN2_ok _ _ arr e2 n2 he2 hs hx h0 h1 h2 h3 h4 h5 h6 h7 h8 h9 h10 h11 hb l1 0 _ l1 l2 0 _ l2 hl1 (pick0 l1) hl1 hl2 (pick0 l2) hl2 heq) <| Yh (j261 []) <| YC [0,1,2,3,46,45,6,7,43,42] (F3 (PB w b') arr (((((((((((((((e2 + 1) + 1) - 1) + 1) + 1) + 1) + 1) + 1) + 1) + 1) + 1) + 1) + 1) + 1) + 1)) (F3_ok _ _ arr _ (n2 + 1 + 12) (by omega) hs hb) <| Yh (j224 (j347 [])) <| Yn) [50,51,64,72,52,65,53,54,55,56,57,73,58,66,74,59,67,60,68,61,69,62,70,63,71] [111,77,78,46,47,48,49,50,51,52,53,79,80,54,55,56,81,102,57,58,82,83,59,84,60,61,62,63,85,86,87,88,103,104,105,106,64,65,66,89,90,91,67,68,69,70,92,93,94,95]
variable (w : World) (b' : Bool)
section
variable (P : Params) (y : List Obj) (x : List Nat) (ad : List Nat) (v : List Nat) (i0 i1 i2 i3 : Nat)
noncomputable def Q135 : Obj := dd P y 2 ks1 [.ref (A x 36),.ref (A x 33),.ref (A x 8),.ref (A x 6),.ref (A x 4),.ref (tR y 2 11),.none,.ref (tR y 2 15),.ref (A x 3),.ref (A x 32),.ref (A x 21),.ref (A x 16),.ref (A x 11),.none,.none,.none,.none,.none,.int 4 (tT y 2 37),.int 1 2007,.bool false,.bool false,.none,.none,.none,.none]
noncomputable def Q136 : Obj := ⟨.type "dict",none,.dict #[⟨hW P arS,.ref (A x 26),.ref (A x 40)⟩,⟨hW P arA,.ref (A x 27),.ref (tR y 25 3)⟩,⟨hW P #[112,111,112],.ref (A x 28),.ref (A x 29)⟩] 3,#[]⟩
noncomputable def Q137 : Obj := ⟨.type "list",none,.seq #[.ref (A x 43),.ref (tR y 35 1),.ref (tR y 35 2),.ref (tR y 35 3)] (oE y 35),#[]⟩
noncomputable def Q138 : Obj := dd P y 2 ks1 [.ref (A x 36),.ref (A x 33),.ref (A x 8),.ref (A x 6),.ref (A x 4),.ref (tR y 2 11),.none,.ref (tR y 2 15),.ref (A x 3),.ref (A x 32),.ref (A x 21),.ref (A x 16),.ref (A x 11),.none,.none,.none,.none,.none,.int 10 (A v 0),.int 1 2007,.bool false,.bool false,.none,.none,.none,.none]
noncomputable def Q139 : Obj := ⟨.type "list",none,.seq #[.ref (A x 43),.ref (A ad 1)] (oE y 35 + 4),#[]⟩
noncomputable def Q140 (u : Int) (l3 : Array UInt8) : Obj := dd P y 37 ks0 [.ref (A x 4),.bool false,.ref (A x 38),.ref (tR y 37 7),.ref (A x 39),.ref (tR y 37 11),.int (u + (l3.size : Int)) (A v 1),.int 12800 (tT y 37 15),.int 6 (A v 2),.int 0 (tT y 37 19)]
noncomputable def Q141 (l3 : Array UInt8) : Obj := ⟨.type "tuple",none,.seq #[.int (l3.size : Int) (A v 3),.bool false,.int 0 (A v 4)] 0,#[]⟩
noncomputable def Q142 (l3 : Array UInt8) : Obj := ⟨.type "dict",none,.dict #[K P (.str t541 (A v i0)) (.ref (A ad i1)),K P (.str t566 (A v i2)) (.int 0 (A v 7)),K P (.str t335 (A v i3)) (.int (l3.size : Int) (A v 8))] 3,#[]⟩
noncomputable def Q143 (l3 : Array UInt8) (st1 : Int) (o : Array UInt8) (j : Int) : Obj := ⟨.type "dict",none,.dict #[K P (.str t541 (A v 39)) (.ref (A x 47)),K P (.str t566 (A v 40)) (.int (st1 + (j + (l3.size : Int))) (A v 9)),K P (.str t335 (A v 41)) (.int ((o.size : Int) - (j + (l3.size : Int))) (A v 10))] 3,#[]⟩
noncomputable def Q144 (l3 : Array UInt8) (st1 : Int) (j : Int) : Obj := ⟨.type "dict",none,.dict #[K P (.str t541 (A v 42)) (.ref (A x 47)),K P (.str t566 (A v 43)) (.int (st1 + j) (A v 11)),K P (.str t335 (A v 44)) (.int (l3.size : Int) (A v 12))] 3,#[]⟩
noncomputable def Q145 (l3 : Array UInt8) : Obj := ⟨.type "bytearray",none,.bytearray l3 0,#[]⟩
end
noncomputable def LSF (P : Params) (arr : Array UInt8) (e1 u : Int) (l3 b1 : Array UInt8) (st1 mn1 : Int) (o : Array UInt8) (j : Int) : CF := cf 660 LRF_sh fun c x y => mkC (.call (.ref 1848) ⟨[.ref (A x 1),.bytes arr (cT c 1)],[]⟩) [Q59 y x,Q46 x 2,Q135 P y x,Q17 y 3,Q15 x 5,Q16 P y 5,Q11 x 7,Q12 P y x 7 36,Q87 x 9,Q88 P y x 9 10,Q89 y x 21 16 11 10,Q65 x 12,Q90 P y x 12 13,Q91 x 14,Q92 P y x 14 15,Q93,Q65 x 17,Q90 P y x 17 18,Q91 x 19,Q95 P y x 19 20,Q93,Q65 x 22,Q90 P y x 22 23,Q91 x 24,Q96 P y x 24 25,Q136 P y x,Q94 y 26,Q98 y 27,Q99 y 28,Q105 y x 29 30,Q65 x 31,Q115 P y 31,Q107 P y 32,Q50 x 34,Q51 P y x 34 35,Q137 y x,Q13 x 37,Q33 P y x 37 4 38 39 u,Q17 y 38,Q34 y 39,Q105 y x 40 41,Q65 x 42,Q106 P y 42,Q65 x 44,Q66 P y x 44 45,Q63 x 46,Q70 P y x 46 47 st1 mn1,Q64 x 48,Q71 P y x 48 49,Q72 b1] (23) (52) (fun ad v => .ok (.ret (.none))) (fun ad v => [(2,Q138 P y x v),(3,Q125 y),(34,Q76 P y ad 34 0),(35,Q139 y x ad),(37,Q140 P y x v u l3),(39,Q36 y ad v 39 2 2)]) (fun ad v => [Q77 ad 3 4 5 6,Q6 ad 7,Q141 v l3,Q6 ad 8,Q6 ad 9,Q6 ad 10,Q6 ad 11,Q22 P ad v 16 5 17 12 18 19,Q67 P y ad v 20 44 21 13 22 23,Q67 P y ad v 24 44 25 14 26 27,Q67 P y ad v 28 44 29 15 30 31,Q78 P v 32 6 33 34 35,Q23 ad 16,Q23 ad 17,Q23 ad 18,Q23 ad 19,Q142 P ad v 36 20 37 38 l3,Q143 P x v l3 st1 o j,Q144 P x v l3 st1 j,Q81 P x v 45 47 46 13 47 14 st1 j,Q25 ad 21,Q37 P ad v 48 2 49 22 50 51 15,Q145 l3])
theorem LSF_ok (arr : Array UInt8) (e1 u : Int) (l3 b1 : Array UInt8) (st1 mn1 : Int) (o : Array UInt8) (n1 : Nat) (he1 : e1 = n1) (hs : arr.size ≤ 1000) (hu : 0 ≤ u ∧ u ≤ 100000) (hl3 : l3.size ≤ 1000) (hb1 : b1.size ≤ 1000) (ho : KBy.picked b1 (some st1) (some (st1 + mn1)) = o) (hco : o.size ≤ 1000) (p00 : arr[0]? = some 112) (p01 : arr[1]? = some 111) (p02 : arr[2]? = some 112) (p03 : arr[3]? = some 32) (p10 : arr[4]? = some 112) (p11 : arr[5]? = some 111) (p12 : arr[6]? = some 112) (p13 : arr[7]? = some 32) (p20 : arr[8]? = some 112) (p21 : arr[9]? = some 111) (p22 : arr[10]? = some 112) (p23 : arr[11]? = some 32) (g0 : arr[12]? = some 40) (hp1 : Ct w b' (strC0 (PB w b') arr (((((((((((((((((((0 + 1) - 1) + 1) + 1) + 1) + 1) + 1) - 1) + 1) + 1) + 1) + 1) + 1) - 1) + 1) + 1) + 1) + 1) + 1) e1 #[] l3)) (hx : arr[n1]? = some 32) (h0 : arr[n1 + 1 + 0]? = some 115) (h1 : arr[n1 + 1 + 1]? = some 101) (h2 : arr[n1 + 1 + 2]? = some 97) (h3 : arr[n1 + 1 + 3]? = some 114) (h4 : arr[n1 + 1 + 4]? = some 99) (h5 : arr[n1 + 1 + 5]? = some 104) (hb : arr.size ≤ n1 + 1 + 6) (j : Int) (hj : 0 ≤ j) (hjo : j + (l3.size : Int) ≤ (o.size : Int)) (hmn : (o.size : Int) ≤ mn1) (hsp : Ct w b' (spC o l3 (some j))) : Ct w b' (LSF (PB w b') arr e1 u l3 b1 st1 mn1 o j) :=
 sW 6000 49 (Yh (j0 (56 :: j352 (57 :: j277 (59 :: j90 (60 :: j107 (58 :: j239 (62 :: j90 (63 :: j276 (61 :: j243 (64 :: j348 (64 :: j346 (57 :: j343 (65 :: j389 []))))))))))))) <| YC [0,1,2,3,56,55,6,7,53,52,8,9,10,11,12,13,14,15,16,17,18,19,20,21,22,23,24,25,26,27,28,29,30,31,32,33,34,35] (F4 (PB w b') arr 0) (F4_ok _ _ arr _ 0 (by omega) hs p00 p01 p02 p03) <| Yh (j204 []) <| YC [0,1,2,3,56,55,6,7,53,52,8,9,10,11,12,13,14,15,16,17,18,19,20,21,22,23,24,25,26,27,28,29,30,31,32,33,34,35] (F5 (PB w b') arr ((((((0 + 1) - 1) + 1) + 1) + 1) + 1)) (F5_ok _ _ arr _ 4 (by omega) hs p10 p11 p12 p13) <| Yh (j204 []) <| YC [0,1,2,3,56,55,6,7,53,52,8,9,10,11,12,13,14,15,16,17,18,19,20,21,22,23,24,25,26,27,28,29,30,31,32,33,34,35] (F6 (PB w b') arr ((((((((((((0 + 1) - 1) + 1) + 1) + 1) + 1) + 1) - 1) + 1) + 1) + 1) + 1)) (F6_ok _ _ arr _ 8 (by omega) hs p20 p21 p22 p23) <| Yh (j204 []) <| YC [0,1,2,3,56,55,6,7,53,52,36,37,4,5,38,39,33,34,35] (F7 (PB w b') arr ((((((((((((((((((0 + 1) - 1) + 1) + 1) + 1) + 1) + 1) - 1) + 1) + 1) + 1) + 1) + 1) - 1) + 1) + 1) + 1) + 1) e1 u l3) (F7_ok _ _ arr _ e1 u l3 12 (by omega) hs g0 hl3 hu hp1) <| Yh (j204 []) <| YC [0,1,2,3,56,55,6,7,53,52,8,9,10,11,12,13,14,15,16,17,18,19,20,21,22,23,24,25,26,27,28,40,41,42,32,33,34,35,61,62,43,44,45,46,47,48,49,63,64,65,66,67] (F8 (PB w b') arr e1 b1 st1 mn1 o l3 0 (l3.size : Int) l3 j) (F8_ok _ _ arr e1 n1 he1 hs hx h0 h1 h2 h3 h4 h5 hb b1 st1 mn1 o l3 0 _ l3 hb1 ho hco hl3 (pick0 l3) hl3 j hj hjo hmn hsp) <| Yh (j204 []) <| YC [0,1,2,3,56,55,6,7,53,52] (F9 (PB w b') arr (((((((((e1 + 1) + 1) - 1) + 1) + 1) + 1) + 1) + 1) + 1)) (F9_ok _ _ arr _ (n1 + 1 + 6) (by omega) hs hb) <| Yh (j169 (j347 [])) <| Yn) [68,61,60,69,70,71,72,62,73,74,75,76,63,77,78,79,64,80,81,82,65,66,67] [124,63,64,65,66,67,88,68,69,89,90,91,92,93,94,70,71,72,73,74,95,96,97,98,99,100,101,102,103,104,105,106,107,108,109,110,75,76,77,111,112,113,114,115,116,117,118,119,78,79,80,81]
noncomputable def LSN (P : Params) (arr : Array UInt8) (e1 u : Int) (l3 b1 : Array UInt8) (st1 mn1 : Int) (o : Array UInt8) : CF := cf 660 LRF_sh fun c x y => mkC (.call (.ref 1848) ⟨[.ref (A x 1),.bytes arr (cT c 1)],[]⟩) [Q59 y x,Q46 x 2,Q135 P y x,Q17 y 3,Q15 x 5,Q16 P y 5,Q11 x 7,Q12 P y x 7 36,Q87 x 9,Q88 P y x 9 10,Q89 y x 21 16 11 10,Q65 x 12,Q90 P y x 12 13,Q91 x 14,Q92 P y x 14 15,Q93,Q65 x 17,Q90 P y x 17 18,Q91 x 19,Q95 P y x 19 20,Q93,Q65 x 22,Q90 P y x 22 23,Q91 x 24,Q96 P y x 24 25,Q136 P y x,Q94 y 26,Q98 y 27,Q99 y 28,Q105 y x 29 30,Q65 x 31,Q115 P y 31,Q107 P y 32,Q50 x 34,Q51 P y x 34 35,Q137 y x,Q13 x 37,Q33 P y x 37 4 38 39 u,Q17 y 38,Q34 y 39,Q105 y x 40 41,Q65 x 42,Q106 P y 42,Q65 x 44,Q66 P y x 44 45,Q63 x 46,Q70 P y x 46 47 st1 mn1,Q64 x 48,Q71 P y x 48 49,Q72 b1] (11) (25) (fun ad v => .ok (.ret (.none))) (fun ad v => [(2,Q138 P y x v),(3,Q125 y),(34,Q76 P y ad 34 0),(35,Q139 y x ad),(37,Q140 P y x v u l3),(39,Q36 y ad v 39 2 2)]) (fun ad v => [Q82 x ad 43 3,Q6 ad 4,Q141 v l3,Q6 ad 5,Q22 P ad v 10 5 11 6 12 13,Q83 P v 14 6 15 16 17,Q23 ad 7,Q142 P ad v 18 8 19 20 l3,Q25 ad 9,Q37 P ad v 21 2 22 10 23 24 9,Q145 l3])
theorem LSN_ok (arr : Array UInt8) (e1 u : Int) (l3 b1 : Array UInt8) (st1 mn1 : Int) (o : Array UInt8) (n1 : Nat) (he1 : e1 = n1) (hs : arr.size ≤ 1000) (hu : 0 ≤ u ∧ u ≤ 100000) (hl3 : l3.size ≤ 1000) (hb1 : b1.size ≤ 1000) (ho : KBy.picked b1 (some st1) (some (st1 + mn1)) = o) (hco : o.size ≤ 1000) (p00 : arr[0]? = some 112) (p01 : arr[1]? = some 111) (p02 : arr[2]? = some 112) (p03 : arr[3]? = some 32) (p10 : arr[4]? = some 112) (p11 : arr[5]? = some 111) (p12 : arr[6]? = some 112) (p13 : arr[7]? = some 32) (p20 : arr[8]? = some 112) (p21 : arr[9]? = some 111) (p22 : arr[10]? = some 112) (p23 : arr[11]? = some 32) (g0 : arr[12]? = some 40) (hp1 : Ct w b' (strC0 (PB w b') arr (((((((((((((((((((0 + 1) - 1) + 1) + 1) + 1) + 1) + 1) - 1) + 1) + 1) + 1) + 1) + 1) - 1) + 1) + 1) + 1) + 1) + 1) e1 #[] l3)) (hx : arr[n1]? = some 32) (h0 : arr[n1 + 1 + 0]? = some 115) (h1 : arr[n1 + 1 + 1]? = some 101) (h2 : arr[n1 + 1 + 2]? = some 97) (h3 : arr[n1 + 1 + 3]? = some 114) (h4 : arr[n1 + 1 + 4]? = some 99) (h5 : arr[n1 + 1 + 5]? = some 104) (hb : arr.size ≤ n1 + 1 + 6) (hsp : Ct w b' (spC o l3 none)) : Ct w b' (LSN (PB w b') arr e1 u l3 b1 st1 mn1 o) :=
 sW 6000 49 (Yh (j0 (56 :: j352 (57 :: j277 (59 :: j90 (60 :: j107 (58 :: j239 (62 :: j90 (63 :: j276 (61 :: j243 (64 :: j348 (64 :: j346 (57 :: j343 (65 :: j389 []))))))))))))) <| YC [0,1,2,3,56,55,6,7,53,52,8,9,10,11,12,13,14,15,16,17,18,19,20,21,22,23,24,25,26,27,28,29,30,31,32,33,34,35] (F4 (PB w b') arr 0) (F4_ok _ _ arr _ 0 (by omega) hs p00 p01 p02 p03) <| Yh (j204 []) <| YC [0,1,2,3,56,55,6,7,53,52,8,9,10,11,12,13,14,15,16,17,18,19,20,21,22,23,24,25,26,27,28,29,30,31,32,33,34,35] (F5 (PB w b') arr ((((((0 + 1) - 1) + 1) + 1) + 1) + 1)) (F5_ok _ _ arr _ 4 (by omega) hs p10 p11 p12 p13) <| Yh (j204 []) <| YC [0,1,2,3,56,55,6,7,53,52,8,9,10,11,12,13,14,15,16,17,18,19,20,21,22,23,24,25,26,27,28,29,30,31,32,33,34,35] (F6 (PB w b') arr ((((((((((((0 + 1) - 1) + 1) + 1) + 1) + 1) + 1) - 1) + 1) + 1) + 1) + 1)) (F6_ok _ _ arr _ 8 (by omega) hs p20 p21 p22 p23) <| Yh (j204 []) <| YC [0,1,2,3,56,55,6,7,53,52,36,37,4,5,38,39,33,34,35] (F7 (PB w b') arr ((((((((((((((((((0 + 1) - 1) + 1) + 1) + 1) + 1) + 1) - 1) + 1) + 1) + 1) + 1) + 1) - 1) + 1) + 1) + 1) + 1) e1 u l3) (F7_ok _ _ arr _ e1 u l3 12 (by omega) hs g0 hl3 hu hp1) <| Yh (j204 []) <| YC [0,1,2,3,56,55,6,7,53,52,8,9,10,11,12,13,14,15,16,17,18,19,20,21,22,23,24,25,26,27,28,40,41,42,32,33,34,35,61,62,43,44,45,46,47,48,49,63,64,65,66,67] (N8 (PB w b') arr e1 b1 st1 mn1 o l3 0 (l3.size : Int) l3) (N8_ok _ _ arr e1 n1 he1 hs hx h0 h1 h2 h3 h4 h5 hb b1 st1 mn1 o l3 0 _ l3 hb1 ho hco hl3 (pick0 l3) hl3 hsp) <| Yh (j204 []) <| YC [0,1,2,3,56,55,6,7,53,52] (F9 (PB w b') arr (((((((((e1 + 1) + 1) - 1) + 1) + 1) + 1) + 1) + 1) + 1)) (F9_ok _ _ arr _ (n1 + 1 + 6) (by omega) hs hb) <| Yh (j169 (j347 [])) <| Yn) [68,61,60,69,62,70,63,64,65,66,67] [97,63,64,65,66,67,88,68,69,70,71,72,73,74,89,90,91,92,75,76,77,78,79,80,81]
section
variable (P : Params) (y : List Obj) (x : List Nat) (u : List Nat) (v : List Nat) (i0 : Nat)
noncomputable def Q146 : Obj := ⟨.type "list",none,.seq #[.ref (A x 43),.ref (tR y 35 1),.ref (tR y 35 2)] (oE y 35),#[]⟩
noncomputable def Q147 : Obj := dd P y 2 ks1 [.ref (A x 36),.ref (A x 33),.ref (A x 8),.ref (A x 6),.ref (A x 4),.ref (tR y 2 11),.none,.ref (tR y 2 15),.ref (A x 3),.ref (A x 32),.ref (A x 21),.ref (A x 16),.ref (A x 11),.none,.none,.none,.none,.none,.int 9 (A v 0),.int 1 2007,.bool false,.bool false,.none,.none,.none,.none]
noncomputable def Q148 : Obj := ⟨.type "list",none,.seq #[.ref (A x 43),.ref (A u 1)] (oE y 35 + 3),#[]⟩
end
noncomputable def LSA (P : Params) (arr : Array UInt8) (e1 u : Int) (l3 b1 : Array UInt8) (st1 mn1 : Int) (o : Array UInt8) (j : Int) : CF := cf 660 LRF_sh fun c x y => mkC (.call (.ref 1848) ⟨[.ref (A x 1),.bytes arr (cT c 1)],[]⟩) [Q59 y x,Q46 x 2,Q135 P y x,Q17 y 3,Q15 x 5,Q16 P y 5,Q11 x 7,Q12 P y x 7 36,Q87 x 9,Q88 P y x 9 10,Q89 y x 21 16 11 10,Q65 x 12,Q90 P y x 12 13,Q91 x 14,Q92 P y x 14 15,Q93,Q65 x 17,Q90 P y x 17 18,Q91 x 19,Q95 P y x 19 20,Q93,Q65 x 22,Q90 P y x 22 23,Q91 x 24,Q96 P y x 24 25,Q136 P y x,Q94 y 26,Q98 y 27,Q99 y 28,Q105 y x 29 30,Q65 x 31,Q115 P y 31,Q107 P y 32,Q50 x 34,Q51 P y x 34 35,Q146 y x,Q13 x 37,Q33 P y x 37 4 38 39 u,Q17 y 38,Q34 y 39,Q105 y x 40 41,Q65 x 42,Q106 P y 42,Q65 x 44,Q66 P y x 44 45,Q63 x 46,Q70 P y x 46 47 st1 mn1,Q64 x 48,Q71 P y x 48 49,Q72 b1] (23) (52) (fun ad v => .ok (.ret (.none))) (fun ad v => [(2,Q147 P y x v),(3,Q125 y),(34,Q76 P y ad 34 0),(35,Q148 y x ad),(37,Q140 P y x v u l3),(39,Q36 y ad v 39 2 2)]) (fun ad v => [Q77 ad 3 4 5 6,Q6 ad 7,Q141 v l3,Q6 ad 8,Q6 ad 9,Q6 ad 10,Q6 ad 11,Q22 P ad v 16 5 17 12 18 19,Q67 P y ad v 20 44 21 13 22 23,Q67 P y ad v 24 44 25 14 26 27,Q67 P y ad v 28 44 29 15 30 31,Q78 P v 32 6 33 34 35,Q23 ad 16,Q23 ad 17,Q23 ad 18,Q23 ad 19,Q142 P ad v 36 20 37 38 l3,Q143 P x v l3 st1 o j,Q144 P x v l3 st1 j,Q81 P x v 45 47 46 13 47 14 st1 j,Q25 ad 21,Q37 P ad v 48 2 49 22 50 51 15,Q145 l3])
theorem LSA_ok (arr : Array UInt8) (e1 u : Int) (l3 b1 : Array UInt8) (st1 mn1 : Int) (o : Array UInt8) (n1 : Nat) (he1 : e1 = n1) (hs : arr.size ≤ 1000) (hu : 0 ≤ u ∧ u ≤ 100000) (hl3 : l3.size ≤ 1000) (hb1 : b1.size ≤ 1000) (ho : KBy.picked b1 (some st1) (some (st1 + mn1)) = o) (hco : o.size ≤ 1000) (p00 : arr[0]? = some 112) (p01 : arr[1]? = some 111) (p02 : arr[2]? = some 112) (p03 : arr[3]? = some 32) (p10 : arr[4]? = some 112) (p11 : arr[5]? = some 111) (p12 : arr[6]? = some 112) (p13 : arr[7]? = some 32) (g0 : arr[8]? = some 40) (hp1 : Ct w b' (strC0 (PB w b') arr (((((((((((((0 + 1) - 1) + 1) + 1) + 1) + 1) + 1) - 1) + 1) + 1) + 1) + 1) + 1) e1 #[] l3)) (hx : arr[n1]? = some 32) (h0 : arr[n1 + 1 + 0]? = some 115) (h1 : arr[n1 + 1 + 1]? = some 101) (h2 : arr[n1 + 1 + 2]? = some 97) (h3 : arr[n1 + 1 + 3]? = some 114) (h4 : arr[n1 + 1 + 4]? = some 99) (h5 : arr[n1 + 1 + 5]? = some 104) (hb : arr.size ≤ n1 + 1 + 6) (j : Int) (hj : 0 ≤ j) (hjo : j + (l3.size : Int) ≤ (o.size : Int)) (hmn : (o.size : Int) ≤ mn1) (hsp : Ct w b' (spC o l3 (some j))) : Ct w b' (LSA (PB w b') arr e1 u l3 b1 st1 mn1 o j) :=
 sW 6000 49 (Yh (j0 (56 :: j352 (57 :: j277 (59 :: j90 (60 :: j107 (58 :: j239 (62 :: j90 (63 :: j276 (61 :: j243 (64 :: j348 (64 :: j346 (57 :: j343 (65 :: j389 []))))))))))))) <| YC [0,1,2,3,56,55,6,7,53,52,8,9,10,11,12,13,14,15,16,17,18,19,20,21,22,23,24,25,26,27,28,29,30,31,32,33,34,35] (A4 (PB w b') arr 0) (A4_ok _ _ arr _ 0 (by omega) hs p00 p01 p02 p03) <| Yh (j204 []) <| YC [0,1,2,3,56,55,6,7,53,52,8,9,10,11,12,13,14,15,16,17,18,19,20,21,22,23,24,25,26,27,28,29,30,31,32,33,34,35] (A5 (PB w b') arr ((((((0 + 1) - 1) + 1) + 1) + 1) + 1)) (A5_ok _ _ arr _ 4 (by omega) hs p10 p11 p12 p13) <| Yh (j204 []) <| YC [0,1,2,3,56,55,6,7,53,52,36,37,4,5,38,39,33,34,35] (A6 (PB w b') arr ((((((((((((0 + 1) - 1) + 1) + 1) + 1) + 1) + 1) - 1) + 1) + 1) + 1) + 1) e1 u l3) (A6_ok _ _ arr _ e1 u l3 8 (by omega) hs g0 hl3 hu hp1) <| Yh (j204 []) <| YC [0,1,2,3,56,55,6,7,53,52,8,9,10,11,12,13,14,15,16,17,18,19,20,21,22,23,24,25,26,27,28,40,41,42,32,33,34,35,61,62,43,44,45,46,47,48,49,63,64,65,66,67] (A7 (PB w b') arr e1 b1 st1 mn1 o l3 0 (l3.size : Int) l3 j) (A7_ok _ _ arr e1 n1 he1 hs hx h0 h1 h2 h3 h4 h5 hb b1 st1 mn1 o l3 0 _ l3 hb1 ho hco hl3 (pick0 l3) hl3 j hj hjo hmn hsp) <| Yh (j204 []) <| YC [0,1,2,3,56,55,6,7,53,52] (A8 (PB w b') arr (((((((((e1 + 1) + 1) - 1) + 1) + 1) + 1) + 1) + 1) + 1)) (A8_ok _ _ arr _ (n1 + 1 + 6) (by omega) hs hb) <| Yh (j169 (j347 [])) <| Yn) [68,61,60,69,70,71,72,62,73,74,75,76,63,77,78,79,64,80,81,82,65,66,67] [118,57,58,59,60,61,82,62,63,83,84,85,86,87,88,64,65,66,67,68,89,90,91,92,93,94,95,96,97,98,99,100,101,102,103,104,69,70,71,105,106,107,108,109,110,111,112,113,72,73,74,75]
noncomputable def LSAN (P : Params) (arr : Array UInt8) (e1 u : Int) (l3 b1 : Array UInt8) (st1 mn1 : Int) (o : Array UInt8) : CF := cf 660 LRF_sh fun c x y => mkC (.call (.ref 1848) ⟨[.ref (A x 1),.bytes arr (cT c 1)],[]⟩) [Q59 y x,Q46 x 2,Q135 P y x,Q17 y 3,Q15 x 5,Q16 P y 5,Q11 x 7,Q12 P y x 7 36,Q87 x 9,Q88 P y x 9 10,Q89 y x 21 16 11 10,Q65 x 12,Q90 P y x 12 13,Q91 x 14,Q92 P y x 14 15,Q93,Q65 x 17,Q90 P y x 17 18,Q91 x 19,Q95 P y x 19 20,Q93,Q65 x 22,Q90 P y x 22 23,Q91 x 24,Q96 P y x 24 25,Q136 P y x,Q94 y 26,Q98 y 27,Q99 y 28,Q105 y x 29 30,Q65 x 31,Q115 P y 31,Q107 P y 32,Q50 x 34,Q51 P y x 34 35,Q146 y x,Q13 x 37,Q33 P y x 37 4 38 39 u,Q17 y 38,Q34 y 39,Q105 y x 40 41,Q65 x 42,Q106 P y 42,Q65 x 44,Q66 P y x 44 45,Q63 x 46,Q70 P y x 46 47 st1 mn1,Q64 x 48,Q71 P y x 48 49,Q72 b1] (11) (25) (fun ad v => .ok (.ret (.none))) (fun ad v => [(2,Q147 P y x v),(3,Q125 y),(34,Q76 P y ad 34 0),(35,Q148 y x ad),(37,Q140 P y x v u l3),(39,Q36 y ad v 39 2 2)]) (fun ad v => [Q82 x ad 43 3,Q6 ad 4,Q141 v l3,Q6 ad 5,Q22 P ad v 10 5 11 6 12 13,Q83 P v 14 6 15 16 17,Q23 ad 7,Q142 P ad v 18 8 19 20 l3,Q25 ad 9,Q37 P ad v 21 2 22 10 23 24 9,Q145 l3])
theorem LSAN_ok (arr : Array UInt8) (e1 u : Int) (l3 b1 : Array UInt8) (st1 mn1 : Int) (o : Array UInt8) (n1 : Nat) (he1 : e1 = n1) (hs : arr.size ≤ 1000) (hu : 0 ≤ u ∧ u ≤ 100000) (hl3 : l3.size ≤ 1000) (hb1 : b1.size ≤ 1000) (ho : KBy.picked b1 (some st1) (some (st1 + mn1)) = o) (hco : o.size ≤ 1000) (p00 : arr[0]? = some 112) (p01 : arr[1]? = some 111) (p02 : arr[2]? = some 112) (p03 : arr[3]? = some 32) (p10 : arr[4]? = some 112) (p11 : arr[5]? = some 111) (p12 : arr[6]? = some 112) (p13 : arr[7]? = some 32) (g0 : arr[8]? = some 40) (hp1 : Ct w b' (strC0 (PB w b') arr (((((((((((((0 + 1) - 1) + 1) + 1) + 1) + 1) + 1) - 1) + 1) + 1) + 1) + 1) + 1) e1 #[] l3)) (hx : arr[n1]? = some 32) (h0 : arr[n1 + 1 + 0]? = some 115) (h1 : arr[n1 + 1 + 1]? = some 101) (h2 : arr[n1 + 1 + 2]? = some 97) (h3 : arr[n1 + 1 + 3]? = some 114) (h4 : arr[n1 + 1 + 4]? = some 99) (h5 : arr[n1 + 1 + 5]? = some 104) (hb : arr.size ≤ n1 + 1 + 6) (hsp : Ct w b' (spC o l3 none)) : Ct w b' (LSAN (PB w b') arr e1 u l3 b1 st1 mn1 o) :=
 sW 6000 49 (Yh (j0 (56 :: j352 (57 :: j277 (59 :: j90 (60 :: j107 (58 :: j239 (62 :: j90 (63 :: j276 (61 :: j243 (64 :: j348 (64 :: j346 (57 :: j343 (65 :: j389 []))))))))))))) <| YC [0,1,2,3,56,55,6,7,53,52,8,9,10,11,12,13,14,15,16,17,18,19,20,21,22,23,24,25,26,27,28,29,30,31,32,33,34,35] (A4 (PB w b') arr 0) (A4_ok _ _ arr _ 0 (by omega) hs p00 p01 p02 p03) <| Yh (j204 []) <| YC [0,1,2,3,56,55,6,7,53,52,8,9,10,11,12,13,14,15,16,17,18,19,20,21,22,23,24,25,26,27,28,29,30,31,32,33,34,35] (A5 (PB w b') arr ((((((0 + 1) - 1) + 1) + 1) + 1) + 1)) (A5_ok _ _ arr _ 4 (by omega) hs p10 p11 p12 p13) <| Yh (j204 []) <| YC [0,1,2,3,56,55,6,7,53,52,36,37,4,5,38,39,33,34,35] (A6 (PB w b') arr ((((((((((((0 + 1) - 1) + 1) + 1) + 1) + 1) + 1) - 1) + 1) + 1) + 1) + 1) e1 u l3) (A6_ok _ _ arr _ e1 u l3 8 (by omega) hs g0 hl3 hu hp1) <| Yh (j204 []) <| YC [0,1,2,3,56,55,6,7,53,52,8,9,10,11,12,13,14,15,16,17,18,19,20,21,22,23,24,25,26,27,28,40,41,42,32,33,34,35,61,62,43,44,45,46,47,48,49,63,64,65,66,67] (AN7 (PB w b') arr e1 b1 st1 mn1 o l3 0 (l3.size : Int) l3) (AN7_ok _ _ arr e1 n1 he1 hs hx h0 h1 h2 h3 h4 h5 hb b1 st1 mn1 o l3 0 _ l3 hb1 ho hco hl3 (pick0 l3) hl3 hsp) <| Yh (j204 []) <| YC [0,1,2,3,56,55,6,7,53,52] (A8 (PB w b') arr (((((((((e1 + 1) + 1) - 1) + 1) + 1) + 1) + 1) + 1) + 1)) (A8_ok _ _ arr _ (n1 + 1 + 6) (by omega) hs hb) <| Yh (j169 (j347 [])) <| Yn) [68,61,60,69,62,70,63,64,65,66,67] [91,57,58,59,60,61,82,62,63,64,65,66,67,68,83,84,85,86,69,70,71,72,73,74,75]
noncomputable def lpFr (P : Params) (o s : Array UInt8) (k0 k1 k2 k3 t0 t1 t3 : Nat) (b : Bool) (y : Int) : Obj :=
  ⟨.type "frame",none,.dict #[K P (.str t489 k0) (.bytes o t0),K P (.str t490 k1) (.bytes s t1),K P (.str t488 k2) (.bool b),K P (.str t337 k3) (.int y t3)] 4,#[]⟩
noncomputable def lpFr0 (P : Params) (o s : Array UInt8) (k0 k1 k2 t0 t1 : Nat) (b : Bool) : Obj :=
  ⟨.type "frame",none,.dict #[K P (.str t489 k0) (.bytes o t0),K P (.str t490 k1) (.bytes s t1),K P (.str t488 k2) (.bool b)] 3,#[]⟩
noncomputable def lpC (P : Params) (o s : Array UInt8) (bb : Bool) (i left y : Int) (r : Option Int) (v' l' y' : Int) : CF := ⟨800,8000,true,false,(fun b => b),none,fun c x os => mkC (foCode [154] 0 (A x 0) (A x 1) (⟨#[95,108,97,119,95,112,108,97,99,101,46,60,108,111,99,97,108,115,62,46]⟩) 1827 1826 []) [itO i left,lpFr P o s (kT os 1 0) (kT os 1 1) (kT os 1 2) (kT os 1 3) (vT os 1 0) (vT os 1 1) (vT os 1 3) bb y] (0) (1) (fun _ v => plRes r (A v 0)) (fun _ v => [(0,itO v' l'),(1,lpFr P o s (kT os 1 0) (kT os 1 1) (kT os 1 2) (kT os 1 3) (vT os 1 0) (vT os 1 1) (A v 0) bb y')]) (fun _ _ => [])⟩
noncomputable def lpC0 (P : Params) (o s : Array UInt8) (bb : Bool) (i left : Int) (r : Option Int) (v' l' y' : Int) : CF := ⟨800,8000,true,false,(fun b => b),none,fun c x y => mkC (foCode [154] 0 (A x 0) (A x 1) (⟨#[95,108,97,119,95,112,108,97,99,101,46,60,108,111,99,97,108,115,62,46]⟩) 1827 1826 []) [itO i left,lpFr0 P o s (kT y 1 0) (kT y 1 1) (kT y 1 2) (vT y 1 0) (vT y 1 1) bb] (0) (2) (fun _ v => plRes r (A v 0)) (fun _ v => [(0,itO v' l'),(1,lpFr P o s (kT y 1 0) (kT y 1 1) (kT y 1 2) (A v 1) (vT y 1 0) (vT y 1 1) (A v 0) bb y')]) (fun _ _ => [])⟩
noncomputable def lqC (o s : Array UInt8) (bb : Bool) (r : Option Int) : CF := ⟨780,7800,true,false,(fun b => b),none,fun c _ _ =>
 { code := .call (.ref 1827) ⟨[.bytes o (tokV (argOf c 0)),.bytes s (tokV (argOf c 1)),.bool bb],[]⟩
   own := [],nn := 0,nt := 1
   res := fun _ tk => match r with | some j => .ok (.ret (.int j (A tk 0))) | none => .ok (.ret .none)
   upd := fun _ _ => []
   new := fun _ _ => [] }⟩
theorem lpC_end (w : World) (b' : Bool) (o s : Array UInt8) (bb : Bool) (i y : Int) : Ct w b' (lpC (PB w b') o s bb i ((0 : Nat) : Int) y none i ((0 : Nat) : Int) y) := fun bl c as os _ _ _ _ => by
 refine sf 600 2 (Yh (j124 (9 :: [])) <| Yn) [] (fun _ => [vT os 1 3]) rfl rfl (fun _ => rfl) (List.nodup_nil) rfl ?_
 intro ad tk Γ p hA hc hbl hcalm
 subst hA
 obtain ⟨code,h,ow,blw,past⟩ := Γ
 cases hc
 cases hcalm rfl
 kernel_rfl
theorem lpC_hit (w : World) (b' : Bool) (o s : Array UInt8) (bb : Bool) (i y : Int) (k : Nat) (ho : o.size ≤ 1000) (hs : s.size ≤ 1000) (he : ((cut o s i).toList == s.toList) = true) : Ct w b' (lpC (PB w b') o s bb i ((k + 1 : Nat) : Int) y (some i) (i + 1) (((k + 1 : Nat) : Int) - 1) i) :=
 sV 600 2 (Yh (j341 []) <| Yd [] (lenC_ok _ _ s hs) <| YL 1 [2] (slC o (some i) (some (i + s.size))) (slC_ok _ _ o _ _ ho) <| Yh [7] <| YD [] (eqC (cut o s i) s true) (eqC_ok _ _ _ _ _ he) <| Yh [7] <| Yn) [] [0]
theorem lpC_step (w : World) (b' : Bool) (o s : Array UInt8) (bb : Bool) (i y : Int) (k : Nat) (r : Option Int) (v' l' y' : Int) (ho : o.size ≤ 1000) (hs : s.size ≤ 1000) (he : ((cut o s i).toList == s.toList) = false) (ih : Ct w b' (lpC (PB w b') o s bb (i + 1) (((k + 1 : Nat) : Int) - 1) i r v' l' y')) : Ct w b' (lpC (PB w b') o s bb i ((k + 1 : Nat) : Int) y r v' l' y') :=
 sV 600 2 (Yh (j341 []) <| Yd [] (lenC_ok _ _ s hs) <| YL 1 [2] (slC o (some i) (some (i + s.size))) (slC_ok _ _ o _ _ ho) <| Yh [7] <| YD [] (eqC (cut o s i) s false) (eqC_ok _ _ _ _ _ he) <| Yd [0,1] ih <| Yn) [] [5] (h := fun _ => by cases r <;> kernel_rfl)
theorem lpC0_hit (w : World) (b' : Bool) (o s : Array UInt8) (bb : Bool) (i : Int) (k : Nat) (ho : o.size ≤ 1000) (hs : s.size ≤ 1000) (he : ((cut o s i).toList == s.toList) = true) : Ct w b' (lpC0 (PB w b') o s bb i ((k + 1 : Nat) : Int) (some i) (i + 1) (((k + 1 : Nat) : Int) - 1) i) :=
 sV 600 2 (Yh (j341 []) <| Yd [] (lenC_ok _ _ s hs) <| YL 1 [2] (slC o (some i) (some (i + s.size))) (slC_ok _ _ o _ _ ho) <| Yh [7] <| YD [] (eqC (cut o s i) s true) (eqC_ok _ _ _ _ _ he) <| Yh [7] <| Yn) [] [0,1]
theorem lpC0_step (w : World) (b' : Bool) (o s : Array UInt8) (bb : Bool) (i : Int) (k : Nat) (r : Option Int) (v' l' y' : Int) (ho : o.size ≤ 1000) (hs : s.size ≤ 1000) (he : ((cut o s i).toList == s.toList) = false) (ih : Ct w b' (lpC (PB w b') o s bb (i + 1) (((k + 1 : Nat) : Int) - 1) i r v' l' y')) : Ct w b' (lpC0 (PB w b') o s bb i ((k + 1 : Nat) : Int) r v' l' y') :=
 sV 600 2 (Yh (j341 []) <| Yd [] (lenC_ok _ _ s hs) <| YL 1 [2] (slC o (some i) (some (i + s.size))) (slC_ok _ _ o _ _ ho) <| Yh [7] <| YD [] (eqC (cut o s i) s false) (eqC_ok _ _ _ _ _ he) <| Yd [0,1] ih <| Yn) [] [5,1] (h := fun _ => by cases r <;> kernel_rfl)
theorem lqF_hit (w : World) (b' : Bool) (o s : Array UInt8) (j : Int) (v' l' y' : Int) (ho : o.size ≤ 1000) (hs : s.size ≤ 1000) (hp : Ct w b' (lpC0 (PB w b') o s false 0 ((o.size + 1 : Nat) : Int) (some j) v' l' y')) : Ct w b' (lqC o s false (some j)) :=
 sV 600 0 (Yh (j156 (j337 [])) <| Yd [] (lenC_ok _ _ o ho) <| Yh (j442 []) <| YD [1] (rgC 0 ((o.size : Int) + 1) ((o.size + 1 : Nat) : Int)) (rgC_ok _ _ _ _ _ (by omega) (by omega) (by first | rfl | (rw [if_pos (by omega)]; omega))) <| Yh [8] <| Yc [2,0] hp <| Yn) [] [8]
theorem lqF_miss (w : World) (b' : Bool) (o s : Array UInt8) (v' l' y' : Int) (ho : o.size ≤ 1000) (hs : s.size ≤ 1000) (hp : Ct w b' (lpC0 (PB w b') o s false 0 ((o.size + 1 : Nat) : Int) none v' l' y')) : Ct w b' (lqC o s false none) :=
 sV 600 0 (Yh (j156 (j337 [])) <| Yd [] (lenC_ok _ _ o ho) <| Yh (j442 []) <| YD [1] (rgC 0 ((o.size : Int) + 1) ((o.size + 1 : Nat) : Int)) (rgC_ok _ _ _ _ _ (by omega) (by omega) (by first | rfl | (rw [if_pos (by omega)]; omega))) <| Yh [8] <| Yc [2,0] hp <| Yn) [] [0]
theorem lqT_hit (w : World) (b' : Bool) (o s : Array UInt8) (j : Int) (v' l' y' : Int) (ho : o.size ≤ 1000) (hs : s.size ≤ 1000) (hp : Ct w b' (lpC0 (PB w b') o s true 0 ((1 : Nat) : Int) (some j) v' l' y')) : Ct w b' (lqC o s true (some j)) :=
 sV 600 0 (Yh (j156 (j300 (j442 []))) <| YD [1] (rgC 0 1 ((1 : Nat) : Int)) (rgC_ok _ _ _ _ _ (by omega) (by omega) (by first | rfl | (rw [if_pos (by omega)]; omega))) <| Yh [8] <| Yc [2,0] hp <| Yn) [] [6]
theorem lqT_miss (w : World) (b' : Bool) (o s : Array UInt8) (v' l' y' : Int) (ho : o.size ≤ 1000) (hs : s.size ≤ 1000) (hp : Ct w b' (lpC0 (PB w b') o s true 0 ((1 : Nat) : Int) none v' l' y')) : Ct w b' (lqC o s true none) :=
 sV 600 0 (Yh (j156 (j300 (j442 []))) <| YD [1] (rgC 0 1 ((1 : Nat) : Int)) (rgC_ok _ _ _ _ _ (by omega) (by omega) (by first | rfl | (rw [if_pos (by omega)]; omega))) <| Yh [8] <| Yc [2,0] hp <| Yn) [] [0]
theorem lpC_all (w : World) (b' : Bool) (o s : Array UInt8) (bb : Bool) (ho : o.size ≤ 1000) (hs : s.size ≤ 1000) : ∀ (k i : Nat) (y : Int),∃ v' l' y',Ct w b' (lpC (PB w b') o s bb i (k : Nat) y (castO (plF o s k i)) v' l' y')
 | 0,i,y => ⟨_,_,_,lpC_end w b' o s bb i y⟩
 | k + 1,i,y => by
  unfold plF
  cases he : ((cut o s i).toList == s.toList) with
  | true =>
   rw [if_pos rfl]
   exact ⟨_,_,_,lpC_hit w b' o s bb i y k ho hs he⟩
  | false =>
   rw [if_neg Bool.false_ne_true]
   obtain ⟨v',l',y',z⟩ := lpC_all w b' o s bb ho hs k (i + 1) i
   refine ⟨v',l',y',lpC_step w b' o s bb i y k _ v' l' y' ho hs he ?_⟩
   have e : ((k + 1 : Nat) : Int) - 1 = (k : Nat) := by omega
   rw [e]
   exact z
theorem lpC0_all (w : World) (b' : Bool) (o s : Array UInt8) (bb : Bool) (ho : o.size ≤ 1000) (hs : s.size ≤ 1000) (k : Nat) : ∃ v' l' y',Ct w b' (lpC0 (PB w b') o s bb 0 ((k + 1 : Nat) : Int) (castO (plF o s (k + 1) 0)) v' l' y') := by
 unfold plF
 cases he : ((cut o s (0 : Nat)).toList == s.toList) with
 | true =>
  rw [if_pos rfl]
  exact ⟨_,_,_,lpC0_hit w b' o s bb 0 k ho hs he⟩
 | false =>
  rw [if_neg Bool.false_ne_true]
  obtain ⟨v',l',y',z⟩ := lpC_all w b' o s bb ho hs k 1 0
  have e : ((k + 1 : Nat) : Int) - 1 = (k : Nat) := by omega
  exact ⟨v',l',y',lpC0_step w b' o s bb 0 k _ v' l' y' ho hs he (by rw [e]; exact z)⟩
theorem lqC_all (w : World) (b' : Bool) (o s : Array UInt8) (bb : Bool) (ho : o.size ≤ 1000) (hs : s.size ≤ 1000) : Ct w b' (lqC o s bb (castO (plF o s (if bb then 1 else o.size + 1) 0))) := by
 cases bb with
 | true =>
  obtain ⟨v',l',y',z⟩ := lpC0_all w b' o s true ho hs 0
  show Ctr _ _ (lqC o s true (castO (plF o s 1 0)))
  cases hr : plF o s 1 0 with
  | none => rw [hr] at z; exact lqT_miss w b' o s v' l' y' ho hs z
  | some j => rw [hr] at z; exact lqT_hit w b' o s j v' l' y' ho hs z
 | false =>
  obtain ⟨v',l',y',z⟩ := lpC0_all w b' o s false ho hs o.size
  show Ctr _ _ (lqC o s false (castO (plF o s (o.size + 1) 0)))
  cases hr : plF o s (o.size + 1) 0 with
  | none => rw [hr] at z; exact lqF_miss w b' o s v' l' y' ho hs z
  | some j => rw [hr] at z; exact lqF_hit w b' o s j v' l' y' ho hs z
noncomputable def lqN (o s : Array UInt8) (bb : Bool) : CF := ⟨780,7800,true,false,(fun b => b),none,fun c _ _ =>
 { code := .call (.ref 1827) ⟨[.bytes o (tokV (argOf c 0)),.bytes s (tokV (argOf c 1)),.bool bb],[]⟩
   own := [],nn := 0,nt := 0
   res := fun _ tk => .ok (.ret .none)
   upd := fun _ _ => []
   new := fun _ _ => [] }⟩
theorem lqN_of {M : Model} {kt : KT} {o s : Array UInt8} {bb : Bool} (h : Ctr M kt (lqC o s bb none)) : Ctr M kt (lqN o s bb) := fun bl c as os hB hp hc ho Γ p s e1 e2 e3 e4 e5 e6 e7 e8 e9 e10 => by
 obtain ⟨nad,ntk,s',h1,h2,h3,h4,h5,h6,h7,h8⟩ := h bl c as os hB hp hc ho Γ p s e1 e2 e3 e4 e5 e6 e7 e8 e9 e10
 exact ⟨nad,[],s',h1,rfl,h3,h4,h5,h6,h7,h8⟩
section
variable (u : List Nat) (v : List Nat) (i0 : Nat)
noncomputable def Q149 (s : Array UInt8) (j : Int) : Obj := ⟨.type "tuple",none,.seq #[.ref (A u 1),.int (j + (s.size : Int)) (A v 0)] 0,#[]⟩
noncomputable def Q150 (o : Array UInt8) (s : Array UInt8) (st : Int) (j : Int) : Obj := ⟨.type "tuple",none,.seq #[.int ((st + j) + (s.size : Int)) (A v 1),.int (((o.size : Int) - j) - (s.size : Int)) (A v 2)] 0,#[]⟩
noncomputable def Q151 (s : Array UInt8) (st : Int) (j : Int) : Obj := ⟨.type "tuple",none,.seq #[.int (st + j) (A v 3),.int (s.size : Int) (A v 4)] 0,#[]⟩
end
noncomputable def dueF (P : Params) (o s : Array UInt8) (st : Int) (j : Int) : CF := cg 720 fun c x y => mkC (.call (.ref 1841) ⟨[.bytes o (cT c 0),.bytes s (cT c 1),.bool false,.int st (cT c 3)],[]⟩) [] (5) (6) (fun u v => .ok (.ret (.ref (A u 0)))) nN (fun u v => [Q149 u v s j,⟨.type "list",none,.seq #[.ref (A u 2),.ref (A u 3),.ref (A u 4),.bool true] 0,#[]⟩,Q150 v o s st j,Q151 v s st j,⟨.type "tuple",none,.seq #[.int st (cT c 3),.int j (A v 5)] 0,#[]⟩])
theorem dueF_ok (w : World) (b' : Bool) (o s : Array UInt8) (st : Int) (ho : o.size ≤ 1000) (hs : s.size ≤ 1000) (j : Int) (hlq : Ct w b' (lqC o s false (some j))) : Ct w b' (dueF (PB w b') o s st j) :=
 sV 6000 0 (Yh (j156 (j198 (j144 (j5 [])))) <| Yc [] hlq <| Yh (j156 []) <| Yd [] (lenC_ok _ _ s hs) <| Yh (j166 (8 :: j58 (10 :: j298 (j13 [])))) <| Yd [] (lenC_ok _ _ o ho) <| Yh (6 :: j69 (13 :: 15 :: j344 (16 :: 17 :: j162 (j32 [])))) <| Yn) [13,12,5,6,8] [16,9,12,14,5,4]
noncomputable def dueA (P : Params) (o s : Array UInt8) (st : Int) (j : Int) : CF := cg 720 fun c x y => mkC (.call (.ref 1841) ⟨[.bytes o (cT c 0),.bytes s (cT c 1),.bool true,.int st (cT c 3)],[]⟩) [] (4) (5) (fun u v => .ok (.ret (.ref (A u 0)))) nN (fun u v => [Q149 u v s j,⟨.type "list",none,.seq #[.ref (A u 2),.ref (A u 3),.bool true] 0,#[]⟩,Q150 v o s st j,Q151 v s st j])
theorem dueA_ok (w : World) (b' : Bool) (o s : Array UInt8) (st : Int) (ho : o.size ≤ 1000) (hs : s.size ≤ 1000) (j : Int) (hlq : Ct w b' (lqC o s true (some j))) : Ct w b' (dueA (PB w b') o s st j) :=
 sV 6000 0 (Yh (j156 (j198 (j144 (j5 [])))) <| Yc [] hlq <| Yh (j156 []) <| Yd [] (lenC_ok _ _ s hs) <| Yh (j166 (8 :: j58 (10 :: j298 (j13 [])))) <| Yd [] (lenC_ok _ _ o ho) <| Yh (j248 (13 :: 14 :: j344 (15 :: 16 :: j162 (j32 [])))) <| Yn) [12,11,5,6] [16,9,12,14,5]
section
variable (c : Code) (v : List Nat) (i0 : Nat)
noncomputable def Q152 (o : Array UInt8) (st : Int) : Obj := ⟨.type "tuple",none,.seq #[.int st (cT c 3),.int (o.size : Int) (A v 0)] 0,#[]⟩
end
noncomputable def dueN (P : Params) (o s : Array UInt8) (st : Int) : CF := cg 720 fun c x y => mkC (.call (.ref 1841) ⟨[.bytes o (cT c 0),.bytes s (cT c 1),.bool false,.int st (cT c 3)],[]⟩) [] (3) (1) (fun u v => .ok (.ret (.ref (A u 0)))) nN (fun u v => [⟨.type "tuple",none,.seq #[.ref (A u 1),.none] 0,#[]⟩,⟨.type "list",none,.seq #[.ref (A u 2),.bool false] 0,#[]⟩,Q152 c v o st])
theorem dueN_ok (w : World) (b' : Bool) (o s : Array UInt8) (st : Int) (ho : o.size ≤ 1000) (hs : s.size ≤ 1000) (hlq : Ct w b' (lqN o s false)) : Ct w b' (dueN (PB w b') o s st) :=
 sV 6000 0 (Yh (j156 (j198 (j144 (j5 [])))) <| Yc [] hlq <| Yh (j156 []) <| Yd [] (lenC_ok _ _ s hs) <| Yh (j166 (8 :: j58 (10 :: 6 :: j11 (j13 [])))) <| Yd [] (lenC_ok _ _ o ho) <| Yn) [7,6,5] [7]
noncomputable def dueAN (P : Params) (o s : Array UInt8) (st : Int) : CF := cg 720 fun c x y => mkC (.call (.ref 1841) ⟨[.bytes o (cT c 0),.bytes s (cT c 1),.bool true,.int st (cT c 3)],[]⟩) [] (3) (1) (fun u v => .ok (.ret (.ref (A u 0)))) nN (fun u v => [⟨.type "tuple",none,.seq #[.ref (A u 1),.none] 0,#[]⟩,⟨.type "list",none,.seq #[.ref (A u 2),.bool false] 0,#[]⟩,Q152 c v o st])
theorem dueAN_ok (w : World) (b' : Bool) (o s : Array UInt8) (st : Int) (ho : o.size ≤ 1000) (hs : s.size ≤ 1000) (hlq : Ct w b' (lqN o s true)) : Ct w b' (dueAN (PB w b') o s st) :=
 sV 6000 0 (Yh (j156 (j198 (j144 (j5 [])))) <| Yc [] hlq <| Yh (j156 []) <| Yd [] (lenC_ok _ _ s hs) <| Yh (j166 (8 :: j58 (10 :: 6 :: j11 (j13 [])))) <| Yd [] (lenC_ok _ _ o ho) <| Yn) [7,6,5] [7]
noncomputable def seqO (o : Obj) : Array Value := match o.data with | .seq xs _ => xs | _ => #[]
noncomputable def Vals (xs : Array Value) (vs : List Int) : Prop := xs.size = vs.length ∧ ∀ (i : Nat) (n : Int),vs[i]? = some n → ∃ t,xs[i]? = some (.int n t)
noncomputable def lenLV (vs : List Int) : CF := ⟨990,9800,false,false,(fun b => b),some (fun os => Vals (seqO (os.getD 0 default)) vs),fun c as os =>
  ⟨.builtin "len" ⟨[.ref (A as 0)],[]⟩,[liO (seqO (os.getD 0 default)) (epO (os.getD 0 default))],0,1,fun _ tk => .ok (.ret (.int vs.length (A tk 0))),fun _ _ => [liO (seqO (os.getD 0 default)) (epO (os.getD 0 default))],fun _ _ => []⟩⟩
theorem lenLV_ok (w : World) (kt : KT) (vs : List Int) (hs : vs.length ≤ 1000) : Ctr (model prog w) kt (lenLV vs) := fun bl c as os hB hpre hc ho => by
 have hpre : Vals (seqO (os.getD 0 default)) vs := hpre
 have h := lenLC_ok w kt (seqO (os.getD 0 default)) (by rw [hpre.1]; exact hs) bl c as os rfl trivial hc ho
 have e : (lenLC (seqO (os.getD 0 default))).F c as os = (lenLV vs).F c as os := by
  show CPre.mk _ _ _ _ _ _ _ = CPre.mk _ _ _ _ _ _ _
  rw [hpre.1]
 rw [e] at h
 exact h
noncomputable def ixLV (vs : List Int) (i n : Int) : CF := ⟨990,9800,false,false,(fun b => b),some (fun os => Vals (seqO (os.getD 0 default)) vs),fun c as os =>
  ⟨.builtin "list.__getitem__" ⟨[.ref (A as 0),.int i (tokV (argOf c 1))],[]⟩,[liO (seqO (os.getD 0 default)) (epO (os.getD 0 default))],0,1,fun _ tk => .ok (.ret (.int n (A tk 0))),fun _ _ => [liO (seqO (os.getD 0 default)) (epO (os.getD 0 default))],fun _ _ => []⟩⟩
theorem ixLV_ok (w : World) (kt : KT) (vs : List Int) (i n : Int) (k : Nat) (hi : i = k) (hk : k < 1000000) (hx : vs[k]? = some n) : Ctr (model prog w) kt (ixLV vs i n) := fun bl c as os hB hpre hc ho => by
 have hpre : Vals (seqO (os.getD 0 default)) vs := hpre
 obtain ⟨t,ht⟩ := hpre.2 k n hx
 have h := ixLC_ok w kt (seqO (os.getD 0 default)) i k _ hi hk ht bl c as os rfl trivial hc ho
 intro Γ p s a1 a2 a3 a4 a5 a6 a7 a8 a9 a10
 obtain ⟨nad,ntk,s',l1,l2,b1,b2,b3,b4,b5,b6⟩ := h Γ p s a1 a2 a3 a4 a5 a6 a7 a8 a9 a10
 have hn : nad = [] := List.eq_nil_of_length_eq_zero l1
 subst hn
 exact ⟨[],[t],s',rfl,rfl,List.nodup_nil,fun _ h => (nomatch h),b3,b4,trivial,b6⟩
noncomputable def neLV (vs : List Int) : CF := ⟨990,9800,false,false,(fun b => b),some (fun os => Vals (seqO (os.getD 0 default)) vs),fun c as os =>
  ⟨.builtin "list.__eq__" ⟨[.ref (A as 0),.ref (A as 1)],[]⟩,[liO (seqO (os.getD 0 default)) (epO (os.getD 0 default)),liO #[] (epO (os.getD 1 default))],0,0,fun _ tk => .ok (.ret (.bool false)),fun _ _ => [liO (seqO (os.getD 0 default)) (epO (os.getD 0 default)),liO #[] (epO (os.getD 1 default))],fun _ _ => []⟩⟩
theorem neLV_ok (w : World) (kt : KT) (vs : List Int) (h : 0 < vs.length) : Ctr (model prog w) kt (neLV vs) := fun bl c as os hB hpre hc ho => by
 have hpre : Vals (seqO (os.getD 0 default)) vs := hpre
 exact neLC_ok w kt (seqO (os.getD 0 default)) (by rw [hpre.1]; exact h) bl c as os rfl trivial hc ho
theorem rep_ok {P : Prop} (h : P) (n : Nat) : ∀ x ∈ List.replicate n (P,Ob.q True),x.1 ∧ x.2 = .q True := fun x hx => by
  rw [List.eq_of_mem_replicate hx]; exact ⟨h,rfl⟩
noncomputable def drC (P : Params) (B : List (Code × Pos) → List (Code × Pos)) (vs : List Int) (at_ bl r : Int) : CF := ⟨780,7800,true,false,B,some (fun os => Vals (seqO (os.getD 1 default)) vs),fun c as os =>
 { code := .call (.ref 1815) ⟨[.ref (A as 0),.int bl (tokV (argOf c 1))],[]⟩
   own := [deckO P (A as 1) (kT os 0 0) (kT os 0 1) at_ (vT os 0 1),liO (seqO (os.getD 1 default)) (epO (os.getD 1 default))]
   nn := 0,nt := 2
   res := fun _ tk => .ok (.ret (.int r (A tk 0)))
   upd := fun _ tk => [deckO P (A as 1) (kT os 0 0) (kT os 0 1) (at_ + 1) (A tk 1),liO (seqO (os.getD 1 default)) (epO (os.getD 1 default))]
   new := fun _ _ => [] }⟩
theorem drC_in (w : World) (b' : Bool) (B : List (Code × Pos) → List (Code × Pos)) (vs : List Int) (at_ bl v : Int) (n : Nat) (hn : at_ = n) (hs : vs.length ≤ 1000) (hx : vs[n]? = some v) (hb : bl ≠ 0) : Ct w b' (drC (PB w b') B vs at_ bl (v.fmod bl)) := fun bw c as os _ hpre _ _ => by
 have hlt : n < vs.length := (List.getElem?_eq_some_iff.mp hx).1
 refine sq 600 2 (Yh (j97 (j27 (j94 []))) <| YD [0] (dkAtC (PB w b') at_) (dkAtC_ok _ _ _ rfl at_) <| Yh (8 :: j94 []) <| YD [0] (dkCellsC (PB w b') at_) (dkCellsC_ok _ _ _ rfl at_) <| Yh (j322 (j371 (j175 []))) <| YD [0] (dkSetC (PB w b') at_ (at_ + 1)) (dkSetC_ok _ _ _ rfl _ _) <| Yh (j370 []) <| Yd [1] (lenLV_ok _ _ vs hs) <| Yv 0 (bX (at_ < (vs.length : Int))) (bF true) (bT (by omega)) <| Yh (j120 (j166 [])) <| Yd [1] (ixLV_ok _ _ vs at_ v n hn (by omega) hx) <| Yh [8] <| YD [] (modC v bl) (modC_ok _ _ _ _ hb) <| Yn) [] (fun tk => [tk 11,tk 7]) (fun _ _ => List.replicate 2 (Vals (seqO (os.getD 1 default)) vs,.q True)) (fun _ _ => rep_ok hpre 2) rfl rfl (fun _ => rfl) (List.nodup_nil) rfl ?_
 intro ad tk Γ p hA hc hbl hcalm
 subst hA
 obtain ⟨code,h,ow,blw,past⟩ := Γ
 cases hc
 cases hcalm rfl
 kernel_rfl
noncomputable def fBody (c : Code) : List Stmt := match c with | .func b _ => b | _ => []
noncomputable def fEnv (c : Code) : Env := match c with | .func _ e => e | .compLoop _ _ _ _ e => e | _ => default
noncomputable def fnS (x : Code × Pos) : Code × Pos := (.func (fBody x.1) (fEnv x.1),x.2)
noncomputable def caS (x : Code × Pos) : Code × Pos := (.builtin "claim.caller" (match x.1 with | .builtin _ a => a | _ => {}),x.2)
noncomputable def lcE (e : PySem.Expr) : PySem.Expr := .ListComp (match e with | .ListComp a _ _ _ => a | _ => default) (match e with | .ListComp _ a _ _ => a | _ => default) (match e with | .ListComp _ _ a _ => a | _ => default) (match e with | .ListComp _ _ _ a => a | _ => default)
noncomputable def coX (c : Code) : PySem.Expr := match c with | .compLoop e _ _ _ _ => e | _ => default
noncomputable def coD (c : Code) : Nat := match c with | .compLoop _ d _ _ _ => d | _ => 0
noncomputable def coI (c : Code) : Value := match c with | .compLoop _ _ i _ _ => i | _ => .none
noncomputable def coA (c : Code) : Value := match c with | .compLoop _ _ _ a _ => a | _ => .none
noncomputable def cpS (x : Code × Pos) : Code × Pos := (.compLoop (lcE (coX x.1)) (coD x.1) (coI x.1) (coA x.1) (fEnv x.1),x.2)
noncomputable def nth (l : List (Code × Pos)) (i : Nat) : Code × Pos := l.getD i default
noncomputable def sh1 (l : List (Code × Pos)) : List (Code × Pos) := [fnS (nth l 0),caS (nth l 1)]
noncomputable def sh2 (l : List (Code × Pos)) : List (Code × Pos) := [cpS (nth l 0),fnS (nth l 1),fnS (nth l 2),caS (nth l 3)]
theorem drC_empty (w : World) (b' : Bool) (B : List (Code × Pos) → List (Code × Pos)) (hBB : B = sh1 ∨ B = sh2) (at_ bl : Int) (hn : 0 ≤ at_ ∧ at_ < 1000000) (hb : bl ≠ 0) : Ct w b' (drC (PB w b') B [] at_ bl ((at_ * 7 + at_.fdiv 3).fmod bl)) := fun bw c as os hB hpre _ _ => by
 have hs : (#[] : Array Value).size ≤ 1000 := by decide
 have hlt : ¬ at_ < (((#[] : Array Value).size : Nat) : Int) := by have := hn.1; intro h; have h : at_ < 0 := h; omega
 have he : seqO (os.getD 1 default) = #[] := Array.eq_empty_of_size_eq_zero (hpre.1)
 have e : (drC (PB w b') B [] at_ bl ((at_ * 7 + at_.fdiv 3).fmod bl)).F c as os =
  { code := .call (.ref 1815) ⟨[.ref (A as 0),.int bl (tokV (argOf c 1))],[]⟩
    own := [deckO (PB w b') (A as 1) (kT os 0 0) (kT os 0 1) at_ (vT os 0 1),liO #[] (epO (os.getD 1 default))]
    nn := 0,nt := 2
    res := fun _ tk => .ok (.ret (.int ((at_ * 7 + at_.fdiv 3).fmod bl) (A tk 0)))
    upd := fun _ tk => [deckO (PB w b') (A as 1) (kT os 0 0) (kT os 0 1) (at_ + 1) (A tk 1),liO #[] (epO (os.getD 1 default))]
    new := fun _ _ => [] } := by
  show CPre.mk _ _ _ _ _ _ _ = CPre.mk _ _ _ _ _ _ _
  rw [he]
 rw [e]
 refine so 600 2 (Yh (j97 (j27 (j94 []))) <| YD [0] (dkAtC (PB w b') at_) (dkAtC_ok _ _ _ rfl at_) <| Yh (8 :: j94 []) <| YD [0] (dkCellsC (PB w b') at_) (dkCellsC_ok _ _ _ rfl at_) <| Yh (j322 (j371 (j175 []))) <| YD [0] (dkSetC (PB w b') at_ (at_ + 1)) (dkSetC_ok _ _ _ rfl _ _) <| Yh (j370 []) <| Yd [1] (lenLC_ok _ _ #[] hs) <| Yv 0 (bX (at_ < (((#[] : Array Value).size : Nat) : Int))) (bF false) (bN hlt) <| Yh (8 :: 7 :: 13 :: j282 []) <| Yd [] (mulC_ok _ _ at_ 7 hn) <| Yh [8] <| Yd [] (fdvC_ok _ _ at_ 3 (by decide) (by decide)) <| Yh [8] <| YD [] (modC (at_ * 7 + at_.fdiv 3) bl) (modC_ok _ _ _ _ hb) <| Yn) [] [15,7] rfl rfl rfl (List.nodup_nil) rfl ?_
 intro ad tk Γ p hA hc hbl hcalm
 subst hA
 obtain ⟨code,h,ow,blw,past⟩ := Γ
 have hbl' : blw = B bw := (hbl : blw = bw).trans hB.symm
 clear hbl hB
 cases hc
 cases hcalm rfl
 rcases hBB with rfl | rfl <;> subst hbl' <;> kernel_rfl
theorem drC_out (w : World) (b' : Bool) (B : List (Code × Pos) → List (Code × Pos)) (hBB : B = sh1 ∨ B = sh2) (vs : List Int) (at_ bl v : Int) (n : Nat) (hs : vs.length ≤ 1000) (hn : 0 ≤ at_ ∧ at_ < 100000) (hlt : ¬ at_ < (vs.length : Int)) (hne : 0 < vs.length) (hm : at_.fmod vs.length = n) (hx : vs[n]? = some v) (hb : bl ≠ 0) : Ct w b' (drC (PB w b') B vs at_ bl ((v.fdiv (at_ + 1) + at_ * 5).fmod bl)) := fun bw c as os hB hpre _ _ => by
 have hlx : n < vs.length := (List.getElem?_eq_some_iff.mp hx).1
 refine sq 600 2 (Yh (j97 (j27 (j94 []))) <| YD [0] (dkAtC (PB w b') at_) (dkAtC_ok _ _ _ rfl at_) <| Yh (8 :: j94 []) <| YD [0] (dkCellsC (PB w b') at_) (dkCellsC_ok _ _ _ rfl at_) <| Yh (j322 (j371 (j175 []))) <| YD [0] (dkSetC (PB w b') at_ (at_ + 1)) (dkSetC_ok _ _ _ rfl _ _) <| Yh (j370 []) <| Yd [1] (lenLV_ok _ _ vs hs) <| Yv 0 (bX (at_ < (vs.length : Int))) (bF false) (bN hlt) <| Yh (8 :: 7 :: 13 :: j22 []) <| Yd [1,7] (neLV_ok _ _ vs hne) <| Yh (j120 (j13 [])) <| Yd [1] (lenLV_ok _ _ vs hs) <| YD [] (modC at_ vs.length) (modC_ok _ _ _ _ (by omega)) <| Yh (j166 []) <| YD [1] (ixLV vs (at_.fmod vs.length) v) (ixLV_ok _ _ vs _ v n hm (by omega) hx) <| Yh [8] <| Yl 1 [] (fdvC_ok _ _ v (at_ + 1) (by omega) (by omega)) <| Yh [8] <| Yd [] (mulC_ok _ _ at_ 5 (by omega)) <| Yh [8] <| YD [] (modC (v.fdiv (at_ + 1) + at_ * 5) bl) (modC_ok _ _ _ _ hb) <| Yn) [] (fun tk => [tk 19,tk 7]) (fun _ _ => List.replicate 4 (Vals (seqO (os.getD 1 default)) vs,.q True)) (fun _ _ => rep_ok hpre 4) rfl rfl (fun _ => rfl) (List.nodup_nil) rfl ?_
 intro ad tk Γ p hA hc hbl hcalm
 subst hA
 obtain ⟨code,h,ow,blw,past⟩ := Γ
 have hbl' : blw = B bw := (hbl : blw = bw).trans hB.symm
 clear hbl hB
 cases hc
 cases hcalm rfl
 rcases hBB with rfl | rfl <;> subst hbl' <;> kernel_rfl
noncomputable def sh3 (l : List (Code × Pos)) : List (Code × Pos) := [fnS (nth l 0),fnS (nth l 1),caS (nth l 2)]
noncomputable def cellO (a : Nat) : Obj := ⟨.type "cell",none,.cell (some (.ref a)),#[]⟩
noncomputable def scM (s : Scope) : Scope := { s with names := s.names.map fun x => match x.2 with | .free => (x.1,.cell) | _ => x }
noncomputable def sgCode (it acc loc cell : Nat) (c : Code) : Code := match fnAt [153] prog.main.body with
 | some (.FunctionDef _ _ body _ _ _ _ _ _ _) => match (body[0]? : Option Stmt) with
  | some (.Return (some (.Call _ (e :: _) _ _)) _) => match e with
   | .ListComp a g sc p => .compLoop (.ListComp a g sc p) 0 (.ref it) (.ref acc) ⟨scM sc,loc,3,[(t486,cell)],(⟨#[95,108,97,119,95,115,105,103,110,115,46,60,108,111,99,97,108,115,62,46]⟩),none,.ref 1819,(fEnv c).frame,0⟩
   | _ => default
  | _ => default
 | _ => default
noncomputable def lcO (P : Params) (k : Nat) (y : Int) (t : Nat) : Obj := ⟨.type "dict",none,.dict #[K P (.str t584 k) (.int y t)] 1,#[]⟩
noncomputable def arrJ (o : Obj) (j : Nat) : Array Value := ((List.range j).map fun t => (seqO o).toList.getD t .none).toArray
section
variable (P : Params) (y : List Obj) (x : List Nat) (v : List Nat) (i0 i1 : Nat)
noncomputable def Q153 (at_ : Int) : Obj := deckO P (A x i0) (kT y i1 0) (kT y i1 1) at_ (vT y i1 1)
noncomputable def Q154 (atE : Int) : Obj := deckO P (A x i0) (kT y i1 0) (kT y i1 1) atE (A v 1)
end
noncomputable def sgC (j : Nat) (P : Params) (vs : List Int) (at_ atE : Int) (l : List UInt8) (i left vE lE y yE : Int) : CF := ⟨760,7600,true,false,sh3,some (fun os => Vals (seqO (os.getD 5 default)) vs),fun c x os => mkC (sgCode (A x 0) (A x 1) (A x 2) (A x 3) c) [itO i left,liO (arrJ (os.getD 1 default) j) (epO (os.getD 1 default)),lcO P (kT os 2 0) y (vT os 2 0),cellO (A x 4),Q153 P os x 5 4 at_,liO (seqO (os.getD 5 default)) (epO (os.getD 5 default))] (0) (l.length + 3) (fun _ _ => .ok .next) (fun _ v => [(0,itO vE lE),(1,liO (appV (arrJ (os.getD 1 default) j) l (v.drop 3)) (A v 2)),(2,lcO P (kT os 2 0) yE (A v 0)),(4,Q154 P os x v 5 4 atE)]) (fun _ _ => [])⟩
theorem sgC_end (j : Nat) (hj : j ≤ 10) (w : World) (b' : Bool) (vs : List Int) (at_ i y : Int) : Ct w b' (sgC j (PB w b') vs at_ at_ [] i ((0 : Nat) : Int) i ((0 : Nat) : Int) y y) := fun bw c as os hB hpre _ _ => by
 refine sf 600 6 (Yh (j124 (13 :: [])) <| Yn) [] (fun _ => [vT os 2 0,vT os 4 1,epO (os.getD 1 default)]) rfl rfl (fun _ => rfl) (List.nodup_nil) rfl ?_
 intro ad tk Γ p hA hc hbl hcalm
 subst hA
 obtain ⟨code,h,ow,blw,past⟩ := Γ
 have hbl' : blw = sh3 bw := (hbl : blw = bw).trans hB.symm
 clear hbl
 cases hc
 cases hcalm rfl
 subst hbl'
 have hj' : j = 0 ∨ j = 1 ∨ j = 2 ∨ j = 3 ∨ j = 4 ∨ j = 5 ∨ j = 6 ∨ j = 7 ∨ j = 8 ∨ j = 9 ∨ j = 10 := by omega
 rcases hj' with rfl | rfl | rfl | rfl | rfl | rfl | rfl | rfl | rfl | rfl | rfl <;> kernel_rfl
theorem sgC_step (j : Nat) (hj : j ≤ 9) (w : World) (b' : Bool) (vs : List Int) (at_ atE : Int) (x : UInt8) (l : List UInt8) (i vE lE y yE r : Int) (k n : Nat) (hr : r = n) (hx : (#[97,97,98,99] : Array UInt8)[n]? = some x) (hd : Ct w b' (drC (PB w b') sh2 vs at_ 4 r))
  (ih : Ct w b' (sgC (j + 1) (PB w b') vs (at_ + 1) atE l (i + 1) (((k + 1 : Nat) : Int) - 1) vE lE i yE)) : Ct w b' (sgC j (PB w b') vs at_ atE (x :: l) i ((k + 1 : Nat) : Int) vE lE y yE) := fun bw c as os hB hpre _ _ => by
 refine sq 600 6 (Yh (j248 (j317 (j404 []))) <| Yc [4,5] hd <| YD [] (ixC #[97,97,98,99] r x) (ixC_ok _ _ _ r n x hr (by decide) hx) <| Yh (j166 []) <| Yd [0,1,2,3,4,5] ih <| Yn) [] (fun tk => tk 7 :: tk 8 :: tk 9 :: tk 6 :: span tk 10 l.length) (fun _ _ => List.replicate 2 (Vals (seqO (os.getD 5 default)) vs,.q True)) (fun _ _ => rep_ok hpre 2) rfl rfl (fun tk => by show (span tk 10 l.length).length + 1 + 1 + 1 + 1 = l.length + 1 + 3; rw [span_length]) (List.nodup_nil) rfl ?_
 intro ad tk Γ p hA hc hbl hcalm
 subst hA
 obtain ⟨code,h,ow,blw,past⟩ := Γ
 have hbl' : blw = sh3 bw := (hbl : blw = bw).trans hB.symm
 clear hbl
 cases hc
 cases hcalm rfl
 subst hbl'
 have hj' : j = 0 ∨ j = 1 ∨ j = 2 ∨ j = 3 ∨ j = 4 ∨ j = 5 ∨ j = 6 ∨ j = 7 ∨ j = 8 ∨ j = 9 := by omega
 rcases hj' with rfl | rfl | rfl | rfl | rfl | rfl | rfl | rfl | rfl | rfl <;> kernel_rfl
noncomputable def Drawable (w : World) (b' : Bool) (vs : List Int) (at_ : Nat) (l : List UInt8) : Prop :=
  ∀ (t : Nat) (x : UInt8),l[t]? = some x → ∃ n : Nat,(#[97,97,98,99] : Array UInt8)[n]? = some x ∧ Ct w b' (drC (PB w b') sh2 vs ((at_ + t : Nat) : Int) 4 (n : Nat))
theorem sgC_all (w : World) (b' : Bool) (vs : List Int) : ∀ (l : List UInt8) (j at_ : Nat) (i y : Int),j + l.length ≤ 10 → Drawable w b' vs at_ l →
  ∃ vE lE yE,Ct w b' (sgC j (PB w b') vs (at_ : Nat) ((at_ + l.length : Nat) : Int) l i (l.length : Nat) vE lE y yE)
 | [],j,at_,i,y,hj,_ => ⟨_,_,_,sgC_end j (by simpa using hj) w b' vs at_ i y⟩
 | x :: l,j,at_,i,y,hj,hd => by
  obtain ⟨n,hx,c⟩ := hd 0 x (by simp)
  obtain ⟨vE,lE,yE,z⟩ := sgC_all w b' vs l (j + 1) (at_ + 1) (i + 1) i (by simp at hj; omega) fun t y ht => by
   obtain ⟨n,h1,h2⟩ := hd (t + 1) y (by simpa using ht)
   exact ⟨n,h1,by rw [show at_ + 1 + t = at_ + (t + 1) by omega]; exact h2⟩
  refine ⟨vE,lE,yE,?_⟩
  have e1 : at_ + (x :: l).length = at_ + 1 + l.length := by simp; omega
  rw [e1]
  refine sgC_step j (by simp at hj; omega) w b' vs at_ _ x l i vE lE y yE n l.length n rfl hx (by simpa using c) ?_
  have e2 : ((l.length + 1 : Nat) : Int) - 1 = (l.length : Nat) := by omega
  rw [e2]
  exact z
noncomputable def ssCode (it acc loc cell : Nat) (c : Code) : Code := match fnAt [153] prog.main.body with
 | some (.FunctionDef _ _ body _ _ _ _ _ _ _) => match (body[0]? : Option Stmt) with
  | some (.Return (some (.Call _ (e :: _) _ _)) _) => match e with
   | .ListComp a g sc p => .compStart (.ListComp a g sc p) 0 (.ref it) (.ref acc) ⟨scM sc,loc,3,[(t486,cell)],(⟨#[95,108,97,119,95,115,105,103,110,115,46,60,108,111,99,97,108,115,62,46]⟩),none,.ref 1819,(csEnv c).frame,0⟩
   | _ => default
  | _ => default
 | _ => default
where csEnv (c : Code) : Env := match c with | .compStart _ _ _ _ e => e | _ => default
noncomputable def ssC (P : Params) (vs : List Int) (at_ atE : Int) (l : List UInt8) (left vE lE yE : Int) : CF := ⟨750,7500,true,false,sh3,some (fun y => Vals (seqO (y.getD 5 default)) vs),fun c x y => mkC (ssCode (A x 0) (A x 1) (A x 2) (A x 3) c) [itO 0 left,liO #[] (epO (y.getD 1 default)),dO #[] 0,cellO (A x 4),Q153 P y x 5 4 at_,liO (seqO (y.getD 5 default)) (epO (y.getD 5 default))] (0) (l.length + 4) (fun _ v => .ok .next) (fun _ v => [(0,itO vE lE),(1,liO (appV #[] l (v.drop 4)) (A v 2)),(2,(match l with | [] => dO #[] 0 | _ :: _ => lcO P (A v 3) yE (A v 0))),(4,Q154 P y x v 5 4 atE)]) (fun _ _ => [])⟩
abbrev WC (w : World) (c : Bool) : World := w.withFollow "comprehension-iter-twice" c
theorem ssC_nilF (w : World) (b' : Bool) (vs : List Int) (at_ yE : Int) : Ct (WC w false) b' (ssC (PB (WC w false) b') vs at_ at_ [] ((0 : Nat) : Int) 0 ((0 : Nat) : Int) yE) := fun bw c as os hB hpre _ _ => by
 refine sf 600 6 (Yh (j248 (13 :: [])) <| Yn) [] (fun _ => [0,vT os 4 1,epO (os.getD 1 default),0]) rfl rfl (fun _ => rfl) (List.nodup_nil) rfl ?_
 intro ad tk Γ p hA hc hbl hcalm
 subst hA
 obtain ⟨code,h,ow,blw,past⟩ := Γ
 have hbl' : blw = sh3 bw := (hbl : blw = bw).trans hB.symm
 clear hbl
 cases hc
 cases hcalm rfl
 subst hbl'
 kernel_rfl
theorem ssC_consF (w : World) (b' : Bool) (vs : List Int) (at_ atE : Int) (x : UInt8) (l : List UInt8) (vE lE yE r : Int) (k n : Nat) (hr : r = n) (hx : (#[97,97,98,99] : Array UInt8)[n]? = some x) (hd : Ct (WC w false) b' (drC (PB (WC w false) b') sh2 vs at_ 4 r))
  (ih : Ct (WC w false) b' (sgC 1 (PB (WC w false) b') vs (at_ + 1) atE l (0 + 1) (((k + 1 : Nat) : Int) - 1) vE lE 0 yE)) : Ct (WC w false) b' (ssC (PB (WC w false) b') vs at_ atE (x :: l) ((k + 1 : Nat) : Int) vE lE yE) := fun bw c as os hB hpre _ _ => by
 refine sq 600 6 (Yh (j248 (j12 (j317 (j404 [])))) <| Yc [4,5] hd <| YD [] (ixC #[97,97,98,99] r x) (ixC_ok _ _ _ r n x hr (by decide) hx) <| Yh (j166 []) <| Yd [0,1,2,3,4,5] ih <| Yn) [] (fun tk => tk 7 :: tk 8 :: tk 9 :: tk 1 :: tk 6 :: span tk 10 l.length) (fun _ _ => List.replicate 2 (Vals (seqO (os.getD 5 default)) vs,.q True)) (fun _ _ => rep_ok hpre 2) rfl rfl (fun tk => by show (span tk 10 l.length).length + 1 + 1 + 1 + 1 + 1 = l.length + 1 + 4; rw [span_length]) (List.nodup_nil) rfl ?_
 intro ad tk Γ p hA hc hbl hcalm
 subst hA
 obtain ⟨code,h,ow,blw,past⟩ := Γ
 have hbl' : blw = sh3 bw := (hbl : blw = bw).trans hB.symm
 clear hbl
 cases hc
 cases hcalm rfl
 subst hbl'
 kernel_rfl
theorem ssC_nilT (w : World) (b' : Bool) (vs : List Int) (at_ yE : Int) : Ct (WC w true) b' (ssC (PB (WC w true) b') vs at_ at_ [] ((0 : Nat) : Int) 0 ((0 : Nat) : Int) yE) := fun bw c as os hB hpre _ _ => by
 refine sf 600 6 (Yh (j124 (13 :: [])) <| Yn) [] (fun _ => [0,vT os 4 1,epO (os.getD 1 default),0]) rfl rfl (fun _ => rfl) (List.nodup_nil) rfl ?_
 intro ad tk Γ p hA hc hbl hcalm
 subst hA
 obtain ⟨code,h,ow,blw,past⟩ := Γ
 have hbl' : blw = sh3 bw := (hbl : blw = bw).trans hB.symm
 clear hbl
 cases hc
 cases hcalm rfl
 subst hbl'
 kernel_rfl
theorem ssC_consT (w : World) (b' : Bool) (vs : List Int) (at_ atE : Int) (x : UInt8) (l : List UInt8) (vE lE yE r : Int) (k n : Nat) (hr : r = n) (hx : (#[97,97,98,99] : Array UInt8)[n]? = some x) (hd : Ct (WC w true) b' (drC (PB (WC w true) b') sh2 vs at_ 4 r))
  (ih : Ct (WC w true) b' (sgC 1 (PB (WC w true) b') vs (at_ + 1) atE l (0 + 1) (((k + 1 : Nat) : Int) - 1) vE lE 0 yE)) : Ct (WC w true) b' (ssC (PB (WC w true) b') vs at_ atE (x :: l) ((k + 1 : Nat) : Int) vE lE yE) := fun bw c as os hB hpre _ _ => by
 refine sq 600 6 (Yh (j248 (j317 (j404 []))) <| Yc [4,5] hd <| YD [] (ixC #[97,97,98,99] r x) (ixC_ok _ _ _ r n x hr (by decide) hx) <| Yh (j166 []) <| Yd [0,1,2,3,4,5] ih <| Yn) [] (fun tk => tk 7 :: tk 8 :: tk 9 :: tk 1 :: tk 6 :: span tk 10 l.length) (fun _ _ => List.replicate 2 (Vals (seqO (os.getD 5 default)) vs,.q True)) (fun _ _ => rep_ok hpre 2) rfl rfl (fun tk => by show (span tk 10 l.length).length + 1 + 1 + 1 + 1 + 1 = l.length + 1 + 4; rw [span_length]) (List.nodup_nil) rfl ?_
 intro ad tk Γ p hA hc hbl hcalm
 subst hA
 obtain ⟨code,h,ow,blw,past⟩ := Γ
 have hbl' : blw = sh3 bw := (hbl : blw = bw).trans hB.symm
 clear hbl
 cases hc
 cases hcalm rfl
 subst hbl'
 kernel_rfl
theorem ssC_all (w : World) (c : Bool) (b' : Bool) (vs : List Int) (l : List UInt8) (at_ : Nat) (hl : l.length ≤ 10) (hd : Drawable (WC w c) b' vs at_ l) :
  ∃ vE lE yE,Ct (WC w c) b' (ssC (PB (WC w c) b') vs (at_ : Nat) ((at_ + l.length : Nat) : Int) l (l.length : Nat) vE lE yE) := by
 cases l with
 | nil =>
  cases c
  · exact ⟨_,_,0,ssC_nilF w b' vs at_ 0⟩
  · exact ⟨_,_,0,ssC_nilT w b' vs at_ 0⟩
 | cons x l =>
  obtain ⟨n,hx,hc⟩ := hd 0 x (by simp)
  obtain ⟨vE,lE,yE,z⟩ := sgC_all (WC w c) b' vs l 1 (at_ + 1) (0 + 1) 0 (by simp at hl; omega) fun t y ht => by
    obtain ⟨n,h1,h2⟩ := hd (t + 1) y (by simpa using ht)
    exact ⟨n,h1,by rw [show at_ + 1 + t = at_ + (t + 1) by omega]; exact h2⟩
  refine ⟨vE,lE,yE,?_⟩
  have e1 : at_ + (x :: l).length = at_ + 1 + l.length := by simp; omega
  rw [e1]
  have e2 : ((l.length + 1 : Nat) : Int) - 1 = (l.length : Nat) := by omega
  cases c
  · refine ssC_consF w b' vs at_ _ x l vE lE yE n l.length n rfl hx (by simpa using hc) ?_
    rw [e2]
    exact z
  · refine ssC_consT w b' vs at_ _ x l vE lE yE n l.length n rfl hx (by simpa using hc) ?_
    rw [e2]
    exact z
noncomputable def sigC (P : Params) (vs : List Int) (at_ atE many : Int) (l : List UInt8) : CF := ⟨740,7400,true,false,sh1,some (fun y => Vals (seqO (y.getD 1 default)) vs),fun c x y => mkC (.call (.ref 1820) ⟨[.ref (A x 0),.int many (tokV (argOf c 1))],[]⟩) [Q153 P y x 1 0 at_,liO (seqO (y.getD 1 default)) (epO (y.getD 1 default))] (0) (2) (fun _ v => .ok (.ret (.bytes l.toArray (A v 0)))) (fun _ v => [(0,Q154 P y x v 1 0 atE)]) (fun _ _ => [])⟩
theorem sigC_nil (w : World) (c : Bool) (b' : Bool) (vs : List Int) (at_ atE many left vE lE yE : Int) (hmb : 0 ≤ many ∧ many ≤ 1000) (hm : (if (0 : Int) < many then many - 0 else 0) = left)
  (hs : Ct (WC w c) b' (ssC (PB (WC w c) b') vs at_ atE [] left vE lE yE)) : Ct (WC w c) b' (sigC (PB (WC w c) b') vs at_ atE many []) := fun bw cd as os hB hpre _ _ => by
 refine sq 600 2 (Yh (j0 (j285 (j33 (j134 (10 :: j62 []))))) <| YD [4] (rgC 0 many left) (rgC_ok _ _ _ _ _ (by omega) (by omega) hm) <| Yh [11] <| Yc [5,6,7,3,0,1] hs <| Yh [13] <| Yk 1 [6] (byC_ok _ _ [] (by decide)) <| Yn) [] (fun tk => [tk 7,tk 4]) (fun _ _ => List.replicate 1 (Vals (seqO (os.getD 1 default)) vs,.q True)) (fun _ _ => rep_ok hpre 1) rfl rfl (fun tk => rfl) (List.nodup_nil) rfl ?_
 intro ad tk Γ p hA hc hbl hcalm
 subst hA
 obtain ⟨code,h,ow,blw,past⟩ := Γ
 have hbl' : blw = sh1 bw := (hbl : blw = bw).trans hB.symm
 clear hbl
 cases hc
 cases hcalm rfl
 subst hbl'
 kernel_rfl
theorem sigC_cons (w : World) (c : Bool) (b' : Bool) (vs : List Int) (at_ atE many left vE lE yE : Int) (l : List UInt8) (hl : l.length ≤ 10) (hl0 : l ≠ []) (hmb : 0 ≤ many ∧ many ≤ 1000) (hm : (if (0 : Int) < many then many - 0 else 0) = left)
  (hs : Ct (WC w c) b' (ssC (PB (WC w c) b') vs at_ atE l left vE lE yE)) : Ct (WC w c) b' (sigC (PB (WC w c) b') vs at_ atE many l) := fun bw cd as os hB hpre _ _ => by
 refine sq 600 2 (Yh (j0 (j285 (j33 (j134 (10 :: j62 []))))) <| YD [4] (rgC 0 many left) (rgC_ok _ _ _ _ _ (by omega) (by omega) hm) <| Yh [11] <| Yc [5,6,7,3,0,1] hs <| Yh (j356 []) <| Yk 1 [6] (byC_ok _ _ l (by omega)) <| Yn) [] (fun tk => [tk (l.length + 7),tk 4]) (fun _ _ => List.replicate 1 (Vals (seqO (os.getD 1 default)) vs,.q True)) (fun _ _ => rep_ok hpre 1) rfl rfl (fun tk => rfl) (List.nodup_nil) rfl ?_
 intro ad tk Γ p hA hc hbl hcalm
 subst hA
 obtain ⟨code,h,ow,blw,past⟩ := Γ
 have hbl' : blw = sh1 bw := (hbl : blw = bw).trans hB.symm
 clear hbl
 cases hc
 cases hcalm rfl
 subst hbl'
 rcases l with _ | ⟨x0,_ | ⟨x1,_ | ⟨x2,_ | ⟨x3,_ | ⟨x4,_ | ⟨x5,_ | ⟨x6,_ | ⟨x7,_ | ⟨x8,_ | ⟨x9,_ | ⟨x10,l⟩⟩⟩⟩⟩⟩⟩⟩⟩⟩⟩
 case nil => exact absurd rfl hl0
 case cons.cons.cons.cons.cons.cons.cons.cons.cons.cons.cons => simp at hl
 all_goals (kernel_rfl)
theorem sigC_all (w : World) (c : Bool) (b' : Bool) (vs : List Int) (l : List UInt8) (at_ : Nat) (hl : l.length ≤ 10) (hd : Drawable (WC w c) b' vs at_ l) :
  Ct (WC w c) b' (sigC (PB (WC w c) b') vs (at_ : Nat) ((at_ + l.length : Nat) : Int) (l.length : Nat) l) := by
 obtain ⟨vE,lE,yE,z⟩ := ssC_all w c b' vs l at_ hl hd
 have hm : (if (0 : Int) < (l.length : Nat) then ((l.length : Nat) : Int) - 0 else 0) = (l.length : Nat) := by split <;> omega
 cases l with
 | nil => exact sigC_nil w c b' vs _ _ _ _ vE lE yE (by simp) hm z
 | cons x l => exact sigC_cons w c b' vs _ _ _ _ vE lE yE (x :: l) hl (by simp) (by omega) hm z
theorem fm {x y : Int} (hy : 0 < y) : ∃ r : Nat,x.fmod y = r ∧ (r : Int) < y := by
 have h1 : 0 ≤ x.fmod y := Int.fmod_nonneg_of_pos x hy
 have h2 : x.fmod y < y := Int.fmod_lt_of_pos x hy
 exact ⟨(x.fmod y).toNat,by omega,by omega⟩
theorem draw_any (w : World) (b' : Bool) (B : List (Code × Pos) → List (Code × Pos)) (hBB : B = sh1 ∨ B = sh2) (vs : List Int) (hs : vs.length ≤ 1000) (at_ : Nat) (ha : at_ < 100000) (bl : Nat) (hb : 0 < bl) :
   ∃ r : Nat,r < bl ∧ Ct w b' (drC (PB w b') B vs (at_ : Nat) (bl : Nat) (r : Nat)) := by
 have hbl : (0 : Int) < (bl : Nat) := by omega
 by_cases h : at_ < vs.length
 · have e : vs[at_]? = some vs[at_] := by simp [h]
   obtain ⟨r,hr,hlt⟩ := fm (x := vs[at_]) hbl
   exact ⟨r,by omega,by rw [← hr]; exact drC_in w b' B vs at_ bl _ at_ rfl hs e (by omega)⟩
 · by_cases h0 : vs.length = 0
   · have : vs = [] := List.eq_nil_of_length_eq_zero h0
     subst this
     obtain ⟨r,hr,hlt⟩ := fm (x := (at_ : Int) * 7 + (at_ : Int).fdiv 3) hbl
     exact ⟨r,by omega,by rw [← hr]; exact drC_empty w b' B hBB at_ bl (by omega) (by omega)⟩
   · obtain ⟨m,hm,hlt⟩ := fm (x := (at_ : Int)) (y := (vs.length : Nat)) (by omega)
     have hms : m < vs.length := by omega
     have e : vs[m]? = some vs[m] := by simp [hms]
     obtain ⟨r,hr,hlt⟩ := fm (x := (vs[m]).fdiv ((at_ : Int) + 1) + (at_ : Int) * 5) hbl
     exact ⟨r,by omega,by rw [← hr]; exact drC_out w b' B hBB vs at_ bl _ m hs (by omega) (by omega) (by omega) hm e (by omega)⟩
theorem drawable_any (w : World) (b' : Bool) (vs : List Int) (hs : vs.length ≤ 1000) : ∀ (m at_ : Nat),at_ + m < 100000 → ∃ l : List UInt8,l.length = m ∧ (∀ x ∈ l,Letter x) ∧ Drawable w b' vs at_ l
 | 0,at_,_ => ⟨[],rfl,fun _ h => (nomatch h),fun t x h => by simp at h⟩
 | m + 1,at_,ha => by
  obtain ⟨r,hr,c⟩ := draw_any w b' sh2 (.inr rfl) vs hs at_ (by omega) 4 (by decide)
  obtain ⟨l,hl,hL,hd⟩ := drawable_any w b' vs hs m (at_ + 1) (by omega)
  have hx' : ∃ x,(#[97,97,98,99] : Array UInt8)[r]? = some x ∧ Letter x := by
    have : r = 0 ∨ r = 1 ∨ r = 2 ∨ r = 3 := by omega
    rcases this with rfl | rfl | rfl | rfl
    · exact ⟨97,rfl,.inl rfl⟩
    · exact ⟨97,rfl,.inl rfl⟩
    · exact ⟨98,rfl,.inr (.inl rfl)⟩
    · exact ⟨99,rfl,.inr (.inr rfl)⟩
  obtain ⟨x,e,hlx⟩ := hx'
  refine ⟨x :: l,by simp [hl],fun y hy => ?_,fun t y ht => ?_⟩
  · rcases List.mem_cons.mp hy with rfl | hy
    · exact hlx
    · exact hL y hy
  · cases t with
    | zero =>
      simp at ht
      subst ht
      exact ⟨r,e,c⟩
    | succ t =>
      obtain ⟨n,h1,h2⟩ := hd t y (by simpa using ht)
      exact ⟨n,h1,by rw [show at_ + (t + 1) = at_ + 1 + t by omega]; exact h2⟩
theorem picked_list (l : List UInt8) (a b : Option Int) (x y : Nat) (hx : a.elim 0 (clipAt l.length) = x) (hy : b.elim l.length (clipAt l.length) = y) : (KBy.picked l.toArray a b).toList = (l.drop x).take (y - x) := by
 rw [KBc.picked_eq]
 simp only [List.size_toArray]
 rw [hx,hy]
theorem clip_le (n k : Nat) : clipAt n (k : Int) = min k n := clipAt_nat n k
theorem cut_list (l s : List UInt8) (i : Nat) : (cut l.toArray s.toArray (i : Int)).toList = (l.drop i).take s.length := by
 unfold cut
 rw [picked_list l _ _ (min i l.length) (min (i + s.length) l.length) (by rw [Option.elim]; exact clip_le _ _) (by
   rw [Option.elim]
   have : ((i : Int) + ((s.toArray.size : Nat) : Int)) = ((i + s.length : Nat) : Int) := by simp
   rw [this]
   exact clip_le _ _)]
 apply List.ext_getElem?
 intro t
 simp only [List.getElem?_take,List.getElem?_drop]
 by_cases h1 : i ≤ l.length
 · rw [Nat.min_eq_left h1]
   by_cases h2 : t < s.length
   · by_cases h3 : t < min (i + s.length) l.length - i
     · rw [if_pos h3,if_pos h2]
     · rw [if_neg h3,if_pos h2]
       exact (List.getElem?_eq_none (by omega)).symm
   · rw [if_neg (by omega),if_neg h2]
 · rw [if_neg (by omega)]
   split
   · exact (List.getElem?_eq_none (by omega)).symm
   · rfl
theorem plF_none_long {l s : List UInt8} : ∀ (k i : Nat),l.length < i + s.length → s ≠ [] → plF l.toArray s.toArray k i = none
 | 0,_,_,_ => rfl
 | k + 1,i,h,hs => by
  unfold plF
  rw [if_neg,plF_none_long k (i + 1) (by omega) hs]
  intro e
  have e := eq_of_beq e
  rw [cut_list] at e
  have : (l.drop i |>.take s.length).length = s.length := by rw [e]
  rw [List.length_take,List.length_drop] at this
  have : s.length ≠ 0 := by simpa using hs
  omega
theorem plF_more {l s : List UInt8} : ∀ (k i m : Nat),l.length + 1 ≤ i + k + s.length → s ≠ [] → plF l.toArray s.toArray (k + m) i = plF l.toArray s.toArray k i
 | 0,i,m,h,hs => by
  rw [Nat.zero_add,plF_none_long m i (by omega) hs]; rfl
 | k + 1,i,m,h,hs => by
  rw [show k + 1 + m = (k + m) + 1 by omega]
  unfold plF
  rw [plF_more k (i + 1) m (by omega) hs]
theorem plF_agree (l s : List UInt8) : plF l.toArray s.toArray (l.length + 1) 0 = plF l.toArray s.toArray (l.length + 1 - s.length) 0 := by
 by_cases hs : s = []
 · subst hs; rfl
 · by_cases h : s.length ≤ l.length + 1
   · have := plF_more (l := l) (s := s) (l.length + 1 - s.length) 0 s.length (by omega) hs
     rw [show l.length + 1 - s.length + s.length = l.length + 1 by omega] at this
     exact this
   · rw [show l.length + 1 - s.length = 0 by omega,plF_none_long _ 0 (by omega) hs]; rfl
theorem plF_some {l s : List UInt8} : ∀ (k i j : Nat),plF l.toArray s.toArray k i = some j → i ≤ j ∧ (s = [] → j < i + k) ∧ ((l.drop j).take s.length) = s
 | 0,_,_,h => nomatch h
 | k + 1,i,j,h => by
  unfold plF at h
  split at h
  · rename_i e
    cases h
    refine ⟨Nat.le_refl _,fun _ => by omega,?_⟩
    have e := eq_of_beq e
    rw [cut_list] at e
    exact e
  · obtain ⟨a,b,c⟩ := plF_some k (i + 1) j h
    exact ⟨by omega,fun q => by have := b q; omega,c⟩
theorem plF_fits {l s : List UInt8} {j : Nat} (h : plF l.toArray s.toArray (l.length + 1) 0 = some j) : j + s.length ≤ l.length := by
 obtain ⟨a,b,c⟩ := plF_some _ _ _ h
 by_cases hs : s = []
 · have := b hs
   subst hs
   simp only [List.length_nil]; omega
 · have e := congrArg List.length c
   rw [List.length_take,List.length_drop] at e
   have : s.length ≠ 0 := by simpa using hs
   omega
theorem ix_app (a r : List UInt8) (m i : Nat) (h : m = a.length + i) : (a ++ r)[m]? = r[i]? := by
 subst h
 rw [List.getElem?_append_right (by omega)]
 congr 1; omega
theorem ix_l {a l r : List UInt8} {m i : Nat} (h : m = a.length + i) (hi : i < l.length) : (a ++ (l ++ r))[m]? = l[i]? := by
  rw [ix_app a _ m i h,List.getElem?_append_left hi]
theorem arr1_eq (l1 l2 wd : List UInt8) : (((((#[40] ++ l1.toArray) ++ #[41,32,40]) ++ l2.toArray) ++ #[41,32]) ++ wd.toArray : Array UInt8) = ([40] ++ (l1 ++ ([41,32,40] ++ (l2 ++ ([41,32] ++ wd))))).toArray := by
  simp
theorem arr2_eq (p l3 wd : List UInt8) : (((p.toArray ++ #[40]) ++ l3.toArray) ++ wd.toArray : Array UInt8) = ((p ++ [40]) ++ (l3 ++ wd)).toArray := by
  simp
theorem txt1 (l1 l2 wd : List UInt8) (T : Array UInt8) (hT : T = (((((#[40] ++ l1.toArray) ++ #[41,32,40]) ++ l2.toArray) ++ #[41,32]) ++ wd.toArray : Array UInt8)) :
   T[0]? = some 40 ∧ (∀ i,i < l1.length → T[1 + i]? = l1[i]?) ∧ T[1 + l1.length]? = some 41 ∧ T[l1.length + 2]? = some 32 ∧ T[l1.length + 2 + 1]? = some 40 ∧
   (∀ i,i < l2.length → T[l1.length + 4 + i]? = l2[i]?) ∧ T[l1.length + 4 + l2.length]? = some 41 ∧ T[l1.length + l2.length + 5]? = some 32 ∧ (∀ i,T[l1.length + l2.length + 5 + 1 + i]? = wd[i]?) ∧ T.size = l1.length + l2.length + 6 + wd.length := by
 rw [arr1_eq] at hT
 subst hT
 simp only [List.getElem?_toArray,List.size_toArray]
 refine ⟨rfl,fun i hi => ix_l (by simp) hi,?_,?_,?_,fun i hi => ?_,?_,?_,fun i => ?_,?_⟩
 · rw [ix_app [40] _ _ l1.length (by simp),ix_app l1 _ _ 0 (by simp)]; rfl
 · rw [ix_app [40] _ _ (l1.length + 1) (by simp; omega),ix_app l1 _ _ 1 (by simp)]; rfl
 · rw [ix_app [40] _ _ (l1.length + 2) (by simp; omega),ix_app l1 _ _ 2 (by simp)]; rfl
 · rw [ix_app [40] _ _ (l1.length + (3 + i)) (by simp; omega),ix_app l1 _ _ (3 + i) (by simp)]
   exact ix_l (by simp) hi
 · rw [ix_app [40] _ _ (l1.length + (3 + l2.length)) (by simp; omega),ix_app l1 _ _ (3 + l2.length) (by simp),ix_app [41,32,40] _ _ l2.length (by simp),ix_app l2 _ _ 0 (by simp)]; rfl
 · rw [ix_app [40] _ _ (l1.length + (3 + (l2.length + 1))) (by simp; omega),ix_app l1 _ _ (3 + (l2.length + 1)) (by simp),ix_app [41,32,40] _ _ (l2.length + 1) (by simp),ix_app l2 _ _ 1 (by simp)]; rfl
 · rw [ix_app [40] _ _ (l1.length + (3 + (l2.length + (2 + i)))) (by simp; omega),ix_app l1 _ _ (3 + (l2.length + (2 + i))) (by simp),ix_app [41,32,40] _ _ (l2.length + (2 + i)) (by simp),ix_app l2 _ _ (2 + i) (by simp),ix_app [41,32] _ _ i (by simp)]
 · simp only [List.length_append,List.length_cons,List.length_nil]; omega
theorem txt2 (p l3 wd : List UInt8) (T : Array UInt8) (hT : T = (((p.toArray ++ #[40]) ++ l3.toArray) ++ (41 :: 32 :: wd).toArray : Array UInt8)) :
   (∀ i,i < p.length → T[i]? = p[i]?) ∧ T[p.length]? = some 40 ∧ (∀ i,i < l3.length → T[p.length + 1 + i]? = l3[i]?) ∧ T[p.length + 1 + l3.length]? = some 41 ∧ T[p.length + l3.length + 2]? = some 32 ∧
   (∀ i,T[p.length + l3.length + 2 + 1 + i]? = wd[i]?) ∧ T.size = p.length + l3.length + 3 + wd.length := by
 rw [arr2_eq] at hT
 subst hT
 simp only [List.getElem?_toArray,List.size_toArray]
 refine ⟨fun i hi => ?_,?_,fun i hi => ix_l (by simp) hi,?_,?_,fun i => ?_,?_⟩
 · rw [List.append_assoc,List.getElem?_append_left hi]
 · rw [List.append_assoc,ix_app p _ _ 0 (by simp)]; rfl
 · rw [ix_app (p ++ [40]) _ _ l3.length (by simp),ix_app l3 _ _ 0 (by simp)]; rfl
 · rw [ix_app (p ++ [40]) _ _ (l3.length + 1) (by simp; omega),ix_app l3 _ _ 1 (by simp)]; rfl
 · rw [ix_app (p ++ [40]) _ _ (l3.length + (2 + i)) (by simp; omega),ix_app l3 _ _ (2 + i) (by simp)]
   rw [show 2 + i = i + 1 + 1 by omega,List.getElem?_cons_succ,List.getElem?_cons_succ]
 · simp only [List.length_append,List.length_cons,List.length_nil]; omega
theorem plF_take (l : List UInt8) (n k : Nat) : plF l.toArray (l.take n).toArray (k + 1) 0 = some 0 := by
 unfold plF
 rw [if_pos]
 have e := cut_list l (l.take n) 0
 rw [e,List.drop_zero]
 apply beq_iff_eq.mpr
 rw [List.length_take]
 show _ = l.take n
 rw [List.take_eq_take_iff]; omega
section
variable (w : World) (b' : Bool) (l1 l2 : List UInt8) (hL1 : ∀ x ∈ l1,Letter x) (hL2 : ∀ x ∈ l2,Letter x) (h1 : l1.length ≤ 10) (h2 : l2.length ≤ 10)
include hL1 hL2 h1 h2
theorem search1 : (∃ j : Nat,j + l2.length ≤ l1.length ∧ Ct w b' (LRF (PB w b') (((((#[40] ++ l1.toArray) ++ #[41,32,40]) ++ l2.toArray) ++ #[41,32]) ++ #[115,101,97,114,99,104]) ((l1.length + 2 : Nat) : Int) ((l1.length + l2.length + 5 : Nat) : Int) l1.toArray l2.toArray (j : Nat)) ∧
   Ct w b' (dueF (PB w b') l1.toArray l2.toArray 0 (j : Nat))) ∨
  (Ct w b' (LRN (PB w b') (((((#[40] ++ l1.toArray) ++ #[41,32,40]) ++ l2.toArray) ++ #[41,32]) ++ #[115,101,97,114,99,104]) ((l1.length + 2 : Nat) : Int) ((l1.length + l2.length + 5 : Nat) : Int) l1.toArray l2.toArray) ∧
   Ct w b' (dueN (PB w b') l1.toArray l2.toArray 0) ∧ plF l1.toArray l2.toArray (l1.length + 1) 0 = none) := by
 generalize hT : (((((#[40] ++ l1.toArray) ++ #[41,32,40]) ++ l2.toArray) ++ #[41,32]) ++ #[115,101,97,114,99,104] : Array UInt8) = T
 obtain ⟨g0,x1,c1,g1,g2,x2,c2,hx,hw,hz⟩ := txt1 l1 l2 [115,101,97,114,99,104] T hT.symm
 have hz : T.size = l1.length + l2.length + 12 := hz
 have hs : T.size ≤ 1000 := by omega
 have s1 : l1.toArray.size ≤ 1000 := by rw [List.size_toArray]; omega
 have s2 : l2.toArray.size ≤ 1000 := by rw [List.size_toArray]; omega
 have hp1 := strI w b' T hs l1 1 (0 + 1) ((l1.length + 2 : Nat) : Int) (by omega) (by omega) hL1 x1 c1 (by omega)
 have hp2 := strI w b' T hs l2 (l1.length + 4) (((l1.length + 2 : Nat) : Int) + 1 + 1) ((l1.length + l2.length + 5 : Nat) : Int) (by omega) (by omega) hL2 x2 c2 (by omega)
 have hb : T.size ≤ l1.length + l2.length + 5 + 1 + 6 := by omega
 have sp := spC_all w b' l1.toArray l2.toArray s1 s2
 have lq := lqC_all w b' l1.toArray l2.toArray false s1 s2
 have ag := plF_agree l1 l2
 simp only [List.size_toArray] at sp lq
 rw [show (if (false : Bool) = true then 1 else l1.length + 1) = l1.length + 1 from rfl,ag] at lq
 cases hr : plF l1.toArray l2.toArray (l1.length + 1 - l2.length) 0 with
 | some j =>
  rw [hr] at sp lq
  have hf := plF_fits (ag.trans hr)
  exact .inl ⟨j,hf,LRF_ok w b' T _ _ l1.toArray l2.toArray _ _ rfl rfl hs s1 s2 g0 hp1 g1 g2 hp2 hx (hw 0) (hw 1) (hw 2) (hw 3) (hw 4) (hw 5) hb (j : Nat) (by omega) (by simp only [List.size_toArray]; omega) sp,
   dueF_ok w b' _ _ 0 s1 s2 _ lq⟩
 | none =>
  rw [hr] at sp lq
  exact .inr ⟨LRN_ok w b' T _ _ l1.toArray l2.toArray _ _ rfl rfl hs s1 s2 g0 hp1 g1 g2 hp2 hx (hw 0) (hw 1) (hw 2) (hw 3) (hw 4) (hw 5) hb sp,
   dueN_ok w b' _ _ 0 s1 s2 (lqN_of lq),ag.trans hr⟩
theorem anchor1 : (l2.length ≤ l1.length ∧ Ct w b' (LRA (PB w b') (((((#[40] ++ l1.toArray) ++ #[41,32,40]) ++ l2.toArray) ++ #[41,32]) ++ #[97,110,99,104,111,114,115,101,97,114,99,104]) ((l1.length + 2 : Nat) : Int) ((l1.length + l2.length + 5 : Nat) : Int) l1.toArray l2.toArray) ∧
   Ct w b' (dueA (PB w b') l1.toArray l2.toArray 0 0)) ∨
  (Ct w b' (LRAN (PB w b') (((((#[40] ++ l1.toArray) ++ #[41,32,40]) ++ l2.toArray) ++ #[41,32]) ++ #[97,110,99,104,111,114,115,101,97,114,99,104]) ((l1.length + 2 : Nat) : Int) ((l1.length + l2.length + 5 : Nat) : Int) l1.toArray l2.toArray) ∧
   Ct w b' (dueAN (PB w b') l1.toArray l2.toArray 0) ∧ plF l1.toArray l2.toArray 1 0 = none) := by
 generalize hT : (((((#[40] ++ l1.toArray) ++ #[41,32,40]) ++ l2.toArray) ++ #[41,32]) ++ #[97,110,99,104,111,114,115,101,97,114,99,104] : Array UInt8) = T
 obtain ⟨g0,x1,c1,g1,g2,x2,c2,hx,hw,hz⟩ := txt1 l1 l2 [97,110,99,104,111,114,115,101,97,114,99,104] T hT.symm
 have hz : T.size = l1.length + l2.length + 18 := hz
 have hs : T.size ≤ 1000 := by omega
 have s1 : l1.toArray.size ≤ 1000 := by rw [List.size_toArray]; omega
 have s2 : l2.toArray.size ≤ 1000 := by rw [List.size_toArray]; omega
 have hp1 := strI w b' T hs l1 1 (0 + 1) ((l1.length + 2 : Nat) : Int) (by omega) (by omega) hL1 x1 c1 (by omega)
 have hp2 := strI w b' T hs l2 (l1.length + 4) (((l1.length + 2 : Nat) : Int) + 1 + 1) ((l1.length + l2.length + 5 : Nat) : Int) (by omega) (by omega) hL2 x2 c2 (by omega)
 have hb : T.size ≤ l1.length + l2.length + 5 + 1 + 12 := by omega
 have lq := lqC_all w b' l1.toArray l2.toArray true s1 s2
 have hc : (KBy.picked l1.toArray none (some (l2.toArray.size : Int))).toList = (cut l1.toArray l2.toArray 0).toList := by
  have e1 := cut_list l1 l2 0
  rw [show (((0 : Nat) : Int)) = 0 from rfl] at e1
  rw [e1,picked_list l1 _ _ 0 (min l2.length l1.length) rfl (by rw [Option.elim,List.size_toArray]; exact clip_le _ _)]
  simp only [List.drop_zero,Nat.sub_zero]
  rw [List.take_eq_take_iff]; omega
 have e0 : plF l1.toArray l2.toArray 1 0 = if ((cut l1.toArray l2.toArray 0).toList == l2.toArray.toList) = true then some 0 else none := rfl
 cases hq : ((cut l1.toArray l2.toArray 0).toList == l2.toArray.toList) with
 | true =>
  rw [hq,if_pos rfl] at e0
  rw [show (if (true : Bool) = true then 1 else l1.toArray.size + 1) = 1 from rfl,e0] at lq
  have hf : l2.length ≤ l1.length := by
   have e := congrArg List.length (eq_of_beq hq)
   have e1 := cut_list l1 l2 0
   rw [show (((0 : Nat) : Int)) = 0 from rfl] at e1
   rw [e1,List.length_take,List.length_drop] at e
   simp only [] at e
   omega
  exact .inl ⟨hf,LRA_ok w b' T _ _ l1.toArray l2.toArray _ _ rfl rfl hs s1 s2 g0 hp1 g1 g2 hp2 hx (hw 0) (hw 1) (hw 2) (hw 3) (hw 4) (hw 5) (hw 6) (hw 7) (hw 8) (hw 9) (hw 10) (hw 11) hb (by simp only [List.size_toArray]; omega) (by rw [hc]; exact hq),
   dueA_ok w b' _ _ 0 s1 s2 _ lq⟩
 | false =>
  rw [hq,if_neg Bool.false_ne_true] at e0
  rw [show (if (true : Bool) = true then 1 else l1.toArray.size + 1) = 1 from rfl,e0] at lq
  exact .inr ⟨LRAN_ok w b' T _ _ l1.toArray l2.toArray _ _ rfl rfl hs s1 s2 g0 hp1 g1 g2 hp2 hx (hw 0) (hw 1) (hw 2) (hw 3) (hw 4) (hw 5) (hw 6) (hw 7) (hw 8) (hw 9) (hw 10) (hw 11) hb (by rw [hc]; exact hq),
   dueAN_ok w b' _ _ 0 s1 s2 (lqN_of lq),e0⟩
end
theorem pickB (l : List UInt8) (b : Nat) (hb : b ≤ l.length) (st mn : Int) (h1 : st = b) (h2 : mn = ((l.length : Nat) : Int) - b) : KBy.picked l.toArray (some st) (some (st + mn)) = (l.drop b).toArray := by
 apply toArray_iff
 subst h1
 rw [picked_list l _ _ b l.length (by rw [Option.elim,clip_le]; omega) (by
  rw [Option.elim,show ((b : Int) + mn) = ((l.length : Nat) : Int) by omega,clip_le]; omega)]
 rw [List.take_of_length_le (by rw [List.length_drop]; omega)]
theorem pickE (l : List UInt8) (b : Nat) (hb : b ≤ l.length) (st : Int) (h1 : st = b) : KBy.picked l.toArray (some st) none = (l.drop b).toArray := by
 apply toArray_iff
 subst h1
 rw [picked_list l _ _ b l.length (by rw [Option.elim,clip_le]; omega) rfl]
 rw [List.take_of_length_le (by rw [List.length_drop]; omega)]
theorem pickK (l : List UInt8) (k : Nat) (kI : Int) (h : kI = k) : KBy.picked l.toArray none (some kI) = (l.take k).toArray := by
 apply toArray_iff
 subst h
 rw [picked_list l _ _ 0 (min k l.length) rfl (by rw [Option.elim]; exact clip_le _ _)]
 simp only [List.drop_zero,Nat.sub_zero]
 rw [List.take_eq_take_iff]; omega
section
variable (w : World) (b' : Bool) (l1 l3 : List UInt8) (hL3 : ∀ x ∈ l3,Letter x) (h1 : l1.length ≤ 10) (h3 : l3.length ≤ 10) (b : Nat) (hb : b ≤ l1.length) (u st1 mn1 st : Int) (hu : 0 ≤ u ∧ u ≤ 100000) (hst : st1 = b) (hmn : mn1 = ((l1.length : Nat) : Int) - b)
include hL3 h1 h3 hb hu hst hmn
theorem search2 : (∃ j : Nat,j + l3.length ≤ l1.length - b ∧ Ct w b' (LSF (PB w b') ((((#[112,111,112,32,112,111,112,32] ++ #[112,111,112,32]) ++ #[40]) ++ l3.toArray) ++ #[41,32,115,101,97,114,99,104]) ((12 + l3.length + 2 : Nat) : Int) u l3.toArray l1.toArray st1 mn1 (l1.drop b).toArray (j : Nat)) ∧
   Ct w b' (dueF (PB w b') (l1.drop b).toArray l3.toArray st (j : Nat))) ∨
  (Ct w b' (LSN (PB w b') ((((#[112,111,112,32,112,111,112,32] ++ #[112,111,112,32]) ++ #[40]) ++ l3.toArray) ++ #[41,32,115,101,97,114,99,104]) ((12 + l3.length + 2 : Nat) : Int) u l3.toArray l1.toArray st1 mn1 (l1.drop b).toArray) ∧
   Ct w b' (dueN (PB w b') (l1.drop b).toArray l3.toArray st)) := by
 generalize hT : ((((#[112,111,112,32,112,111,112,32] ++ #[112,111,112,32]) ++ #[40]) ++ l3.toArray) ++ #[41,32,115,101,97,114,99,104] : Array UInt8) = T
 obtain ⟨p,g0,x1,c1,hx,hw,hz⟩ := txt2 [112,111,112,32,112,111,112,32,112,111,112,32] l3 [115,101,97,114,99,104] T hT.symm
 have hz : T.size = 12 + l3.length + 3 + 6 := hz
 have hs : T.size ≤ 1000 := by omega
 have s1 : l1.toArray.size ≤ 1000 := by rw [List.size_toArray]; omega
 have s3 : l3.toArray.size ≤ 1000 := by rw [List.size_toArray]; omega
 have hd : (l1.drop b).length = l1.length - b := List.length_drop
 have so : (l1.drop b).toArray.size ≤ 1000 := by rw [List.size_toArray,hd]; omega
 have hp1 := strI w b' T hs l3 13 (((((((((((((((((((0 + 1) - 1) + 1) + 1) + 1) + 1) + 1) - 1) + 1) + 1) + 1) + 1) + 1) - 1) + 1) + 1) + 1) + 1) + 1) ((12 + l3.length + 2 : Nat) : Int) (by omega) (by omega) hL3 x1 c1 (by omega)
 have hbz : T.size ≤ 12 + l3.length + 2 + 1 + 6 := by omega
 have ho := pickB l1 b hb st1 mn1 hst hmn
 have sp := spC_all w b' (l1.drop b).toArray l3.toArray so s3
 have lq := lqC_all w b' (l1.drop b).toArray l3.toArray false so s3
 have ag := plF_agree (l1.drop b) l3
 simp only [List.size_toArray] at sp lq
 rw [show (if (false : Bool) = true then 1 else (l1.drop b).length + 1) = (l1.drop b).length + 1 from rfl,ag] at lq
 cases hr : plF (l1.drop b).toArray l3.toArray ((l1.drop b).length + 1 - l3.length) 0 with
 | some j =>
  rw [hr] at sp lq
  have hf := plF_fits (ag.trans hr)
  exact .inl ⟨j,by omega,LSF_ok w b' T _ u l3.toArray l1.toArray st1 mn1 _ _ rfl hs hu s3 s1 ho so (p 0 (by decide)) (p 1 (by decide)) (p 2 (by decide)) (p 3 (by decide)) (p 4 (by decide)) (p 5 (by decide)) (p 6 (by decide)) (p 7 (by decide)) (p 8 (by decide)) (p 9 (by decide)) (p 10 (by decide)) (p 11 (by decide)) g0 hp1 hx (hw 0) (hw 1) (hw 2) (hw 3) (hw 4) (hw 5) hbz (j : Nat) (by omega) (by simp only [List.size_toArray]; omega) (by simp only [List.size_toArray]; omega) sp,
   dueF_ok w b' _ _ st so s3 _ lq⟩
 | none =>
  rw [hr] at sp lq
  exact .inr ⟨LSN_ok w b' T _ u l3.toArray l1.toArray st1 mn1 _ _ rfl hs hu s3 s1 ho so (p 0 (by decide)) (p 1 (by decide)) (p 2 (by decide)) (p 3 (by decide)) (p 4 (by decide)) (p 5 (by decide)) (p 6 (by decide)) (p 7 (by decide)) (p 8 (by decide)) (p 9 (by decide)) (p 10 (by decide)) (p 11 (by decide)) g0 hp1 hx (hw 0) (hw 1) (hw 2) (hw 3) (hw 4) (hw 5) hbz sp,
   dueN_ok w b' _ _ st so s3 (lqN_of lq)⟩
theorem searchA : (∃ j : Nat,j + l3.length ≤ l1.length - b ∧ Ct w b' (LSA (PB w b') ((((#[112,111,112,32,112,111,112,32] ++ #[]) ++ #[40]) ++ l3.toArray) ++ #[41,32,115,101,97,114,99,104]) ((8 + l3.length + 2 : Nat) : Int) u l3.toArray l1.toArray st1 mn1 (l1.drop b).toArray (j : Nat)) ∧
   Ct w b' (dueF (PB w b') (l1.drop b).toArray l3.toArray st (j : Nat))) ∨
  (Ct w b' (LSAN (PB w b') ((((#[112,111,112,32,112,111,112,32] ++ #[]) ++ #[40]) ++ l3.toArray) ++ #[41,32,115,101,97,114,99,104]) ((8 + l3.length + 2 : Nat) : Int) u l3.toArray l1.toArray st1 mn1 (l1.drop b).toArray) ∧
   Ct w b' (dueN (PB w b') (l1.drop b).toArray l3.toArray st)) := by
 generalize hT : ((((#[112,111,112,32,112,111,112,32] ++ #[]) ++ #[40]) ++ l3.toArray) ++ #[41,32,115,101,97,114,99,104] : Array UInt8) = T
 obtain ⟨p,g0,x1,c1,hx,hw,hz⟩ := txt2 [112,111,112,32,112,111,112,32] l3 [115,101,97,114,99,104] T hT.symm
 have hz : T.size = 8 + l3.length + 3 + 6 := hz
 have hs : T.size ≤ 1000 := by omega
 have s1 : l1.toArray.size ≤ 1000 := by rw [List.size_toArray]; omega
 have s3 : l3.toArray.size ≤ 1000 := by rw [List.size_toArray]; omega
 have hd : (l1.drop b).length = l1.length - b := List.length_drop
 have so : (l1.drop b).toArray.size ≤ 1000 := by rw [List.size_toArray,hd]; omega
 have hp1 := strI w b' T hs l3 9 (((((((((((((0 + 1) - 1) + 1) + 1) + 1) + 1) + 1) - 1) + 1) + 1) + 1) + 1) + 1) ((8 + l3.length + 2 : Nat) : Int) (by omega) (by omega) hL3 x1 c1 (by omega)
 have hbz : T.size ≤ 8 + l3.length + 2 + 1 + 6 := by omega
 have ho := pickB l1 b hb st1 mn1 hst hmn
 have sp := spC_all w b' (l1.drop b).toArray l3.toArray so s3
 have lq := lqC_all w b' (l1.drop b).toArray l3.toArray false so s3
 have ag := plF_agree (l1.drop b) l3
 simp only [List.size_toArray] at sp lq
 rw [show (if (false : Bool) = true then 1 else (l1.drop b).length + 1) = (l1.drop b).length + 1 from rfl,ag] at lq
 cases hr : plF (l1.drop b).toArray l3.toArray ((l1.drop b).length + 1 - l3.length) 0 with
 | some j =>
  rw [hr] at sp lq
  have hf := plF_fits (ag.trans hr)
  exact .inl ⟨j,by omega,LSA_ok w b' T _ u l3.toArray l1.toArray st1 mn1 _ _ rfl hs hu s3 s1 ho so (p 0 (by decide)) (p 1 (by decide)) (p 2 (by decide)) (p 3 (by decide)) (p 4 (by decide)) (p 5 (by decide)) (p 6 (by decide)) (p 7 (by decide)) g0 hp1 hx (hw 0) (hw 1) (hw 2) (hw 3) (hw 4) (hw 5) hbz (j : Nat) (by omega) (by simp only [List.size_toArray]; omega) (by simp only [List.size_toArray]; omega) sp,
   dueF_ok w b' _ _ st so s3 _ lq⟩
 | none =>
  rw [hr] at sp lq
  exact .inr ⟨LSAN_ok w b' T _ u l3.toArray l1.toArray st1 mn1 _ _ rfl hs hu s3 s1 ho so (p 0 (by decide)) (p 1 (by decide)) (p 2 (by decide)) (p 3 (by decide)) (p 4 (by decide)) (p 5 (by decide)) (p 6 (by decide)) (p 7 (by decide)) g0 hp1 hx (hw 0) (hw 1) (hw 2) (hw 3) (hw 4) (hw 5) hbz sp,
   dueN_ok w b' _ _ st so s3 (lqN_of lq)⟩
end
end Mine
namespace Mine
open PySem PySem.W PySem.W.X PySem.Spec PySem.Calls PyProof.Rows
abbrev Γc : PySem.Ctx := ⟨.builtin "claim.caller" {},none,none,[],none⟩
theorem stub_wp {M : Model} {name : Str} {s s' : Shared} {mg : Str → Option Value} {f v x : Value} {R : Result → Shared → Prop} (hg : s.heap.Ns mainGlobals mg) (hf : mg name = some f)
  (h : Runs M (Γc.enter (.call f ⟨[v],[]⟩) none default) default (M.den (.call f ⟨[v],[]⟩)) [] s (.ret (.ok (.ret x))) s') (hR : R (.ok (.ret x)) s') :
  Sem.wp M Γc (callStub name [v]).cur (Sem.finPost M Γc R) (fun e _ s' => R (.error e) s') default s := by
 show Sem.wp M Γc (nsGet mainGlobals name >>= fun r => match r with
   | some f => (PySem.call f [v]) >>= fun y => ret y
   | none => unsupported "claim.caller:no-such-global") _ _ _ _
 rw [Sem.wp_bind']
 refine (Sem.wp_nsGet M Γc _ _ s hg name _).mpr ?_
 rw [hf]
 show Sem.wp M Γc ((PySem.call f [v]) >>= fun y => ret y) _ _ _ _
 rw [Sem.wp_bind']
 show Sem.wp M Γc (runValue (.call f ⟨[v],[]⟩)) _ _ _ _
 rw [Sem.wp_runValue]
 exact ⟨_,_,h,hR⟩
theorem ends_of {prog : Program} {w : World} {t : Sem Fin} {s : Shared} {R : Result → Shared → Prop} (hz : s.asleep)
  (h : Sem.wp (model prog w) Γc t (Sem.finPost (model prog w) Γc fun r s' => R r s' ∧ leftWithCleanup s'.gens = false) (fun e _ s' => R (.error e) s' ∧ leftWithCleanup s'.gens = false) default s) :
  ∃ n r s' s'',runN (denote table) prog w n s ⟨t,.builtin "claim.caller" {},default,[]⟩ = .halted (outcomeOf r) s' ∧
   schedN (denote table) prog w n (.single s ⟨t,.builtin "claim.caller" {},default,[]⟩) = .halted (outcomeOf r) s' ∧ s'.forget = s''.forget ∧ R r s'' := by
 obtain ⟨n,r,x,y,hs,hn,hfo,hR⟩ := wp_halts_full (M := model prog w) (R := R) hz h
 exact ⟨n,r,y,x,hn,hs,hfo,hR⟩
noncomputable def q1 : Program := view PySem.Challenge.pw_nt0533_01 [158]
noncomputable def obs (s : Shared) : List (Option Obj) × Nat := (addrs.map s.heap.get?,s.heap.objs.size)
noncomputable def val (w : World) : List (Option Obj) × Nat := ((frag w.params).map (fun p => some p.2),1854)
abbrev RW : OpenLaw := PySem.Challenge.rw_nt0533_01
theorem items_int {R : WRecords} : ∀ {xs : List WData},WShape.hasItems R xs .int = true → ∃ ns : List Int,xs = ofPys (ns.map PyData.int)
 | [],_ => ⟨[],rfl⟩
 | x :: xs,h => by
  have h' : WShape.has R x .int = true ∧ WShape.hasItems R xs .int = true := Bool.and_eq_true_iff.mp h
  obtain ⟨i,rfl⟩ := hasW_int h'.1
  obtain ⟨ns,rfl⟩ := items_int h'.2
  exact ⟨i :: ns,rfl⟩
theorem pre_law {args : List WData} (h : RW.row.toRowW.claim.pre args = true) : ∃ ns : List Int,args = [ofPy (PyData.list (ns.map PyData.int))] ∧ ns.length ≤ 63 := by
 obtain ⟨h1,h2⟩ := pre_splitW h
 obtain ⟨d,r,rfl,hd,hr⟩ := hasAllW_cons h1
 obtain rfl := hasAllW_nil hr
 obtain ⟨xs,rfl,hx⟩ := hasW_list hd
 obtain ⟨ns,rfl⟩ := items_int hx
 refine ⟨ns,rfl,?_⟩
 have e : (ofPys (ns.map PyData.int)).length = ns.length := by rw [ofPys_length,List.length_map]
 rcases Nat.lt_or_ge 63 ns.length with q | q
 · exfalso
   have : WTm.holds [] (OpenLaw.pre RW) { args := [.list (ofPys (ns.map PyData.int))] } = false := by
    show (match WTm.value [] (.and (.not (.lt (.lit (.int (63 : Nat))) (.len (.arg 0)))) (.lit (.bool true))) _ with | some (.bool true) => true | _ => false) = false
    have el : WTm.value [] (.lt (.lit (.int (63 : Nat))) (.len (.arg 0))) { args := [.list (ofPys (ns.map PyData.int))] } = some (.bool true) := by
     show (W.less? (.int 63) (.int ((ofPys (ns.map PyData.int)).length : Nat))).map WData.bool = _
     rw [e]
     show (some (decide ((63 : Int) < (ns.length : Nat)))).map WData.bool = _
     rw [decide_eq_true (by omega)]; rfl
    have hv : ∀ (t : WTm) (c : WCtx),WTm.value [] (.and (.not t) (.lit (.bool true))) c = (match (match WTm.value [] t c with | some (WData.bool b) => some (WData.bool (!b)) | _ => (none : Option WData)) with | some (WData.bool false) => some (WData.bool false) | some (WData.bool true) => some (WData.bool true) | _ => none) := fun _ _ => rfl
    rw [hv,el]
    rfl
   rw [show RW.row.toRowW.pre = OpenLaw.pre RW from rfl] at h2
   exact absurd (this.symm.trans h2) (by decide)
 · exact q
theorem vals_of : ∀ {l : List Value} {ns : List Int},IntsAre l ns → l.length = ns.length ∧ ∀ (i : Nat) (n : Int),ns[i]? = some n → ∃ t,l[i]? = some (.int n t)
 | _,_,.nil => ⟨rfl,fun i n h => by simp at h⟩
 | _,_,.cons n t r => by
  obtain ⟨h1,h2⟩ := vals_of r
  refine ⟨by simp [h1],fun i m h => ?_⟩
  cases i with
  | zero => simp only [List.getElem?_cons_zero,Option.some.injEq] at h; subst h; exact ⟨t,rfl⟩
  | succ i => exact h2 i m (by simpa using h)
theorem kt_of (P : Params) : kt P = KT.of ((frag P).filter fun p => !Nat.beq p.1 1495) := by kernel_rfl
theorem kt_pin (P : Params) : (kt P).get 1495 = none := by kernel_rfl
theorem o1499_at (P : Params) : ∃ vs,(o1499 P).cls = .type "code" ∧ (o1499 P).data = .fields vs ∧ vs[11]? = some (.ref 1495) := ⟨_,rfl,rfl,rfl⟩
noncomputable def lawC (P : Params) (ns : List Int) : CF := ⟨650,6500,true,true,fun l => [shB "claim.caller" (nth' l 0)],some (fun y => Vals (seqO (y.getD 1 default)) ns ∧ ns.take 60 = ns.take 60),fun c x y => mkC (.call (.ref 1853) ⟨[.ref (A x 1)],[]⟩) [Q45 x,liO (seqO (y.getD 1 default)) (epO (y.getD 1 default))] (6) (7) (fun u v => .ok (.ret (.bool true))) (fun u v => [(0,Q52 x u)]) (fun u v => [Q53 u v 0 1 2 1 2 3 4 5 3 4,Q54 v 5,Q55,Q56 v 6,Q57,Q58])⟩
end Mine
namespace Mine
open PySem PySem.W PySem.W.X PySem.Builtin
noncomputable abbrev fiT := PySem.W.Fast.tw6609576154772507232
noncomputable abbrev seT := PySem.W.Fast.tw17858455048448223758
noncomputable abbrev sfT := PySem.W.Fast.tw5670386056902412789
noncomputable abbrev neT : Value → Value → Value → Value → Value → List Value → Sem Value := @PySem.W.Fast.tw7687323783571163205
noncomputable abbrev efT := PySem.W.Fast.tw13596814643533388497
noncomputable abbrev isT := PySem.W.Fast.tw10380811246957099773
noncomputable abbrev rfT : Value → Value → Bool → Sem Value := @PySem.W.Fast.tw8847407001960458596
noncomputable abbrev riT := PySem.W.Fast.tw8857416407483246691
noncomputable abbrev hbT := PySem.W.Fast.tw14206642085496868694
noncomputable abbrev hwT := PySem.W.Fast.tw11471732733879165300
noncomputable abbrev poT := @PySem.W.Fast.tw4601389910855378106
noncomputable abbrev fbT := PySem.W.Fast.tw10665104254819526710
noncomputable abbrev atT := @PySem.W.Fast.tw3205988728414705400
theorem ImpS.oT2 {w : World} {α : Type} {m' m : Sem α} {f f' : Value → Sem Unit} (h : ImpS w m' m) (hf : ∀ x,ImpS w (f' x) (f x)) : ImpS w (PySem.W.R.onRaiseR m' f') (m.onRaise f) := by
 rw [← PySem.W.R.onRaiseR_eq]
 exact fun Γ p s Q E x => by
  rw [Sem.wp_onRaise] at x ⊢
  exact Sem.wp_mono _ _ _ (fun _ _ _ y => y) (fun e p s y => hf e _ _ _ _ _ y) _ _ (h _ _ _ _ _ x)
theorem at_eq : @Sem.attempt = @atT := PySem.W.Fast.te3205988728414705400
theorem ImpS.att {w : World} {α : Type} {m' m : Sem α} (h : ImpS w m' m) : ImpS w (atT m') m.attempt := fun Γ p s Q E x => by
 rw [← at_eq] at x
 rw [Sem.wp_attempt] at x ⊢
 exact h _ _ _ _ _ x
theorem fi_eq : field = fiT := PySem.W.Fast.te6609576154772507232
theorem se_eq : setField = seT := PySem.W.Fast.te17858455048448223758
theorem sf_eq : setFlight = sfT := PySem.W.Fast.te5670386056902412789
theorem ne_eq' : @EntryCells.newEntry = neT := PySem.W.Fast.te7687323783571163205
theorem ef_eq : excFromValue = efT := PySem.W.Fast.te13596814643533388497
theorem is_eq : isType = isT := PySem.W.Fast.te10380811246957099773
theorem rf_eq : @raisedFor = rfT := PySem.W.Fast.te8847407001960458596
theorem ri_eq : raisedInstance = riT := PySem.W.Fast.te8857416407483246691
theorem hb_eq : handleBy = hbT := PySem.W.Fast.te14206642085496868694
theorem hw_eq : handleWith = hwT := PySem.W.Fast.te11471732733879165300
theorem po_eq : @passOn = @poT := PySem.W.Fast.te4601389910855378106
theorem un_false {w : World} {α : Type} {m : Sem α} {x : String} : ImpS w (.unsupported x) m := fun Γ p s Q E h => by
 rw [Sem.wp] at h
 exact h.elim
noncomputable def dropX (f : Nat) : List (Code × Pos) → (List (Code × Pos) → Sem (List Value)) → Sem (List Value)
 | [],k => k []
 | x :: r,k => match x.1.isFrame with
  | true => match x.1.env?.bind (·.frame) with
   | some g => PySem.W.R.bindR (callEq g f) fun _ => k (x :: r)
   | none => dropX f r k
  | false => dropX f r k
noncomputable def under (f : Nat) (had : Bool) (l : List (Code × Pos)) : List Value := match (match l with | [] => (none : Option (List String)) | _ :: under => some (under.filterMap fun (c,_) => match c with | .builtin i _ => some i | _ => none).eraseDups) with
 | none => [.none,.bool had]
 | some ids => [if (EntryCells.make ids).length > sizeLine then .none else .str (EntryCells.make ids) 0,.bool had]
noncomputable def findX (f : Nat) (had : Bool) (acts : List (Code × Pos)) : List (Code × Pos) → Sem (List Value)
 | [] => pure []
 | x :: r => match x.1.env?.bind (·.frame) with
  | some g => PySem.W.R.bindR (callEq g f) fun _ => match Nat.beq x.2.line 0 with
   | true => pure []
   | false => dropX f acts fun l => pure ([.int x.2.line 0,.int x.2.endLine 0,.int x.2.col 0,.int x.2.endCol 0] ++ under f had l)
  | none => findX f had acts r
noncomputable def placeX (f : Nat) (had : Bool) : Sem (List Value) := .stack fun acts => findX f had acts acts
theorem under_eq {f : Nat} {had : Bool} {acts : List (Code × Pos)} : under f had (acts.dropWhile fun (c,_) => !(c.isFrame && c.env?.bind (·.frame) == some f)) = EntryCells.cells f had acts := by
 unfold under EntryCells.cells EntryCells.beneath
 generalize List.dropWhile _ acts = l
 cases l <;> rfl
theorem dropX_wp {w : World} {f : Nat} {Γ : Ctx} {Q : List Value → Pos → Shared → Prop} {E : Value → Pos → Shared → Prop} {k : List (Code × Pos) → Sem (List Value)} : ∀ {l : List (Code × Pos)} {p s},Sem.wp (model prog w) Γ (dropX f l k) Q E p s → Sem.wp (model prog w) Γ (k (l.dropWhile fun (c,_) => !(c.isFrame && c.env?.bind (·.frame) == some f))) Q E p s
 | [],_,_,h => h
 | (c,q) :: r,p,s,h => by
  unfold dropX at h
  dsimp only at h
  rw [List.dropWhile_cons]
  dsimp only
  generalize hW : List.dropWhile (fun x => !(x.1.isFrame && (x.1.env?.bind fun x => x.frame) == some f)) r = W
  by_cases hc : c.isFrame = true
  · rw [hc] at h
    dsimp only at h
    simp only [hc,Bool.true_and]
    cases hg : c.env?.bind (·.frame) with
    | none =>
     rw [hg] at h
     simp only [show ((none : Option Nat) == some f) = false from rfl,Bool.not_false,if_true]
     rw [← hW]
     exact dropX_wp h
    | some g =>
     rw [hg] at h
     dsimp only at h
     rw [wp_bT] at h
     obtain ⟨e,h'⟩ := wp_callEq h
     have e : g = f := Int.ofNat.inj e
     subst e
     rw [if_neg (by simp)]
     exact h'
  · have hc : c.isFrame = false := by simpa using hc
    rw [hc] at h
    simp only [hc,Bool.false_and,Bool.not_false,if_true]
    rw [← hW]
    exact dropX_wp h
theorem findX_wp {w : World} {f : Nat} {had : Bool} {acts : List (Code × Pos)} {Γ : Ctx} {Q : List Value → Pos → Shared → Prop} {E : Value → Pos → Shared → Prop} : ∀ {l : List (Code × Pos)} {p s},Sem.wp (model prog w) Γ (findX f had acts l) Q E p s →
  Sem.wp (model prog w) Γ (match l.find? fun (c,_) => c.env?.bind (·.frame) == some f with
   | some (_,pos) => pure (if pos.line == 0 then [] else [rawInt pos.line,rawInt pos.endLine,rawInt pos.col,rawInt pos.endCol] ++ EntryCells.cells f had acts)
   | none => pure []) Q E p s
 | [],_,_,h => h
 | (c,q) :: r,p,s,h => by
  unfold findX at h
  dsimp only at h
  rw [List.find?_cons]
  dsimp only
  cases hg : c.env?.bind (·.frame) with
  | none =>
   rw [hg] at h
   exact findX_wp h
  | some g =>
   rw [hg] at h
   dsimp only at h
   rw [wp_bT] at h
   obtain ⟨e,h⟩ := wp_callEq h
   have e : g = f := Int.ofNat.inj e
   subst e
   simp only [beq_self_eq_true]
   rw [PySem.W.BT.beq_eq] at h
   by_cases h0 : q.line = 0
   · rw [decide_eq_true h0] at h
     rw [if_pos (by rw [h0]; rfl)]
     exact h
   · rw [decide_eq_false h0] at h
     rw [if_neg (by simpa using h0)]
     have z := dropX_wp h
     rw [under_eq] at z
     exact z
theorem placeX_imp {w : World} {f : Nat} {had : Bool} : ImpS w (placeX f had) (entryPlaceOf f had) := fun Γ p s Q E h => by
 unfold placeX at h
 rw [Sem.wp_stack] at h
 unfold entryPlaceOf
 rw [Sem.wp_bind']
 show Sem.wp _ Γ (.stack .pure) _ E p s
 rw [Sem.wp_stack,Sem.wp_pure]
 exact findX_wp h
noncomputable def frameX (env : Env) : Sem Value := .stack fun acts => match (acts.filter (·.1.isFrame)).filterMap (·.1.env?) with
 | [] => .unsupported "mine.frame"
 | e0 :: r => match e0.frame with
  | none => .unsupported "mine.frame"
  | some g => match env.frame with
   | none => .unsupported "mine.frame"
   | some f => PySem.W.R.bindR (callEq g f) fun _ => PySem.W.R.bindR (fbT (e0 :: r)) fun o => match o with
    | some v => pure v
    | none => .unsupported "internal:frame-not-on-the-stack"
theorem fb_eq : frameObject = fbT := PySem.W.Fast.te10665104254819526710
theorem frameX_imp {w : World} {env : Env} : ImpS w (frameX env) (frameOf env) := fun Γ p s Q E h => by
 unfold frameX at h
 rw [Sem.wp_stack] at h
 unfold frameOf frameEnvs
 rw [Sem.wp_bind',Sem.wp_bind']
 show Sem.wp _ Γ (.stack .pure) _ E p s
 rw [Sem.wp_stack,Sem.wp_pure]
 rw [Sem.wp_pure']
 generalize hl : (List.filter (fun x => x.1.isFrame) ((Γ.code,p) :: Γ.below)).filterMap (fun x => x.1.env?) = l at h ⊢
 cases l with
 | nil => exact un_false _ _ _ _ _ h
 | cons e0 r =>
  dsimp only at h
  cases hg : e0.frame with
  | none => rw [hg] at h; exact un_false _ _ _ _ _ h
  | some g =>
   rw [hg] at h
   dsimp only at h
   cases hf : env.frame with
   | none => rw [hf] at h; exact un_false _ _ _ _ _ h
   | some f =>
    rw [hf] at h
    dsimp only at h
    rw [wp_bT] at h
    obtain ⟨e,h'⟩ := wp_callEq h
    have e : g = f := Int.ofNat.inj e
    subst e
    rw [List.dropWhile_cons,if_neg (by rw [hg]; simp)]
    rw [wp_bT] at h'
    rw [Sem.wp_bind',fb_eq]
    refine Sem.wp_mono _ _ _ (fun o p s y => ?_) (fun _ _ _ y => y) _ _ h'
    cases o <;> exact y
noncomputable def entX (e : Value) (env : Env) (f : Nat) (head : Value) (had : Bool) : Sem Unit :=
  PySem.W.R.bindR (frameX env) fun fr => PySem.W.R.bindR (placeX f had) fun pl => PySem.W.R.bindR (neT head fr .none (.int f 0) .none pl) fun en => seT e 1 en
noncomputable def noteX (e : Value) (env : Env) : Sem Unit := match env.frame with
 | none => nfT e env
 | some f => PySem.W.R.bindR (fiT e 1) fun head => match head with
  | .none => entX e env f .none false
  | .ref a => PySem.W.R.bindR (fiT (.ref a) 3) fun fl => match fl with
   | .int i t => match Nat.beq t 0 with
    | true => callEq i f
    | false => .unsupported "mine.note"
   | .none => PySem.W.R.bindR (seT (.ref a) 3 .none) fun _ => entX e env f (.ref a) true
   | _ => .unsupported "mine.note"
  | _ => .unsupported "mine.note"
theorem entX_imp {w : World} {e : Value} {env : Env} {f : Nat} {head : Value} {had : Bool} (hh : had = (head != .none)) : ImpS w (entX e env f head had) (do setField e 1 (← EntryCells.newEntry head (← frameOf env) .none (rawInt f) .none (← entryPlaceOf f (head != .none)))) := by
 subst hh
 unfold entX
 refine ImpS.bT frameX_imp fun fr => ImpS.bT placeX_imp fun pl => ImpS.bT (by rw [ne_eq']; exact ImpS.rfl) fun en => ?_
 rw [se_eq]
 exact ImpS.rfl
theorem noteX_imp {w : World} {e : Value} {env : Env} : ImpS w (noteX e env) (noteFrame e env) := by
 unfold noteX
 cases hf : env.frame with
 | none => rw [nf_eq]; exact ImpS.rfl
 | some f =>
  have E0 : noteFrame e env = (field e 1).bind fun head => if head != .none then (field head 3).bind fun fl => if fl == rawInt f then pure () else (setField head 3 .none).bind fun _ => (do setField e 1 (← EntryCells.newEntry head (← frameOf env) .none (rawInt f) .none (← entryPlaceOf f (head != .none))))
   else (do setField e 1 (← EntryCells.newEntry head (← frameOf env) .none (rawInt f) .none (← entryPlaceOf f (head != .none)))) := by
   unfold noteFrame
   rw [hf]
   rfl
  rw [E0]
  dsimp only
  refine ImpS.bT (by rw [fi_eq]; exact ImpS.rfl) fun head => ?_
  cases head with
  | none => exact entX_imp rfl
  | ref a =>
   show ImpS w (PySem.W.R.bindR (fiT (.ref a) 3) _) ((field (.ref a) 3).bind _)
   refine ImpS.bT (by rw [fi_eq]; exact ImpS.rfl) fun fl => ?_
   cases fl with
   | none =>
    dsimp only
    rw [if_neg (by simp [rawInt])]
    exact ImpS.bT (by rw [se_eq]; exact ImpS.rfl) fun _ => entX_imp rfl
   | int i t =>
    dsimp only
    rw [PySem.W.BT.beq_eq]
    by_cases ht : t = 0
    · subst ht
      simp only [decide_true]
      intro Γ p s Q E h
      obtain ⟨e,h'⟩ := wp_callEq h
      subst e
      rw [if_pos (by show (Value.int (f : Int) 0 == Value.int (f : Int) 0) = true; exact beq_self_eq_true _)]
      exact h'
    · rw [decide_eq_false ht]
      exact un_false
   | _ => exact un_false
  | _ => exact un_false
noncomputable abbrev bnT := PySem.W.Fast.tw7536695828754713326
noncomputable abbrev unT := PySem.W.Fast.tw14851354246082423155
noncomputable def leavX (env : Env) (e : Value) : Sem Unit := PySem.W.R.bindR (noteX e env) fun _ => sfT e none
theorem leavX_imp {w : World} {e : Value} {env : Env} : ImpS w (leavX env e) (leaving env e) :=
  ImpS.bT noteX_imp fun _ => by rw [sf_eq]; exact ImpS.rfl
noncomputable def raiseX (e : Value) : Sem Flow := match e with
 | .ref a => .handled false fun h => match h with
  | some (.ref b) => PySem.W.R.bindR (callEq b a) fun _ => .raise e
  | none => .raise e
  | _ => .unsupported "mine.raise"
 | _ => .unsupported "mine.raise"
theorem raiseX_imp {w : World} {e : Value} : ImpS w (raiseX e) (raiseNew e) := by
 unfold raiseX
 cases e with
 | ref a =>
  intro Γ p s Q E h
  dsimp only at h
  rw [Sem.wp_handled] at h
  unfold raiseNew
  rw [Sem.wp_bind']
  show Sem.wp _ Γ (.handled false .pure) _ E p s
  rw [Sem.wp_handled,Sem.wp_pure]
  generalize (if false = true then Γ.own else Γ.handled) = o at h ⊢
  cases o with
  | none => exact h
  | some x =>
   cases x with
   | ref b =>
    dsimp only at h
    rw [wp_bT] at h
    obtain ⟨e,h'⟩ := wp_callEq h
    have e : b = a := Int.ofNat.inj e
    subst e
    show Sem.wp _ Γ (if (Value.ref b != Value.ref b) = true then _ else throw (Value.ref b)) Q E p s
    rw [if_neg (by simp)]
    exact h'
   | _ => exact (un_false _ _ _ _ _ h)
 | _ => exact un_false
noncomputable def raiX (x : Sem Value) : Sem Flow :=
 PySem.W.R.bindR x fun xv => PySem.W.R.bindR (hoT [] (efT xv "exceptions must derive from BaseException")) fun e => PySem.W.R.bindR (isT xv) fun b => match b with
  | true => PySem.W.R.bindR (hoT [e] (rfT xv e false)) fun e => PySem.W.R.bindR (sfT e none) fun _ => raiseX e
  | false => PySem.W.R.bindR (riT e) fun e => PySem.W.R.bindR (sfT e none) fun _ => raiseX e
theorem raiX_imp {w : World} {x : Sem Value} {env : Env} : ImpS w (raiX x) (raiseStmt env (some x) none) := by
 have E0 : raiseStmt env (some x) none = x.bind fun xv => (holding [] (excFromValue xv "exceptions must derive from BaseException")).bind fun e => (isType xv).bind fun b => if b = true then (holding [e] (raisedFor xv e)).bind fun e => (setFlight e none).bind fun _ => raiseNew e
  else (raisedInstance e).bind fun e => (setFlight e none).bind fun _ => raiseNew e := rfl
 rw [E0]
 unfold raiX
 refine ImpS.bT ImpS.rfl fun xv => ImpS.bT (ImpS.hold (by rw [ef_eq]; exact ImpS.rfl)) fun e => ImpS.bT (by rw [is_eq]; exact ImpS.rfl) fun b => ?_
 cases b with
 | true => rw [if_pos rfl]; exact ImpS.bT (ImpS.hold (by rw [rf_eq]; exact ImpS.rfl)) fun e => ImpS.bT (by rw [sf_eq]; exact ImpS.rfl) fun _ => raiseX_imp
 | false => rw [if_neg (by simp)]; exact ImpS.bT (by rw [ri_eq]; exact ImpS.rfl) fun e => ImpS.bT (by rw [sf_eq]; exact ImpS.rfl) fun _ => raiseX_imp
noncomputable def tryX (body : Sem Flow) (hs : List ExceptHandler) (orelse : Sem Flow) (env : Env) : Sem Flow :=
 PySem.W.R.bindR (atT body) fun r => match r with
  | .ok .next => orelse
  | .ok f => pure f
  | .error e => PySem.W.R.bindR (noteX e env) fun _ => match hs with
   | [] => .raise e
   | hs => PySem.W.R.bindR (sfT e none) fun _ => hbT e env hs
theorem tryX_imp {w : World} {body body' orelse orelse' : Sem Flow} {hs : List ExceptHandler} {env : Env} (hb : ImpS w body' body) (ho : ImpS w orelse' orelse) : ImpS w (tryX body' hs orelse' env) (tryStmt false body hs orelse [] env) := by
 have E0 : tryStmt false body hs orelse [] env = (body.attempt.bind fun r => match r with
   | .ok .next => orelse
   | .ok f => pure f
   | .error e => (noteFrame e env).bind fun _ => if hs.isEmpty = true then throw e else (setFlight e none).bind fun _ => handleBy e env hs) := by
  unfold tryStmt
  show Sem.bind _ _ = Sem.bind _ _
  refine congrArg (Sem.bind _) (funext fun r => ?_)
  cases r with
  | ok f => cases f <;> rfl
  | error e => rfl
 rw [E0]
 unfold tryX
 refine ImpS.bT (ImpS.att hb) fun r => ?_
 cases r with
 | ok f => cases f <;> first | exact ho | exact ImpS.rfl
 | error e =>
  dsimp only
  refine ImpS.bT noteX_imp fun _ => ?_
  cases hs with
  | nil => exact ImpS.rfl
  | cons h hs =>
   rw [if_neg (by simp)]
   exact ImpS.bT (by rw [sf_eq]; exact ImpS.rfl) fun _ => by rw [hb_eq]; exact ImpS.rfl
noncomputable def askK {α : Type} (t : Sem α) : Setting → Sem α := match t with | .ask k => k | _ => fun _ => .unsupported ""
noncomputable def callK {α : Type} (t : Sem α) : Result → Sem α := match t with | .call _ _ _ _ k => k | _ => fun _ => .unsupported ""
noncomputable def isW (x a : Array UInt8) : Bool := x.toList == a.toList
theorem isW_eq {x a : Array UInt8} (h : isW x a = true) : a = x := by
 unfold isW at h
 have := eq_of_beq h
 cases x; cases a; cases this; rfl
noncomputable def pairOk (a b : Array UInt8) : Bool := match isW bS a with
 | true => match isW bA b with
  | true => true
  | false => isW bP b
 | false => match isW bA a with
  | true => isW bP b
  | false => false
theorem pairOk_or {a b : Array UInt8} (h : pairOk a b = true) : (a = bS ∧ b = bA) ∨ (a = bS ∧ b = bP) ∨ (a = bA ∧ b = bP) := by
 unfold pairOk at h
 split at h
 · rename_i h1
   split at h
   · rename_i h2; exact .inl ⟨isW_eq h1,isW_eq h2⟩
   · exact .inr (.inl ⟨isW_eq h1,isW_eq h⟩)
 · split at h
   · rename_i h1; exact .inr (.inr ⟨isW_eq h1,isW_eq h⟩)
   · cases h
theorem entry_bytes_eq : entryFor table "bytes.__eq__" = some Builtin.«bytes.__eq__» := entryFor_of_tree (by kernel_rfl)
theorem eq_run {w : World} {Γ : Ctx} {p : Pos} {s : Shared} {a b : Array UInt8} {ta tb : Nat} (h : pairOk a b = true) : Runs (model prog w) Γ p ((model prog w).den (.call (.builtin "bytes.__eq__") ⟨[.bytes a ta,.bytes b tb],[]⟩)) [] s (.ret (.ok (.ret (.bool false)))) s := by
 have e1 : (model prog w).den (.call (.builtin "bytes.__eq__") ⟨[.bytes a ta,.bytes b tb],[]⟩) = .pure (.again (.builtin "bytes.__eq__" ⟨[.bytes a ta,.bytes b tb],[]⟩)) := by kernel_rfl
 rw [e1]
 refine Runs.again (by kernel_rfl) ?_
 have e2 : (model prog w).den (.builtin "bytes.__eq__" ⟨[.bytes a ta,.bytes b tb],[]⟩) = .pure (.done (.ret (.bool false))) := by
  rw [den_builtin entry_bytes_eq]
  rcases pairOk_or h with ⟨rfl,rfl⟩ | ⟨rfl,rfl⟩ | ⟨rfl,rfl⟩ <;> kernel_rfl
 rw [e2]
 exact .done
theorem eqBytes' {w : World} {b' : Bool} {Γ : Ctx} {p : Pos} {s : Shared} {a b : Array UInt8} {ta tb : Nat} (h : pairOk a b = true) {Q : Bool → Pos → Shared → Prop} {E : Value → Pos → Shared → Prop} (hQ : Q false p s) :
  Sem.wp (model prog (w.withFollow "special-get-raises" b')) Γ (eqBool (.bytes a ta) (.bytes b tb)) Q E p s := by
 have e1 : eqBool (.bytes a ta) (.bytes b tb) = .ask (askK (eqBool (.bytes a ta) (.bytes b tb))) := by
  rcases pairOk_or h with ⟨rfl,rfl⟩ | ⟨rfl,rfl⟩ | ⟨rfl,rfl⟩ <;> kernel_rfl
 have e2 : askK (eqBool (.bytes a ta) (.bytes b tb)) ⟨prog,(w.withFollow "special-get-raises" b').params⟩ = .call (.call (.builtin "bytes.__eq__") ⟨[.bytes a ta,.bytes b tb],[]⟩) none false [] (callK (askK (eqBool (.bytes a ta) (.bytes b tb)) ⟨prog,(w.withFollow "special-get-raises" b').params⟩)) := by
  rcases pairOk_or h with ⟨rfl,rfl⟩ | ⟨rfl,rfl⟩ | ⟨rfl,rfl⟩ <;> cases b' <;> kernel_rfl
 have e3 : callK (askK (eqBool (.bytes a ta) (.bytes b tb)) ⟨prog,(w.withFollow "special-get-raises" b').params⟩) (.ok (.ret (.bool false))) = .pure false := by
  rcases pairOk_or h with ⟨rfl,rfl⟩ | ⟨rfl,rfl⟩ | ⟨rfl,rfl⟩ <;> cases b' <;> kernel_rfl
 rw [e1,Sem.wp_ask]
 show Sem.wp _ Γ (askK (eqBool (.bytes a ta) (.bytes b tb)) ⟨prog,(w.withFollow "special-get-raises" b').params⟩) Q E p s
 rw [e2,Sem.wp_call]
 refine ⟨_,_,eq_run h,?_⟩
 show Sem.wp _ Γ (callK (askK (eqBool (.bytes a ta) (.bytes b tb)) ⟨prog,(w.withFollow "special-get-raises" b').params⟩) (.ok (.ret (.bool false)))) Q E p s
 rw [e3,Sem.wp_pure]
 exact hQ
theorem eqBytes {w : World} {Γ : Ctx} {p : Pos} {s : Shared} {a b : Array UInt8} {ta tb : Nat} (h : pairOk a b = true) {Q : Bool → Pos → Shared → Prop} {E : Value → Pos → Shared → Prop} (hQ : Q false p s) :
  Sem.wp (model prog w) Γ (eqBool (.bytes a ta) (.bytes b tb)) Q E p s := by
 have z := eqBytes' (w := w) (b' := w.params.followText "special-get-raises") (Γ := Γ) (p := p) (s := s) (ta := ta) (tb := tb) h (E := E) hQ
 rw [World.withFollow_self] at z
 exact z
theorem wp_forIn_same {M : Model} {Γ : Ctx} {β : Type} {b : β} {f : Nat → β → Sem (ForInStep β)} {E : Value → Pos → Shared → Prop} {p : Pos} {s : Shared} : ∀ (l : List Nat),(∀ i ∈ l,∀ Q' : ForInStep β → Pos → Shared → Prop,Q' (.yield b) p s → Sem.wp M Γ (f i b) Q' E p s) → ∀ {Q : β → Pos → Shared → Prop},Q b p s → Sem.wp M Γ (forIn l b f) Q E p s
 | [],_,Q,hQ => by rw [List.forIn_nil]; exact hQ
 | x :: l,h,Q,hQ => by
  rw [List.forIn_cons,Sem.wp_bind']
  refine h x (List.mem_cons_self ..) _ ?_
  exact wp_forIn_same l (fun i hi => h i (List.mem_cons_of_mem _ hi)) hQ
noncomputable def okKeys (b : Array UInt8) : List DictEntry → Bool
 | [] => true
 | e :: r => match e.key with
  | .bytes a _ => match pairOk a b with
   | true => okKeys b r
   | false => false
  | _ => false
theorem okKeys_mem {b : Array UInt8} : ∀ {l : List DictEntry},okKeys b l = true → ∀ e ∈ l,∃ a t,e.key = .bytes a t ∧ pairOk a b = true
 | [],_,e,h => nomatch h
 | x :: r,h,e,he => by
  unfold okKeys at h
  split at h
  · rename_i a t hk
    split at h
    · rename_i hp
      rcases List.mem_cons.mp he with rfl | he
      · exact ⟨a,t,hk,hp⟩
      · exact okKeys_mem h e he
    · cases h
  · cases h
theorem walk_wp {w : World} {Γ : Ctx} {p : Pos} {s : Shared} {d : Nat} {b : Array UInt8} {t : Nat} {h : Int} {es : Array DictEntry} {n : Nat} {o : Obj} (ho : s.heap.get? d = some o) (hd : o.data = .dict es n) (hk : okKeys b es.toList = true) {Q : Option Nat → Pos → Shared → Prop} {E : Value → Pos → Shared → Prop} (hQ : Q none p s) (places : List Nat) :
   Sem.wp (model prog w) Γ (dictWalkPlain d (.bytes b t) h es places) Q E p s := by
 have ep : ∀ {Q' : Nat → Pos → Shared → Prop},Q' n p s → Sem.wp (model prog w) Γ (dictEpoch d (keyPart (.bytes b t))) Q' E p s := fun {Q'} hq => by
   unfold dictEpoch loadPart
   rw [Sem.wp_bind']
   show Sem.wp _ Γ (.load d _ .pure) _ E p s
   rw [Sem.wp_load]
   refine ⟨o,ho,?_⟩
   rw [Sem.wp_pure,hd]
   exact hq
 unfold dictWalkPlain
 rw [Sem.wp_bind']
 refine wp_forIn_same places (fun i _ Q' hq => ?_) ?_
 · cases he : es[i]? with
   | none => exact hq
   | some e =>
    dsimp only
    obtain ⟨a,ta,hka,hp⟩ := okKeys_mem hk e (by rw [← Array.getElem?_toList] at he; exact List.mem_of_getElem? he)
    by_cases hh : (e.hash == h) = true
    · rw [if_pos hh,Sem.wp_bind']
      refine ep ?_
      rw [Sem.wp_bind',hka]
      refine eqBytes hp ?_
      rw [Sem.wp_bind']
      refine ep ?_
      rw [if_neg (by simp)]
      exact hq
    · rw [if_neg hh]
      exact hq
 · exact hQ
noncomputable abbrev enT : Nat → Option Value → Sem (Array DictEntry) := @PySem.W.Fast.tw1156441195427279134
theorem en_eq : @dictEntries = enT := PySem.W.Fast.te1156441195427279134
noncomputable def findY (key : Value) (es : Array DictEntry) : Sem (Option Nat) := match key with
 | .bytes b _ => match okKeys b es.toList with
  | true => pure none
  | false => .unsupported "mine.find"
 | _ => .unsupported "mine.find"
noncomputable def findX2 (d : Nat) (key : Value) : Sem (Option Nat) := PySem.W.R.bindR (enT d (keyPart key)) (findY key)
theorem uns_wp {M : Model} {α : Type} {Γ : Ctx} {p : Pos} {s : Shared} {Q : α → Pos → Shared → Prop} {E : Value → Pos → Shared → Prop} {m : String} (x : Sem.wp M Γ (.unsupported m : Sem α) Q E p s) : False := by
  rwa [Sem.wp] at x
theorem de_wp {M : Model} {Γ : Ctx} {p : Pos} {s : Shared} {d : Nat} {k : Option Value} {Q : Array DictEntry → Pos → Shared → Prop} {E : Value → Pos → Shared → Prop} (x : Sem.wp M Γ (dictEntries d k) Q E p s) : ∃ o es n,s.heap.get? d = some o ∧ o.data = .dict es n ∧ Q es p s := by
 unfold dictEntries loadPart at x
 rw [Sem.wp_bind'] at x
 have x : Sem.wp _ Γ (.load d _ .pure) _ E p s := x
 rw [Sem.wp_load] at x
 obtain ⟨o,ho,x⟩ := x
 rw [Sem.wp_pure] at x
 refine ⟨o,?_⟩
 generalize hd : o.data = D at x
 cases D with
 | dict es n =>
  have x : Sem.wp _ Γ (Sem.pure es) Q E p s := x
  rw [Sem.wp_pure] at x
  exact ⟨es,n,ho,rfl,x⟩
 | _ => exact (uns_wp x).elim
theorem findK {M : Model} {Γ : Ctx} {p : Pos} {s : Shared} {key : Value} {es : Array DictEntry} {Q : Option Nat → Pos → Shared → Prop} {E : Value → Pos → Shared → Prop} (x : Sem.wp M Γ (findY key es) Q E p s) : ∃ b t,key = .bytes b t ∧ okKeys b es.toList = true ∧ Q none p s := by
 cases key with
 | bytes b t =>
  refine ⟨b,t,rfl,?_⟩
  have x : Sem.wp _ Γ (match okKeys b es.toList with | true => pure none | false => .unsupported "mine.find") Q E p s := x
  cases hk : okKeys b es.toList with
  | false => rw [hk] at x; exact (uns_wp x).elim
  | true =>
   rw [hk] at x
   have x : Sem.wp _ Γ (Sem.pure none) Q E p s := x
   rw [Sem.wp_pure] at x
   exact ⟨rfl,x⟩
 | _ => exact (uns_wp x).elim
theorem findX2_imp {w : World} {d : Nat} {key : Value} {h : Int} : ImpS w (findX2 d key) (dictFind d key h) := fun Γ p s Q E x => by
 unfold findX2 at x
 rw [wp_bT,← en_eq] at x
 obtain ⟨o,es,n,ho,hd,x⟩ := de_wp x
 obtain ⟨b,t,rfl,hk,x⟩ := findK x
 have hall : ((Value.bytes b t :: (placesWithHash es.size (fun i => es[i]?.map (·.hash)) h).filterMap fun i => es[i]?.map (·.key)).all carriedByValue) = true := by
  rw [List.all_cons,List.all_eq_true.mpr,Bool.and_true]
  · rfl
  · intro v hv
    obtain ⟨i,_,hi⟩ := List.mem_filterMap.mp hv
    cases he : es[i]? with
    | none => rw [he] at hi; cases hi
    | some e =>
     rw [he] at hi
     obtain rfl : e.key = v := by simpa using hi
     obtain ⟨a,ta,hka,hp⟩ := okKeys_mem hk e (by rw [← Array.getElem?_toList] at he; exact List.mem_of_getElem? he)
     rw [hka]; rfl
 unfold dictFind
 rw [Sem.wp_holding,Sem.wp_bind',Sem.wp_dictEntries _ _ _ _ _ _ ho hd]
 show Sem.wp _ Γ (if ((Value.bytes b t :: (placesWithHash es.size (fun i => es[i]?.map (·.hash)) h).filterMap fun i => es[i]?.map (·.key)).all carriedByValue) = true then _ else _) Q E p s
 rw [if_pos hall]
 first
  | exact walk_wp ho hd hk x _
  | (rw [Sem.wp_bind']; exact walk_wp ho hd hk x _)
noncomputable abbrev udT : Nat → (Array DictEntry → Array DictEntry) → Option Value → Sem Unit := @PySem.W.Fast.tw11826078720135083572
noncomputable abbrev epT := PySem.W.Fast.tw1788576489739465902
noncomputable abbrev nlT := PySem.W.Fast.tw2244487426110161322
noncomputable abbrev cwT := PySem.W.Fast.tw8289420714989923916
noncomputable abbrev abT := PySem.W.Fast.tw15487144857313948548
noncomputable abbrev coT := PySem.W.Fast.tw11328156115524847652
noncomputable abbrev mpT := PySem.W.Fast.tw6137100228056946695
noncomputable abbrev dvT := PySem.W.Fast.tw12372662630863984472
theorem ud_eq : @updateDictKeys = udT := PySem.W.Fast.te11826078720135083572
theorem ep_eq : evalPairs = epT := PySem.W.Fast.te1788576489739465902
theorem nl_eq : newList = nlT := PySem.W.Fast.te2244487426110161322
theorem cw_eq : callWith = cwT := PySem.W.Fast.te8289420714989923916
theorem ab_eq : attributeBase = abT := PySem.W.Fast.te15487144857313948548
theorem co_eq : calleeOf = coT := PySem.W.Fast.te11328156115524847652
theorem mp_eq : methodCallPos = mpT := PySem.W.Fast.te6137100228056946695
theorem dv_eq : dropValue = dvT := PySem.W.Fast.te12372662630863984472
noncomputable def anyKey (b : Array UInt8) : Bool := match isW bS b with
 | true => true
 | false => match isW bA b with
  | true => true
  | false => isW bP b
theorem anyKey_or {b : Array UInt8} (h : anyKey b = true) : b = bS ∨ b = bA ∨ b = bP := by
 unfold anyKey at h
 split at h
 · rename_i q; exact .inl (isW_eq q)
 · split at h
   · rename_i q; exact .inr (.inl (isW_eq q))
   · exact .inr (.inr (isW_eq h))
theorem red_ok (x : Int) : -(2 ^ 63 : Int) ≤ reduceHash x ∧ reduceHash x < 2 ^ 63 ∧ reduceHash x ≠ -1 := by
 have key : ∀ y : Int,-(2 ^ 63 : Int) ≤ y ∧ y < 2 ^ 63 → -(2 ^ 63 : Int) ≤ (if (y == -1) = true then -2 else y) ∧ (if (y == -1) = true then -2 else y) < 2 ^ 63 ∧ (if (y == -1) = true then -2 else y) ≠ -1 := fun y hy => by
   by_cases e : y = -1
   · subst e; decide
   · rw [if_neg (by simpa using e)]
     exact ⟨hy.1,hy.2,e⟩
 unfold reduceHash
 split
 · rename_i h
   exact key x (by simpa using h)
 · refine key _ ?_
   have h1 : (0 : Int) ≤ (x.natAbs : Int) % (2 ^ 61 - 1) := Int.emod_nonneg _ (by decide)
   have h2 : (x.natAbs : Int) % (2 ^ 61 - 1) < 2 ^ 61 - 1 := Int.emod_lt_of_pos _ (by decide)
   split <;> omega
noncomputable def kB (P : Params) (b : Array UInt8) : Int := PyData.keyHash P ⟨b.toList.toArray.map (·.toNat)⟩
theorem kB_red {b : Array UInt8} (h : anyKey b = true) (P : Params) : kB P b = reduceHash (P.strHash (b.toList.toArray.map (·.toNat))) := by
  rcases anyKey_or h with rfl | rfl | rfl <;> kernel_rfl
theorem reduced_id {b : Array UInt8} (h : anyKey b = true) (P : Params) : pyHashByItsType.reduced (kB P b) = .pure (hB P b) := by
 have e : hB P b = reduceHash (kB P b) := rfl
 rw [e,kB_red h]
 generalize P.strHash _ = x
 obtain ⟨h1,h2,h3⟩ := red_ok x
 generalize reduceHash x = i at h1 h2 h3 ⊢
 unfold pyHashByItsType.reduced reduceHash
 have hc : (decide (-(2 ^ 63 : Int) ≤ i) && decide (i < 2 ^ 63)) = true := by rw [Bool.and_eq_true,decide_eq_true_eq,decide_eq_true_eq]; exact ⟨h1,h2⟩
 rw [if_pos hc,if_pos hc]
 rfl
theorem entry_bytes_hash : entryFor table "bytes.__hash__" = some Builtin.«bytes.__hash__» := entryFor_of_tree (by kernel_rfl)
theorem hash_run {w : World} {Γ : Ctx} {p : Pos} {s : Shared} {b : Array UInt8} {t : Nat} (h : anyKey b = true) : Runs (model prog w) Γ p ((model prog w).den (.call (.builtin "bytes.__hash__") ⟨[.bytes b t],[]⟩)) [] s (.ret (.ok (.ret (.int (kB w.params b) s.toks)))) { s with toks := s.toks + 1 } := by
 have e1 : (model prog w).den (.call (.builtin "bytes.__hash__") ⟨[.bytes b t],[]⟩) = .pure (.again (.builtin "bytes.__hash__" ⟨[.bytes b t],[]⟩)) := by kernel_rfl
 rw [e1]
 refine Runs.again (by kernel_rfl) ?_
 have e2 : (model prog w).den (.builtin "bytes.__hash__" ⟨[.bytes b t],[]⟩) = .ask fun q => .fresh fun tk => .pure (.done (.ret (.int (kB q.params b) tk))) := by
  rw [den_builtin entry_bytes_hash]
  rcases anyKey_or h with rfl | rfl | rfl <;> kernel_rfl
 rw [e2]
 exact .ask (.fresh .done)
theorem hash_wp' {w : World} {b' : Bool} {Γ : Ctx} {p : Pos} {s : Shared} {b : Array UInt8} {t : Nat} (h : anyKey b = true) {Q : Int → Pos → Shared → Prop} {E : Value → Pos → Shared → Prop} (hQ : Q (hB (w.withFollow "special-get-raises" b').params b) p { s with toks := s.toks + 1 }) :
  Sem.wp (model prog (w.withFollow "special-get-raises" b')) Γ (pyHash (.bytes b t)) Q E p s := by
 have e1 : pyHash (.bytes b t) = .ask (askK (pyHash (.bytes b t))) := by
  rcases anyKey_or h with rfl | rfl | rfl <;> kernel_rfl
 have e2 : askK (pyHash (.bytes b t)) ⟨prog,(w.withFollow "special-get-raises" b').params⟩ = .call (.call (.builtin "bytes.__hash__") ⟨[.bytes b t],[]⟩) none false [] (callK (askK (pyHash (.bytes b t)) ⟨prog,(w.withFollow "special-get-raises" b').params⟩)) := by
  rcases anyKey_or h with rfl | rfl | rfl <;> cases b' <;> kernel_rfl
 have e3 : ∀ i tk,callK (askK (pyHash (.bytes b t)) ⟨prog,(w.withFollow "special-get-raises" b').params⟩) (.ok (.ret (.int i tk))) = pyHashByItsType.reduced i := fun i tk => by
  rcases anyKey_or h with rfl | rfl | rfl <;> cases b' <;> kernel_rfl
 rw [e1,Sem.wp_ask]
 show Sem.wp _ Γ (askK (pyHash (.bytes b t)) ⟨prog,(w.withFollow "special-get-raises" b').params⟩) Q E p s
 rw [e2,Sem.wp_call]
 refine ⟨_,_,hash_run h,?_⟩
 show Sem.wp _ Γ (callK (askK (pyHash (.bytes b t)) ⟨prog,(w.withFollow "special-get-raises" b').params⟩) (.ok (.ret (.int _ _)))) Q E p _
 rw [e3]
 have e4 := reduced_id h (w.withFollow "special-get-raises" b').params
 show Sem.wp _ Γ (pyHashByItsType.reduced (kB (w.withFollow "special-get-raises" b').params b)) Q E p _
 rw [e4,Sem.wp_pure]
 exact hQ
noncomputable def phX (key : Value) : Sem Int := match key with
 | .bytes b _ => match anyKey b with
  | true => .ask fun q => .fresh fun _ => .pure (hB q.params b)
  | false => .unsupported "mine.hash"
 | _ => .unsupported "mine.hash"
theorem phX_imp {w : World} {key : Value} : ImpS w (phX key) (pyHash key) := by
 unfold phX
 cases key with
 | bytes b t =>
  dsimp only
  cases h : anyKey b with
  | false => exact un_false
  | true =>
   intro Γ p s Q E x
   dsimp only at x
   rw [Sem.wp_ask,Sem.wp_fresh,Sem.wp_pure] at x
   have z := hash_wp' (w := w) (b' := w.params.followText "special-get-raises") (Γ := Γ) (p := p) (s := s) (t := t) h (Q := Q) (E := E) (by rw [World.withFollow_self]; exact x)
   rw [World.withFollow_self] at z
   exact z
 | _ => exact un_false
noncomputable def dsetX (d : Nat) (key v : Value) : Sem Unit := hoT [key,v] (PySem.W.R.bindR (phX key) fun h => hoT [key,v] (PySem.W.R.bindR (findX2 d key) fun r => match r with
 | none => PySem.W.R.bindR (rule "dict.set.new-key-at-the-end") fun _ => udT d (fun es => es.push ⟨h,key,v⟩) (keyPart key)
 | some _ => .unsupported "mine.set"))
theorem dsetX_imp {w : World} {d : Nat} {key v : Value} : ImpS w (dsetX d key v) (dictSet d key v) := by
 unfold dsetX dictSet
 refine ImpS.hold (ImpS.bT phX_imp fun h => ?_)
 unfold dictSetHashed
 refine ImpS.hold (ImpS.bT findX2_imp fun r => ?_)
 cases r with
 | none =>
  dsimp only
  refine ImpS.bT ImpS.rfl fun _ => ?_
  rw [ud_eq]
  exact ImpS.rfl
 | some i => exact un_false
noncomputable def setsX (d : Nat) : List (Value × Value) → Sem Unit
 | [] => pure ()
 | x :: r => PySem.W.R.bindR (dsetX d x.1 x.2) fun _ => setsX d r
theorem setsX_imp {w : World} {d : Nat} : ∀ (vs : List (Value × Value)),ImpS w (setsX d vs) (do for (k,v) in vs do dictSet d k v)
 | [] => ImpS.rfl
 | (k,v) :: r => fun Γ p s Q E x => by
  unfold setsX at x
  rw [wp_bT] at x
  have ih := setsX_imp (w := w) (d := d) r
  rw [List.forIn_cons,Sem.wp_bind',Sem.wp_bind']
  show Sem.wp _ Γ (dictSet d k v >>= fun _ => pure (ForInStep.yield PUnit.unit)) _ E p s
  rw [Sem.wp_bind']
  refine Sem.wp_mono _ _ _ (fun _ p s y => ?_) (fun _ _ _ y => y) _ _ (dsetX_imp _ _ _ _ _ x)
  have z := ih _ _ _ _ _ y
  rw [Sem.wp_bind'] at z
  exact z
noncomputable def subX (pairs : List (Sem Value × Sem Value)) : Sem Nat := PySem.W.R.bindR (.alloc ⟨.type "dict",none,.dict #[] 0,#[]⟩ .pure) fun d =>
  PySem.W.R.bindR (hoT [.ref d] (PySem.W.R.bindR (epT pairs) fun vs => hoT (vs.flatMap fun (k,v) => [k,v]) (setsX d vs))) fun _ => pure d
theorem subX_imp {w : World} {pairs : List (Sem Value × Sem Value)} (h : pairs.length ≤ 15) : ImpS w (subX pairs) (subDict pairs) := by
 unfold subX subDict
 refine ImpS.bT ImpS.rfl fun d => ?_
 refine ImpS.bT (ImpS.hold ?_) fun _ => ImpS.rfl
 rw [if_pos h]
 refine ImpS.bT (by rw [ep_eq]; exact ImpS.rfl) fun vs => ImpS.hold (setsX_imp vs)
noncomputable def dispX (ks vs : List PySem.Expr) (dp : Pos) (env : Env) : Sem Value := match ks with
 | [k1,k2,k3] => match vs with
  | [v1,v2,v3] => PySem.W.R.bindR (standAt dp) fun _ => PySem.W.R.bindR (subX [(evT k1 env,PySem.W.R.bindR (evT v1 env) fun x => PySem.W.R.bindR (standAt dp) fun _ => pure x),(evT k2 env,PySem.W.R.bindR (evT v2 env) fun x => PySem.W.R.bindR (standAt dp) fun _ => pure x),(evT k3 env,PySem.W.R.bindR (evT v3 env) fun x => PySem.W.R.bindR (standAt dp) fun _ => pure x)]) fun d => pure (.ref d)
  | _ => .unsupported "mine.disp"
 | _ => .unsupported "mine.disp"
theorem dispX_imp {w : World} {ks vs : List PySem.Expr} {dp : Pos} {env : Env} : ImpS w (dispX ks vs dp env) (PySem.eval (.Dict (ks.map some) vs dp) env) := by
 unfold dispX
 split
 · split
   · rename_i k1 k2 k3 _ v1 v2 v3
     have E0 : PySem.eval (.Dict ([k1,k2,k3].map some) [v1,v2,v3] dp) env = (standAt dp).bind fun _ => ((subDict [(PySem.eval k1 env,(PySem.eval v1 env).bind fun x => (standAt dp).bind fun _ => pure x),(PySem.eval k2 env,(PySem.eval v2 env).bind fun x => (standAt dp).bind fun _ => pure x),(PySem.eval k3 env,(PySem.eval v3 env).bind fun x => (standAt dp).bind fun _ => pure x)]).bind fun d => pure (some d)).bind fun m => match m with
       | some d => pure (.ref d)
       | none => newDict := by
      rw [arm_eval_Dict]
      rfl
     rw [E0,ev_eq]
     refine ImpS.bT ImpS.rfl fun _ => fun Γ p s Q E x => ?_
     rw [wp_bT] at x
     have z := subX_imp (by simp) _ _ _ _ _ x
     rw [← PySem.W.R.bindR_eq] at z
     rw [Sem.wp_bind,Sem.wp_bind]
     exact Sem.wp_mono _ _ _ (fun _ p s y => y) (fun _ _ _ y => y) _ _ z
   · exact un_false
 · exact un_false
theorem cw_wp {M : Model} {Γ : Ctx} {pos : Pos} {f : Value} {first : List Value} {m : Sem Value} {Q : Value → Pos → Shared → Prop} {E : Value → Pos → Shared → Prop} {p : Pos} {s : Shared} (h : Sem.wp M Γ m (fun v p s => Sem.wp M Γ (callWith pos f first [(false,.pure v)] []) Q E p s) E p s) : Sem.wp M Γ (callWith pos f first [(false,m)] []) Q E p s := by
 unfold callWith at h ⊢
 simp only [Sem.wp_bind',Sem.wp_holding] at h ⊢
 unfold evalArgs spliced at h ⊢
 simp only [Sem.wp_bind',Sem.wp_holding] at h ⊢
 exact h
noncomputable abbrev inT := PySem.W.Fast.tw15112477048112897374
theorem in_eq : interactive = inT := PySem.W.Fast.te15112477048112897374
noncomputable def callX (o : PySem.Expr) (nm : Str) (ap : Pos) (ks vs : List PySem.Expr) (dp lp cp : Pos) (env : Env) : Sem Value :=
 PySem.W.R.bindR (abT o nm env (evT o env)) fun ov => PySem.W.R.bindR (standAt ap.atName) fun _ => PySem.W.R.bindR (hoT [ov] (coT true o env ov nm)) fun ff => PySem.W.R.bindR (mpT true o env ap cp) fun callPos =>
  PySem.W.R.bindR (PySem.W.R.bindR (standAt lp) fun _ => PySem.W.R.bindR (dispX ks vs dp env) fun v => nlT [v]) fun v => cwT callPos ff.1 ff.2 [(false,.pure v)] []
theorem callX_imp {w : World} {o : PySem.Expr} {nm : Str} {ap dp lp cp : Pos} {ks vs : List PySem.Expr} {env : Env} : ImpS w (callX o nm ap ks vs dp lp cp env) (PySem.eval (.Call (.Attribute o nm ap) [.List [.Dict (ks.map some) vs dp] lp] [] cp) env) := by
 have E0 : PySem.eval (.Call (.Attribute o nm ap) [.List [.Dict (ks.map some) vs dp] lp] [] cp) env = (attributeBase o nm env (PySem.eval o env)).bind fun ov => (standAt ap.atName).bind fun _ => (holding [ov] (calleeOf true o env ov nm)).bind fun ff => (methodCallPos true o env ap cp).bind fun callPos =>
   callWith callPos ff.1 ff.2 [(false,PySem.eval (.List [.Dict (ks.map some) vs dp] lp) env)] [] := by
  rw [arm_eval_Call]
  rfl
 rw [E0]
 unfold callX
 refine ImpS.bT (by rw [ab_eq,ev_eq]; exact ImpS.rfl) fun ov => ImpS.bT ImpS.rfl fun _ => ImpS.bT (ImpS.hold (by rw [co_eq]; exact ImpS.rfl)) fun ff => ImpS.bT (by rw [mp_eq]; exact ImpS.rfl) fun callPos => fun Γ p s Q E x => ?_
 rw [wp_bT,wp_bT,← cw_eq] at x
 refine cw_wp ?_
 rw [arm_eval_List,Sem.wp_bind']
 refine Sem.wp_mono _ _ _ (fun _ p s y => ?_) (fun _ _ _ y => y) _ _ x
 rw [wp_bT,← nl_eq] at y
 rw [Sem.wp_bind']
 show Sem.wp _ Γ (spliced [(false,PySem.eval (.Dict (ks.map some) vs dp) env)]) _ E p s
 unfold spliced
 simp only [Sem.wp_bind',Sem.wp_holding]
 refine Sem.wp_mono _ _ _ (fun v p s q => ?_) (fun _ _ _ q => q) _ _ (dispX_imp _ _ _ _ _ y)
 rw [if_neg (by simp),Sem.wp_bind']
 show Sem.wp _ Γ (.pure [v]) _ E p s
 rw [Sem.wp_pure,Sem.wp_bind',Sem.wp_holding]
 unfold spliced
 show Sem.wp _ Γ (.pure []) _ E p s
 rw [Sem.wp_pure]
 show Sem.wp _ Γ (.pure [v]) _ E p s
 rw [Sem.wp_pure]
 exact q
noncomputable def exprX (o : PySem.Expr) (nm : Str) (ap : Pos) (ks vs : List PySem.Expr) (dp lp cp ep : Pos) (env : Env) : Sem Flow :=
 PySem.W.R.bindR (standAt ep) fun _ => match inT env with
  | true => .unsupported "mine.expr"
  | false => PySem.W.R.bindR (callX o nm ap ks vs dp lp cp env) fun v => dvT (.Call (.Attribute o nm ap) [.List [.Dict (ks.map some) vs dp] lp] [] cp) ep v
theorem exprX_imp {w : World} {o : PySem.Expr} {nm : Str} {ap dp lp cp ep : Pos} {ks vs : List PySem.Expr} {env : Env} : ImpS w (exprX o nm ap ks vs dp lp cp ep env) (PySem.exec (.Expr (.Call (.Attribute o nm ap) [.List [.Dict (ks.map some) vs dp] lp] [] cp) ep) env) := by
 unfold exprX
 rw [arm_exec_Expr]
 refine ImpS.bT ImpS.rfl fun _ => ?_
 rw [← in_eq]
 cases interactive env with
 | true => exact un_false
 | false =>
  rw [if_neg (by simp)]
  show ImpS w _ ((PySem.eval (.Call (.Attribute o nm ap) [.List [.Dict (ks.map some) vs dp] lp] [] cp) env).bind fun v => dropValue (.Call (.Attribute o nm ap) [.List [.Dict (ks.map some) vs dp] lp] [] cp) ep v)
  exact ImpS.bT callX_imp fun v => by rw [dv_eq]; exact ImpS.rfl
noncomputable def suiteX (ih : List Stmt → Env → Sem Flow) (l : List Stmt) (env : Env) : Sem Flow := match l with
 | [] => pure .next
 | s :: ss => PySem.W.R.bindR (match s with
  | .Try body hs orelse [] pos => PySem.W.R.bindR (standAt pos) fun _ => tryX (ih body env) hs (ih orelse env) env
  | .If test b o pos => PySem.W.R.bindR (standAt pos) fun _ => PySem.W.R.bindR (itT test env (evT test env)) fun t => match t with
   | true => ih b env
   | false => ih o env
  | .Raise (some (.Name i np)) none pos => PySem.W.R.bindR (standAt pos) fun _ => raiX (PySem.W.R.bindR (evT (.Name i np) env) fun v => PySem.W.R.bindR (standAt pos) fun _ => pure v)
  | .Expr (.Call (.Attribute o nm ap) [.List [.Dict [some k1,some k2,some k3] vs dp] lp] [] cp) ep => exprX o nm ap [k1,k2,k3] vs dp lp cp ep env
  | s => exT [s] env) fun fl => match fl with
   | .next => ih ss env
   | f => pure f
noncomputable def execsX (n : Nat) : List Stmt → Env → Sem Flow := @Nat.rec (fun _ => List Stmt → Env → Sem Flow) (fun l env => exT l env) (fun _ ih => suiteX ih) n
theorem execsX_imp {w : World} {env : Env} : ∀ (n : Nat) (l : List Stmt),ImpS w (execsX n l env) (execs l env)
 | 0,l => by show ImpS w (exT l env) _; rw [ex_eq]; exact ImpS.rfl
 | n + 1,[] => ImpS.rfl
 | n + 1,s :: ss => by
  show ImpS w (suiteX (execsX n) (s :: ss) env) _
  unfold suiteX
  rw [arm_execs_cons]
  have one : ImpS w (exT [s] env) (exec s env) := fun Γ p σ Q E h => by
    rw [← ex_eq,arm_execs_cons,Sem.wp_bind'] at h
    refine Sem.wp_mono _ _ _ (fun fl p s y => ?_) (fun _ _ _ y => y) _ _ h
    cases fl <;> exact y
  refine ImpS.bT ?_ fun fl => ?_
  · cases s
    case Try body hs orelse fin pos =>
     cases fin with
     | cons => exact one
     | nil =>
      rw [arm_exec_Try]
      exact ImpS.bT ImpS.rfl fun _ => tryX_imp (execsX_imp n _) (execsX_imp n _)
    case If test b o pos =>
     rw [arm_exec_If]
     refine ImpS.bT ImpS.rfl fun _ => ImpS.bT (by rw [it_eq,ev_eq]; exact ImpS.rfl) fun t => ?_
     cases t with
     | true => rw [if_pos rfl]; exact execsX_imp n _
     | false => rw [if_neg (by simp)]; exact execsX_imp n _
    case Raise x y pos =>
     cases x with
     | none => exact one
     | some e =>
      cases e
      case Name i np =>
       cases y with
       | some => exact one
       | none =>
        rw [arm_exec_Raise]
        refine ImpS.bT ImpS.rfl fun _ => ?_
        show ImpS w _ (raiseStmt env (some ((PySem.eval (.Name _ _) env).bind fun v => (standAt _).bind fun _ => pure v)) none)
        rw [ev_eq]
        simp only [PySem.W.R.bindR_eq]
        exact raiX_imp
      all_goals exact one
    case Expr e ep =>
     cases e
     case Call f as kw cp =>
      cases f
      case Attribute o nm ap =>
       cases as with
       | nil => exact one
       | cons a1 r =>
        cases a1
        case List es lp =>
         cases es with
         | nil => exact one
         | cons d r2 =>
          cases d
          case Dict ks vs dp =>
           (rcases ks with _ | ⟨_ | _,_ | ⟨_ | _,_ | ⟨_ | _,_ | _⟩⟩⟩) <;> first | exact one | (cases r2 <;> first | exact one | (cases r <;> first | exact one | (cases kw <;> first | exact one | exact exprX_imp)))
          all_goals exact one
        all_goals exact one
      all_goals exact one
     all_goals exact one
    all_goals exact one
  · cases fl <;> first | exact execsX_imp n ss | exact ImpS.rfl
noncomputable def handX (e : Value) (env : Env) (hs : List ExceptHandler) : Sem Flow := match hs with
 | .ExceptHandler none (some n) body pos :: _ => PySem.W.R.bindR (standAt pos) fun _ => PySem.W.R.bindR (sfT e none) fun _ => PySem.W.R.bindR (bnT env n e) fun _ => PySem.W.R.bindR (atT (execsX 40 body env)) fun r => match r with
  | .ok f => pure f
  | .error x => PySem.W.R.bindR (noteX x env) fun _ => PySem.W.R.bindR (hoT [x] (PySem.W.R.onRaiseR (PySem.W.R.bindR (bnT env n .none) fun _ => unT env n pos) fun _ => sfT x none)) fun _ => poT "try.except-as" x env
 | hs => hwT e env hs
theorem bn_eq : bindName = bnT := PySem.W.Fast.te7536695828754713326
theorem ub_eq : unbindBehindTheSuite = unT := PySem.W.Fast.te14851354246082423155
theorem handX_imp {w : World} {e : Value} {env : Env} {hs : List ExceptHandler} : ImpS w (handX e env hs) (handleWith e env hs) := by
 unfold handX
 split
 · rename_i n body pos _
   have E0 : ∀ r,handleWith e env (.ExceptHandler none (some n) body pos :: r) = (standAt pos).bind fun _ => (setFlight e none).bind fun _ => (bindName env n e).bind fun _ => (execs body env).attempt.bind fun r => match r with
    | .ok f => pure f
    | .error x => (noteFrame x env).bind fun _ => (holding [x] (((bindName env n .none).bind fun _ => unbindBehindTheSuite env n pos).onRaise fun _ => setFlight x none)).bind fun _ => passOn "try.except-as" x env := fun r => by
    unfold handleWith
    refine congrArg (Sem.bind _) (funext fun _ => congrArg (Sem.bind _) (funext fun _ => congrArg (Sem.bind _) (funext fun _ => congrArg (Sem.bind _) (funext fun r => ?_))))
    cases r <;> rfl
   rw [E0]
   refine ImpS.bT ImpS.rfl fun _ => ImpS.bT (by rw [sf_eq]; exact ImpS.rfl) fun _ => ImpS.bT (by rw [bn_eq]; exact ImpS.rfl) fun _ => ImpS.bT (ImpS.att (execsX_imp 40 body)) fun r => ?_
   cases r with
   | ok f => exact ImpS.rfl
   | error x =>
    dsimp only
    refine ImpS.bT noteX_imp fun _ => ImpS.bT (ImpS.hold (ImpS.oT (ImpS.bT (by rw [bn_eq]; exact ImpS.rfl) fun _ => by rw [ub_eq]; exact ImpS.rfl) (by rw [sf_eq]))) fun _ => ?_
    rw [po_eq]
    exact ImpS.rfl
 · rw [hw_eq]; exact ImpS.rfl
noncomputable def whileX (test : PySem.Expr) (body orelse : List Stmt) (env : Env) : Sem PySem.Fin :=
 PySem.W.R.bindR (itT test env (evT test env)) fun t => match t with
  | true => PySem.W.R.bindR (execsX 40 body env) fun fl => match fl with
   | .next => agT (.whileLoop test body orelse env)
   | .cont => agT (.whileLoop test body orelse env)
   | .brk => .pure (.done .next)
   | .ret v => .pure (.done (.ret v))
  | false => PySem.W.R.bindR (exT orelse env) fun f => pure (.done f)
theorem whileX_imp {w : World} {test : PySem.Expr} {body orelse : List Stmt} {env : Env} : ImpS w (whileX test body orelse env) (whileTurn test body orelse env) := by
 unfold whileX whileTurn
 refine ImpS.bT (by rw [it_eq,ev_eq]; exact ImpS.rfl) fun t => ?_
 cases t with
 | true =>
  rw [if_pos rfl]
  refine ImpS.bT (execsX_imp 40 body) fun fl => ?_
  cases fl <;> (try dsimp only) <;> (try rw [ag_eq]) <;> exact ImpS.rfl
 | false =>
  rw [if_neg (by simp)]
  exact ImpS.bT (by rw [ex_eq]; exact ImpS.rfl) fun _ => ImpS.rfl
noncomputable def denX (c : Code) : Sem PySem.Fin := match c with
 | .func body env => PySem.W.R.bindR (PySem.W.R.bindR PySem.point fun _ => PySem.W.R.onRaiseR (execsX 40 body env) (leavX env)) fun fl => match fl with
  | .ret v => .pure (.done (.ret v))
  | _ => .pure (.done (.ret .none))
 | .handlers e hs env => PySem.W.R.bindR (PySem.W.R.onRaiseR (handX e env hs) fun x => PySem.W.R.bindR (noteX x env) fun _ => tgT x) fun f => pure (.done f)
 | .whileLoop test body orelse env => PySem.W.R.onRaiseR (whileX test body orelse env) fun x => PySem.W.R.bindR (noteX x env) fun _ => tgT x
 | c => denA c
theorem denX_imp {w : World} (c : Code) : ImpS w (denX c) ((model prog w).den c) := by
 unfold denX
 split
 · rename_i body env
   show ImpS w _ (PySem.point.bind fun _ => ((execs body env).onRaise (leaving env)).bind fun fl => match fl with | .ret v => ret v | _ => ret .none)
   rw [← PySem.W.R.bindR_eq]
   intro Γ p s Q E h
   rw [Sem.wp_bind,Sem.wp_bind] at h
   rw [Sem.wp_bind]
   refine Sem.wp_mono _ _ _ (fun _ p s y => ?_) (fun _ _ _ y => y) _ _ h
   rw [Sem.wp_bind]
   have z := ImpS.oT2 (execsX_imp 40 body) (fun x => leavX_imp (w := w) (e := x) (env := env)) _ _ _ _ _ y
   refine Sem.wp_mono _ _ _ (fun fl p s y => ?_) (fun _ _ _ y => y) _ _ z
   cases fl <;> exact y
 · rename_i e hs env
   show ImpS w _ (((handleWith e env hs).onRaise fun x => do noteFrame x env; theTreesLotGoes x).bind fun f => Sem.pure (PySem.Fin.done f))
   refine ImpS.bT (ImpS.oT2 handX_imp fun x => ImpS.bT noteX_imp fun _ => by rw [tg_eq]; exact ImpS.rfl) fun _ => ImpS.rfl
 · rename_i test body orelse env
   show ImpS w _ ((whileTurn test body orelse env).onRaise fun x => do noteFrame x env; theTreesLotGoes x)
   exact ImpS.oT2 whileX_imp fun x => ImpS.bT noteX_imp fun _ => by rw [tg_eq]; exact ImpS.rfl
 · exact denA_imp c
theorem denX_runs {w : World} {c : Code} {Γ : Ctx} {p : Pos} {s s' : Shared} {r : Result} (h : Runs (model prog w) Γ p (denX c) [] s (.ret r) s') : Runs (model prog w) Γ p ((model prog w).den c) [] s (.ret r) s' := by
 have z : Sem.wp (model prog w) Γ (denX c) (Sem.finPost (model prog w) Γ fun r1 s1 => r1 = r ∧ s1 = s') (fun e _ s1 => .error e = r ∧ s1 = s') p s :=
  (Sem.wp_iff_runs (model prog w) Γ _ _ p s).mpr ⟨r,s',h,rfl,rfl⟩
 obtain ⟨r1,s1,h1,rfl,rfl⟩ := (Sem.wp_iff_runs (model prog w) Γ _ _ p s).mp (denX_imp c _ _ _ _ _ z)
 exact h1
noncomputable def VX (P : Params) : Cfg := { V P with den := denX }
theorem VX_ok (w : World) : (VX w.params).Ok (model prog w) := { V_ok w with den := fun _ _ _ _ _ _ h => denX_runs h }
abbrev hcat (a b : List Hint) : List Hint := a ++ b
noncomputable def HE : List Nat → List Hint
 | [] => []
 | n :: r => (match Nat.ble 1000 n with
  | true => .c ((n - 1000) % 100) [(n - 1000) / 100] eqII
  | false => match Nat.beq n 0 with | true => .s | false => match Nat.beq n 1 with | true => .e 0 | false => .o (n - 2)) :: HE r
theorem HE_ok (w : World) (kt : KT) : ∀ (l : List Nat),∀ h ∈ HE l,HOk (model prog w) kt h
 | [],_,hh => nomatch hh
 | n :: r,h,hh => by
  rcases List.mem_cons.mp hh with rfl | hh
  · split
    · exact ⟨by simp,eqII_ok w kt⟩
    · split
      · trivial
      · split <;> trivial
  · exact HE_ok w kt r h hh
noncomputable def tokZ (B : Nat) : List Int → Nat → List Value
 | [],_ => []
 | z :: l,n => .int z (n % B) :: tokZ B l (n / B)
noncomputable def tokA (l : List Int) (B n : Nat) : Array Value := (tokZ B l n).toArray
theorem tokZ_vals (B : Nat) : ∀ (l : List Int) (n : Nat),(tokZ B l n).length = l.length ∧ ∀ (i : Nat) (z : Int),l[i]? = some z → ∃ t,(tokZ B l n)[i]? = some (.int z t)
 | [],n => ⟨rfl,fun i z h => by simp at h⟩
 | y :: l,n => by
  obtain ⟨h1,h2⟩ := tokZ_vals B l (n / B)
  refine ⟨by simp [tokZ,h1],fun i z h => ?_⟩
  cases i with
  | zero => simp at h; subst h; exact ⟨_,rfl⟩
  | succ i => simpa [tokZ] using h2 i z (by simpa using h)
theorem tokA_vals (l : List Int) (B n : Nat) : Vals (tokA l B n) l := by
 obtain ⟨h1,h2⟩ := tokZ_vals B l n
 exact ⟨by simp [tokA,h1],fun i z h => by obtain ⟨t,e⟩ := h2 i z h; exact ⟨t,by simpa [tokA] using e⟩⟩
theorem tokZ_of {B : Nat} : ∀ {l : List Int} {xs : List Value},xs.length = l.length → (∀ (i : Nat) (z : Int),l[i]? = some z → ∃ t : Nat,t < B ∧ xs[i]? = some (.int z t)) → ∃ n,tokZ B l n = xs
 | [],xs,h,_ => ⟨0,by simp at h; simp [tokZ,h]⟩
 | y :: l,[],h,_ => by simp at h
 | y :: l,x :: xs,h,H => by
  obtain ⟨n,hn⟩ := tokZ_of (B := B) (l := l) (xs := xs) (by simpa using h) fun i z hz => by simpa using H (i + 1) z (by simpa using hz)
  obtain ⟨t,ht,e⟩ := H 0 y rfl
  have e : x = .int y t := by simpa using e
  subst e
  refine ⟨t + B * n,?_⟩
  have hB : 0 < B := by omega
  show Value.int y ((t + B * n) % B) :: tokZ B l ((t + B * n) / B) = _
  rw [Nat.add_mul_mod_self_left,Nat.mod_eq_of_lt ht,Nat.add_mul_div_left _ _ hB,Nat.div_eq_of_lt ht,Nat.zero_add,hn]
theorem vals_bound : ∀ {l : List Int} {xs : List Value},xs.length = l.length → (∀ (i : Nat) (z : Int),l[i]? = some z → ∃ t,xs[i]? = some (.int z t)) → ∃ B,∀ (i : Nat) (z : Int),l[i]? = some z → ∃ t : Nat,t < B ∧ xs[i]? = some (.int z t)
 | [],xs,_,_ => ⟨0,fun i z h => by simp at h⟩
 | y :: l,[],h,_ => by simp at h
 | y :: l,x :: xs,h,H => by
  obtain ⟨B,hB⟩ := vals_bound (l := l) (xs := xs) (by simpa using h) fun i z hz => by simpa using H (i + 1) z (by simpa using hz)
  obtain ⟨(t : Nat),e⟩ := H 0 y rfl
  refine ⟨B + t + 1,fun i z hz => ?_⟩
  cases i with
  | zero => simp at hz; subst hz; exact ⟨t,by omega,e⟩
  | succ i =>
   obtain ⟨u,hu,e'⟩ := hB i z (by simpa using hz)
   exact ⟨u,by omega,by simpa using e'⟩
theorem tokA_of {l : List Int} {xs : Array Value} (h : Vals xs l) : ∃ B n,tokA l B n = xs := by
 obtain ⟨B,hB⟩ := vals_bound (l := l) (xs := xs.toList) (by simpa using h.1) fun i z hz => by obtain ⟨t,e⟩ := h.2 i z hz; exact ⟨t,by simpa using e⟩
 obtain ⟨n,hn⟩ := tokZ_of (by simpa using h.1) hB
 exact ⟨B,n,by unfold tokA; rw [hn]⟩
theorem vals_push {xs : Array Value} {l : List Int} (h : Vals xs l) (z : Int) (t : Nat) : Vals (xs.push (.int z t)) (l ++ [z]) := by
 refine ⟨by simp [h.1],fun i n hi => ?_⟩
 by_cases q : i < l.length
 · rw [List.getElem?_append_left q] at hi
   obtain ⟨u,e⟩ := h.2 i n hi
   exact ⟨u,by rw [Array.getElem?_push_lt (by rw [h.1]; exact q)]; rw [← e]; simp [h.1,q]⟩
 · have : i = l.length := by
    have := (List.getElem?_eq_some_iff.mp hi).1
    simp at this; omega
   subst this
   simp at hi
   subst hi
   exact ⟨t,by rw [← h.1]; simp⟩
theorem vals_take {xs : Array Value} {l : List Int} (h : Vals xs l) (k : Nat) : Vals (xs.toList.take k).toArray (l.take k) := by
 refine ⟨by simp [h.1],fun i n hi => ?_⟩
 rw [List.getElem?_take] at hi
 split at hi
 · rename_i hk
   obtain ⟨t,e⟩ := h.2 i n hi
   exact ⟨t,by rw [List.getElem?_toArray,List.getElem?_take,if_pos hk]; simpa using e⟩
 · cases hi
noncomputable def liI (l : Nat) (i : Int) : Obj := ⟨.type "list_iterator",none,.fields #[.ref l,.int i 0],#[]⟩
noncomputable def liE (i : Int) : Obj := ⟨.type "list_iterator",none,.fields #[.none,.int i 0],#[]⟩
noncomputable def nxV (vs : List Int) (i n : Int) : CF := ⟨990,9800,false,false,(fun b => b),some (fun os => Vals (seqO (os.getD 1 default)) vs),fun c as os =>
  ⟨.builtin "list_iterator.__next__" ⟨[.ref (A as 0)],[]⟩,[liI (A as 1) i,liO (seqO (os.getD 1 default)) (epO (os.getD 1 default))],0,1,fun _ tk => .ok (.ret (.int n (A tk 0))),fun _ _ => [liI (A as 1) (i + 1),liO (seqO (os.getD 1 default)) (epO (os.getD 1 default))],fun _ _ => []⟩⟩
theorem nxV_ok (w : World) (kt : KT) (vs : List Int) (i n : Int) (k : Nat) (hi : i = k) (hx : vs[k]? = some n) : Ctr (model prog w) kt (nxV vs i n) := fun bl c as os _ hpre _ _ =>
 ctr_any fun R s hd hu hh hg hst hown hnd => by
  subst hi
  have hpre : Vals (seqO (os.getD 1 default)) vs := hpre
  obtain ⟨t,ht⟩ := hpre.2 k n hx
  obtain ⟨a,b,rfl,ha,hb⟩ := two_own hown
  have hab : a ≠ b := by
   intro e; subst e; simp at hnd
  have ha : s.heap.get? a = some (liI b (k : Nat)) := ha
  have hb : s.heap.get? b = some (liO (seqO (os.getD 1 default)) (epO (os.getD 1 default))) := hb
  refine codeAny_builtin entry_listiter_next ?_
  rw [Around.under_plainId (by decide +kernel)]
  show wpAny _ _ (field (.ref a) 0 >>= _) _ _ s
  refine wpAny_bind (wpAny_field ha rfl (x := .ref b) rfl ?_)
  show wpAny _ _ (if (Value.ref b == Value.none) = true then _ else _) _ _ s
  rw [if_neg (show ¬ ((Value.ref b == Value.none) = true) from Bool.false_ne_true)]
  show wpAny _ _ (field (.ref a) 1 >>= _) _ _ s
  refine wpAny_bind (wpAny_field ha rfl (x := .int (k : Nat) 0) rfl ?_)
  show wpAny _ _ (seqItems? (.ref b) >>= _) _ _ s
  refine wpAny_bind (wpAny_seqItems hb rfl ?_)
  simp only [Int.toNat_natCast,ht]
  refine wpAny_bind (wpAny_setField ha rfl (by simp) (wpAny_pure ?_))
  have z : (s.heap.update a (Obj.mapFields fun vs => vs.set! 1 (rawInt ((k : Nat) + 1)))).get? a = some (liI b ((k : Nat) + 1)) := Heap.get?_update_self _ ha rfl
  exact ⟨[],[t],rfl,rfl,List.nodup_nil,fun _ h => (nomatch h),rfl,⟨z,(Heap.get?_update_other _ _ hab).trans hb,trivial⟩,trivial,⟨fun c o e hc => (Heap.get?_update_other _ _ (fun q => hc (by rw [← show a = c from q]; simp))).trans e,by rw [size_update]; exact Nat.le_refl _,rfl,rfl⟩⟩
noncomputable def stO (a : Nat) : Obj := ⟨.type "StopIteration",none,.fields #[.ref a,.none,.none,.none,.bool false,.none],#[]⟩
noncomputable def nxE (vs : List Int) (i : Int) : CF := ⟨990,9800,true,false,(fun b => b),some (fun os => Vals (seqO (os.getD 1 default)) vs),fun c as os =>
  ⟨.builtin "list_iterator.__next__" ⟨[.ref (A as 0)],[]⟩,[liI (A as 1) i,liO (seqO (os.getD 1 default)) (epO (os.getD 1 default))],2,0,fun ad _ => .error (.ref (A ad 1)),fun _ _ => [liE i,liO (seqO (os.getD 1 default)) (epO (os.getD 1 default))],fun ad _ => [⟨.type "tuple",none,.seq #[] 0,#[]⟩,stO (A ad 0)]⟩⟩
theorem post_stop {vs : List Int} {c : Code} {os : List Obj} {a b : Nat} {s : Shared} {H : Heap} (z : H.get? a = some (liE vs.length)) (zb : H.get? b = some (liO (seqO (os.getD 1 default)) (epO (os.getD 1 default)))) (zk : ∀ c o,c ∉ [a,b] → s.heap.get? c = some o → H.get? c = some o) (zs : H.objs.size = s.heap.objs.size) :
   Post [a,b] ((nxE vs vs.length).F c [a,b] os) s (.error (.ref (H.push ⟨.type "tuple",none,.seq #[] 0,#[]⟩).objs.size)) { s with heap := (H.push ⟨.type "tuple",none,.seq #[] 0,#[]⟩).push (stO H.objs.size) } := by
 refine ⟨[H.objs.size,H.objs.size + 1],[],rfl,rfl,by simp,fun x hx => ?_,by rw [Heap.size_push]; rfl,⟨Heap.get?_push_of_some _ (Heap.get?_push_of_some _ z),Heap.get?_push_of_some _ (Heap.get?_push_of_some _ zb),trivial⟩,⟨Heap.get?_push_of_some _ (Heap.get?_push_size _ rfl),?_,trivial⟩,⟨fun c o e hc => Heap.get?_push_of_some _ (Heap.get?_push_of_some _ (zk c o hc e)),?_,rfl,rfl⟩⟩
 · show _ ≤ x ∧ x < ((H.push _).push _).objs.size
   rw [Heap.size_push,Heap.size_push]
   rcases List.mem_cons.mp hx with rfl | hx
   · omega
   · rcases List.mem_cons.mp hx with rfl | hx
     · omega
     · cases hx
 · show ((H.push _).push _).get? (H.objs.size + 1) = _
   have : ((H.push ⟨.type "tuple",none,.seq #[] 0,#[]⟩).push (stO H.objs.size)).get? (H.push ⟨.type "tuple",none,.seq #[] 0,#[]⟩).objs.size = some (stO H.objs.size) := Heap.get?_push_size _ rfl
   rw [Heap.size_push] at this
   exact this
 · show _ ≤ ((H.push _).push _).objs.size
   rw [Heap.size_push,Heap.size_push]
   omega
theorem nxE_ok (w : World) (kt : KT) (vs : List Int) (i : Int) (hi : i = vs.length) : Ctr (model prog w) kt (nxE vs i) := fun bl c as os _ hpre _ _ =>
 ctr_any fun R s hd hu hh hg hst hown hnd => by
  subst hi
  have hpre : Vals (seqO (os.getD 1 default)) vs := hpre
  have ht : (seqO (os.getD 1 default))[vs.length]? = none := by rw [← hpre.1]; simp
  have hh : R.handled = none := hh rfl
  obtain ⟨a,b,rfl,ha,hb⟩ := two_own hown
  have hab : a ≠ b := by
   intro e; subst e; simp at hnd
  have ha : s.heap.get? a = some (liI b vs.length) := ha
  have hb : s.heap.get? b = some (liO (seqO (os.getD 1 default)) (epO (os.getD 1 default))) := hb
  refine codeAny_builtin entry_listiter_next ?_
  rw [Around.under_plainId (by decide +kernel)]
  show wpAny _ _ (field (.ref a) 0 >>= _) _ _ s
  refine wpAny_bind (wpAny_field ha rfl (x := .ref b) rfl ?_)
  show wpAny _ _ (if (Value.ref b == Value.none) = true then _ else _) _ _ s
  rw [if_neg (show ¬ ((Value.ref b == Value.none) = true) from Bool.false_ne_true)]
  show wpAny _ _ (field (.ref a) 1 >>= _) _ _ s
  refine wpAny_bind (wpAny_field ha rfl (x := .int (vs.length : Nat) 0) rfl ?_)
  show wpAny _ _ (seqItems? (.ref b) >>= _) _ _ s
  refine wpAny_bind (wpAny_seqItems hb rfl ?_)
  simp only [Int.toNat_natCast,ht]
  refine wpAny_bind (wpAny_rule (wpAny_bind (wpAny_setField ha rfl (by simp) ?_)))
  show wpAny _ _ (newExc (.type "StopIteration") [] >>= _) _ _ _
  refine wpAny_bind ?_
  simp only [newExc,newTuple]
  refine wpAny_bind (wpAny_newObj_type ?_ (by size_fits))
  refine wpAny_bind (m := firstArgMember _ _) (wpAny_of_eq (a := Value.none) (by first | rfl | (simp only [firstArgMember]; rfl)) ?_)
  refine wpAny_newObj_type ?_ (by size_fits)
  simp only [raiseNew]
  refine wpAny_bind (wpAny_handled ?_)
  first | rw [show R.in1.handled = none from hh] | rw [hh]
  refine wpAny_bind (wpAny_pure (wpAny_throw ?_))
  have z : (s.heap.update a (Obj.mapFields fun vs => vs.set! 0 .none)).get? a = some (liE vs.length) := Heap.get?_update_self _ ha rfl
  have zb : (s.heap.update a (Obj.mapFields fun vs => vs.set! 0 .none)).get? b = some (liO (seqO (os.getD 1 default)) (epO (os.getD 1 default))) := (Heap.get?_update_other _ _ hab).trans hb
  have zk : ∀ c o,c ∉ [a,b] → s.heap.get? c = some o → (s.heap.update a (Obj.mapFields fun vs => vs.set! 0 .none)).get? c = some o := fun c o hc e => (Heap.get?_update_other _ _ (fun q => hc (by rw [← show a = c from q]; simp))).trans e
  have zs : (s.heap.update a (Obj.mapFields fun vs => vs.set! 0 .none)).objs.size = s.heap.objs.size := size_update ..
  exact post_stop (H := s.heap.update a (Obj.mapFields fun vs => vs.set! 0 .none)) z zb zk zs
noncomputable def apC (n : Int) : CF := ⟨990,9800,false,false,(fun b => b),some (fun os => (seqO (os.getD 0 default)).size ≤ 1000),fun c as os =>
  ⟨.builtin "list.append" ⟨[.ref (A as 0),.int n (tokV (argOf c 1))],[]⟩,[liO (seqO (os.getD 0 default)) (epO (os.getD 0 default))],0,1,fun _ tk => .ok (.ret .none),fun _ tk => [liO ((seqO (os.getD 0 default)).push (.int n (tokV (argOf c 1)))) (A tk 0)],fun _ _ => []⟩⟩
theorem apC_ok (w : World) (kt : KT) (n : Int) : Ctr (model prog w) kt (apC n) := fun bl c as os _ hpre _ _ =>
 ctr_any fun R s hd hu hh hg hst hown hnd => by
  have hpre : (seqO (os.getD 0 default)).size ≤ 1000 := hpre
  obtain ⟨a,rfl,ha⟩ := one_own hown
  have ha : s.heap.get? a = some (liO (seqO (os.getD 0 default)) (epO (os.getD 0 default))) := ha
  refine codeAny_builtin entry_list_append ?_
  rw [Around.under_plainId (by decide +kernel)]
  have hl : sizeLine ≥ 1000 := by decide
  refine AutoListH.list_append_list_val_0 a _ _ (.int n (tokV (argOf c 1))) (by omega) prog w _ _ s ⟨ha,?_⟩
  have z : (s.heap.update a (Obj.mapSeq fun x => x.push (.int n (tokV (argOf c 1))))).get? a = some (Obj.mapSeq (fun x => x.push (.int n (tokV (argOf c 1)))) (liO (seqO (os.getD 0 default)) (epO (os.getD 0 default)))) := Heap.get?_update_self _ ha rfl
  exact ⟨[],[_],rfl,rfl,List.nodup_nil,fun _ h => (nomatch h),rfl,⟨z,trivial⟩,trivial,.upd s a _ s.toks⟩
noncomputable def sl60 : CF := ⟨990,9800,false,false,(fun b => b),some (fun os => (seqO (os.getD 0 default)).size ≤ 1000),fun c as os =>
 ⟨.builtin "list.__getitem__" ⟨[.ref (A as 0),.ref (A as 1)],[]⟩,[liO (seqO (os.getD 0 default)) (epO (os.getD 0 default)),⟨.type "slice",none,.fields #[.none,.int 60 (tT os 1 1),.none],#[]⟩],1,0,fun ad _ => .ok (.ret (.ref (A ad 0))),
  fun _ _ => [liO (seqO (os.getD 0 default)) (epO (os.getD 0 default)),⟨.type "slice",none,.fields #[.none,.int 60 (tT os 1 1),.none],#[]⟩],fun _ _ => [liO ((seqO (os.getD 0 default)).toList.take 60).toArray 0]⟩⟩
theorem sl60_ok (w : World) (kt : KT) : Ctr (model prog w) kt sl60 := fun bl c as os _ hpre _ _ =>
 ctr_any fun R s hd hu hh hg hst hown hnd => by
  have hpre : (seqO (os.getD 0 default)).size ≤ 1000 := hpre
  obtain ⟨a,b,rfl,ha,hb⟩ := two_own hown
  have ha : s.heap.get? a = some (liO (seqO (os.getD 0 default)) (epO (os.getD 0 default))) := ha
  have hb : s.heap.get? b = some ⟨.type "slice",none,.fields #[.none,.int 60 (tT os 1 1),.none],#[]⟩ := hb
  have hTs : s.TypeIs (.ref b) "slice" := ⟨_,hb,rfl⟩
  have hl : sizeLine ≥ 1000 := by decide
  refine codeAny_builtin F.entry_list_getitem ?_
  rw [Around.under_plainId (by decide +kernel)]
  show wpAny _ _ (Builtin.List.listSubscript? (.ref b) >>= _) _ _ s
  refine wpAny_bind ?_
  unfold Builtin.List.listSubscript?
  refine wpAny_bind (wpAny_specialOf hTs slice_no_index ?_)
  simp only [Option.isNone_none,if_true]
  refine wpAny_pure ?_
  show wpAny _ _ (typeOf (.ref b) >>= _) _ _ s
  refine wpAny_bind (wpAny_typeOf hTs ?_)
  rw [if_neg (by decide),listSliceParts_eq]
  refine wpAny_bind (wpAny_bind (wpAny_field hb rfl (x := .none) rfl (wpAny_bind (wpAny_listPart .none ?_))))
  rw [if_neg (show ¬ ((rawPart none == rawInt 0) = true) from Bool.false_ne_true)]
  refine wpAny_bind (wpAny_field hb rfl (x := .none) rfl (wpAny_bind (wpAny_listPart .none ?_)))
  refine wpAny_bind (wpAny_field hb rfl (x := .int 60 (tT os 1 1)) rfl (wpAny_bind (wpAny_listPart (.int 60 _) (wpAny_pure ?_))))
  refine wpAny_bind (m := Builtin.List.listItems (.ref a)) ?_
  unfold Builtin.List.listItems
  refine wpAny_bind (wpAny_seqItems ha rfl (wpAny_pure ?_))
  refine wpAny_bind (wpAny_of_eq (sliceIndices_raw none (some 60) none _ (by simp)) ?_)
  have e := slicePick_upto' (seqO (os.getD 0 default)) 60
  refine wpAny_bind (wpAny_newObj_type (wpAny_pure ?_) (Nat.le_trans (slicePick_size_le (seqO (os.getD 0 default)) none (some 60) none) (by omega)))
  have z : (s.heap.push (liO (slicePick (seqO (os.getD 0 default)) none (some 60) none) 0)).get? s.heap.objs.size = some (liO (slicePick (seqO (os.getD 0 default)) none (some 60) none) 0) := Heap.get?_push_size _ rfl
  have e' : slicePick (seqO (os.getD 0 default)) none (some 60) none = ((seqO (os.getD 0 default)).toList.take 60).toArray := e
  rw [e'] at z
  refine ⟨[s.heap.objs.size],[],rfl,rfl,by simp,fun x hx => ?_,rfl,⟨Heap.get?_push_of_some _ ha,Heap.get?_push_of_some _ hb,trivial⟩,⟨by rw [← e'] at z ⊢; exact z,trivial⟩,⟨fun c o e _ => Heap.get?_push_of_some _ e,?_,rfl,rfl⟩⟩
  · show _ ≤ x ∧ x < (s.heap.push _).objs.size
    rw [Heap.size_push]
    rcases List.mem_cons.mp hx with rfl | hx
    · omega
    · cases hx
  · show _ ≤ (s.heap.push _).objs.size
    rw [Heap.size_push]; omega
noncomputable def dkComp : PySem.Expr := match fnAt [151] prog.main.body with
 | some (.FunctionDef _ _ body _ _ _ _ _ _ _) => match (body[0]? : Option Stmt) with
  | some (.Return (some (.Dict _ (e :: _) _)) _) => e
  | _ => default
 | _ => default
noncomputable def dkEnv (loc : Nat) (fr : Option Nat) (e : PySem.Expr) : Env := match e with
 | .ListComp _ _ sc _ => ⟨scM sc,loc,3,[],(⟨#[95,108,97,119,95,100,101,99,107,46,60,108,111,99,97,108,115,62,46]⟩),none,.ref 1807,fr,0⟩
 | _ => default
noncomputable def dpCode (it acc loc : Nat) (c : Code) : Code := match dkComp with
 | .ListComp a g sc p => .compLoop (.ListComp a g sc p) 0 (.ref it) (.ref acc) (dkEnv loc (fEnv c).frame (.ListComp a g sc p))
 | _ => default
noncomputable def dsCode (it acc loc : Nat) (c : Code) : Code := match dkComp with
 | .ListComp a g sc p => .compStart (.ListComp a g sc p) 0 (.ref it) (.ref acc) (dkEnv loc (cdE c).frame (.ListComp a g sc p))
 | _ => default
noncomputable def big : Int := 1000000007
noncomputable def cutZ (zs : List Int) : List Int := zs.map fun z => z.fmod big
noncomputable def dkL (P : Params) (k : Nat) (y : Int) (t : Nat) : Obj := ⟨.type "dict",none,.dict #[K P (.str t585 k) (.int y t)] 1,#[]⟩
noncomputable def dpC (P : Params) (zs : List Int) (i y yE : Int) : CF := ⟨760,7600,true,false,(fun b => b),some (fun os => Vals (seqO (os.getD 1 default)) zs ∧ Vals (seqO (os.getD 3 default)) ((cutZ zs).take i.toNat)),fun c as os =>
 { code := dpCode (A as 0) (A as 3) (A as 2) c
   own := [liI (A as 1) i,liO (seqO (os.getD 1 default)) (epO (os.getD 1 default)),dkL P (kT os 2 0) y (vT os 2 0),liO (seqO (os.getD 3 default)) (epO (os.getD 3 default))]
   nn := 0,nt := 4
   res := fun _ _ => .ok .next
   upd := fun _ tk => [liE zs.length,liO (seqO (os.getD 1 default)) (epO (os.getD 1 default)),dkL P (kT os 2 0) yE (A tk 3),liO (tokA (cutZ zs) (A tk 0) (A tk 1)) (A tk 2)]
   new := fun _ _ => [] }⟩
theorem dpC_end (w : World) (b' : Bool) (zs : List Int) (i y : Int) (hi : i = zs.length) : Ct w b' (dpC (PB w b') zs i y y) := fun bw c as os hB hpre _ _ => by
 have hpre : Vals (seqO (os.getD 1 default)) zs ∧ Vals (seqO (os.getD 3 default)) ((cutZ zs).take i.toNat) := hpre
 obtain ⟨h1,h2⟩ := hpre
 rw [show (cutZ zs).take i.toNat = cutZ zs by subst hi; rw [Int.toNat_natCast]; exact List.take_of_length_le (by simp [cutZ])] at h2
 obtain ⟨B,N,e⟩ := tokA_of h2
 have e0 : (dpC (PB w b') zs i y y).F c as os =
  { code := dpCode (A as 0) (A as 3) (A as 2) c
    own := [liI (A as 1) i,liO (seqO (os.getD 1 default)) (epO (os.getD 1 default)),dkL (PB w b') (kT os 2 0) y (vT os 2 0),liO (tokA (cutZ zs) B N) (epO (os.getD 3 default))]
    nn := 0,nt := 4
    res := fun _ _ => .ok .next
    upd := fun _ tk => [liE zs.length,liO (seqO (os.getD 1 default)) (epO (os.getD 1 default)),dkL (PB w b') (kT os 2 0) y (A tk 3),liO (tokA (cutZ zs) (A tk 0) (A tk 1)) (A tk 2)]
    new := fun _ _ => [] } := by
  show CPre.mk _ _ _ _ _ _ _ = CPre.mk _ _ _ _ _ _ _
  rw [e]
 rw [e0,hi]
 refine sq 600 4 (Yh [6,2] <| YD [0,1] (nxE zs zs.length) (nxE_ok _ _ zs _ rfl) <| Yh [11] <| Yn) [] (fun _ => [B,N,epO (os.getD 3 default),vT os 2 0]) (fun _ _ => List.replicate 1 (Vals (seqO (os.getD 1 default)) zs,.q True)) (fun _ _ => rep_ok h1 1) rfl rfl (fun _ => rfl) (List.nodup_nil) rfl ?_
 intro ad tk Γ p hA hc hbl hcalm
 subst hA
 obtain ⟨code,h,ow,blw,past⟩ := Γ
 cases hc
 cases hcalm rfl
 kernel_rfl
theorem dpC_step (w : World) (b' : Bool) (zs : List Int) (i y z yE : Int) (n : Nat) (hs : zs.length ≤ 900) (hi : i = n) (hx : zs[n]? = some z)
  (ih : Ct w b' (dpC (PB w b') zs (i + 1) z yE)) : Ct w b' (dpC (PB w b') zs i y yE) := fun bw c as os hB hpre _ _ => by
 have hpre : Vals (seqO (os.getD 1 default)) zs ∧ Vals (seqO (os.getD 3 default)) ((cutZ zs).take i.toNat) := hpre
 obtain ⟨h1,h2⟩ := hpre
 have hlt : n < zs.length := (List.getElem?_eq_some_iff.mp hx).1
 refine sq 600 4 (Yh [6,2] <| Yd [0,1] (nxV_ok _ _ zs i z n hi hx) <| Yh (j120 (j13 [])) <| YL 3 [] (modC z big) (modC_ok _ _ _ _ (by decide)) <| Yh [9] <| YD [3] (apC (z.fmod big)) (apC_ok _ _ _) <| Yd [0,1,2,3] ih <| Yn) [] (fun tk => span tk 5 4)
  (fun _ tk => [(Vals (seqO (os.getD 1 default)) zs ∧ Vals ((seqO (os.getD 3 default)).push (.int (z.fmod big) (tk 3))) ((cutZ zs).take (i + 1).toNat),.q True),((seqO (os.getD 3 default)).size ≤ 1000,.q True),(Vals (seqO (os.getD 1 default)) zs,.q True)]) (fun _ tk x hx' => by
   have e : (cutZ zs).take (i + 1).toNat = (cutZ zs).take i.toNat ++ [z.fmod big] := by
     have a1 : (i + 1).toNat = n + 1 := by omega
     have a2 : i.toNat = n := by omega
     rw [a1,a2,List.take_add_one]
     congr 1
     simp [cutZ,hx]
   rcases List.mem_cons.mp hx' with rfl | hx'
   · exact ⟨⟨h1,by rw [e]; exact vals_push h2 _ _⟩,rfl⟩
   · rcases List.mem_cons.mp hx' with rfl | hx'
     · refine ⟨?_,rfl⟩
       have := h2.1
       rw [List.length_take] at this
       have h3 : (cutZ zs).length = zs.length := by simp [cutZ]
       show (seqO (os.getD 3 default)).size ≤ 1000
       omega
     · rcases List.mem_cons.mp hx' with rfl | hx'
       · exact ⟨h1,rfl⟩
       · cases hx') rfl rfl (fun _ => rfl) (List.nodup_nil) rfl ?_
 intro ad tk Γ p hA hc hbl hcalm
 subst hA
 obtain ⟨code,h,ow,blw,past⟩ := Γ
 cases hc
 cases hcalm rfl
 kernel_rfl
theorem dpC_all (w : World) (b' : Bool) (zs : List Int) (hs : zs.length ≤ 900) : ∀ (m n : Nat) (y : Int),n + m = zs.length → ∃ yE,Ct w b' (dpC (PB w b') zs (n : Nat) y yE)
 | 0,n,y,h => ⟨y,dpC_end w b' zs _ y (by omega)⟩
 | m + 1,n,y,h => by
  have hx : ∃ z,zs[n]? = some z := ⟨zs[n],by simp⟩
  obtain ⟨z,hx⟩ := hx
  obtain ⟨yE,ih⟩ := dpC_all w b' zs hs m (n + 1) z (by omega)
  exact ⟨yE,dpC_step w b' zs _ y z yE n hs rfl hx (by rw [show ((n : Nat) : Int) + 1 = ((n + 1 : Nat) : Int) by omega]; exact ih)⟩
noncomputable def dsC (P : Params) (zs : List Int) (yE : Int) : CF := ⟨750,7500,true,false,(fun b => b),some (fun os => Vals (seqO (os.getD 1 default)) zs),fun c as os =>
 { code := dsCode (A as 0) (A as 3) (A as 2) c
   own := [liI (A as 1) 0,liO (seqO (os.getD 1 default)) (epO (os.getD 1 default)),dO #[] 0,liO #[] (epO (os.getD 3 default))]
   nn := 0,nt := 5
   res := fun _ _ => .ok .next
   upd := fun _ tk => [liE zs.length,liO (seqO (os.getD 1 default)) (epO (os.getD 1 default)),(match zs with | [] => dO #[] 0 | _ :: _ => dkL P (A tk 4) yE (A tk 3)),liO (tokA (cutZ zs) (A tk 0) (A tk 1)) (A tk 2)]
   new := fun _ _ => [] }⟩
theorem dsC_nilF (w : World) (b' : Bool) (yE : Int) : Ct (WC w false) b' (dsC (PB (WC w false) b') [] yE) := fun bw cd as os hB hpre _ _ => by
 have h1 : Vals (seqO (os.getD 1 default)) [] := hpre
 refine sq 600 4 (Yh (6 :: j11 []) <| YD [0,1] (nxE [] 0) (nxE_ok _ _ [] _ rfl) <| Yh [11] <| Yn) [] (fun _ => [0,0,epO (os.getD 3 default),0,0]) (fun _ _ => List.replicate 1 (Vals (seqO (os.getD 1 default)) [],.q True)) (fun _ _ => rep_ok h1 1) rfl rfl (fun _ => rfl) (List.nodup_nil) rfl ?_
 intro ad tk Γ p hA hc hbl hcalm
 subst hA
 obtain ⟨code,h,ow,blw,past⟩ := Γ
 cases hc
 cases hcalm rfl
 kernel_rfl
theorem dsC_consF (w : World) (b' : Bool) (z : Int) (zs : List Int) (yE : Int) (hs : (z :: zs).length ≤ 900)
  (ih : Ct (WC w false) b' (dpC (PB (WC w false) b') (z :: zs) (0 + 1) z yE)) : Ct (WC w false) b' (dsC (PB (WC w false) b') (z :: zs) yE) := fun bw cd as os hB hpre _ _ => by
 have h1 : Vals (seqO (os.getD 1 default)) (z :: zs) := hpre
 refine sq 600 4 (Yh (6 :: j11 []) <| Yd [0,1] (nxV_ok _ _ (z :: zs) 0 z 0 rfl rfl) <| Yh (j120 (j13 [])) <| YL 3 [] (modC z big) (modC_ok _ _ _ _ (by decide)) <| Yh [9] <| YD [3] (apC (z.fmod big)) (apC_ok _ _ _) <| Yd [0,1,2,3] ih <| Yn) [] (fun tk => [tk 5,tk 6,tk 7,tk 8,tk 1])
  (fun _ tk => [(Vals (seqO (os.getD 1 default)) (z :: zs) ∧ Vals ((#[] : Array Value).push (.int (z.fmod big) (tk 3))) ((cutZ (z :: zs)).take ((0 : Int) + 1).toNat),.q True),((#[] : Array Value).size ≤ 1000,.q True),(Vals (seqO (os.getD 1 default)) (z :: zs),.q True)]) (fun _ tk x hx' => by
   rcases List.mem_cons.mp hx' with rfl | hx'
   · exact ⟨⟨h1,vals_push (l := []) ⟨rfl,fun i n h => by simp at h⟩ _ _⟩,rfl⟩
   · rcases List.mem_cons.mp hx' with rfl | hx'
     · exact ⟨by simp,rfl⟩
     · rcases List.mem_cons.mp hx' with rfl | hx'
       · exact ⟨h1,rfl⟩
       · cases hx') rfl rfl (fun _ => rfl) (List.nodup_nil) rfl ?_
 intro ad tk Γ p hA hc hbl hcalm
 subst hA
 obtain ⟨code,h,ow,blw,past⟩ := Γ
 cases hc
 cases hcalm rfl
 kernel_rfl
theorem dsC_nilT (w : World) (b' : Bool) (yE : Int) : Ct (WC w true) b' (dsC (PB (WC w true) b') [] yE) := fun bw cd as os hB hpre _ _ => by
 have h1 : Vals (seqO (os.getD 1 default)) [] := hpre
 refine sq 600 4 (Yh [6,2] <| YD [0,1] (nxE [] 0) (nxE_ok _ _ [] _ rfl) <| Yh [11] <| Yn) [] (fun _ => [0,0,epO (os.getD 3 default),0,0]) (fun _ _ => List.replicate 1 (Vals (seqO (os.getD 1 default)) [],.q True)) (fun _ _ => rep_ok h1 1) rfl rfl (fun _ => rfl) (List.nodup_nil) rfl ?_
 intro ad tk Γ p hA hc hbl hcalm
 subst hA
 obtain ⟨code,h,ow,blw,past⟩ := Γ
 cases hc
 cases hcalm rfl
 kernel_rfl
theorem dsC_consT (w : World) (b' : Bool) (z : Int) (zs : List Int) (yE : Int) (hs : (z :: zs).length ≤ 900)
  (ih : Ct (WC w true) b' (dpC (PB (WC w true) b') (z :: zs) (0 + 1) z yE)) : Ct (WC w true) b' (dsC (PB (WC w true) b') (z :: zs) yE) := fun bw cd as os hB hpre _ _ => by
 have h1 : Vals (seqO (os.getD 1 default)) (z :: zs) := hpre
 refine sq 600 4 (Yh [6,2] <| Yd [0,1] (nxV_ok _ _ (z :: zs) 0 z 0 rfl rfl) <| Yh (j120 (j13 [])) <| YL 3 [] (modC z big) (modC_ok _ _ _ _ (by decide)) <| Yh [9] <| YD [3] (apC (z.fmod big)) (apC_ok _ _ _) <| Yd [0,1,2,3] ih <| Yn) [] (fun tk => [tk 5,tk 6,tk 7,tk 8,tk 1])
  (fun _ tk => [(Vals (seqO (os.getD 1 default)) (z :: zs) ∧ Vals ((#[] : Array Value).push (.int (z.fmod big) (tk 3))) ((cutZ (z :: zs)).take ((0 : Int) + 1).toNat),.q True),((#[] : Array Value).size ≤ 1000,.q True),(Vals (seqO (os.getD 1 default)) (z :: zs),.q True)]) (fun _ tk x hx' => by
   rcases List.mem_cons.mp hx' with rfl | hx'
   · exact ⟨⟨h1,vals_push (l := []) ⟨rfl,fun i n h => by simp at h⟩ _ _⟩,rfl⟩
   · rcases List.mem_cons.mp hx' with rfl | hx'
     · exact ⟨by simp,rfl⟩
     · rcases List.mem_cons.mp hx' with rfl | hx'
       · exact ⟨h1,rfl⟩
       · cases hx') rfl rfl (fun _ => rfl) (List.nodup_nil) rfl ?_
 intro ad tk Γ p hA hc hbl hcalm
 subst hA
 obtain ⟨code,h,ow,blw,past⟩ := Γ
 cases hc
 cases hcalm rfl
 kernel_rfl
theorem dsC_all (w : World) (c : Bool) (b' : Bool) (zs : List Int) (hs : zs.length ≤ 900) : ∃ yE,Ct (WC w c) b' (dsC (PB (WC w c) b') zs yE) := by
 cases zs with
 | nil =>
  cases c
  · exact ⟨0,dsC_nilF w b' 0⟩
  · exact ⟨0,dsC_nilT w b' 0⟩
 | cons z zs =>
  obtain ⟨yE,ih⟩ := dpC_all (WC w c) b' (z :: zs) hs zs.length 1 z (by simp; omega)
  refine ⟨yE,?_⟩
  cases c
  · exact dsC_consF w b' z zs yE hs ih
  · exact dsC_consT w b' z zs yE hs ih
noncomputable def dkC (P : Params) (ns zs : List Int) : CF := ⟨740,7400,true,false,(fun b => b),some (fun os => Vals (seqO (os.getD 0 default)) ns ∧ zs = ns.take 60),fun c as os =>
 { code := .call (.ref 1808) ⟨[.ref (A as 0)],[]⟩
   own := [liO (seqO (os.getD 0 default)) (epO (os.getD 0 default))]
   nn := 2,nt := 6
   res := fun ad tk => .ok (.ret (.ref (A ad 0)))
   upd := fun ad tk => [liO (seqO (os.getD 0 default)) (epO (os.getD 0 default))]
   new := fun ad tk => [deckO P (A ad 1) (A tk 4) (A tk 5) 0 (A tk 0),liO (tokA (cutZ zs) (A tk 1) (A tk 2)) (A tk 3)] }⟩
theorem dkC_ok (w : World) (c : Bool) (b' : Bool) (ns zs : List Int) (hs : ns.length ≤ 900) : Ct (WC w c) b' (dkC (PB (WC w c) b') ns zs) := fun bw cd as os _ hpre _ _ => by
 have h1 : Vals (seqO (os.getD 0 default)) ns ∧ zs = ns.take 60 := hpre
 obtain ⟨h1,hz⟩ := h1
 have h2 := vals_take h1 60
 rw [← hz] at h2
 have h3 : (seqO (os.getD 0 default)).size ≤ 1000 := by rw [h1.1]; omega
 obtain ⟨yE,hds⟩ := dsC_all w c b' zs (by rw [hz,List.length_take]; omega)
 have hq : ∀ (ad tk : Nat → Nat),∀ x ∈ [((Vals ((seqO (os.getD 0 default)).toList.take 60).toArray zs : Prop),Ob.q True),((seqO (os.getD 0 default)).size ≤ 1000,Ob.q True)],x.1 ∧ x.2 = Ob.q True := fun _ _ x hx => by
  rcases List.mem_cons.mp hx with rfl | hx
  · exact ⟨h2,rfl⟩
  · rcases List.mem_cons.mp hx with rfl | hx
    · exact ⟨h3,rfl⟩
    · cases hx
 cases zs with
 | nil =>
  refine sq1 600 1 (Yh (j0 (7 :: j46 (j94 []))) <| Yd [0,3] (sl60_ok _ _) <| Yh (j177 (11 :: [])) <| Yc [5,4,7,6] hds <| Yh (13 :: j50 (j11 [])) <| Yn) [2,6] (fun tk => [tk 9,tk 3,tk 4,tk 5,tk 1,tk 8]) (fun _ _ => [((Vals ((seqO (os.getD 0 default)).toList.take 60).toArray [] : Prop),Ob.q True),((seqO (os.getD 0 default)).size ≤ 1000,Ob.q True)]) hq rfl rfl (fun _ => rfl) (by decide) rfl ?_
  intro ad tk Γ p hA hc hbl hcalm
  subst hA
  obtain ⟨code,h,ow,blw,past⟩ := Γ
  cases hc
  cases hcalm rfl
  cases b' <;> kernel_rfl
 | cons z zs =>
  refine segQ (V_ok _) 600 1 (H [0,0,3,3,1,3,2,2,2,2] ++ ([.d 0 [0,3] (sl60)] ++ (H [6,6,6,7] ++ ([.c 0 [5,4,7,6] (dsC (PB (WC w c) b') (z :: zs) yE)] ++ (H [9,9,9,4,4,4,4,4,4,4,4])))))
    (ok_app (H_ok _) (ok_app (ok_d (sl60_ok _ _)) (ok_app (H_ok _) (ok_app (ok_c (hds)) (H_ok _))))) [2,6] (fun tk => [tk 9,tk 3,tk 4,tk 5,tk 1,tk 8]) (fun _ _ => [((Vals ((seqO (os.getD 0 default)).toList.take 60).toArray (z :: zs) : Prop),Ob.q True),((seqO (os.getD 0 default)).size ≤ 1000,Ob.q True)]) hq rfl rfl (fun _ => rfl) (by decide) rfl ?_
  intro ad tk Γ p hA hc hbl hcalm
  subst hA
  obtain ⟨code,h,ow,blw,past⟩ := Γ
  cases hc
  cases hcalm rfl
  cases b' <;> kernel_rfl
variable (w : World) (b' : Bool)
noncomputable def limC (P : Params) : CF := cg 700 fun c x y => mkC (.call (.ref 586) ⟨[],[]⟩) [] (2) (14) (fun u v => .ok (.ret (.ref (A u 0)))) nN (fun u v => [⟨.ref 586,(some (A u 1)),.plain,#[]⟩,⟨.type "dict",none,.dict #[K P (.str t495 (A v 0)) (.int 500 926),K P (.str t496 (A v 1)) (.int 20 927),K P (.str t497 (A v 2)) (.int 250 928),K P (.str t498 (A v 3)) (.int 15 929),K P (.str t499 (A v 4)) (.int 31 930),K P (.str t500 (A v 5)) (.int 65535 931),K P (.str t501 (A v 6)) (.int 65535 932),K P (.str t502 (A v 7)) (.int 65535 933),K P (.str t491 (A v 8)) (.int 127 934),K P (.str t503 (A v 9)) (.int 1500 935),K P (.str t504 (A v 10)) (.int 11 936),K P (.str t505 (A v 11)) (.int 15 937),K P (.str t506 (A v 12)) (.int 600 938),K P (.str t507 (A v 13)) (.int 16777216 912)] 14,#[]⟩])
theorem limC_ok : Ct w b' (limC (PB w b')) :=
 sV 2000 0 (Yh (j70 (j0 (j1 (7 :: j90 (j116 (j353 (j353 (j131 (6 :: j146 (j54 (j54 (j54 (j54 (j54 (j54 (j54 (j54 (j54 (j54 []))))))))))))))))))) <| Yn) [1,0] [16,18,20,22,24,26,28,30,32,34,36,38,40,42]
section
variable (i0 : Nat)
noncomputable def Q155 : Obj := ⟨.type "list",none,.seq #[] 0,#[]⟩
end
noncomputable def memC (P : Params) : CF := cg 700 fun c x y => mkC (.call (.ref 867) ⟨[.ref (cR c 0)],[]⟩) [] (6) (14) (fun u v => .ok (.ret (.ref (A u 0)))) nN (fun u v => [⟨.ref 867,(some (A u 1)),.plain,#[]⟩,⟨.type "dict",none,.dict #[K P (.str t511 (A v 4)) (.ref (cR c 0)),K P (.str t529 (A v 5)) (.bool false),K P (.str t498 (A v 6)) (.ref (A u 2)),K P (.str t530 (A v 7)) (.ref (A u 3)),K P (.str t531 (A v 8)) (.ref (A u 4)),K P (.str t532 (A v 9)) (.ref (A u 5)),K P (.str t533 (A v 10)) (.int 0 (A v 0)),K P (.str t534 (A v 11)) (.int 0 (A v 1)),K P (.str t535 (A v 12)) (.int 0 (A v 2)),K P (.str t536 (A v 13)) (.int 0 (A v 3))] 10,#[]⟩,Q155,Q155,Q93,Q155])
theorem memC_ok : Ct w b' (memC (PB w b')) :=
 sV 2000 0 (Yh (j84 (j0 (7 :: j38 (j26 (j97 (j429 (j161 (0 :: j175 (j232 (j232 (j232 (j232 (j232 (j232 (j232 (j232 (j232 []))))))))))))))))) <| Yn) [1,0,3,4,5,6] [14,17,20,23,3,5,7,9,11,13,16,19,22,25]
section
variable (P : Params) (u : List Nat) (v : List Nat) (i0 i1 i2 i3 i4 i5 i6 i7 i8 : Nat)
noncomputable def Q156 : Obj := ⟨.ref 218,(some (A u i0)),.plain,#[]⟩
noncomputable def Q157 : Obj := ⟨.type "tuple",none,.seq #[.int 9600 (A v i0),.bool true,.int 0 (A v i1)] 0,#[]⟩
noncomputable def Q158 : Obj := ⟨.type "dict",none,.dict #[K P (.str t539 (A v i0)) (.int 1 (A v i1)),K P (.str t537 (A v i2)) (.int 600 938),K P (.str t529 (A v i3)) (.bool true),K P (.str t352 (A v i4)) (.int 0 (A v i5)),K P (.str t540 (A v i6)) (.int 3 348),K P (.str t502 (A v i7)) (.ref (A u i8))] 6,#[]⟩
end
noncomputable def mkd0 (P : Params) : CF := cg 700 fun c x y => mkC (.call (.ref 682) ⟨[.ref (A x 0),.int 600 938],[]⟩) [Q13 x 1,dd P y 1 ks0 [.ref (A x 2),.bool true,.ref (tR y 1 5),.ref (tR y 1 7),.ref (A x 4),.ref (tR y 1 11),.int 0 (tT y 1 13),.int 0 (tT y 1 15),.int 0 (tT y 1 17),.int 0 (tT y 1 19)],Q15 x 3,Q16 P y 3,Q93] (4) (11) (fun u v => .ok (.ret (.ref (A u 0)))) (fun u v => [(1,dd P y 1 ks0 [.ref (A x 2),.bool true,.ref (tR y 1 5),.ref (tR y 1 7),.ref (A x 4),.ref (tR y 1 11),.int 0 (tT y 1 13),.int 9600 (A v 0),.int 1 (A v 1),.int 0 (tT y 1 19)]),(4,⟨.type "dict",none,.dict #[⟨1,.int 1 (A v 1),.ref (A u 1)⟩] 1,#[]⟩)]) (fun u v => [Q156 u 2,Q157 v 2 3,Q158 P u v 5 1 6 7 8 4 9 10 3,Q93])
theorem mkd0_ok : Ct w b' (mkd0 (PB w b')) :=
 sV 2000 5 (Yh (j0 (11 :: j301 (j470 (j209 (j1 (12 :: j152 (j5 (11 :: 6 :: j139 (7 :: j79 (13 :: j27 (5 :: j139 (5 :: j19 (14 :: j437 (j209 (13 :: j470 (j420 (15 :: j153 (j143 (5 :: 4 :: j167 (j143 (j177 (j466 (11 :: j469 (17 :: j153 (j143 (j84 (19 :: j212 (20 :: j131 (18 :: j363 (j213 (j213 []))))))))))))))))))))))))))))))) <| Yn) [13,10,12,15] [32,20,7,26,39,46,48,50,52,54,56]
section
variable (P : Params) (u : List Nat) (v : List Nat) (i0 i1 i2 i3 i4 i5 i6 i7 i8 : Nat)
noncomputable def Q159 : Obj := ⟨.type "tuple",none,.seq #[.int 3200 (A v i0),.bool true,.int 0 (A v i1)] 0,#[]⟩
noncomputable def Q160 : Obj := ⟨.type "dict",none,.dict #[K P (.str t539 (A v i0)) (.int 2 (A v i1)),K P (.str t537 (A v i2)) (.int 200 2009),K P (.str t529 (A v i3)) (.bool true),K P (.str t352 (A v i4)) (.int 0 (A v i5)),K P (.str t540 (A v i6)) (.int 3 348),K P (.str t502 (A v i7)) (.ref (A u i8))] 6,#[]⟩
end
noncomputable def mkd1 (P : Params) : CF := cg 700 fun c x y => mkC (.call (.ref 682) ⟨[.ref (A x 0),.int 200 2009],[]⟩) [Q13 x 1,dd P y 1 ks0 [.ref (A x 2),.bool true,.ref (tR y 1 5),.ref (tR y 1 7),.ref (A x 4),.ref (tR y 1 11),.int 0 (tT y 1 13),.int 9600 (tT y 1 15),.int 1 (tT y 1 17),.int 0 (tT y 1 19)],Q15 x 3,Q16 P y 3,⟨.type "dict",none,.dict #[⟨1,.int 1 (tT y 4 0),.ref (tR y 4 1)⟩] 1,#[]⟩] (4) (11) (fun u v => .ok (.ret (.ref (A u 0)))) (fun u v => [(1,dd P y 1 ks0 [.ref (A x 2),.bool true,.ref (tR y 1 5),.ref (tR y 1 7),.ref (A x 4),.ref (tR y 1 11),.int 0 (tT y 1 13),.int 12800 (A v 0),.int 2 (A v 1),.int 0 (tT y 1 19)]),(4,⟨.type "dict",none,.dict #[⟨1,.int 1 (tT y 4 0),.ref (tR y 4 1)⟩,⟨2,.int 2 (A v 1),.ref (A u 1)⟩] 2,#[]⟩)]) (fun u v => [Q156 u 2,Q159 v 2 3,Q160 P u v 5 1 6 7 8 4 9 10 3,Q93])
theorem mkd1_ok : Ct w b' (mkd1 (PB w b')) :=
 sV 2000 5 (Yh (j0 (11 :: j301 (j470 (j209 (j1 (12 :: j152 (j5 (11 :: 6 :: j139 (7 :: j79 (13 :: j27 (5 :: j139 (5 :: j19 (14 :: j437 (j209 (13 :: j470 (j420 (15 :: j153 (j143 (5 :: 4 :: j167 (j143 (j177 (j466 (11 :: j469 (17 :: j153 (j143 (j84 (19 :: j212 (20 :: j131 (18 :: j363 (j213 (j213 []))))))))))))))))))))))))))))))) <| Yn) [13,10,12,15] [32,20,7,26,39,46,48,50,52,54,56]
section
variable (P : Params) (u : List Nat) (v : List Nat) (i0 i1 i2 i3 i4 i5 i6 i7 i8 : Nat)
noncomputable def Q161 : Obj := ⟨.type "tuple",none,.seq #[.int 3200 (A v i0),.bool false,.int 0 (A v i1)] 0,#[]⟩
noncomputable def Q162 : Obj := ⟨.type "dict",none,.dict #[K P (.str t539 (A v i0)) (.int 3 (A v i1)),K P (.str t537 (A v i2)) (.int 200 2009),K P (.str t529 (A v i3)) (.bool false),K P (.str t352 (A v i4)) (.int 0 (A v i5)),K P (.str t540 (A v i6)) (.int 3 348),K P (.str t502 (A v i7)) (.ref (A u i8))] 6,#[]⟩
end
noncomputable def mkd2 (P : Params) : CF := cg 700 fun c x y => mkC (.call (.ref 682) ⟨[.ref (A x 0),.int 200 2009],[]⟩) [Q13 x 1,dd P y 1 ks0 [.ref (A x 2),.bool false,.ref (A x 4),.ref (tR y 1 7),.ref (A x 5),.ref (tR y 1 11),.int 0 (tT y 1 13),.int 12800 (tT y 1 15),.int 2 (tT y 1 17),.int 0 (tT y 1 19)],Q15 x 3,Q16 P y 3,Q17 y 4,⟨.type "dict",none,.dict #[⟨1,.int 1 (tT y 5 0),.ref (tR y 5 1)⟩,⟨2,.int 2 (tT y 5 2),.ref (tR y 5 3)⟩] 2,#[]⟩] (4) (11) (fun u v => .ok (.ret (.ref (A u 0)))) (fun u v => [(1,dd P y 1 ks0 [.ref (A x 2),.bool false,.ref (A x 4),.ref (tR y 1 7),.ref (A x 5),.ref (tR y 1 11),.int 3200 (A v 0),.int 12800 (tT y 1 15),.int 3 (A v 1),.int 0 (tT y 1 19)]),(5,⟨.type "dict",none,.dict #[⟨1,.int 1 (tT y 5 0),.ref (tR y 5 1)⟩,⟨2,.int 2 (tT y 5 2),.ref (tR y 5 3)⟩,⟨3,.int 3 (A v 1),.ref (A u 1)⟩] 3,#[]⟩)]) (fun u v => [Q156 u 2,Q161 v 2 3,Q162 P u v 5 1 6 7 8 4 9 10 3,Q93])
theorem mkd2_ok : Ct w b' (mkd2 (PB w b')) :=
 sV 2000 6 (Yh (j0 (12 :: j301 (j470 (j209 (j305 (j152 (j5 (12 :: 6 :: j139 (7 :: j79 (14 :: j27 (5 :: j139 (5 :: j19 (15 :: j437 (j209 (14 :: j470 (j420 (16 :: j345 (17 :: j340 (j177 (14 :: j244 (11 :: j3 (j466 (12 :: j469 (19 :: j345 (20 :: j340 (j177 (j84 (22 :: j212 (23 :: j131 (21 :: j363 (j213 (j213 [])))))))))))))))))))))))))))))))) <| Yn) [16,12,15,18] [36,20,7,30,47,54,56,58,60,62,64]
section
variable (P : Params) (c : Code) (v : List Nat) (i0 : Nat)
noncomputable def Q163 : Obj := ⟨.type "dict",none,.dict #[K P (.str t542 (A v 1)) (.str t61 (A v 0)),K P (.str t543 (A v 2)) (.ref (cR c 0)),K P (.str t544 (A v 3)) (.bool false),K P (.str t540 (A v 4)) (.int 3 348)] 4,#[]⟩
end
noncomputable def ofd0 (P : Params) : CF := cg 700 fun c x y => mkC (.call (.ref 317) ⟨[.ref (cR c 0)],[]⟩) [] (2) (5) (fun u v => .ok (.ret (.ref (A u 0)))) nN (fun u v => [Q6 u 1,Q163 P c v])
theorem ofd0_ok : Ct w b' (ofd0 (PB w b')) :=
 sV 2000 0 (Yh (j156 (j245 (8 :: j90 (9 :: j131 (7 :: j146 []))))) <| Yn) [2,1] [1,8,10,12,14]
noncomputable def ofd1 (P : Params) : CF := cg 700 fun c x y => mkC (.call (.ref 317) ⟨[.ref (cR c 0)],[]⟩) [] (2) (5) (fun u v => .ok (.ret (.ref (A u 0)))) nN (fun u v => [Q6 u 1,Q163 P c v])
theorem ofd1_ok : Ct w b' (ofd1 (PB w b')) :=
 sV 2000 0 (Yh (j156 (j245 (8 :: j90 (9 :: j131 (7 :: j146 []))))) <| Yn) [2,1] [1,8,10,12,14]
noncomputable def ofd2 (P : Params) : CF := cg 700 fun c x y => mkC (.call (.ref 317) ⟨[.ref (cR c 0)],[]⟩) [] (2) (5) (fun u v => .ok (.ret (.ref (A u 0)))) nN (fun u v => [Q6 u 1,Q163 P c v])
theorem ofd2_ok : Ct w b' (ofd2 (PB w b')) :=
 sV 2000 0 (Yh (j156 (j245 (8 :: j90 (9 :: j131 (7 :: j146 []))))) <| Yn) [2,1] [1,8,10,12,14]
section
variable (P : Params) (u : List Nat) (v : List Nat) (i0 i1 i2 : Nat)
noncomputable def Q164 : Obj := ⟨.type "dict",none,.dict #[K P (.str t537 (A v i0)) (.int 20 927),K P (.str t410 (A v i1)) (.ref (A u i2))] 2,#[]⟩
end
noncomputable def dstC (P : Params) : CF := cg 700 fun c x y => mkC (.call (.ref 564) ⟨[.ref (cR c 0),.ref (cR c 1),.ref (cR c 2),.int 20 927],[]⟩) [] (3) (2) (fun u v => .ok (.ret (.ref (A u 0)))) nN (fun u v => [⟨.ref 564,(some (A u 1)),.plain,#[]⟩,Q164 P u v 0 1 2,⟨.type "list",none,.seq #[.ref (cR c 0),.ref (cR c 1),.ref (cR c 2)] 0,#[]⟩])
theorem dstC_ok : Ct w b' (dstC (PB w b')) :=
 sV 2000 0 (Yh (j299 (7 :: j73 (j97 (j131 (j175 (j135 (4 :: j43 []))))))) <| Yn) [1,0,3] [6,8]
section
variable (P : Params) (u : List Nat) (v : List Nat) (i0 i1 i2 : Nat)
noncomputable def Q165 : Obj := ⟨.type "dict",none,.dict #[K P (.str t537 (A v i0)) (.int 500 926),K P (.str t410 (A v i1)) (.ref (A u i2))] 2,#[]⟩
end
noncomputable def stkC (P : Params) : CF := cg 700 fun c x y => mkC (.call (.ref 1312) ⟨[.int 500 926],[]⟩) [] (3) (2) (fun u v => .ok (.ret (.ref (A u 0)))) nN (fun u v => [⟨.ref 1312,(some (A u 1)),.plain,#[]⟩,Q165 P u v 0 1 2,Q155])
theorem stkC_ok : Ct w b' (stkC (PB w b')) :=
 sV 2000 0 (Yh (j299 (7 :: j73 (j97 (j152 (j106 (j175 (j213 []))))))) <| Yn) [1,0,3] [3,5]
noncomputable def scnC (P : Params) : CF := cg 700 fun c x y => mkC (.call (.ref 1206) ⟨[.ref (cR c 0)],[]⟩) [] (2) (1) (fun u v => .ok (.ret (.ref (A u 0)))) nN (fun u v => [⟨.ref 1206,(some (A u 1)),.plain,#[]⟩,⟨.type "dict",none,.dict #[K P (.str t509 (A v 0)) (.ref (cR c 0))] 1,#[]⟩])
theorem scnC_ok : Ct w b' (scnC (PB w b')) :=
 sV 2000 0 (Yh (j299 (7 :: j73 (j97 (j152 (j106 (j175 [])))))) <| Yn) [1,0] [3]
noncomputable def begC (P : Params) : CF := cg 700 fun c x y => mkC (.call (.ref 1521) ⟨[.ref (A x 0),.ref (cR c 1),.ref (cR c 2),.ref (cR c 3),.ref (cR c 4),.ref (cR c 5),.ref (cR c 6)],[]⟩) [Q46 x 1,Q93] (2) (27) (fun u v => .ok (.ret (.none))) (fun u v => [(1,⟨.type "dict",none,.dict #[K P (.str t509 (A v 1)) (.ref (cR c 1)),K P (.str t495 (A v 2)) (.ref (cR c 2)),K P (.str t496 (A v 3)) (.ref (cR c 3)),K P (.str t510 (A v 4)) (.ref (cR c 4)),K P (.str t511 (A v 5)) (.ref (cR c 5)),K P (.str t512 (A v 6)) (.ref (cR c 6)),K P (.str t505 (A v 7)) (.none),K P (.str t513 (A v 8)) (.none),K P (.str t497 (A v 9)) (.ref (A u 0)),K P (.str t514 (A v 10)) (.ref (A u 1)),K P (.str t506 (A v 11)) (.none),K P (.str t24 (A v 12)) (.none),K P (.str t515 (A v 13)) (.none),K P (.str t516 (A v 14)) (.none),K P (.str t517 (A v 15)) (.none),K P (.str t518 (A v 16)) (.none),K P (.str t519 (A v 17)) (.none),K P (.str t520 (A v 18)) (.none),K P (.str t521 (A v 19)) (.int 0 (A v 0)),K P (.str t522 (A v 20)) (.int 1 2007),K P (.str t523 (A v 21)) (.bool false),K P (.str t524 (A v 22)) (.bool false),K P (.str t525 (A v 23)) (.none),K P (.str t526 (A v 24)) (.none),K P (.str t527 (A v 25)) (.none),K P (.str t336 (A v 26)) (.none)] 26,#[]⟩)]) (fun u v => [Q155,Q93])
theorem begC_ok : Ct w b' (begC (PB w b')) :=
 sV 2000 2 (Yh (j97 (j353 (j80 (6 :: j103 (7 :: j3 (j127 (j127 (j127 (j127 (j34 (j323 (j323 (j323 (j323 (j323 (j323 (j63 (j41 (0 :: j61 (j323 (j323 (j323 (j41 []))))))))))))))))))))))) <| Yn) [3,4] [43,8,10,12,14,16,18,20,22,24,26,28,30,32,34,36,38,40,42,45,47,49,51,53,55,57,59]
noncomputable def outC (P : Params) : CF := cg 700 fun c x y => mkC (.call (.ref 1730) ⟨[],[]⟩) [] (3) (1) (fun u v => .ok (.ret (.ref (A u 0)))) nN (fun u v => [⟨.ref 1730,(some (A u 1)),.plain,#[]⟩,⟨.type "dict",none,.dict #[K P (.str t546 (A v 0)) (.ref (A u 2))] 1,#[]⟩,Q155])
theorem outC_ok : Ct w b' (outC (PB w b')) :=
 sV 2000 0 (Yh (j70 (j0 (j1 (7 :: j73 (j97 (j46 (j106 (j175 [])))))))) <| Yn) [1,0,3] [2]
section
variable (P : Params) (u : List Nat) (v : List Nat) (i0 i1 i2 i3 i4 i5 : Nat)
noncomputable def Q166 : Obj := ⟨.type "dict",none,.dict #[K P (.str t542 (A v i0)) (.str t61 (A v i1)),K P (.str t543 (A v i2)) (.ref (A u i3)),K P (.str t544 (A v i4)) (.bool false),K P (.str t540 (A v i5)) (.int 3 348)] 4,#[]⟩
end
noncomputable def smaC (P : Params) : CF := cg 690 fun c x y => mkC (.call (.ref 1751) ⟨[.ref (A x 0)],[]⟩) [Q15 x 1,Q16 P y 1] (40) (91) (fun u v => .ok (.ret (.ref (A u 0)))) nN (fun u v => [⟨.ref 1751,(some (A u 1)),.plain,#[]⟩,⟨.type "dict",none,.dict #[K P (.str t509 (A v 19)) (.ref (A u 2)),K P (.str t495 (A v 20)) (.ref (A u 3)),K P (.str t496 (A v 21)) (.ref (A u 4)),K P (.str t510 (A v 22)) (.ref (A u 5)),K P (.str t511 (A v 23)) (.ref (A x 0)),K P (.str t512 (A v 24)) (.ref (A u 6)),K P (.str t505 (A v 25)) (.none),K P (.str t513 (A v 26)) (.ref (A u 7)),K P (.str t497 (A v 27)) (.ref (A u 8)),K P (.str t514 (A v 28)) (.ref (A u 9)),K P (.str t506 (A v 29)) (.ref (A u 10)),K P (.str t24 (A v 30)) (.ref (A u 11)),K P (.str t515 (A v 31)) (.ref (A u 12)),K P (.str t516 (A v 32)) (.none),K P (.str t517 (A v 33)) (.none),K P (.str t518 (A v 34)) (.none),K P (.str t519 (A v 35)) (.none),K P (.str t520 (A v 36)) (.none),K P (.str t521 (A v 37)) (.int 0 (A v 0)),K P (.str t522 (A v 38)) (.int 1 2007),K P (.str t523 (A v 39)) (.bool false),K P (.str t524 (A v 40)) (.bool false),K P (.str t525 (A v 41)) (.none),K P (.str t526 (A v 42)) (.none),K P (.str t527 (A v 43)) (.none),K P (.str t336 (A v 44)) (.none)] 26,#[]⟩,⟨.ref 867,(some (A u 13)),.plain,#[]⟩,⟨.ref 1312,(some (A u 14)),.plain,#[]⟩,⟨.ref 564,(some (A u 15)),.plain,#[]⟩,⟨.ref 1206,(some (A u 16)),.plain,#[]⟩,Q93,⟨.ref 1730,(some (A u 17)),.plain,#[]⟩,Q155,Q93,Q6 u 18,Q6 u 19,Q6 u 20,⟨.type "dict",none,.dict #[K P (.str t511 (A v 45)) (.ref (A x 0)),K P (.str t529 (A v 46)) (.bool false),K P (.str t498 (A v 47)) (.ref (A u 21)),K P (.str t530 (A v 48)) (.ref (A u 22)),K P (.str t531 (A v 49)) (.ref (A u 23)),K P (.str t532 (A v 50)) (.ref (A u 24)),K P (.str t533 (A v 51)) (.int 3200 (A v 1)),K P (.str t534 (A v 52)) (.int 12800 (A v 2)),K P (.str t535 (A v 53)) (.int 3 (A v 3)),K P (.str t536 (A v 54)) (.int 0 (A v 4))] 10,#[]⟩,Q165 P u v 55 56 25,Q164 P u v 57 58 26,⟨.type "dict",none,.dict #[K P (.str t509 (A v 59)) (.ref (A u 2))] 1,#[]⟩,⟨.type "dict",none,.dict #[K P (.str t546 (A v 60)) (.ref (A u 27))] 1,#[]⟩,Q166 P u v 61 5 62 28 63 64,Q166 P u v 65 6 66 29 67 68,Q166 P u v 69 7 70 30 71 72,Q155,Q155,⟨.type "dict",none,.dict #[⟨1,.int 1 (A v 8),.ref (A u 31)⟩,⟨2,.int 2 (A v 9),.ref (A u 32)⟩,⟨3,.int 3 (A v 3),.ref (A u 33)⟩] 3,#[]⟩,Q155,Q155,⟨.type "list",none,.seq #[.ref (A u 10),.ref (A u 11),.ref (A u 12)] 0,#[]⟩,Q155,Q156 u 34,Q156 u 35,Q156 u 36,Q157 v 10 11,Q159 v 12 13,Q161 v 14 15,Q158 P u v 73 8 74 75 76 16 77 78 37,Q160 P u v 79 9 80 81 82 17 83 84 38,Q162 P u v 85 3 86 87 88 18 89 90 39,Q93,Q93,Q93])
theorem smaC_ok : Ct w b' (smaC (PB w b')) :=
 sV 2000 2 (Yh (j299 (9 :: j212 (10 :: j49 (j38 (j0 []))))) <| Yc [] (memC_ok _ _) <| Yh (j177 (11 :: j161 (0 :: 12 :: j85 (j61 (j139 (j61 (j138 (0 :: [])))))))) <| Yc [5,6,0,1,9] (mkd0_ok _ _) <| Yh [0] <| Yc [] (ofd0_ok _ _) <| Yh (10 :: j150 (11 :: j139 (12 :: j0 []))) <| Yc [5,6,0,1,9] (mkd1_ok _ _) <| Yh [0] <| Yc [] (ofd1_ok _ _) <| Yh (j177 (11 :: j161 (0 :: 12 :: j85 (j61 (j139 (4 :: j0 [])))))) <| Yc [5,6,0,1,7,9] (mkd2_ok _ _) <| Yh [0] <| Yc [] (ofd2_ok _ _) <| Yh (10 :: j5 (j12 (j138 (j0 [])))) <| Yc [] (dstC_ok _ _) <| Yh (j177 (9 :: j56 (4 :: j38 (j138 (j0 []))))) <| Yc [] (stkC_ok _ _) <| Yh (10 :: j38 (j0 [])) <| Yc [] (scnC_ok _ _) <| Yh [10,0] <| Yc [3,2] (begC_ok _ _) <| Yh (10 :: 2 :: 9 :: j103 (j50 (j231 []))) <| Yc [] (outC_ok _ _) <| Yh (10 :: 9 :: j103 (j50 [])) <| Yn) [3,2,5,32,29,35,37,40,38,39,15,21,27,6,33,30,36,41,16,22,28,7,8,9,10,34,31,42,11,17,23,12,18,24,13,19,25,14,20,26] [81,56,37,57,5,31,48,67,21,38,22,23,39,40,58,59,24,41,60,82,83,84,85,86,87,88,89,90,91,92,93,94,95,96,97,98,99,100,101,102,103,104,105,106,107,6,7,8,9,10,11,12,13,14,15,78,79,74,75,80,114,32,33,34,35,49,50,51,52,68,69,70,71,25,26,27,28,29,30,42,43,44,45,46,47,61,62,63,64,65,66]
variable (w : World) (b' : Bool)
section
variable (P : Params) (y : List Obj) (x : List Nat) (v : List Nat) (i0 : Nat)
noncomputable def Q167 : Obj := dd P y i0 ks0 [.ref (tR y i0 1),.bool false,.ref (tR y i0 5),.ref (tR y i0 7),.ref (tR y i0 9),.ref (tR y i0 11),.int 3200 (tT y i0 13),.int 12800 (tT y i0 15),.int 3 (tT y i0 17),.int 0 (tT y i0 19)]
noncomputable def Q168 : Obj := ⟨.type "tuple",none,.seq #[.ref (A x 0),.ref (A x 6)] 0,#[]⟩
noncomputable def Q169 : Obj := ⟨.type "tuple",none,.seq #[.str t491 (A v 0),.bytes arS (tT y 1 i0)] 0,#[]⟩
end
noncomputable def pe0 (P : Params) : CF := cg 700 fun c x y => mkC (.call (.ref 752) ⟨[.ref (A x 2),.ref (A x 4),.ref (A x 0),.ref (A x 6)],[]⟩) [Q65 x 1,dd P y 1 ks4 [.str t198 (tT y 1 1),.bytes arS (tT y 1 3),.bool false,.int 3 348],Q13 x 3,Q167 P y 3,Q91 x 5,Q96 P y x 5 8,Q65 x 7,Q106 P y 7,Q93] (2) (1) (fun u v => .ok (.ret (.none))) (fun u v => [(8,⟨.type "dict",none,.dict #[⟨hW P arS,.ref (A u 1),.ref (A u 0)⟩] 1,#[]⟩)]) (fun u v => [Q168 x,Q169 y v 3])
theorem pe0_ok : Ct w b' (pe0 (PB w b')) :=
 sV 2000 9 (Yh (j0 (15 :: j198 (j53 (16 :: j419 (17 :: j147 (15 :: j3 (j369 (j32 (j1 (19 :: j433 (20 :: j76 (21 :: j46 (j234 (j148 (22 :: j147 (20 :: j3 (15 :: j369 (4 :: j53 (23 :: j241 (j19 (24 :: j433 (25 :: j76 (26 :: j419 (27 :: j147 (25 :: j3 (15 :: 2 :: j114 (j328 []))))))))))))))))))))))))))) <| YD [8,12] (wInC (PB w b') [] bS false) (wIn_k _ _ _ _ _ nd0 (by decide +kernel)) <| Yh (j0 (15 :: j114 [])) <| YD [8] (lenDC 0) (lenDC_ok _ _ (kt1 _) 0 (by decide)) <| Yh (15 :: j465 (j369 (j19 (28 :: j27 (j114 (j288 (j25 (j328 [])))))))) <| YD [8,12] (wInC (PB w b') [] bS false) (wIn_k _ _ _ _ _ nd0 (by decide +kernel)) <| Yh (0 :: 15 :: j1 (29 :: j241 (4 :: 5 :: j12 (j465 (j328 []))))) <| YD [8,12] (wPutC (PB w b') [] bS) (wPut_k _ _ _ _ nd0 (by decide +kernel) (fun _ _ => by show (0 : Nat) < 1000; decide)) <| Yn) [24,12] [9]
section
variable (y : List Obj) (v : List Nat) (i0 i1 : Nat)
noncomputable def Q170 : Obj := ⟨.type "tuple",none,.seq #[.str t491 (A v i0),.bytes arA (tT y 1 i1)] 0,#[]⟩
end
noncomputable def pe1 (P : Params) : CF := cg 700 fun c x y => mkC (.call (.ref 752) ⟨[.ref (A x 2),.ref (A x 4),.ref (A x 0),.ref (A x 6)],[]⟩) [Q65 x 1,dd P y 1 ks4 [.str t198 (tT y 1 1),.bytes arA (tT y 1 3),.bool false,.int 3 348],Q13 x 3,Q167 P y 3,Q91 x 5,Q96 P y x 5 8,Q65 x 7,Q113 P y 7,⟨.type "dict",none,.dict #[⟨hW P arS,.ref (A x 9),.ref (tR y 8 1)⟩] 1,#[]⟩,Q94 y 9] (2) (1) (fun u v => .ok (.ret (.none))) (fun u v => [(8,⟨.type "dict",none,.dict #[⟨hW P arS,.ref (A x 9),.ref (tR y 8 1)⟩,⟨hW P arA,.ref (A u 1),.ref (A u 0)⟩] 2,#[]⟩)]) (fun u v => [Q168 x,Q170 y v 0 3])
theorem pe1_ok : Ct w b' (pe1 (PB w b')) :=
 sV 2000 10 (Yh (j0 (16 :: j198 (j53 (17 :: j419 (18 :: j147 (16 :: j3 (j369 (j32 (j1 (20 :: j433 (21 :: j76 (22 :: j46 (j234 (j148 (23 :: j147 (21 :: j3 (16 :: j369 (4 :: j53 (24 :: j241 (j19 (25 :: j433 (26 :: j76 (27 :: j419 (28 :: j147 (26 :: j3 (16 :: 2 :: j114 (j328 []))))))))))))))))))))))))))) <| YD [8,13,9] (wInC (PB w b') [bS] bA false) (wIn_k _ _ _ _ _ nd1 (by decide +kernel)) <| Yh (j0 (16 :: j114 [])) <| YD [8] (lenDC 1) (lenDC_ok _ _ (kt1 _) 1 (by decide)) <| Yh (16 :: j465 (j369 (j19 (29 :: j27 (j114 (j288 (j25 (j328 [])))))))) <| YD [8,13,9] (wInC (PB w b') [bS] bA false) (wIn_k _ _ _ _ _ nd1 (by decide +kernel)) <| Yh (0 :: 16 :: j1 (30 :: j241 (4 :: 5 :: j12 (j465 (j328 []))))) <| YD [8,13,9] (wPutC (PB w b') [bS] bA) (wPut_k _ _ _ _ nd1 (by decide +kernel) (fun _ _ => by show (1 : Nat) < 1000; decide)) <| Yn) [25,13] [9]
section
variable (y : List Obj) (v : List Nat) (i0 i1 : Nat)
noncomputable def Q171 : Obj := ⟨.type "tuple",none,.seq #[.str t491 (A v i0),.bytes #[112,111,112] (tT y 1 i1)] 0,#[]⟩
end
noncomputable def pe2 (P : Params) : CF := cg 700 fun c x y => mkC (.call (.ref 752) ⟨[.ref (A x 2),.ref (A x 4),.ref (A x 0),.ref (A x 6)],[]⟩) [Q65 x 1,dd P y 1 ks4 [.str t198 (tT y 1 1),.bytes #[112,111,112] (tT y 1 3),.bool false,.int 3 348],Q13 x 3,Q167 P y 3,Q91 x 5,Q96 P y x 5 8,Q65 x 7,Q115 P y 7,⟨.type "dict",none,.dict #[⟨hW P arS,.ref (A x 9),.ref (tR y 8 1)⟩,⟨hW P arA,.ref (A x 10),.ref (tR y 8 3)⟩] 2,#[]⟩,Q94 y 9,Q98 y 10] (2) (1) (fun u v => .ok (.ret (.none))) (fun u v => [(8,⟨.type "dict",none,.dict #[⟨hW P arS,.ref (A x 9),.ref (tR y 8 1)⟩,⟨hW P arA,.ref (A x 10),.ref (tR y 8 3)⟩,⟨hW P #[112,111,112],.ref (A u 1),.ref (A u 0)⟩] 3,#[]⟩)]) (fun u v => [Q168 x,Q171 y v 0 3])
theorem pe2_ok : Ct w b' (pe2 (PB w b')) :=
 sV 2000 11 (Yh (j0 (17 :: j198 (j53 (18 :: j419 (19 :: j147 (17 :: j3 (j369 (j32 (j1 (21 :: j433 (22 :: j76 (23 :: j46 (j234 (j148 (24 :: j147 (22 :: j3 (17 :: j369 (4 :: j53 (25 :: j241 (j19 (26 :: j433 (27 :: j76 (28 :: j419 (29 :: j147 (27 :: j3 (17 :: 2 :: j114 (j328 []))))))))))))))))))))))))))) <| YD [8,14,9,10] (wInC (PB w b') [bS,bA] bP false) (wIn_k _ _ _ _ _ nd2 (by decide +kernel)) <| Yh (j0 (17 :: j114 [])) <| YD [8] (lenDC 2) (lenDC_ok _ _ (kt1 _) 2 (by decide)) <| Yh (17 :: j465 (j369 (j19 (30 :: j27 (j114 (j288 (j25 (j328 [])))))))) <| YD [8,14,9,10] (wInC (PB w b') [bS,bA] bP false) (wIn_k _ _ _ _ _ nd2 (by decide +kernel)) <| Yh (0 :: 17 :: j1 (31 :: j241 (4 :: 5 :: j12 (j465 (j328 []))))) <| YD [8,14,9,10] (wPutC (PB w b') [bS,bA] bP) (wPut_k _ _ _ _ nd2 (by decide +kernel) (fun _ _ => by show (2 : Nat) < 1000; decide)) <| Yn) [26,14] [9]
section
variable (u : List Nat) (i0 i1 : Nat)
noncomputable def Q172 : Obj := ⟨.type "tuple",none,.seq #[.ref (A u i0),.ref (A u i1)] 0,#[]⟩
end
noncomputable def insC (P : Params) : CF := cg 680 fun c x y => mkC (.call (.ref 1692) ⟨[.ref (A x 2),.ref (A x 0)],[]⟩) [Q47 y x 1 0,Q107 P y 1,Q46 x 3,dd P y 3 ks1 [.ref (A x 5),.ref (tR y 3 3),.ref (tR y 3 5),.ref (tR y 3 7),.ref (tR y 3 9),.ref (tR y 3 11),.none,.ref (tR y 3 15),.ref (tR y 3 17),.ref (A x 4),.ref (A x 7),.ref (tR y 3 23),.ref (tR y 3 25),.none,.none,.none,.none,.none,.int 0 (tT y 3 37),.int 1 2007,.bool false,.bool false,.none,.none,.none,.none],Q93,Q13 x 6,Q167 P y 6,Q65 x 8,Q90 P y x 8 9,Q91 x 10,Q96 P y x 10 11,Q93] (18) (33) (fun u v => .ok (.ret (.none))) (fun u v => [(4,Q107 P y 1),(11,⟨.type "dict",none,.dict #[⟨hW P arS,.ref (A u 1),.ref (A u 0)⟩,⟨hW P arA,.ref (A u 3),.ref (A u 2)⟩,⟨hW P #[112,111,112],.ref (A u 5),.ref (A u 4)⟩] 3,#[]⟩)]) (fun u v => [Q172 u 6 7,Q169 y v 0,Q172 u 8 9,Q170 y v 1 2,Q172 u 10 11,Q171 y v 2 4,Q6 u 12,Q6 u 13,Q6 u 14,Q6 u 15,Q6 u 16,Q6 u 17,⟨.type "dict",none,.dict #[K P (.str t542 (A v 9)) (.str t198 (A v 3)),K P (.str t543 (A v 10)) (.bytes arS (tT y 1 0)),K P (.str t544 (A v 11)) (.bool false),K P (.str t540 (A v 12)) (.int 3 348)] 4,#[]⟩,⟨.type "dict",none,.dict #[K P (.str t542 (A v 13)) (.str t548 (A v 4)),K P (.str t543 (A v 14)) (.bytes arS (tT y 1 0)),K P (.str t544 (A v 15)) (.bool true),K P (.str t540 (A v 16)) (.int 3 348)] 4,#[]⟩,⟨.type "dict",none,.dict #[K P (.str t542 (A v 17)) (.str t198 (A v 5)),K P (.str t543 (A v 18)) (.bytes arA (tT y 1 2)),K P (.str t544 (A v 19)) (.bool false),K P (.str t540 (A v 20)) (.int 3 348)] 4,#[]⟩,⟨.type "dict",none,.dict #[K P (.str t542 (A v 21)) (.str t548 (A v 6)),K P (.str t543 (A v 22)) (.bytes arA (tT y 1 2)),K P (.str t544 (A v 23)) (.bool true),K P (.str t540 (A v 24)) (.int 3 348)] 4,#[]⟩,⟨.type "dict",none,.dict #[K P (.str t542 (A v 25)) (.str t198 (A v 7)),K P (.str t543 (A v 26)) (.bytes #[112,111,112] (tT y 1 4)),K P (.str t544 (A v 27)) (.bool false),K P (.str t540 (A v 28)) (.int 3 348)] 4,#[]⟩,⟨.type "dict",none,.dict #[K P (.str t542 (A v 29)) (.str t548 (A v 8)),K P (.str t543 (A v 30)) (.bytes #[112,111,112] (tT y 1 4)),K P (.str t544 (A v 31)) (.bool true),K P (.str t540 (A v 32)) (.int 3 348)] 4,#[]⟩])
theorem insC_ok : Ct w b' (insC (PB w b')) :=
 sV 2000 12 (Yh (j0 (18 :: j27 (j175 (19 :: j42 (j22 (j21 (7 :: j3 []))))))) <| YD [1] (diC 3) (diC_ok _ _ (kt1 _) 3) <| Yh (20 :: j12 (7 :: 2 :: 3 :: j12 (j357 (j135 [])))) <| YD [1] (bGetC (PB w b') [bS,bA,bP] 0) (bGet_k _ _ _ (by decide)) <| Yh (j367 (4 :: j177 [])) <| Yd [4] (bPut0 _ _) <| Yh (j367 (j61 (j74 (11 :: j265 (12 :: j367 (j200 (0 :: 18 :: j7 (21 :: j374 (23 :: j90 (24 :: j131 (22 :: j363 (18 :: j1 (25 :: j245 (27 :: j90 (28 :: j131 (26 :: j363 [])))))))))))))))) <| Yc [17,16,5,6,9,10,21,20,11] (pe0_ok _ _) <| Yh (20 :: j6 (7 :: 2 :: 3 :: j12 (j357 (j135 [])))) <| YD [1] (bGetC (PB w b') [bS,bA,bP] 1) (bGet_k _ _ _ (by decide)) <| Yh (j367 (4 :: j177 [])) <| Yd [4] (bPut1 _ _) <| Yh (j367 (j61 (j74 (11 :: j265 (12 :: j367 (j200 (0 :: 18 :: j7 (31 :: j374 (33 :: j90 (34 :: j131 (32 :: j363 (18 :: j1 (35 :: j245 (37 :: j90 (38 :: j131 (36 :: j363 [])))))))))))))))) <| Yc [27,26,5,6,9,10,31,30,11,24] (pe1_ok _ _) <| Yh (20 :: j6 (7 :: 2 :: 3 :: j12 (j357 (j135 [])))) <| YD [1] (bGetC (PB w b') [bS,bA,bP] 2) (bGet_k _ _ _ (by decide)) <| Yh (j367 (4 :: j177 [])) <| Yd [4] (bPut2 _ _) <| Yh (j367 (j61 (j74 (11 :: j265 (12 :: j367 (j200 (0 :: 18 :: j7 (41 :: j374 (43 :: j90 (44 :: j131 (42 :: j363 (18 :: j1 (45 :: j245 (47 :: j90 (48 :: j131 (46 :: j363 [])))))))))))))))) <| Yc [37,36,5,6,9,10,41,40,11,24,34] (pe2_ok _ _) <| Yh (20 :: j6 (7 :: 2 :: 3 :: j3 (52 :: 19 :: j334 (54 :: [])))) <| Yn) [23,24,33,34,43,44,17,21,27,31,37,41,16,20,26,30,36,40] [40,78,116,11,26,49,64,87,102,18,20,22,24,33,35,37,39,56,58,60,62,71,73,75,77,94,96,98,100,109,111,113,115]
noncomputable def tuO (xs : Array Value) (n : Nat) : Obj := ⟨.type "tuple",none,.seq xs n,#[]⟩
noncomputable def inC (k : Nat) : CF := ⟨990,9800,false,false,(fun b => b),none,fun c as os =>
  ⟨.builtin "list.__init__" ⟨[.ref (A as 0),.ref (A as 1)],[]⟩,[liO #[] 0,tuO (vsL os 1 k) (oE os 1)],0,0,fun _ tk => .ok (.ret .none),fun _ _ => [liO (vsL os 1 k) 1,tuO (vsL os 1 k) (oE os 1)],fun _ _ => []⟩⟩
theorem inC_ok (w : World) (kt : KT) (k : Nat) (hk : 0 < k ∧ k ≤ 100) : Ctr (model prog w) kt (inC k) := fun bl c as os _ _ _ _ =>
 ctr_any fun R s hd hu hh hg hst hown hnd => by
  obtain ⟨a,b,rfl,ha,hb⟩ := two_own hown
  have hz := vsL_size os 1 k
  refine codeAny_builtin PySem.F.entry_list_init ?_
  rw [Around.under_plainId (by decide +kernel)]
  have hab : b ≠ a := by
    intro e; subst e; simp at hnd
  have ha : s.heap.get? a = some { cls := .type "list",data := .seq #[] } := ha
  have hb : s.heap.get? b = some (tuO (vsL os 1 k) (oE os 1)) := hb
  have hl : sizeLine ≥ 1000 := by decide
  refine wpAny_list_init_seq (T := "tuple") (items := vsL os 1 k) (n := oE os 1) a b (.inr rfl) hab ha hb rfl rfl ?_ (by rw [hz]; omega)
  have z1 : (s.heap.update a (Obj.mapSeq fun _ => (#[] : Array Value))).get? a = some (liO #[] 0) := Heap.get?_update_self _ ha rfl
  have z2 : ((s.heap.update a (Obj.mapSeq fun _ => (#[] : Array Value))).update a (Obj.mapSeq (· ++ vsL os 1 k))).get? a = some (Obj.mapSeq (· ++ vsL os 1 k) (liO #[] 0)) := Heap.get?_update_self _ z1 rfl
  refine ⟨[],[],rfl,rfl,List.nodup_nil,fun _ h => (nomatch h),rfl,⟨?_,?_,trivial⟩,trivial,?_⟩
  · refine z2.trans (congrArg some ?_)
    show (⟨.type "list",none,.seq (#[] ++ vsL os 1 k) (if ((#[] ++ vsL os 1 k : Array Value).size == (#[] : Array Value).size) = true then 0 else 0 + 1),#[]⟩ : Obj) = _
    have h2 : ((#[] ++ vsL os 1 k : Array Value).size == (#[] : Array Value).size) = false := by
     rw [Array.empty_append,hz]
     simp
     omega
    rw [h2]
    show (⟨.type "list",none,.seq (#[] ++ vsL os 1 k) (0 + 1),#[]⟩ : Obj) = _
    rw [Array.empty_append]
    rfl
  · exact (Heap.get?_update_other _ _ hab.symm).trans ((Heap.get?_update_other _ _ hab.symm).trans hb)
  · refine ⟨fun y o e hy => ?_,by show _ ≤ ((s.heap.update a _).update a _).objs.size; rw [size_update,size_update]; exact Nat.le_refl _,rfl,rfl⟩
    have hya : a ≠ y := fun q => hy (by rw [← q]; exact List.mem_cons_self ..)
    exact (Heap.get?_update_other _ _ hya).trans ((Heap.get?_update_other _ _ hya).trans e)
noncomputable def Ye {w : World} {k : KT} (l : List Nat) (r : HL (model prog w) k) : HL (model prog w) k := ⟨HE (mt 0 0 0 0 l) ++ r.1,ok_app (HE_ok _ _ _) r.2⟩
noncomputable def VXm (w : World) (b' : Bool) : Cfg := { VX (PB w b') with P := PB w true,P2 := PB w false }
theorem VXm_ok (w : World) (b' : Bool) : (VXm w b').Ok (MB w b') := { VX_ok (w.withFollow "special-get-raises" b') with P := match b' with
 | true => .inl rfl
 | false => .inr rfl }
noncomputable def refsL (as : List Nat) : Nat → Nat → List Value
 | _,0 => []
 | off,m + 1 => .ref (A as off) :: refsL as (off + 1) m
noncomputable def tuPO (os : List Obj) (j : Nat) (p : Int × Int) : Obj := ⟨.type "tuple",none,.seq #[.int p.1 (tT os j 0),.int p.2 (tT os j 1)] (oE os j),#[]⟩
noncomputable def tupL (os : List Obj) : Nat → List (Int × Int) → List Obj
 | _,[] => []
 | j,p :: r => tuPO os j p :: tupL os (j + 1) r
noncomputable def tdI (as : List Nat) (off m : Nat) (bl : Bool) : Array Value := (refsL as off m ++ [Value.bool bl]).toArray
noncomputable def tdO (as : List Nat) (os : List Obj) (ps : List (Int × Int)) (bl : Bool) : List Obj :=
  ⟨.type "list",none,.seq (tdI as 2 ps.length bl) (oE os 0),#[]⟩ :: ⟨.type "list",none,.seq (tdI as (2 + ps.length) ps.length bl) (oE os 1),#[]⟩ :: (tupL os 2 ps ++ tupL os (2 + ps.length) ps)
noncomputable def tdC (nm : String) (r : Bool) (ps : List (Int × Int)) (bl : Bool) : CF := ⟨900,9000,false,false,(fun b => b),none,fun c as os =>
  ⟨.builtin nm ⟨[.ref (A as 0),.ref (A as 1)],[]⟩,tdO as os ps bl,0,0,fun _ _ => .ok (.ret (.bool r)),fun _ _ => tdO as os ps bl,fun _ _ => []⟩⟩
theorem refsL_get (as : List Nat) : ∀ (m off j : Nat),j < m → (refsL as off m)[j]? = some (.ref (A as (off + j)))
 | 0,_,_,h => absurd h (Nat.not_lt_zero _)
 | m + 1,off,0,_ => rfl
 | m + 1,off,j + 1,h => by
  show (refsL as (off + 1) m)[j]? = _
  rw [refsL_get as m (off + 1) j (by omega),show off + 1 + j = off + (j + 1) by omega]
theorem refsL_len (as : List Nat) : ∀ (m off : Nat),(refsL as off m).length = m
 | 0,_ => rfl
 | m + 1,off => congrArg (· + 1) (refsL_len as m (off + 1))
theorem tupL_get (os : List Obj) : ∀ (ps : List (Int × Int)) (off j : Nat) (p : Int × Int),ps[j]? = some p → (tupL os off ps)[j]? = some (tuPO os (off + j) p)
 | [],_,_,_,h => by simp at h
 | q :: r,off,0,p,h => by simp at h; subst h; rfl
 | q :: r,off,j + 1,p,h => by
  show (tupL os (off + 1) r)[j]? = _
  rw [tupL_get os r (off + 1) j p (by simpa using h),show off + 1 + j = off + (j + 1) by omega]
theorem tupL_len (os : List Obj) : ∀ (ps : List (Int × Int)) (off : Nat),(tupL os off ps).length = ps.length
 | [],_ => rfl
 | q :: r,off => congrArg (· + 1) (tupL_len os r (off + 1))
theorem A_get {as : List Nat} {j : Nat} (h : j < as.length) : as[j]? = some (A as j) := by
 unfold A
 simp [h]
theorem tdI_get {as : List Nat} {off m : Nat} {bl : Bool} {j : Nat} (h : j < m) : (tdI as off m bl)[j]? = some (.ref (A as (off + j))) := by
 unfold tdI
 rw [List.getElem?_toArray,List.getElem?_append_left (by rw [refsL_len]; exact h),refsL_get as m off j h]
theorem tdI_last {as : List Nat} {off m : Nat} {bl : Bool} : (tdI as off m bl)[m]? = some (.bool bl) := by
 unfold tdI
 rw [List.getElem?_toArray,List.getElem?_append_right (by rw [refsL_len]; exact Nat.le_refl _),refsL_len,Nat.sub_self]
 rfl
theorem tdI_size {as : List Nat} {off m : Nat} {bl : Bool} : (tdI as off m bl).size = m + 1 := by
 unfold tdI
 simp [refsL_len]
theorem getD_some {xs : Array Value} {j : Nat} (h : j < xs.size) {v : Value} (e : xs[j]? = some v) : xs[j] = v := by
 rw [Array.getElem?_eq_getElem h] at e
 exact Option.some.inj e
theorem td_eqs {R : Around} {s : Shared} {as : List Nat} {os : List Obj} {ps : List (Int × Int)} {bl : Bool} (hu : R.units < cLine) (hown : Own s.heap as (tdO as os ps bl)) (hnd : as.Nodup) :
   ∀ j (h1 : j < (tdI as 2 ps.length bl).size) (h2 : j < (tdI as (2 + ps.length) ps.length bl).size),SeqAt.EqAt R s (tdI as 2 ps.length bl)[j] (tdI as (2 + ps.length) ps.length bl)[j] true := fun j h1 h2 => by
 have hlen : as.length = 2 + (ps.length + ps.length) := by
   rw [hown.length]
   show ((tupL os 2 ps ++ tupL os (2 + ps.length) ps).length + 1) + 1 = _
   rw [List.length_append,tupL_len,tupL_len]
   omega
 rw [tdI_size] at h1
 by_cases hj : j < ps.length
 · rw [getD_some _ (tdI_get (as := as) (off := 2) (bl := bl) hj),getD_some _ (tdI_get (as := as) (off := 2 + ps.length) (bl := bl) hj)]
   obtain ⟨p,hp⟩ : ∃ p,ps[j]? = some p := ⟨ps[j],by simp [hj]⟩
   have o1 : s.heap.get? (A as (2 + j)) = some (tuPO os (2 + j) p) := hown.get (A_get (by omega)) (by
    show (_ :: _ :: (tupL os 2 ps ++ tupL os (2 + ps.length) ps))[2 + j]? = _
    rw [show 2 + j = j + 1 + 1 by omega,List.getElem?_cons_succ,List.getElem?_cons_succ,List.getElem?_append_left (by rw [tupL_len]; exact hj),tupL_get os ps 2 j p hp,show 2 + j = j + 1 + 1 by omega])
   have o2 : s.heap.get? (A as (2 + ps.length + j)) = some (tuPO os (2 + ps.length + j) p) := hown.get (A_get (by omega)) (by
    show (_ :: _ :: (tupL os 2 ps ++ tupL os (2 + ps.length) ps))[2 + ps.length + j]? = _
    rw [show 2 + ps.length + j = ps.length + j + 1 + 1 by omega,List.getElem?_cons_succ,List.getElem?_cons_succ,List.getElem?_append_right (by rw [tupL_len]; omega),tupL_len,Nat.add_sub_cancel_left,tupL_get os ps (2 + ps.length) j p hp,show 2 + ps.length + j = ps.length + j + 1 + 1 by omega])
   have hne : A as (2 + j) ≠ A as (2 + ps.length + j) := fun e => by
    have := nodup_get hnd (A_get (as := as) (j := 2 + j) (by omega)) (by rw [e]; exact A_get (by omega))
    omega
   refine SeqAt.EqAt.of_refs hne ?_
   have z := SeqAt.RcAt.tuples (A := R) (s := s) (items := #[.int p.1 (tT os (2 + j) 0),.int p.2 (tT os (2 + j) 1)]) (items2 := #[.int p.1 (tT os (2 + ps.length + j) 0),.int p.2 (tT os (2 + ps.length + j) 1)]) (e := fun _ => true) ⟨_,o1,rfl,_,rfl⟩ ⟨_,o2,rfl,_,rfl⟩ hu fun i i1 i2 => by
    have i1 : i < 2 := i1
    have : i = 0 ∨ i = 1 := by omega
    rcases this with rfl | rfl
    · have z := SeqAt.EqAt.int_int (A := R.in1) (s := s) p.1 (tT os (2 + j) 0) p.1 (tT os (2 + ps.length + j) 0)
      rw [beq_self_eq_true] at z
      exact z
    · have z := SeqAt.EqAt.int_int (A := R.in1) (s := s) p.2 (tT os (2 + j) 1) p.2 (tT os (2 + ps.length + j) 1)
      rw [beq_self_eq_true] at z
      exact z
   exact z
 · have : j = ps.length := by omega
   subst this
   rw [getD_some _ (tdI_last (as := as) (off := 2) (bl := bl)),getD_some _ (tdI_last (as := as) (off := 2 + ps.length) (bl := bl))]
   have z := SeqAt.EqAt.bool_bool (A := R) (s := s) bl bl
   rw [beq_self_eq_true] at z
   exact z
theorem tdNe_ok (w : World) (kt : KT) (ps : List (Int × Int)) (bl : Bool) : Ctr (model prog w) kt (tdC "list.__ne__" false ps bl) := fun bw c as os _ _ _ _ =>
 ctr_any fun R s hd hu hh hg hst hown hnd => by
  have hown : Own s.heap as (tdO as os ps bl) := hown
  refine codeAny_builtin PySem.F.entry_list_ne ?_
  rw [Around.under_plainId (by decide +kernel)]
  refine SeqAt.list_neAt (A as 0) (A as 1) _ _ _ _ _ _ _ _ (by rw [tdI_size,tdI_size]) (fun _ => true) prog w R _ s ⟨hown.get (A_get (by have := hown.length; rw [this]; simp [tdO])) rfl,hown.get (A_get (by have := hown.length; rw [this]; simp [tdO])) rfl,td_eqs (by first | exact Nat.lt_of_le_of_lt hu (by decide) | (show _ < cLine; have : R.units ≤ 9000 := hu; show R.in1.units < 9900; simp [Around.in1]; omega)) hown hnd,?_⟩
  have e : (!(List.range (tdI as 2 ps.length bl).size).all fun _ => true) = false := by simp
  rw [e]
  exact ⟨[],[],rfl,rfl,List.nodup_nil,fun _ h => (nomatch h),rfl,hown,trivial,.toks s s.toks _⟩
theorem tdEq_ok (w : World) (kt : KT) (ps : List (Int × Int)) (bl : Bool) : Ctr (model prog w) kt (tdC "list.__eq__" true ps bl) := fun bw c as os _ _ _ _ =>
 ctr_any fun R s hd hu hh hg hst hown hnd => by
  have hown : Own s.heap as (tdO as os ps bl) := hown
  refine codeAny_builtin PySem.F.entry_list_eq ?_
  rw [Around.under_plainId (by decide +kernel)]
  refine SeqAt.list_eqAt (A as 0) (A as 1) _ _ _ _ _ _ _ _ (by rw [tdI_size,tdI_size]) (fun _ => true) prog w R _ s ⟨hown.get (A_get (by have := hown.length; rw [this]; simp [tdO])) rfl,hown.get (A_get (by have := hown.length; rw [this]; simp [tdO])) rfl,td_eqs (by first | exact Nat.lt_of_le_of_lt hu (by decide) | (show _ < cLine; have : R.units ≤ 9000 := hu; show R.in1.units < 9900; simp [Around.in1]; omega)) hown hnd,?_⟩
  have e : ((List.range (tdI as 2 ps.length bl).size).all fun _ => true) = true := by simp
  rw [e]
  exact ⟨[],[],rfl,rfl,List.nodup_nil,fun _ h => (nomatch h),rfl,hown,trivial,.toks s s.toks _⟩
noncomputable def inL (k : Nat) : CF := ⟨990,9800,false,false,(fun b => b),none,fun c as os =>
  ⟨.builtin "list.__init__" ⟨[.ref (A as 0),.ref (A as 1)],[]⟩,[liO #[] 0,liO (vsL os 1 k) (oE os 1)],0,0,fun _ tk => .ok (.ret .none),fun _ _ => [liO (vsL os 1 k) 1,liO (vsL os 1 k) (oE os 1)],fun _ _ => []⟩⟩
theorem inL_ok (w : World) (kt : KT) (k : Nat) (hk : 0 < k ∧ k ≤ 100) : Ctr (model prog w) kt (inL k) := fun bl c as os _ _ _ _ =>
 ctr_any fun R s hd hu hh hg hst hown hnd => by
  obtain ⟨a,b,rfl,ha,hb⟩ := two_own hown
  have hz := vsL_size os 1 k
  refine codeAny_builtin PySem.F.entry_list_init ?_
  rw [Around.under_plainId (by decide +kernel)]
  have hab : b ≠ a := by
    intro e; subst e; simp at hnd
  have ha : s.heap.get? a = some { cls := .type "list",data := .seq #[] } := ha
  have hb : s.heap.get? b = some (liO (vsL os 1 k) (oE os 1)) := hb
  have hl : sizeLine ≥ 1000 := by decide
  refine wpAny_list_init_seq (T := "list") (items := vsL os 1 k) (n := oE os 1) a b (.inl rfl) hab ha hb rfl rfl ?_ (by rw [hz]; omega)
  have z1 : (s.heap.update a (Obj.mapSeq fun _ => (#[] : Array Value))).get? a = some (liO #[] 0) := Heap.get?_update_self _ ha rfl
  have z2 : ((s.heap.update a (Obj.mapSeq fun _ => (#[] : Array Value))).update a (Obj.mapSeq (· ++ vsL os 1 k))).get? a = some (Obj.mapSeq (· ++ vsL os 1 k) (liO #[] 0)) := Heap.get?_update_self _ z1 rfl
  refine ⟨[],[],rfl,rfl,List.nodup_nil,fun _ h => (nomatch h),rfl,⟨?_,?_,trivial⟩,trivial,?_⟩
  · refine z2.trans (congrArg some ?_)
    show (⟨.type "list",none,.seq (#[] ++ vsL os 1 k) (if ((#[] ++ vsL os 1 k : Array Value).size == (#[] : Array Value).size) = true then 0 else 0 + 1),#[]⟩ : Obj) = _
    have h2 : ((#[] ++ vsL os 1 k : Array Value).size == (#[] : Array Value).size) = false := by
     rw [Array.empty_append,hz]
     simp
     omega
    rw [h2]
    show (⟨.type "list",none,.seq (#[] ++ vsL os 1 k) (0 + 1),#[]⟩ : Obj) = _
    rw [Array.empty_append]
    rfl
  · exact (Heap.get?_update_other _ _ hab.symm).trans ((Heap.get?_update_other _ _ hab.symm).trans hb)
  · refine ⟨fun y o e hy => ?_,by show _ ≤ ((s.heap.update a _).update a _).objs.size; rw [size_update,size_update]; exact Nat.le_refl _,rfl,rfl⟩
    have hya : a ≠ y := fun q => hy (by rw [← q]; exact List.mem_cons_self ..)
    exact (Heap.get?_update_other _ _ hya).trans ((Heap.get?_update_other _ _ hya).trans e)
noncomputable def strsL (os : List Obj) (j : Nat) : Nat → List Str → List Value
 | _,[] => []
 | i,x :: r => .str x (tT os j i) :: strsL os j (i + 1) r
theorem strsL_len (os : List Obj) (j : Nat) : ∀ (ws : List Str) (i : Nat),(strsL os j i ws).length = ws.length
 | [],_ => rfl
 | x :: r,i => congrArg (· + 1) (strsL_len os j r (i + 1))
theorem strsL_get (os : List Obj) (j : Nat) : ∀ (ws : List Str) (i n : Nat) (x : Str),ws[n]? = some x → (strsL os j i ws)[n]? = some (.str x (tT os j (i + n)))
 | [],_,_,_,h => by simp at h
 | y :: r,i,0,x,h => by simp at h; subst h; rfl
 | y :: r,i,n + 1,x,h => by
  show (strsL os j (i + 1) r)[n]? = _
  rw [strsL_get os j r (i + 1) n x (by simpa using h),show i + 1 + n = i + (n + 1) by omega]
noncomputable def skC (ws : List Str) : CF := ⟨900,9000,false,false,(fun b => b),none,fun c as os =>
  ⟨.builtin "list.__ne__" ⟨[.ref (A as 0),.ref (A as 1)],[]⟩,[liO (strsL os 0 0 ws).toArray (oE os 0),liO (strsL os 1 0 ws).toArray (oE os 1)],0,0,fun _ _ => .ok (.ret (.bool false)),fun _ _ => [liO (strsL os 0 0 ws).toArray (oE os 0),liO (strsL os 1 0 ws).toArray (oE os 1)],fun _ _ => []⟩⟩
theorem strsA_get {os : List Obj} {j n : Nat} {ws : List Str} {x : Str} (h : ws[n]? = some x) : (strsL os j 0 ws).toArray[n]? = some (.str x (tT os j n)) := by
  rw [List.getElem?_toArray,strsL_get os j ws 0 n x h,Nat.zero_add]
theorem strsA_size {os : List Obj} {j : Nat} {ws : List Str} : (strsL os j 0 ws).toArray.size = ws.length := by
  rw [List.size_toArray,strsL_len]
theorem skC_ok (w : World) (kt : KT) (ws : List Str) : Ctr (model prog w) kt (skC ws) := fun bw c as os _ _ _ _ =>
 ctr_any fun R s hd hu hh hg hst hown hnd => by
  obtain ⟨a,b,rfl,ha,hb⟩ := two_own hown
  refine codeAny_builtin PySem.F.entry_list_ne ?_
  rw [Around.under_plainId (by decide +kernel)]
  refine SeqAt.list_neAt a b _ _ _ _ _ _ _ _ (by rw [strsA_size,strsA_size]) (fun _ => true) prog w R _ s ⟨ha,hb,fun j h1 h2 => ?_,?_⟩
  · have h1' := h1
    rw [strsA_size] at h1'
    obtain ⟨x,hx⟩ : ∃ x,ws[j]? = some x := ⟨ws[j],by simp [h1']⟩
    rw [getD_some h1 (strsA_get hx),getD_some h2 (strsA_get hx)]
    have z := SeqAt.EqAt.str_str (A := R.in1) (s := s) x (tT os 0 j) x (tT os 1 j)
    rw [beq_self_eq_true] at z
    exact z
  · have e : (!(List.range (strsL os 0 0 ws).toArray.size).all fun _ => true) = false := by simp
    rw [e]
    exact ⟨[],[],rfl,rfl,List.nodup_nil,fun _ h => (nomatch h),rfl,⟨ha,hb,trivial⟩,trivial,.toks s s.toks _⟩
noncomputable def slX (b : Array UInt8) (lo hi : Option Int) (r : Array UInt8) : CF := ⟨990,9800,false,false,(fun b => b),none,fun c as os =>
  ⟨.builtin "bytes.__getitem__" ⟨[.bytes b (tokV (argOf c 0)),.ref (A as 0)],[]⟩,[slO lo hi (fldT (os.getD 0 default) 0) (fldT (os.getD 0 default) 1)],0,1,fun _ tk => .ok (.ret (.bytes r (A tk 0))),fun _ _ => [slO lo hi (fldT (os.getD 0 default) 0) (fldT (os.getD 0 default) 1)],fun _ _ => []⟩⟩
theorem slX_ok (w : World) (kt : KT) (b : Array UInt8) (lo hi : Option Int) (r : Array UInt8) (hb : b.size ≤ 1000) (hr : KBy.picked b lo hi = r) : Ctr (model prog w) kt (slX b lo hi r) := by
 subst hr
 exact slC_ok w kt b lo hi hb
noncomputable def tdO2 (as : List Nat) (os : List Obj) (ps qs : List (Int × Int)) (bl : Bool) : List Obj :=
  ⟨.type "list",none,.seq (tdI as 2 ps.length bl) (oE os 0),#[]⟩ :: ⟨.type "list",none,.seq (tdI as (2 + ps.length) qs.length bl) (oE os 1),#[]⟩ :: (tupL os 2 ps ++ tupL os (2 + ps.length) qs)
noncomputable def tdC2 (nm : String) (r : Bool) (ps qs : List (Int × Int)) (bl : Bool) : CF := ⟨900,9000,false,false,(fun b => b),none,fun c as os =>
  ⟨.builtin nm ⟨[.ref (A as 0),.ref (A as 1)],[]⟩,tdO2 as os ps qs bl,0,0,fun _ _ => .ok (.ret (.bool r)),fun _ _ => tdO2 as os ps qs bl,fun _ _ => []⟩⟩
theorem tdNe2 (w : World) (kt : KT) (ps qs : List (Int × Int)) (bl : Bool) (h : ps = qs) : Ctr (model prog w) kt (tdC2 "list.__ne__" false ps qs bl) := by
 subst h
 exact tdNe_ok w kt ps bl
theorem tdEq2 (w : World) (kt : KT) (ps qs : List (Int × Int)) (bl : Bool) (h : ps = qs) : Ctr (model prog w) kt (tdC2 "list.__eq__" true ps qs bl) := by
 subst h
 exact tdEq_ok w kt ps bl
theorem ad5 {l1 l2 wd : Array UInt8} (h1 : l1.size ≤ 100) (h2 : l2.size ≤ 100) (h3 : wd.size ≤ 100) :
  (#[40] : Array UInt8).size + l1.size ≤ 1000 ∧ (#[40] ++ l1 : Array UInt8).size + (#[41,32,40] : Array UInt8).size ≤ 1000 ∧ ((#[40] ++ l1) ++ #[41,32,40] : Array UInt8).size + l2.size ≤ 1000 ∧
  (((#[40] ++ l1) ++ #[41,32,40]) ++ l2 : Array UInt8).size + (#[41,32] : Array UInt8).size ≤ 1000 ∧ ((((#[40] ++ l1) ++ #[41,32,40]) ++ l2) ++ #[41,32] : Array UInt8).size + wd.size ≤ 1000 := by
 simp only [Array.size_append,List.size_toArray,List.length_cons,List.length_nil]
 omega
theorem ad4 {p0 p1 l3 wd : Array UInt8} (h0 : p0.size ≤ 20) (h1 : p1.size ≤ 20) (h2 : l3.size ≤ 100) (h3 : wd.size ≤ 100) :
  p0.size + p1.size ≤ 1000 ∧ (p0 ++ p1 : Array UInt8).size + (#[40] : Array UInt8).size ≤ 1000 ∧ ((p0 ++ p1) ++ #[40] : Array UInt8).size + l3.size ≤ 1000 ∧ (((p0 ++ p1) ++ #[40]) ++ l3 : Array UInt8).size + wd.size ≤ 1000 := by
 simp only [Array.size_append,List.size_toArray,List.length_cons,List.length_nil]
 omega
theorem lawQ2 {os : List Obj} {ns zs : List Int} (n : Nat) (hpre : Vals (seqO (os.getD 1 default)) ns ∧ zs = ns.take 60) : ∀ (ad tk : Nat → Nat),∀ x ∈ List.replicate n ((Vals (tokA (cutZ zs) (tk 2) (tk 3)) (cutZ zs) : Prop),Ob.q True) ++ [(Vals (seqO (os.getD 1 default)) ns ∧ zs = ns.take 60,.q True)],x.1 ∧ x.2 = .q True := fun _ tk x hx => by
 rcases List.mem_append.mp hx with hx | hx
 · rw [List.eq_of_mem_replicate hx]
   exact ⟨tokA_vals _ _ _,rfl⟩
 · rw [List.mem_singleton.mp hx]
   exact ⟨hpre,rfl⟩
noncomputable def LW (P : Params) (ns zs : List Int) : CF := ⟨650,6500,true,true,fun l => [shB "claim.caller" (nth' l 0)],some (fun os => Vals (seqO (os.getD 1 default)) ns ∧ zs = ns.take 60),fun c as os =>
 { code := .call (.ref 1853) ⟨[.ref (A as 1)],[]⟩
   own := [pinO (A as 0) ⟨.none,none,.fields #[],#[]⟩,
    liO (seqO (os.getD 1 default)) (epO (os.getD 1 default))]
   nn := 6,nt := 7
   res := fun ad tk => .ok (.ret (.bool true))
   upd := fun ad tk => [pinO (A as 0) ⟨.none,none,.fields #[.int 962 0,.int 4 0,.ref (A ad 0)],#[]⟩,
    liO (seqO (os.getD 1 default)) (epO (os.getD 1 default))]
   new := fun ad tk => [⟨.type "code",none,.fields #[.str t561 (A tk 0),.str t562 (A tk 1),.str t166 (A tk 2),.int 962 0,.int 1 0,.int 0 0,.int 0 0,.int 19 0,.ref (A ad 1),.bool true,.int 181 0,.ref (A ad 2),.none,.ref (A ad 3),.ref (A ad 4),.ref (A ad 5),.int (Int.ofNat (A tk 3)) 0,.int 962 0,.str t166 (A tk 4)],#[]⟩,
    ⟨.type "tuple",none,.seq #[.str t559 (A tk 5)] 0,#[]⟩,
    ⟨.none,none,.fields #[],#[]⟩,
    ⟨.type "tuple",none,.seq #[.str t489 (A tk 6)] 0,#[]⟩,
    ⟨.type "tuple",none,.seq #[] 0,#[]⟩,
    ⟨.none,none,.func (F [137,0] t561 t562 0 [] .none .none .none .none none .none .none 0),#[]⟩] }⟩
noncomputable def eQ (V : Cfg) (hs : List Hint) (C : CF) (n k : Nat) (keep kept : List Nat) (ad : Nat → Nat) (Q : List (Prop × Ob)) (z : Z) : Option (Result × List Obj × List Obj × List Ob × List (Prop × Ob)) :=
  some ((C.F z.c (span ad 0 k) z.os).res (keep.map ad) (kept.map z.tk),(C.F z.c (span ad 0 k) z.os).upd (keep.map ad) (kept.map z.tk),(C.F z.c (span ad 0 k) z.os).new (keep.map ad) (kept.map z.tk),accR (sim V ad z.tk n hs (gZ C k ad z) z.p (V.den (C.F z.c (span ad 0 k) z.os).code) [] (bt (C.F z.c (span ad 0 k) z.os).own) k 0 []),Q)
noncomputable def qL (r : Nat) (ns zs : List Int) (z : Z) : List (Prop × Ob) := List.replicate r ((Vals (tokA (cutZ zs) (z.tk 2) (z.tk 3)) (cutZ zs) : Prop),Ob.q True) ++ [(Vals (seqO (z.os.getD 1 default)) ns ∧ zs = ns.take 60,.q True)]
theorem sL {w : World} {b' : Bool} {ns zs : List Int} (r : Nat) (hs : HL (MB w b') (V (PB w b')).kt) (keep kept : List Nat)
  (h : ∀ z : Z,eL (VXm w b') hs.1 (LW (PB w b') ns zs) 14000 2 keep (pin z.ad) z = eQ (VXm w b') hs.1 (LW (PB w b') ns zs) 14000 2 keep kept (pin z.ad) (qL r ns zs z) z := by intro _; kernel_rfl)
  (hn : 6 = keep.length := by rfl) (ht : 7 = kept.length := by rfl) (hkn : keep.Nodup := by decide) (hkk : keep.all (Nat.ble 2) = true := by rfl) : Ct w b' (LW (PB w b') ns zs) := fun bl c as os hB hpre _ _ => by
 have hpre : Vals (seqO (os.getD 1 default)) ns ∧ zs = ns.take 60 := hpre
 refine pin_by (A as 0) rfl (fun hpin => ?_)
 refine segQ (V := VXm w b') (VXm_ok w b') 14000 2 hs.1 hs.2 keep (fun tk => kept.map tk) (fun _ tk => List.replicate r ((Vals (tokA (cutZ zs) (tk 2) (tk 3)) (cutZ zs) : Prop),Ob.q True) ++ [(Vals (seqO (os.getD 1 default)) ns ∧ zs = ns.take 60,.q True)]) (lawQ2 r hpre) rfl hn (fun _ => by rw [List.length_map]; exact ht.symm) hkn hkk ?_
 intro ad tk Γ p hA hc hbl hcalm
 subst hA
 obtain ⟨ad',rfl⟩ := pin_ad ad hpin
 obtain ⟨code,hd,ow,blw,past⟩ := Γ
 have hbl' : blw = (LW (PB w b') ns zs).B bl := (hbl : blw = bl).trans hB.symm
 clear hbl
 cases hc
 cases hcalm rfl
 subst hbl'
 exact h ⟨ad',tk,none,ow,past,p,c,os,bl⟩
theorem p1 {a b c d : Int} (h1 : a = c) (h2 : b = d) : [(a,b)] = [(c,d)] := by subst h1 h2; rfl
theorem p2 {a b c d a' b' c' d' : Int} (h1 : a = c) (h2 : b = d) (h3 : a' = c') (h4 : b' = d') : [(a,b),(a',b')] = [(c,d),(c',d')] := by subst h1 h2 h3 h4; rfl
theorem p3 {a b c d a' b' c' d' a'' b'' c'' d'' : Int} (h1 : a = c) (h2 : b = d) (h3 : a' = c') (h4 : b' = d') (h5 : a'' = c'') (h6 : b'' = d'') : [(a,b),(a',b'),(a'',b'')] = [(c,d),(c',d'),(c'',d'')] := by subst h1 h2 h3 h4 h5 h6; rfl
theorem hpF (a b j : Int) : ([((0 + (j + b)),(a - (j + b))),((0 + j),b),((0 + 0),j)] : List (Int × Int)) = [(((0 + j) + b),((a - j) - b)),((0 + j),b),(0,j)] := p3 (by omega) (by omega) rfl rfl rfl rfl
theorem hpA (a b : Int) : ([((0 + b),(a - b)),((0 + 0),b)] : List (Int × Int)) = [(((0 + 0) + b),((a - 0) - b)),((0 + 0),b)] := p2 (by omega) (by omega) rfl rfl
theorem hpS (s j c o : Int) : ([(((0 + s) + (j + c)),(o - (j + c))),(((0 + s) + j),c),(((0 + s) + 0),j)] : List (Int × Int)) = [(((s + j) + c),((o - j) - c)),((s + j),c),(s,j)] := p3 (by omega) (by omega) (by omega) rfl (by omega) rfl
theorem hpT (s j c o : Int) : ([((s + (j + c)),(o - (j + c))),((s + j),c),((s + 0),j)] : List (Int × Int)) = [(((s + j) + c),((o - j) - c)),((s + j),c),(s,j)] := p3 (by omega) (by omega) rfl rfl (by omega) rfl
noncomputable def pfx {w : World} {b' : Bool} {ns zs : List Int} (hdk : Ct w b' (dkC (PB w b') ns zs)) (r : HL (MB w b') (V (PB w b')).kt) : HL (MB w b') (V (PB w b')).kt := Ye (j205 []) <| Yc [1] hdk <| Ye (j7 []) <| Yc [] (limC_ok _ _) <| Ye (j0 []) <| Yc [6,7] (smaC_ok _ _) <| Ye (j208 []) <| Yc [53,52,8,9,17,10,21,18,26,36,42,45] (insC_ok _ _) <| Ye (j230 []) <| r
noncomputable def ch5 {w : World} {b' : Bool} (l1 l2 wd : Array UInt8) (hz1 : l1.size ≤ 100) (hz2 : l2.size ≤ 100) (hw : wd.size ≤ 100) (r : HL (MB w b') (V (PB w b')).kt) : HL (MB w b') (V (PB w b')).kt := YD [] (addC (#[40]) (l1)) (addC_ok _ _ _ _ (ad5  hz1 hz2 hw).1) <| YD [] (addC (#[40] ++ l1) (#[41,32,40])) (addC_ok _ _ _ _ (ad5  hz1 hz2 hw).2.1) <| Ye [8] <| YD [] (addC ((#[40] ++ l1) ++ #[41,32,40]) (l2)) (addC_ok _ _ _ _ (ad5  hz1 hz2 hw).2.2.1) <| YD [] (addC (((#[40] ++ l1) ++ #[41,32,40]) ++ l2) (#[41,32])) (addC_ok _ _ _ _ (ad5  hz1 hz2 hw).2.2.2.1) <| Ye [8] <| YD [] (addC ((((#[40] ++ l1) ++ #[41,32,40]) ++ l2) ++ #[41,32]) (wd)) (addC_ok _ _ _ _ (ad5  hz1 hz2 hw).2.2.2.2) <| r
noncomputable def ch4 {w : World} {b' : Bool} (p0 p1 l3 wd : Array UInt8) (h0 : p0.size ≤ 20) (h1 : p1.size ≤ 20) (hz3 : l3.size ≤ 100) (hw : wd.size ≤ 100) (r : HL (MB w b') (V (PB w b')).kt) : HL (MB w b') (V (PB w b')).kt := YD [] (addC (p0) (p1)) (addC_ok _ _ _ _ (ad4 h0 h1 hz3 hw).1) <| YD [] (addC (p0 ++ p1) (#[40])) (addC_ok _ _ _ _ (ad4 h0 h1 hz3 hw).2.1) <| Ye [8] <| YD [] (addC ((p0 ++ p1) ++ #[40]) (l3)) (addC_ok _ _ _ _ (ad4 h0 h1 hz3 hw).2.2.1) <| YD [] (addC (((p0 ++ p1) ++ #[40]) ++ l3) (wd)) (addC_ok _ _ _ _ (ad4 h0 h1 hz3 hw).2.2.2) <| r
variable (w : World) (b' : Bool)
theorem X0_ok (ns zs : List Int) (hdk : Ct w b' (dkC (PB w b') ns zs)) (hd0 : Ct w b' (drC (PB w b') sh1 (cutZ zs) 0 5 4)) (hd1 : Ct w b' (drC (PB w b') sh1 (cutZ zs) 1 6 0)) : Ct w b' (LW (PB w b') ns zs) :=
 sL 2 (pfx hdk <| Yc [4,5] hd0 <| Ye (j409 []) <| Yc [4,5] hd1 <| Ye (j452 (j254 (j453 []))) <| YC [87,86,13,24] (tk7 (PB w b') #[55,32,115,101,97,114,99,104] 0) (tk7_ok _ _ _ _ 0 rfl (by decide) rfl (by first | rfl | decide)) <| Ye (j406 []) <| YC [87,86,13,24] (tkSI (PB w b') #[55,32,115,101,97,114,99,104] 2) (tkSI_ok _ _ _ _ 2 rfl (by decide) rfl rfl rfl rfl rfl rfl (by first | rfl | decide)) <| Ye (j397 (128 :: j27 (j391 (j160 (129 :: j191 (130 :: j220 (131 :: j460 (131 :: j1 (132 :: j46 (j391 (j148 (133 :: j218 [])))))))))))) <| Yc [12,23,34,20,28,38,44,47,128,19,27,37,43,46,18,26,36,42,45,55,57,59,54] (fdS_ok _ _) <| Ye (131 :: j6 (135 :: j12 (129 :: j3 (j227 (j160 (136 :: j351 (137 :: j351 (138 :: j425 (j227 (5 :: [])))))))))) <| Yd [17] (bGet2_k _ _ 0 (by decide)) <| Ye (138 :: j438 (139 :: j424 [])) <| Yd [134,33] (iaC_ok _ _ 1 (by decide)) <| Ye (j405 (j6 (138 :: j441 (142 :: j314 (143 :: j76 (144 :: j76 (145 :: j436 (146 :: j418 (145 :: j299 (148 :: j422 (149 :: j430 (150 :: j417 (14904 :: 145 :: 2 :: 144 :: 2 :: 143 :: 2 :: 138 :: 2 :: 137 :: 2 :: 136 :: 2 :: 129 :: 2 :: 128 :: 2 :: 120 :: 2 :: 119 :: j468 (14904 :: 2 :: 148 :: j3 (151 :: j112 (14804 :: 144 :: j67 (152 :: j112 (14704 :: 143 :: j67 (153 :: j112 (j318 (j67 (154 :: j423 (138 :: j1 (155 :: j98 (156 :: j3 []))))))))))))))))))))))))) <| Yd [150,135] (inC_ok _ _ 1 (by decide)) <| Ye (155 :: j447 (138 :: j66 (157 :: j121 (148 :: j263 (154 :: 2 :: j457 (j318 (j289 (158 :: j293 (14104 :: 137 :: j67 (159 :: j112 (14004 :: 136 :: j67 (160 :: j112 (13304 :: 129 :: j67 (161 :: j112 (13204 :: 128 :: j67 (162 :: j112 (12404 :: 120 :: j67 (163 :: j112 (j454 (j67 (164 :: j463 (148 :: j263 (164 :: 2 :: j457 (j454 (j289 (165 :: j414 (166 :: j462 (167 :: j411 (168 :: j464 (150 :: j431 (j392 (j440 (j392 (j271 (8 :: j392 (j271 [])))))))))))))))))))))))))))))))))))) <| Yn) [105,100,101,102,103,104] [248,249,250,253,254,251,252]
theorem X1_ok (ns zs : List Int) (hdk : Ct w b' (dkC (PB w b') ns zs)) (hd0 : Ct w b' (drC (PB w b') sh1 (cutZ zs) 0 5 4)) (hd1 : Ct w b' (drC (PB w b') sh1 (cutZ zs) 1 6 1)) : Ct w b' (LW (PB w b') ns zs) :=
 sL 2 (pfx hdk <| Yc [4,5] hd0 <| Ye (j409 []) <| Yc [4,5] hd1 <| Ye (j452 (79 :: j6 (j453 []))) <| YC [87,86,13,24] (tk7 (PB w b') #[55,32,97,110,99,104,111,114,115,101,97,114,99,104] 0) (tk7_ok _ _ _ _ 0 rfl (by decide) rfl (by first | rfl | decide)) <| Ye (j406 []) <| YC [87,86,13,24] (tkAI (PB w b') #[55,32,97,110,99,104,111,114,115,101,97,114,99,104] 2) (tkAI_ok _ _ _ _ 2 rfl (by decide) rfl rfl rfl rfl rfl rfl rfl rfl rfl rfl rfl rfl (by first | rfl | decide)) <| Ye (j397 (128 :: j27 (j391 (j160 (129 :: j191 (130 :: j220 (131 :: j460 (131 :: j1 (132 :: j46 (j391 (j148 (133 :: j218 [])))))))))))) <| Yc [12,23,34,20,28,38,44,47,128,19,27,37,43,46,18,26,36,42,45,55,57,59,56] (fdA_ok _ _) <| Ye (131 :: j6 (135 :: j12 (129 :: j325 (j354 (j160 (136 :: j27 (j451 (j269 (137 :: j27 (j451 (j269 (138 :: j425 (j451 (5 :: [])))))))))))))) <| Yd [17] (bGet2_k _ _ 1 (by decide)) <| Ye (138 :: j438 (139 :: j424 [])) <| Yd [134,33] (iaC_ok _ _ 1 (by decide)) <| Ye (j405 (j6 (138 :: j441 (142 :: j314 (143 :: j76 (144 :: j76 (145 :: j436 (146 :: j418 (145 :: j299 (148 :: j422 (149 :: j430 (150 :: j417 (14904 :: 145 :: 2 :: 144 :: 2 :: 143 :: 2 :: 138 :: 2 :: 137 :: 2 :: 136 :: 2 :: 129 :: 2 :: 128 :: 2 :: 120 :: 2 :: 119 :: j468 (14904 :: 2 :: 148 :: j3 (151 :: j112 (14804 :: 144 :: j67 (152 :: j112 (14704 :: 143 :: j67 (153 :: j112 (j318 (j67 (154 :: j423 (138 :: j1 (155 :: j98 (156 :: j3 []))))))))))))))))))))))))) <| Yd [150,135] (inC_ok _ _ 1 (by decide)) <| Ye (155 :: j447 (138 :: j66 (157 :: j121 (148 :: j263 (154 :: 2 :: j457 (j318 (j289 (158 :: j293 (14104 :: 137 :: j67 (159 :: j112 (14004 :: 136 :: j67 (160 :: j112 (13304 :: 129 :: j67 (161 :: j112 (13204 :: 128 :: j67 (162 :: j112 (12404 :: 120 :: j67 (163 :: j112 (j454 (j67 (164 :: j463 (148 :: j263 (164 :: 2 :: j457 (j454 (j289 (165 :: j414 (166 :: j462 (167 :: j411 (168 :: j464 (150 :: j431 (j392 (j440 (j392 (j271 (8 :: j392 (j271 [])))))))))))))))))))))))))))))))))))) <| Yn) [105,100,101,102,103,104] [248,249,250,253,254,251,252]
theorem X2_ok (ns zs : List Int) (hdk : Ct w b' (dkC (PB w b') ns zs)) (hd0 : Ct w b' (drC (PB w b') sh1 (cutZ zs) 0 5 4)) (hd1 : Ct w b' (drC (PB w b') sh1 (cutZ zs) 1 6 2)) : Ct w b' (LW (PB w b') ns zs) :=
 sL 2 (pfx hdk <| Yc [4,5] hd0 <| Ye (j409 []) <| Yc [4,5] hd1 <| Ye (j452 (j330 (j453 []))) <| YC [87,86,13,24] (tk7 (PB w b') #[55,32,40,97,98,41,32,115,101,97,114,99,104] 0) (tk7_ok _ _ _ _ 0 rfl (by decide) rfl (by first | rfl | decide)) <| Ye (j406 []) <| YC [87,86,13,24,10,21,6,7,29,31] (tkS3 (PB w b') #[55,32,40,97,98,41,32,115,101,97,114,99,104] 2 6 3200 #[97,98]) (tkS3_ok _ _ _ _ _ 3200 _ 2 rfl (by decide) rfl (by decide) (by decide) (strI w b' _ (by decide) [97,98] 3 _ _ rfl rfl L97_98 (fun i hi => by have hi : i < 2 := hi; rcases i with _ | _ | i <;> first | rfl | omega) rfl (by decide))) <| Ye (j397 (134 :: j27 (j278 (128 :: j286 (135 :: j249 (135 :: j1 (136 :: j246 (135 :: j66 (137 :: j279 (138 :: j190 (139 :: j196 (140 :: j195 (140 :: j225 (142 :: j151 (141 :: j85 []))))))))))))))) <| YC [87,86,13,24] (tkSB (PB w b') #[55,32,40,97,98,41,32,115,101,97,114,99,104] 6) (tkSB_ok _ _ _ _ 6 rfl (by decide) rfl rfl rfl rfl rfl rfl rfl (by first | rfl | decide)) <| Ye (139 :: j197 (147 :: j27 (j400 (j160 (148 :: j191 (149 :: j220 (150 :: j460 (150 :: j1 (151 :: j46 (j400 (j148 (152 :: j218 [])))))))))))) <| Yc [12,23,34,20,28,38,44,47,147,19,27,37,43,46,18,26,36,42,45,55,57,59,54] (fdS_ok _ _) <| Ye (150 :: j6 (154 :: j12 (148 :: j3 (j227 (j160 (155 :: j351 (156 :: j351 (157 :: j425 (j227 (5 :: [])))))))))) <| Yd [17] (bGet2_k _ _ 0 (by decide)) <| Ye (157 :: j438 (158 :: j424 [])) <| Yd [153,33] (iaC_ok _ _ 2 (by decide)) <| Ye (159 :: 160 :: j6 (157 :: j441 (161 :: j314 (162 :: j76 (163 :: j76 (164 :: j436 (165 :: j418 (164 :: 163 :: j237 (166 :: j339 (163 :: j237 (167 :: j339 (168 :: j6 (169 :: j58 (171 :: 163 :: j12 (j278 (128 :: 4 :: j170 (j299 (173 :: j422 (174 :: j430 (175 :: j417 (16704 :: 163 :: 2 :: 162 :: 2 :: 157 :: 2 :: 156 :: 2 :: 155 :: 2 :: 148 :: 2 :: 147 :: 2 :: 139 :: 2 :: 138 :: j468 (16704 :: 2 :: 173 :: j3 (176 :: j112 (16604 :: 162 :: j67 (177 :: j112 (16104 :: 157 :: j67 (178 :: j423 (157 :: j1 (179 :: j98 (180 :: j3 [])))))))))))))))))))))))))))))) <| Yd [174,154] (inC_ok _ _ 2 (by decide)) <| Ye (179 :: j447 (157 :: j66 (181 :: j121 (173 :: j263 (178 :: 2 :: 17704 :: j294 (16104 :: 157 :: j289 (182 :: j293 (16004 :: 156 :: j67 (183 :: j112 (15904 :: 155 :: j67 (184 :: j112 (15204 :: 148 :: j67 (185 :: j112 (15104 :: 147 :: j67 (186 :: j112 (14304 :: 139 :: j67 (187 :: j112 (j318 (j67 (188 :: j463 (173 :: j263 (188 :: 2 :: 17704 :: j294 (j318 (j289 (189 :: j414 (190 :: j462 (191 :: j411 (192 :: j464 (175 :: j431 (j118 (180 :: j440 (j118 (180 :: j271 (8 :: j118 (180 :: j271 []))))))))))))))))))))))))))))))))))) <| Yn) [105,100,101,102,103,104] [248,249,250,253,254,251,252]
variable (w : World) (b' : Bool)
theorem X3_ok (ns zs : List Int) (hdk : Ct w b' (dkC (PB w b') ns zs)) (hd0 : Ct w b' (drC (PB w b') sh1 (cutZ zs) 0 5 4)) (hd1 : Ct w b' (drC (PB w b') sh1 (cutZ zs) 1 6 3)) : Ct w b' (LW (PB w b') ns zs) :=
 sL 2 (pfx hdk <| Yc [4,5] hd0 <| Ye (j409 []) <| Yc [4,5] hd1 <| Ye (j452 (82 :: j6 (j453 []))) <| YC [87,86,13,24] (tk7 (PB w b') #[55,32,40,97,98,41,32,49,32,115,101,97,114,99,104] 0) (tk7_ok _ _ _ _ 0 rfl (by decide) rfl (by first | rfl | decide)) <| Ye (j406 []) <| YC [87,86,13,24,10,21,6,7,29,31] (tkS3 (PB w b') #[55,32,40,97,98,41,32,49,32,115,101,97,114,99,104] 2 6 3200 #[97,98]) (tkS3_ok _ _ _ _ _ 3200 _ 2 rfl (by decide) rfl (by decide) (by decide) (strI w b' _ (by decide) [97,98] 3 _ _ rfl rfl L97_98 (fun i hi => by have hi : i < 2 := hi; rcases i with _ | _ | i <;> first | rfl | omega) rfl (by decide))) <| Ye (j397 (134 :: j27 (j278 (128 :: j286 (135 :: j249 (135 :: j1 (136 :: j246 (135 :: j66 (137 :: j279 (138 :: j190 (139 :: j196 (140 :: j195 (140 :: j225 (142 :: j151 (141 :: j85 []))))))))))))))) <| YC [87,86,13,24] (tk1 (PB w b') #[55,32,40,97,98,41,32,49,32,115,101,97,114,99,104] 6) (tk1_ok _ _ _ _ 6 rfl (by decide) rfl rfl (by first | rfl | decide)) <| Ye (139 :: j197 (147 :: j27 (j400 (j286 (148 :: j249 (148 :: j1 (149 :: j246 (148 :: j66 (150 :: j279 (151 :: j190 (152 :: j196 (153 :: j195 (153 :: j225 (155 :: j151 (154 :: j85 []))))))))))))))) <| YC [87,86,13,24] (tkSI (PB w b') #[55,32,40,97,98,41,32,49,32,115,101,97,114,99,104] 9) (tkSI_ok _ _ _ _ 9 rfl (by decide) rfl rfl rfl rfl rfl rfl (by first | rfl | decide)) <| Ye (152 :: j197 (160 :: j27 (j401 (j160 (161 :: j191 (162 :: j220 (163 :: j460 (163 :: j1 (164 :: j46 (j401 (j148 (165 :: j218 [])))))))))))) <| Yc [12,23,34,20,28,38,44,47,160,19,27,37,43,46,18,26,36,42,45,55,57,59,54] (fdS_ok _ _) <| Ye (163 :: j6 (167 :: j12 (161 :: j3 (j227 (j160 (168 :: j351 (169 :: j351 (170 :: j425 (j227 (5 :: [])))))))))) <| Yd [17] (bGet2_k _ _ 0 (by decide)) <| Ye (170 :: j438 (171 :: j424 [])) <| Yd [166,33] (iaC_ok _ _ 3 (by decide)) <| Ye (172 :: 173 :: j6 (170 :: j441 (174 :: j314 (175 :: j76 (176 :: j76 (177 :: j436 (178 :: j418 (177 :: j402 (179 :: j339 (j402 (180 :: j339 (181 :: j6 (182 :: j58 (184 :: 176 :: j12 (j400 (j299 (186 :: j422 (187 :: j430 (188 :: j417 (18004 :: 176 :: 2 :: 175 :: 2 :: 170 :: 2 :: 169 :: 2 :: 168 :: 2 :: 161 :: 2 :: 160 :: 2 :: 152 :: 2 :: 151 :: j468 (18004 :: 2 :: 186 :: j3 (189 :: j112 (17904 :: 175 :: j67 (190 :: j112 (j320 (j67 (191 :: j423 (170 :: j1 (192 :: j98 (193 :: j3 [])))))))))))))))))))))))))))))) <| Yd [187,167] (inC_ok _ _ 3 (by decide)) <| Ye (192 :: j447 (170 :: j66 (194 :: j121 (j403 (191 :: j467 (j320 (j289 (195 :: j293 (17304 :: 169 :: j67 (196 :: j112 (17204 :: 168 :: j67 (197 :: j112 (16504 :: 161 :: j67 (198 :: j112 (16404 :: 160 :: j67 (199 :: j112 (15604 :: 152 :: j67 (200 :: j112 (j319 (j67 (201 :: j463 (j403 (201 :: j467 (j319 (j289 (202 :: j414 (203 :: j462 (204 :: j411 (205 :: j464 (188 :: j431 (j287 (j440 (j416 (8 :: j416 [])))))))))))))))))))))))))))))))))) <| Yn) [105,100,101,102,103,104] [248,249,250,253,254,251,252]
theorem X4_ok (ns zs : List Int) (hdk : Ct w b' (dkC (PB w b') ns zs)) (hd0 : Ct w b' (drC (PB w b') sh1 (cutZ zs) 0 5 4)) (hd1 : Ct w b' (drC (PB w b') sh1 (cutZ zs) 1 6 4)) : Ct w b' (LW (PB w b') ns zs) :=
 sL 2 (pfx hdk <| Yc [4,5] hd0 <| Ye (j409 []) <| Yc [4,5] hd1 <| Ye (j452 (83 :: j6 (j453 []))) <| YC [87,86,13,24] (tk7 (PB w b') #[55,32,50,32,40,97,41,32,97,110,99,104,111,114,115,101,97,114,99,104] 0) (tk7_ok _ _ _ _ 0 rfl (by decide) rfl (by first | rfl | decide)) <| Ye (j406 []) <| YC [87,86,13,24] (tk2 (PB w b') #[55,32,50,32,40,97,41,32,97,110,99,104,111,114,115,101,97,114,99,104] 2) (tk2_ok _ _ _ _ 2 rfl (by decide) rfl (by first | rfl | decide)) <| Ye (j397 (128 :: j27 (j391 (j286 (129 :: j249 (129 :: j1 (130 :: j246 (129 :: j66 (131 :: j279 (132 :: j190 (133 :: j196 (134 :: j195 (134 :: j225 (136 :: j151 (135 :: j85 []))))))))))))))) <| YC [87,86,13,24,10,21,6,7,29,31] (tkS3 (PB w b') #[55,32,50,32,40,97,41,32,97,110,99,104,111,114,115,101,97,114,99,104] 4 7 3200 #[97]) (tkS3_ok _ _ _ _ _ 3200 _ 4 rfl (by decide) rfl (by decide) (by decide) (strI w b' _ (by decide) [97] 5 _ _ rfl rfl L97 (fun i hi => by have hi : i < 1 := hi; rcases i with _ | _ | i <;> first | rfl | omega) rfl (by decide))) <| Ye (133 :: j197 (147 :: j27 (139 :: j8 (141 :: j286 (148 :: j249 (148 :: j1 (149 :: j246 (148 :: j66 (150 :: j279 (151 :: j190 (152 :: j196 (153 :: j195 (153 :: j225 (155 :: j151 (154 :: j85 []))))))))))))))) <| YC [87,86,13,24] (tkAB (PB w b') #[55,32,50,32,40,97,41,32,97,110,99,104,111,114,115,101,97,114,99,104] 7) (tkAB_ok _ _ _ _ 7 rfl (by decide) rfl rfl rfl rfl rfl rfl rfl rfl rfl rfl rfl rfl rfl (by first | rfl | decide)) <| Ye (152 :: j197 (160 :: j27 (j401 (j160 (161 :: j191 (162 :: j220 (163 :: j460 (163 :: j1 (164 :: j46 (j401 (j148 (165 :: j218 [])))))))))))) <| Yc [12,23,34,20,28,38,44,47,160,19,27,37,43,46,18,26,36,42,45,55,57,59,56] (fdA_ok _ _) <| Ye (163 :: j6 (167 :: j12 (161 :: j325 (j354 (j160 (168 :: j27 (j451 (j269 (169 :: j27 (j451 (j269 (170 :: j425 (j451 (5 :: [])))))))))))))) <| Yd [17] (bGet2_k _ _ 1 (by decide)) <| Ye (170 :: j438 (171 :: j424 [])) <| Yd [166,33] (iaC_ok _ _ 3 (by decide)) <| Ye (172 :: 173 :: j6 (170 :: j441 (174 :: j314 (175 :: j76 (176 :: j76 (177 :: j436 (178 :: j418 (177 :: j402 (179 :: j339 (j402 (180 :: j339 (181 :: j6 (182 :: j58 (184 :: 176 :: j12 (139 :: j8 (141 :: 4 :: j391 (j299 (186 :: j422 (187 :: j430 (188 :: j417 (18004 :: 176 :: 2 :: 175 :: 2 :: 170 :: 2 :: 169 :: 2 :: 168 :: 2 :: 161 :: 2 :: 160 :: 2 :: 152 :: 2 :: 151 :: j468 (18004 :: 2 :: 186 :: j3 (189 :: j112 (17904 :: 175 :: j67 (190 :: j112 (j320 (j67 (191 :: j423 (170 :: j1 (192 :: j98 (193 :: j3 []))))))))))))))))))))))))))))))) <| Yd [187,167] (inC_ok _ _ 3 (by decide)) <| Ye (192 :: j447 (170 :: j66 (194 :: j121 (j403 (191 :: j467 (j320 (j289 (195 :: j293 (17304 :: 169 :: j67 (196 :: j112 (17204 :: 168 :: j67 (197 :: j112 (16504 :: 161 :: j67 (198 :: j112 (16404 :: 160 :: j67 (199 :: j112 (15604 :: 152 :: j67 (200 :: j112 (j319 (j67 (201 :: j463 (j403 (201 :: j467 (j319 (j289 (202 :: j414 (203 :: j462 (204 :: j411 (205 :: j464 (188 :: j431 (j287 (j440 (j416 (8 :: j416 [])))))))))))))))))))))))))))))))))) <| Yn) [105,100,101,102,103,104] [248,249,250,253,254,251,252]
theorem X5_ok (ns zs : List Int) (hdk : Ct w b' (dkC (PB w b') ns zs)) (hd0 : Ct w b' (drC (PB w b') sh1 (cutZ zs) 0 5 4)) (hd1 : Ct w b' (drC (PB w b') sh1 (cutZ zs) 1 6 5)) : Ct w b' (LW (PB w b') ns zs) :=
 sL 2 (pfx hdk <| Yc [4,5] hd0 <| Ye (j409 []) <| Yc [4,5] hd1 <| Ye (j452 (84 :: j6 (j453 []))) <| YC [87,86,13,24] (tk7 (PB w b') #[55,32,40,97,41,32,47,97,32,115,101,97,114,99,104] 0) (tk7_ok _ _ _ _ 0 rfl (by decide) rfl (by first | rfl | decide)) <| Ye (j406 []) <| YC [87,86,13,24,10,21,6,7,29,31] (tkS3 (PB w b') #[55,32,40,97,41,32,47,97,32,115,101,97,114,99,104] 2 5 3200 #[97]) (tkS3_ok _ _ _ _ _ 3200 _ 2 rfl (by decide) rfl (by decide) (by decide) (strI w b' _ (by decide) [97] 3 _ _ rfl rfl L97 (fun i hi => by have hi : i < 1 := hi; rcases i with _ | _ | i <;> first | rfl | omega) rfl (by decide))) <| Ye (j397 (134 :: j27 (j278 (128 :: j286 (135 :: j249 (135 :: j1 (136 :: j246 (135 :: j66 (137 :: j279 (138 :: j190 (139 :: j196 (140 :: j195 (140 :: j225 (142 :: j151 (141 :: j85 []))))))))))))))) <| YC [87,86,13,24] (tka (PB w b') #[55,32,40,97,41,32,47,97,32,115,101,97,114,99,104] 5) (tka_ok _ _ _ _ 5 rfl (by decide) rfl rfl rfl (by first | rfl | decide)) <| Ye (139 :: j197 (147 :: j27 (j400 (j286 (148 :: j249 (148 :: j1 (149 :: j246 (148 :: j66 (150 :: j279 (151 :: j190 (152 :: j196 (153 :: j195 (153 :: j225 (155 :: j151 (154 :: j85 []))))))))))))))) <| YC [87,86,13,24] (tkSI (PB w b') #[55,32,40,97,41,32,47,97,32,115,101,97,114,99,104] 9) (tkSI_ok _ _ _ _ 9 rfl (by decide) rfl rfl rfl rfl rfl rfl (by first | rfl | decide)) <| Ye (152 :: j197 (160 :: j27 (j401 (j160 (161 :: j191 (162 :: j220 (163 :: j460 (163 :: j1 (164 :: j46 (j401 (j148 (165 :: j218 [])))))))))))) <| Yc [12,23,34,20,28,38,44,47,160,19,27,37,43,46,18,26,36,42,45,55,57,59,54] (fdS_ok _ _) <| Ye (163 :: j6 (167 :: j12 (161 :: j3 (j227 (j160 (168 :: j351 (169 :: j351 (170 :: j425 (j227 (5 :: [])))))))))) <| Yd [17] (bGet2_k _ _ 0 (by decide)) <| Ye (170 :: j438 (171 :: j424 [])) <| Yd [166,33] (iaC_ok _ _ 3 (by decide)) <| Ye (172 :: 173 :: j6 (170 :: j441 (174 :: j314 (175 :: j76 (176 :: j76 (177 :: j436 (178 :: j418 (177 :: j402 (179 :: j339 (j402 (180 :: j339 (181 :: j6 (182 :: j58 (184 :: 176 :: j12 (j400 (j299 (186 :: j422 (187 :: j430 (188 :: j417 (18004 :: 176 :: 2 :: 175 :: 2 :: 170 :: 2 :: 169 :: 2 :: 168 :: 2 :: 161 :: 2 :: 160 :: 2 :: 152 :: 2 :: 151 :: j468 (18004 :: 2 :: 186 :: j3 (189 :: j112 (17904 :: 175 :: j67 (190 :: j112 (j320 (j67 (191 :: j423 (170 :: j1 (192 :: j98 (193 :: j3 [])))))))))))))))))))))))))))))) <| Yd [187,167] (inC_ok _ _ 3 (by decide)) <| Ye (192 :: j447 (170 :: j66 (194 :: j121 (j403 (191 :: j467 (j320 (j289 (195 :: j293 (17304 :: 169 :: j67 (196 :: j112 (17204 :: 168 :: j67 (197 :: j112 (16504 :: 161 :: j67 (198 :: j112 (16404 :: 160 :: j67 (199 :: j112 (15604 :: 152 :: j67 (200 :: j112 (j319 (j67 (201 :: j463 (j403 (201 :: j467 (j319 (j289 (202 :: j414 (203 :: j462 (204 :: j411 (205 :: j464 (188 :: j431 (j287 (j440 (j416 (8 :: j416 [])))))))))))))))))))))))))))))))))) <| Yn) [105,100,101,102,103,104] [248,249,250,253,254,251,252]
section
variable (P : Params) (y : List Obj) (x : List Nat) (i0 i1 i2 i3 i4 : Nat)
noncomputable def Q173 : Obj := ⟨.type "list",none,.seq #[.ref (A x i0),.ref (A x i1),.ref (A x i2),.ref (A x i3)] (oE y i4),#[]⟩
noncomputable def Q174 (s0 : Int) (m0 : Int) : Obj := dd P y 4 ks2 [.ref (tR y 4 1),.int s0 (tT y 4 3),.int m0 (tT y 4 5)]
noncomputable def Q175 (s1 : Int) (m1 : Int) : Obj := dd P y 8 ks2 [.ref (tR y 8 1),.int s1 (tT y 8 3),.int m1 (tT y 8 5)]
noncomputable def Q176 : Obj := dd P y i0 ks4 [.str t197 (tT y i0 1),.bool true,.bool false,.int 3 348]
noncomputable def Q177 (s0 : Int) (m0 : Int) : Obj := ⟨.type "tuple",none,.seq #[.int s0 (tT y 4 3),.int m0 (tT y 4 5)] 0,#[]⟩
noncomputable def Q178 (s1 : Int) (m1 : Int) : Obj := ⟨.type "tuple",none,.seq #[.int s1 (tT y 8 3),.int m1 (tT y 8 5)] 0,#[]⟩
end
noncomputable def toldF (P : Params) (s0 m0 s1 m1 s2 m2 : Int) : CF := cg 720 fun c x y => mkC (.call (.ref 1834) ⟨[.ref (A x 0)],[]⟩) [Q173 y x 1 5 9 13 0,Q65 x 2,Q66 P y x 2 3,Q63 x 4,Q174 P y s0 m0,Q65 x 6,Q66 P y x 6 7,Q63 x 8,Q175 P y s1 m1,Q65 x 10,Q66 P y x 10 11,Q63 x 12,dd P y 12 ks2 [.ref (tR y 12 1),.int s2 (tT y 12 3),.int m2 (tT y 12 5)],Q65 x 14,Q176 P y 14] (4) (0) (fun u v => .ok (.ret (.ref (A u 0)))) nN (fun u v => [⟨.type "list",none,.seq #[.ref (A u 1),.ref (A u 2),.ref (A u 3),.bool true] 4,#[]⟩,Q177 y s0 m0,Q178 y s1 m1,⟨.type "tuple",none,.seq #[.int s2 (tT y 12 3),.int m2 (tT y 12 5)] 0,#[]⟩])
theorem toldF_ok (w : World) (b' : Bool) (s0 m0 s1 m1 s2 m2 : Int) : Ct w b' (toldF (PB w b') s0 m0 s1 m1 s2 m2) :=
 sV 6000 15 (Yh (j0 (21 :: j33 (j6 (j175 (23 :: j42 (j22 (j21 (j472 (4 :: j386 (j365 (j372 (21 :: j472 (j372 (j386 (23 :: j334 (21 :: j3 (j178 (4 :: j386 (j365 (j200 (21 :: j178 (j200 (j386 (23 :: j334 (21 :: j3 (j446 (4 :: j386 (j365 (17 :: j8 (18 :: 21 :: j446 (17 :: j8 (18 :: j386 (23 :: j334 (21 :: j3 (19 :: j8 (20 :: 4 :: j386 (j365 (j366 (23 :: j334 (28 :: 21 :: [])))))))))))))))))))))))))))))))))))))))) <| Yn) [16,18,19,20] []
noncomputable def toldA (P : Params) (s0 m0 s1 m1 : Int) : CF := cg 720 fun c x y => mkC (.call (.ref 1834) ⟨[.ref (A x 0)],[]⟩) [Q89 y x 1 5 9 0,Q65 x 2,Q66 P y x 2 3,Q63 x 4,Q174 P y s0 m0,Q65 x 6,Q66 P y x 6 7,Q63 x 8,Q175 P y s1 m1,Q65 x 10,Q176 P y 10] (3) (0) (fun u v => .ok (.ret (.ref (A u 0)))) nN (fun u v => [⟨.type "list",none,.seq #[.ref (A u 1),.ref (A u 2),.bool true] 3,#[]⟩,Q177 y s0 m0,Q178 y s1 m1])
theorem toldA_ok (w : World) (b' : Bool) (s0 m0 s1 m1 : Int) : Ct w b' (toldA (PB w b') s0 m0 s1 m1) :=
 sV 6000 11 (Yh (j0 (17 :: j33 (j6 (j175 (19 :: j42 (j22 (j21 (j472 (4 :: j357 (j365 (j372 (17 :: j472 (j372 (j357 (19 :: j334 (17 :: j3 (j178 (4 :: j357 (j365 (j200 (17 :: j178 (j200 (j357 (19 :: j334 (17 :: j3 (j446 (4 :: j357 (j365 (j366 (19 :: j334 (23 :: 17 :: []))))))))))))))))))))))))))))))) <| Yn) [12,14,15] []
section
variable (P : Params) (y : List Obj) (i0 : Nat)
noncomputable def Q179 : Obj := dd P y i0 ks4 [.str t197 (tT y i0 1),.bool false,.bool false,.int 3 348]
end
noncomputable def toldN (P : Params) (s0 m0 : Int) : CF := cg 720 fun c x y => mkC (.call (.ref 1834) ⟨[.ref (A x 0)],[]⟩) [Q69 y x 1 5 0,Q65 x 2,Q66 P y x 2 3,Q63 x 4,Q174 P y s0 m0,Q65 x 6,Q179 P y 6] (2) (0) (fun u v => .ok (.ret (.ref (A u 0)))) nN (fun u v => [⟨.type "list",none,.seq #[.ref (A u 1),.bool false] 2,#[]⟩,Q177 y s0 m0])
theorem toldN_ok (w : World) (b' : Bool) (s0 m0 : Int) : Ct w b' (toldN (PB w b') s0 m0) :=
 sV 6000 7 (Yh (j0 (13 :: j33 (j6 (j175 (15 :: j42 (j22 (j21 (j472 (4 :: 14 :: j6 (j365 (j372 (13 :: j472 (j372 (14 :: j6 (15 :: j334 (j356 (j178 (4 :: 14 :: j6 (j365 (j366 (15 :: j334 (18 :: 13 :: [])))))))))))))))))))))) <| Yn) [8,10] []
noncomputable def lawC1 : PySem.Expr := match fnAt [158,12] prog.main.body with
 | some (.If (.Compare e _ _ _) _ _ _) => e
 | _ => default
noncomputable def lawC2 : PySem.Expr := match fnAt [158,13] prog.main.body with
 | some (.If (.Compare e _ _ _) _ _ _) => e
 | _ => default
noncomputable def lawC3 : PySem.Expr := match fnAt [158,20] prog.main.body with
 | some (.Return (some (.BoolOp _ (_ :: .Compare e _ _ _ :: _) _)) _) => e
 | _ => default
noncomputable def lcCode (e : PySem.Expr) (it acc loc : Nat) (cells : List (Str × Nat)) (c : Code) : Code := match e with
 | .ListComp a g sc p => .compStart (.ListComp a g sc p) 0 (.ref it) (.ref acc) ⟨scM sc,loc,3,cells,(⟨#[108,97,119,46,60,108,111,99,97,108,115,62,46]⟩),none,.ref 1852,(cdE c).frame,0⟩
 | _ => default
section
variable (P : Params) (y : List Obj) (x : List Nat) (v : List Nat) (i0 : Nat)
noncomputable def Q180 : Obj := ⟨.type "list_iterator",none,.fields #[.ref (A x i0),.int 0 0],#[]⟩
noncomputable def Q181 : Obj := ⟨.type "cell",none,.cell (some (.ref (A x 9))),#[]⟩
noncomputable def Q182 : Obj := dd P y i0 ks2 [.ref (A x 9),tV y i0 3,tV y i0 5]
noncomputable def Q183 : Obj := ⟨.ref 164,(some (oDk y 9)),.plain,#[]⟩
noncomputable def Q184 : Obj := ⟨.type "dict",none,.dict #[K P (.str t437 (A v 0)) (.ref (A x i0))] 1,#[]⟩
end
noncomputable def c1F (P : Params) : CF := cg 720 fun c x y => mkC (lcCode lawC1 (A x 0) (A x 1) (A x 2) [(t541,A x 3)] c) [Q180 x 4,Q17 y 1,Q93,Q181 x,Q173 y x 5 10 14 18 4,Q65 x 6,Q66 P y x 6 7,Q63 x 8,Q182 P y x 8,Q183 y,Q65 x 11,Q66 P y x 11 12,Q63 x 13,Q182 P y x 13,Q65 x 15,Q66 P y x 15 16,Q63 x 17,Q182 P y x 17,Q65 x 19,Q176 P y 19] (0) (1) (fun u v => .ok .next) (fun u v => [(0,⟨.type "list_iterator",none,.fields #[.none,.int 4 0],#[]⟩),(2,Q184 P x v 18)]) nN
theorem c1F_false (w : World) (b' : Bool) : Ct (WC w false) b' (c1F (PB (WC w false) b')) :=
 sV 6000 20 (Yh (j298 (j155 (j407 []))) <| Yc [9] (eqII_ok _ _) <| Yh (j342 (j35 (j458 []))) <| Yc [9] (eqII_ok _ _) <| Yh (j427 (j35 (j308 (9 :: [])))) <| Yc [9] (eqII_ok _ _) <| Yh (j173 (24 :: j8 (25 :: j410 (27 :: [])))) <| Yn) [] [0]
theorem c1F_true (w : World) (b' : Bool) : Ct (WC w true) b' (c1F (PB (WC w true) b')) :=
 sV 6000 20 (Yh (j173 (j407 [])) <| Yc [9] (eqII_ok _ _) <| Yh (j342 (j35 (j458 []))) <| Yc [9] (eqII_ok _ _) <| Yh (j427 (j35 (j308 (9 :: [])))) <| Yc [9] (eqII_ok _ _) <| Yh (j173 (24 :: j8 (25 :: j410 (27 :: [])))) <| Yn) [] [0]
theorem c1F_ok (w : World) (c b' : Bool) : Ct (WC w c) b' (c1F (PB (WC w c) b')) := by
 cases c
 · exact c1F_false w b'
 · exact c1F_true w b'
section
variable (i0 : Nat)
noncomputable def Q185 : Obj := ⟨.type "list_iterator",none,.fields #[.none,.int 3 0],#[]⟩
end
noncomputable def c1A (P : Params) : CF := cg 720 fun c x y => mkC (lcCode lawC1 (A x 0) (A x 1) (A x 2) [(t541,A x 3)] c) [Q180 x 4,Q17 y 1,Q93,Q181 x,Q89 y x 5 10 14 4,Q65 x 6,Q66 P y x 6 7,Q63 x 8,Q182 P y x 8,Q183 y,Q65 x 11,Q66 P y x 11 12,Q63 x 13,Q182 P y x 13,Q65 x 15,Q176 P y 15] (0) (1) (fun u v => .ok .next) (fun u v => [(0,Q185),(2,Q184 P x v 14)]) nN
theorem c1A_false (w : World) (b' : Bool) : Ct (WC w false) b' (c1A (PB (WC w false) b')) :=
 sV 6000 16 (Yh (j298 (j155 (j407 []))) <| Yc [9] (eqII_ok _ _) <| Yh (j342 (j35 (j458 []))) <| Yc [9] (eqII_ok _ _) <| Yh (j427 (j410 (23 :: []))) <| Yn) [] [0]
theorem c1A_true (w : World) (b' : Bool) : Ct (WC w true) b' (c1A (PB (WC w true) b')) :=
 sV 6000 16 (Yh (j173 (j407 [])) <| Yc [9] (eqII_ok _ _) <| Yh (j342 (j35 (j458 []))) <| Yc [9] (eqII_ok _ _) <| Yh (j427 (j410 (23 :: []))) <| Yn) [] [0]
theorem c1A_ok (w : World) (c b' : Bool) : Ct (WC w c) b' (c1A (PB (WC w c) b')) := by
 cases c
 · exact c1A_false w b'
 · exact c1A_true w b'
noncomputable def c1N (P : Params) : CF := cg 720 fun c x y => mkC (lcCode lawC1 (A x 0) (A x 1) (A x 2) [(t541,A x 3)] c) [Q180 x 4,Q17 y 1,Q93,Q181 x,Q69 y x 5 10 4,Q65 x 6,Q66 P y x 6 7,Q63 x 8,Q182 P y x 8,Q183 y,Q65 x 11,Q179 P y 11] (0) (1) (fun u v => .ok .next) (fun u v => [(0,⟨.type "list_iterator",none,.fields #[.none,.int 2 0],#[]⟩),(2,Q184 P x v 10)]) nN
theorem c1N_false (w : World) (b' : Bool) : Ct (WC w false) b' (c1N (PB (WC w false) b')) :=
 sV 6000 12 (Yh (j298 (j155 (j407 []))) <| Yc [9] (eqII_ok _ _) <| Yh (j342 (j410 (19 :: []))) <| Yn) [] [0]
theorem c1N_true (w : World) (b' : Bool) : Ct (WC w true) b' (c1N (PB (WC w true) b')) :=
 sV 6000 12 (Yh (j173 (j407 [])) <| Yc [9] (eqII_ok _ _) <| Yh (j342 (j410 (19 :: []))) <| Yn) [] [0]
theorem c1N_ok (w : World) (c b' : Bool) : Ct (WC w c) b' (c1N (PB (WC w c) b')) := by
 cases c
 · exact c1N_false w b'
 · exact c1N_true w b'
section
variable (P : Params) (y : List Obj) (i0 : Nat)
noncomputable def Q186 : Obj := dd P y i0 ks4 [.str t399 (tT y i0 1),.ref (tR y i0 3),.bool false,.int 3 348]
end
noncomputable def c2F (P : Params) : CF := cg 720 fun c x y => mkC (lcCode lawC2 (A x 0) (A x 1) (A x 2) [] c) [Q180 x 3,Q17 y 1,Q93,Q173 y x 4 6 8 10 3,Q65 x 5,Q186 P y 5,Q65 x 7,Q186 P y 7,Q65 x 9,Q186 P y 9,Q65 x 11,Q176 P y 11] (0) (1) (fun u v => .ok .next) (fun u v => [(0,⟨.type "list_iterator",none,.fields #[.none,.int 4 0],#[]⟩),(1,⟨.type "list",none,.seq #[.str t399 (tT y 5 1),.str t399 (tT y 7 1),.str t399 (tT y 9 1),.str t197 (tT y 11 1)] (oE y 1 + 4),#[]⟩),(2,Q184 P x v 10)]) nN
theorem c2F_false (w : World) (b' : Bool) : Ct (WC w false) b' (c2F (PB (WC w false) b')) :=
 sV 6000 12 (Yh (j298 (j474 (j260 (14 :: j8 (15 :: j260 (j307 (j421 (19 :: [])))))))) <| Yn) [] [0]
theorem c2F_true (w : World) (b' : Bool) : Ct (WC w true) b' (c2F (PB (WC w true) b')) :=
 sV 6000 12 (Yh (j94 (j474 (j260 (14 :: j8 (15 :: j260 (j307 (j421 (19 :: [])))))))) <| Yn) [] [0]
theorem c2F_ok (w : World) (c b' : Bool) : Ct (WC w c) b' (c2F (PB (WC w c) b')) := by
 cases c
 · exact c2F_false w b'
 · exact c2F_true w b'
noncomputable def c2A (P : Params) : CF := cg 720 fun c x y => mkC (lcCode lawC2 (A x 0) (A x 1) (A x 2) [] c) [Q180 x 3,Q17 y 1,Q93,Q89 y x 4 6 8 3,Q65 x 5,Q186 P y 5,Q65 x 7,Q186 P y 7,Q65 x 9,Q176 P y 9] (0) (1) (fun u v => .ok .next) (fun u v => [(0,Q185),(1,⟨.type "list",none,.seq #[.str t399 (tT y 5 1),.str t399 (tT y 7 1),.str t197 (tT y 9 1)] (oE y 1 + 3),#[]⟩),(2,Q184 P x v 8)]) nN
theorem c2A_false (w : World) (b' : Bool) : Ct (WC w false) b' (c2A (PB (WC w false) b')) :=
 sV 6000 10 (Yh (j298 (j474 (j260 (14 :: j8 (15 :: j421 (17 :: [])))))) <| Yn) [] [0]
theorem c2A_true (w : World) (b' : Bool) : Ct (WC w true) b' (c2A (PB (WC w true) b')) :=
 sV 6000 10 (Yh (j94 (j474 (j260 (14 :: j8 (15 :: j421 (17 :: [])))))) <| Yn) [] [0]
theorem c2A_ok (w : World) (c b' : Bool) : Ct (WC w c) b' (c2A (PB (WC w c) b')) := by
 cases c
 · exact c2A_false w b'
 · exact c2A_true w b'
noncomputable def c2N (P : Params) : CF := cg 720 fun c x y => mkC (lcCode lawC2 (A x 0) (A x 1) (A x 2) [] c) [Q180 x 3,Q17 y 1,Q93,Q69 y x 4 6 3,Q65 x 5,Q186 P y 5,Q65 x 7,Q179 P y 7] (0) (1) (fun u v => .ok .next) (fun u v => [(0,⟨.type "list_iterator",none,.fields #[.none,.int 2 0],#[]⟩),(1,⟨.type "list",none,.seq #[.str t399 (tT y 5 1),.str t197 (tT y 7 1)] (oE y 1 + 2),#[]⟩),(2,Q184 P x v 6)]) nN
theorem c2N_false (w : World) (b' : Bool) : Ct (WC w false) b' (c2N (PB (WC w false) b')) :=
 sV 6000 8 (Yh (j298 (j474 (j421 (15 :: [])))) <| Yn) [] [0]
theorem c2N_true (w : World) (b' : Bool) : Ct (WC w true) b' (c2N (PB (WC w true) b')) :=
 sV 6000 8 (Yh (j94 (j474 (j421 (15 :: [])))) <| Yn) [] [0]
theorem c2N_ok (w : World) (c b' : Bool) : Ct (WC w c) b' (c2N (PB (WC w c) b')) := by
 cases c
 · exact c2N_false w b'
 · exact c2N_true w b'
noncomputable def c3F (P : Params) : CF := cg 720 fun c x y => mkC (lcCode lawC3 (A x 0) (A x 1) (A x 2) [(t541,A x 3)] c) [Q180 x 4,Q17 y 1,Q93,Q181 x,Q89 y x 5 10 14 4,Q65 x 6,Q66 P y x 6 7,Q63 x 8,Q182 P y x 8,Q183 y,Q65 x 11,Q66 P y x 11 12,Q63 x 13,Q182 P y x 13,Q65 x 15,Q66 P y x 15 16,Q63 x 17,Q182 P y x 17] (0) (1) (fun u v => .ok .next) (fun u v => [(0,Q185),(2,Q184 P x v 14)]) nN
theorem c3F_false (w : World) (b' : Bool) : Ct (WC w false) b' (c3F (PB (WC w false) b')) :=
 sV 6000 18 (Yh (j298 (j155 (j178 (j331 [])))) <| Yc [9] (eqII_ok _ _) <| Yh (j342 (j458 [])) <| Yc [9] (eqII_ok _ _) <| Yh (j427 (j308 (9 :: []))) <| Yc [9] (eqII_ok _ _) <| Yh (j94 (j306 (25 :: []))) <| Yn) [] [0]
theorem c3F_true (w : World) (b' : Bool) : Ct (WC w true) b' (c3F (PB (WC w true) b')) :=
 sV 6000 18 (Yh (j173 (j178 (j331 []))) <| Yc [9] (eqII_ok _ _) <| Yh (j342 (j458 [])) <| Yc [9] (eqII_ok _ _) <| Yh (j427 (j308 (9 :: []))) <| Yc [9] (eqII_ok _ _) <| Yh (j94 (j306 (25 :: []))) <| Yn) [] [0]
theorem c3F_ok (w : World) (c b' : Bool) : Ct (WC w c) b' (c3F (PB (WC w c) b')) := by
 cases c
 · exact c3F_false w b'
 · exact c3F_true w b'
noncomputable def c3N (P : Params) : CF := cg 720 fun c x y => mkC (lcCode lawC3 (A x 0) (A x 1) (A x 2) [(t541,A x 3)] c) [Q180 x 4,Q17 y 1,Q93,Q181 x,Q47 y x 5 4,Q65 x 6,Q66 P y x 6 7,Q63 x 8,Q182 P y x 8,Q183 y] (0) (1) (fun u v => .ok .next) (fun u v => [(0,⟨.type "list_iterator",none,.fields #[.none,.int 1 0],#[]⟩),(2,Q184 P x v 5)]) nN
theorem c3N_false (w : World) (b' : Bool) : Ct (WC w false) b' (c3N (PB (WC w false) b')) :=
 sV 6000 10 (Yh (j298 (j155 (j178 (j331 [])))) <| Yc [9] (eqII_ok _ _) <| Yh (j94 (j306 (17 :: []))) <| Yn) [] [0]
theorem c3N_true (w : World) (b' : Bool) : Ct (WC w true) b' (c3N (PB (WC w true) b')) :=
 sV 6000 10 (Yh (j173 (j178 (j331 []))) <| Yc [9] (eqII_ok _ _) <| Yh (j94 (j306 (17 :: []))) <| Yn) [] [0]
theorem c3N_ok (w : World) (c b' : Bool) : Ct (WC w c) b' (c3N (PB (WC w c) b')) := by
 cases c
 · exact c3N_false w b'
 · exact c3N_true w b'
variable (w : World) (b' : Bool)
theorem MF2_ok (ns zs : List Int) (n1 k a1 : Int) (l1 : List UInt8) (l2 : Array UInt8) (e1 e2 : Int) (j : Int) (hdk : Ct w b' (dkC (PB w b') ns zs)) (hd0 : Ct w b' (drC (PB w b') sh1 (cutZ zs) 0 5 2)) (hd1 : Ct w b' (drC (PB w b') sh1 (cutZ zs) 1 11 n1)) (hs1 : Ct w b' (sigC (PB w b') (cutZ zs) 2 a1 n1 l1)) (hd2 : Ct w b' (drC (PB w b') sh1 (cutZ zs) a1 3 2)) (hd3 : Ct w b' (drC (PB w b') sh1 (cutZ zs) (a1 + 1) 3 k)) (hl2 : KBy.picked l1.toArray none (some k) = l2) (hz1 : l1.toArray.size ≤ 100) (hz2 : l2.size ≤ 100) (hrun : Ct w b' (LRF (PB w b') (((((#[40] ++ l1.toArray) ++ arB) ++ l2) ++ arC) ++ arS) e1 e2 l1.toArray l2 j)) (hdue : Ct w b' (dueF (PB w b') l1.toArray l2 0 j)) (hc1 : Ct w b' (c1F (PB w b'))) (hc2 : Ct w b' (c2F (PB w b'))) : Ct w b' (LW (PB w b') ns zs) :=
 sL 5 (pfx hdk <| Yc [4,5] hd0 <| Ye (j380 []) <| Yc [4,5] hd1 <| Ye [0] <| Yc [4,5] hs1 <| Ye (j443 []) <| Yc [4,5] hd2 <| Ye (8 :: j15 []) <| Yc [4,5] hd3 <| YD [76] (slX l1.toArray none (some k) l2) (slX_ok _ _ _ _ _ _ (by omega) hl2) <| Ye (j264 []) <| ch5 l1.toArray l2 arS hz1 hz2 (by decide) <| Ye [0] <| Yc [0,8,9,16,6,7,13,24,10,21,29,31,11,22,33,12,23,34,20,28,38,44,47,19,27,37,43,46,18,26,36,42,45,55,57,59,54,61,67,17] hrun <| Ye (j292 []) <| Yc [] hdue <| Ye (120 :: j6 (125 :: j58 (127 :: j184 (j257 [])))) <| Yd [122,80] (inL_ok _ _ 4 (by decide)) <| Ye (j183 []) <| YC [122,88,94,100,105,89,95,101,106,90,96,102,107,91,97] (toldF (PB w b') (0 + (j + (l2.size : Int))) ((l1.toArray.size : Int) - (j + (l2.size : Int))) (0 + j) (l2.size : Int) (0 + 0) j) (toldF_ok _ _ _ _ _ _ _ _) <| Ye (8 :: 129 :: 121 :: j22 []) <| YD [123,115,124,125,126,116,117,118] (tdC2 "list.__ne__" false [((0 + (j + (l2.size : Int))),((l1.toArray.size : Int) - (j + (l2.size : Int)))),((0 + j),(l2.size : Int)),((0 + 0),j)] [(((0 + j) + (l2.size : Int)),(((l1.toArray.size : Int) - j) - (l2.size : Int))),((0 + j),(l2.size : Int)),(0,j)] true) (tdNe2 _ _ _ _ _ (hpF _ _ _)) <| Ye (j444 (j12 (94 :: j8 (100 :: 106 :: j8 (111 :: j285 (j257 (133 :: []))))))) <| Yc [127,128,129,3,122,88,94,100,105,108,89,95,101,106,90,96,102,107,91,97] hc1 <| Ye (135 :: j456 (136 :: j291 (j257 (137 :: [])))) <| Yc [131,132,133,122,88,94,89,95,90,96,91,97] hc2 <| Ye (139 :: j272 (121 :: j3 (140 :: j12 (141 :: 142 :: j162 (138 :: 143 :: j22 []))))) <| YD [132,137] (skC [t399,t399,t399,t197]) (skC_ok _ _ _) <| Ye (j120 []) <| Yn) [77,83,84,85,86,87] [189,190,191,192,193,198,199]
variable (w : World) (b' : Bool)
theorem MFs_ok (ns zs : List Int) (way : Int) (n1 k a1 : Int) (l1 : List UInt8) (l2 : Array UInt8) (e1 e2 : Int) (j : Int) (d a3 : Int) (l3 : List UInt8) (e3 : Int) (o2 : Array UInt8) (j2 : Int) (hdk : Ct w b' (dkC (PB w b') ns zs)) (hd0 : Ct w b' (drC (PB w b') sh1 (cutZ zs) 0 5 way)) (hd1 : Ct w b' (drC (PB w b') sh1 (cutZ zs) 1 11 n1)) (hs1 : Ct w b' (sigC (PB w b') (cutZ zs) 2 a1 n1 l1)) (hd2 : Ct w b' (drC (PB w b') sh1 (cutZ zs) a1 3 2)) (hd3 : Ct w b' (drC (PB w b') sh1 (cutZ zs) (a1 + 1) 3 k)) (hl2 : KBy.picked l1.toArray none (some k) = l2) (hz1 : l1.toArray.size ≤ 100) (hz2 : l2.size ≤ 100) (hrun : Ct w b' (LRF (PB w b') (((((#[40] ++ l1.toArray) ++ arB) ++ l2) ++ arC) ++ arS) e1 e2 l1.toArray l2 j)) (hdue : Ct w b' (dueF (PB w b') l1.toArray l2 0 j)) (hw4 : (way == 4) = false) (hw3 : (way == 3) = false) (hw2 : (way == 2) = false) (hd4 : Ct w b' (drC (PB w b') sh1 (cutZ zs) ((a1 + 1) + 1) 2 d)) (hs3 : Ct w b' (sigC (PB w b') (cutZ zs) (((a1 + 1) + 1) + 1) a3 (1 + d) l3)) (hz3 : l3.toArray.size ≤ 100) (hrun2 : Ct w b' (LSF (PB w b') ((((arP ++ arQ) ++ #[40]) ++ l3.toArray) ++ arT) e3 (3200 + (l1.toArray.size : Int) + (l2.size : Int)) l3.toArray l1.toArray (0 + (j + (l2.size : Int))) ((l1.toArray.size : Int) - (j + (l2.size : Int))) o2 j2)) (ho2 : KBy.picked l1.toArray (some (j + (l2.size : Int))) none = o2) (hdue2 : Ct w b' (dueF (PB w b') o2 l3.toArray (j + (l2.size : Int)) j2)) (hc1 : Ct w b' (c1F (PB w b'))) (hc2 : Ct w b' (c2F (PB w b'))) (hc3 : Ct w b' (c3F (PB w b'))) : Ct w b' (LW (PB w b') ns zs) :=
 sL 7 (pfx hdk <| Yc [4,5] hd0 <| Ye (j50 []) <| Yv 0 (bE (way == 4)) (bF false) (bEq hw4) <| Ye (j217 []) <| Yc [4,5] hd1 <| Ye [0] <| Yc [4,5] hs1 <| Ye [8] <| Yv 0 (bE (way == 3)) (bF false) (bEq hw3) <| Ye (j258 (j50 (j91 []))) <| Yc [4,5] hd2 <| Ye (8 :: j15 []) <| Yc [4,5] hd3 <| YD [76] (slX l1.toArray none (some k) l2) (slX_ok _ _ _ _ _ _ (by omega) hl2) <| Ye (j264 []) <| ch5 l1.toArray l2 arS hz1 hz2 (by decide) <| Ye [0] <| Yc [0,8,9,16,6,7,13,24,10,21,29,31,11,22,33,12,23,34,20,28,38,44,47,19,27,37,43,46,18,26,36,42,45,55,57,59,54,61,67,17] hrun <| Ye (j292 []) <| Yc [] hdue <| Ye (120 :: j6 (125 :: j58 (127 :: j184 (j257 [])))) <| Yd [122,80] (inL_ok _ _ 4 (by decide)) <| Ye (j183 []) <| YC [122,88,94,100,105,89,95,101,106,90,96,102,107,91,97] (toldF (PB w b') (0 + (j + (l2.size : Int))) ((l1.toArray.size : Int) - (j + (l2.size : Int))) (0 + j) (l2.size : Int) (0 + 0) j) (toldF_ok _ _ _ _ _ _ _ _) <| Ye (8 :: 129 :: 121 :: j22 []) <| YD [123,115,124,125,126,116,117,118] (tdC2 "list.__ne__" false [((0 + (j + (l2.size : Int))),((l1.toArray.size : Int) - (j + (l2.size : Int)))),((0 + j),(l2.size : Int)),((0 + 0),j)] [(((0 + j) + (l2.size : Int)),(((l1.toArray.size : Int) - j) - (l2.size : Int))),((0 + j),(l2.size : Int)),(0,j)] true) (tdNe2 _ _ _ _ _ (hpF _ _ _)) <| Ye (j444 (j12 (94 :: j8 (100 :: 106 :: j8 (111 :: j285 (j257 (133 :: []))))))) <| Yc [127,128,129,3,122,88,94,100,105,108,89,95,101,106,90,96,102,107,91,97] hc1 <| Ye (135 :: j456 (136 :: j291 (j257 (137 :: [])))) <| Yc [131,132,133,122,88,94,89,95,90,96,91,97] hc2 <| Ye (139 :: j272 (121 :: j3 (140 :: j12 (141 :: 142 :: j162 (138 :: 143 :: j22 []))))) <| YD [132,137] (skC [t399,t399,t399,t197]) (skC_ok _ _ _) <| Ye (j120 []) <| Yv 0 (bE (way == 2)) (bF false) (bEq hw2) <| Ye (j217 []) <| Yc [4,5] hd4 <| Ye [0] <| Yc [4,5] hs3 <| Ye (j50 []) <| ch4 (arP) (arQ) l3.toArray (arT) (by decide) (by decide) hz3 (by decide) <| Ye (j394 []) <| Yc [0,8,9,16,6,7,13,24,12,23,34,20,28,38,44,47,19,27,37,43,46,18,26,36,42,45,55,57,59,58,65,71,17,11,22,80,10,21,29,31,54,61,67,88,94,100,105,108,110,112] hrun2 <| Ye (j393 []) <| YD [161] (slX l1.toArray (some (j + (l2.size : Int))) none o2) (slX_ok _ _ _ _ _ _ (by omega) ho2) <| Ye (j317 []) <| Yc [] hdue2 <| Ye (168 :: j6 (173 :: j58 (175 :: j184 (176 :: j3 [])))) <| Yd [170,138] (inL_ok _ _ 4 (by decide)) <| Ye (j183 []) <| YC [170,141,146,151,155,142,147,152,156,143,148,153,157,144,149] (toldF (PB w b') ((0 + (j + (l2.size : Int))) + (j2 + (l3.toArray.size : Int))) ((o2.size : Int) - (j2 + (l3.toArray.size : Int))) ((0 + (j + (l2.size : Int))) + j2) (l3.toArray.size : Int) ((0 + (j + (l2.size : Int))) + 0) j2) (toldF_ok _ _ _ _ _ _ _ _) <| Ye (8 :: 177 :: 169 :: j22 []) <| YD [171,163,172,173,174,164,165,166] (tdC2 "list.__eq__" true [(((0 + (j + (l2.size : Int))) + (j2 + (l3.toArray.size : Int))),((o2.size : Int) - (j2 + (l3.toArray.size : Int)))),(((0 + (j + (l2.size : Int))) + j2),(l3.toArray.size : Int)),(((0 + (j + (l2.size : Int))) + 0),j2)] [((((j + (l2.size : Int)) + j2) + (l3.toArray.size : Int)),(((o2.size : Int) - j2) - (l3.toArray.size : Int))),(((j + (l2.size : Int)) + j2),(l3.toArray.size : Int)),((j + (l2.size : Int)),j2)] true) (tdEq2 _ _ _ _ _ (hpS _ _ _ _)) <| Ye (8 :: 176 :: j6 (181 :: j42 (182 :: j3 (183 :: [])))) <| Yc [177,178,179,3,176,141,146,151,155,108,142,147,152,156,143,148,153,157] hc3 <| Ye (185 :: j3 (184 :: 186 :: j142 [])) <| Yn) [77,83,84,85,86,87] [189,190,191,192,193,198,199]
theorem MFn_ok (ns zs : List Int) (way : Int) (n1 k a1 : Int) (l1 : List UInt8) (l2 : Array UInt8) (e1 e2 : Int) (j : Int) (d a3 : Int) (l3 : List UInt8) (e3 : Int) (o2 : Array UInt8) (hdk : Ct w b' (dkC (PB w b') ns zs)) (hd0 : Ct w b' (drC (PB w b') sh1 (cutZ zs) 0 5 way)) (hd1 : Ct w b' (drC (PB w b') sh1 (cutZ zs) 1 11 n1)) (hs1 : Ct w b' (sigC (PB w b') (cutZ zs) 2 a1 n1 l1)) (hd2 : Ct w b' (drC (PB w b') sh1 (cutZ zs) a1 3 2)) (hd3 : Ct w b' (drC (PB w b') sh1 (cutZ zs) (a1 + 1) 3 k)) (hl2 : KBy.picked l1.toArray none (some k) = l2) (hz1 : l1.toArray.size ≤ 100) (hz2 : l2.size ≤ 100) (hrun : Ct w b' (LRF (PB w b') (((((#[40] ++ l1.toArray) ++ arB) ++ l2) ++ arC) ++ arS) e1 e2 l1.toArray l2 j)) (hdue : Ct w b' (dueF (PB w b') l1.toArray l2 0 j)) (hw4 : (way == 4) = false) (hw3 : (way == 3) = false) (hw2 : (way == 2) = false) (hd4 : Ct w b' (drC (PB w b') sh1 (cutZ zs) ((a1 + 1) + 1) 2 d)) (hs3 : Ct w b' (sigC (PB w b') (cutZ zs) (((a1 + 1) + 1) + 1) a3 (1 + d) l3)) (hz3 : l3.toArray.size ≤ 100) (hrun2 : Ct w b' (LSN (PB w b') ((((arP ++ arQ) ++ #[40]) ++ l3.toArray) ++ arT) e3 (3200 + (l1.toArray.size : Int) + (l2.size : Int)) l3.toArray l1.toArray (0 + (j + (l2.size : Int))) ((l1.toArray.size : Int) - (j + (l2.size : Int))) o2)) (ho2 : KBy.picked l1.toArray (some (j + (l2.size : Int))) none = o2) (hdue2 : Ct w b' (dueN (PB w b') o2 l3.toArray (j + (l2.size : Int)))) (hps2 : ([((0 + (j + (l2.size : Int))),((l1.toArray.size : Int) - (j + (l2.size : Int))))] : List (Int × Int)) = [((j + (l2.size : Int)),(o2.size : Int))]) (hc1 : Ct w b' (c1F (PB w b'))) (hc2 : Ct w b' (c2F (PB w b'))) (hc3 : Ct w b' (c3N (PB w b'))) : Ct w b' (LW (PB w b') ns zs) :=
 sL 7 (pfx hdk <| Yc [4,5] hd0 <| Ye (j50 []) <| Yv 0 (bE (way == 4)) (bF false) (bEq hw4) <| Ye (j217 []) <| Yc [4,5] hd1 <| Ye [0] <| Yc [4,5] hs1 <| Ye [8] <| Yv 0 (bE (way == 3)) (bF false) (bEq hw3) <| Ye (j258 (j50 (j91 []))) <| Yc [4,5] hd2 <| Ye (8 :: j15 []) <| Yc [4,5] hd3 <| YD [76] (slX l1.toArray none (some k) l2) (slX_ok _ _ _ _ _ _ (by omega) hl2) <| Ye (j264 []) <| ch5 l1.toArray l2 arS hz1 hz2 (by decide) <| Ye [0] <| Yc [0,8,9,16,6,7,13,24,10,21,29,31,11,22,33,12,23,34,20,28,38,44,47,19,27,37,43,46,18,26,36,42,45,55,57,59,54,61,67,17] hrun <| Ye (j292 []) <| Yc [] hdue <| Ye (120 :: j6 (125 :: j58 (127 :: j184 (j257 [])))) <| Yd [122,80] (inL_ok _ _ 4 (by decide)) <| Ye (j183 []) <| YC [122,88,94,100,105,89,95,101,106,90,96,102,107,91,97] (toldF (PB w b') (0 + (j + (l2.size : Int))) ((l1.toArray.size : Int) - (j + (l2.size : Int))) (0 + j) (l2.size : Int) (0 + 0) j) (toldF_ok _ _ _ _ _ _ _ _) <| Ye (8 :: 129 :: 121 :: j22 []) <| YD [123,115,124,125,126,116,117,118] (tdC2 "list.__ne__" false [((0 + (j + (l2.size : Int))),((l1.toArray.size : Int) - (j + (l2.size : Int)))),((0 + j),(l2.size : Int)),((0 + 0),j)] [(((0 + j) + (l2.size : Int)),(((l1.toArray.size : Int) - j) - (l2.size : Int))),((0 + j),(l2.size : Int)),(0,j)] true) (tdNe2 _ _ _ _ _ (hpF _ _ _)) <| Ye (j444 (j12 (94 :: j8 (100 :: 106 :: j8 (111 :: j285 (j257 (133 :: []))))))) <| Yc [127,128,129,3,122,88,94,100,105,108,89,95,101,106,90,96,102,107,91,97] hc1 <| Ye (135 :: j456 (136 :: j291 (j257 (137 :: [])))) <| Yc [131,132,133,122,88,94,89,95,90,96,91,97] hc2 <| Ye (139 :: j272 (121 :: j3 (140 :: j12 (141 :: 142 :: j162 (138 :: 143 :: j22 []))))) <| YD [132,137] (skC [t399,t399,t399,t197]) (skC_ok _ _ _) <| Ye (j120 []) <| Yv 0 (bE (way == 2)) (bF false) (bEq hw2) <| Ye (j217 []) <| Yc [4,5] hd4 <| Ye [0] <| Yc [4,5] hs3 <| Ye (j50 []) <| ch4 (arP) (arQ) l3.toArray (arT) (by decide) (by decide) hz3 (by decide) <| Ye (j394 []) <| Yc [0,8,9,16,6,7,13,24,12,23,34,20,28,38,44,47,19,27,37,43,46,18,26,36,42,45,55,57,59,58,65,71,17,11,22,80,10,21,29,31,54,61,67,88,94,100,105,108,110,112] hrun2 <| Ye (j393 []) <| YD [149] (slX l1.toArray (some (j + (l2.size : Int))) none o2) (slX_ok _ _ _ _ _ _ (by omega) ho2) <| Ye (j317 []) <| Yc [] hdue2 <| Ye (156 :: j6 (159 :: j58 (161 :: j184 (162 :: j3 [])))) <| Yd [156,138] (inL_ok _ _ 2 (by decide)) <| Ye (j183 []) <| YC [156,88,94,100,105,141,143] (toldN (PB w b') (0 + (j + (l2.size : Int))) ((l1.toArray.size : Int) - (j + (l2.size : Int)))) (toldN_ok _ _ _ _) <| Ye (8 :: 163 :: 157 :: j22 []) <| YD [157,151,158,152] (tdC2 "list.__eq__" true [((0 + (j + (l2.size : Int))),((l1.toArray.size : Int) - (j + (l2.size : Int))))] [((j + (l2.size : Int)),(o2.size : Int))] false) (tdEq2 _ _ _ _ _ hps2) <| Ye (8 :: 162 :: j6 (165 :: j42 (166 :: j3 (167 :: [])))) <| Yc [161,162,163,3,160,88,94,100,105,108] hc3 <| Ye (169 :: j3 (168 :: 170 :: j142 [])) <| Yn) [77,83,84,85,86,87] [189,190,191,192,193,198,199]
variable (w : World) (b' : Bool)
theorem MAs_ok (ns zs : List Int) (n1 k a1 : Int) (l1 : List UInt8) (l2 : Array UInt8) (e1 e2 : Int) (d a3 : Int) (l3 : List UInt8) (e3 : Int) (o2 : Array UInt8) (j2 : Int) (hdk : Ct w b' (dkC (PB w b') ns zs)) (hd0 : Ct w b' (drC (PB w b') sh1 (cutZ zs) 0 5 3)) (hd1 : Ct w b' (drC (PB w b') sh1 (cutZ zs) 1 11 n1)) (hs1 : Ct w b' (sigC (PB w b') (cutZ zs) 2 a1 n1 l1)) (hd2 : Ct w b' (drC (PB w b') sh1 (cutZ zs) a1 3 2)) (hd3 : Ct w b' (drC (PB w b') sh1 (cutZ zs) (a1 + 1) 3 k)) (hl2 : KBy.picked l1.toArray none (some k) = l2) (hz1 : l1.toArray.size ≤ 100) (hz2 : l2.size ≤ 100) (hrun : Ct w b' (LRA (PB w b') (((((#[40] ++ l1.toArray) ++ arB) ++ l2) ++ arC) ++ arA) e1 e2 l1.toArray l2)) (hdue : Ct w b' (dueA (PB w b') l1.toArray l2 0 0)) (hd4 : Ct w b' (drC (PB w b') sh1 (cutZ zs) ((a1 + 1) + 1) 2 d)) (hs3 : Ct w b' (sigC (PB w b') (cutZ zs) (((a1 + 1) + 1) + 1) a3 (1 + d) l3)) (hz3 : l3.toArray.size ≤ 100) (hrun2 : Ct w b' (LSA (PB w b') ((((arP ++ #[]) ++ #[40]) ++ l3.toArray) ++ arT) e3 (3200 + (l1.toArray.size : Int) + (l2.size : Int)) l3.toArray l1.toArray (0 + (l2.size : Int)) ((l1.toArray.size : Int) - (l2.size : Int)) o2 j2)) (ho2 : KBy.picked l1.toArray (some (0 + (l2.size : Int))) none = o2) (hdue2 : Ct w b' (dueF (PB w b') o2 l3.toArray (0 + (l2.size : Int)) j2)) (hc1 : Ct w b' (c1A (PB w b'))) (hc2 : Ct w b' (c2A (PB w b'))) (hc3 : Ct w b' (c3F (PB w b'))) : Ct w b' (LW (PB w b') ns zs) :=
 sL 7 (pfx hdk <| Yc [4,5] hd0 <| Ye (j380 []) <| Yc [4,5] hd1 <| Ye [0] <| Yc [4,5] hs1 <| Ye (j443 []) <| Yc [4,5] hd2 <| Ye (8 :: j15 []) <| Yc [4,5] hd3 <| YD [76] (slX l1.toArray none (some k) l2) (slX_ok _ _ _ _ _ _ (by omega) hl2) <| Ye (j264 []) <| ch5 l1.toArray l2 arA hz1 hz2 (by decide) <| Ye [0] <| Yc [0,8,9,16,6,7,13,24,10,21,29,31,11,22,33,12,23,34,20,28,38,44,47,19,27,37,43,46,18,26,36,42,45,55,57,59,56,63,69,17] hrun <| Ye (j292 []) <| Yc [] hdue <| Ye (116 :: j6 (120 :: j58 (122 :: j184 (j399 [])))) <| Yd [117,80] (inL_ok _ _ 3 (by decide)) <| Ye (j183 []) <| YC [117,88,93,98,102,89,94,99,103,90,95] (toldA (PB w b') (0 + (l2.size : Int)) ((l1.toArray.size : Int) - (l2.size : Int)) (0 + 0) (l2.size : Int)) (toldA_ok _ _ _ _ _ _) <| Ye (8 :: 124 :: 117 :: j22 []) <| YD [118,111,119,120,112,113] (tdC2 "list.__ne__" false [((0 + (l2.size : Int)),((l1.toArray.size : Int) - (l2.size : Int))),((0 + 0),(l2.size : Int))] [(((0 + 0) + (l2.size : Int)),(((l1.toArray.size : Int) - 0) - (l2.size : Int))),((0 + 0),(l2.size : Int))] true) (tdNe2 _ _ _ _ _ (hpA _ _)) <| Ye (8 :: 123 :: j12 (94 :: j382 (104 :: j8 (108 :: j285 (j399 (127 :: [])))))) <| Yc [121,122,123,3,117,88,93,98,102,104,89,94,99,103,90,95] hc1 <| Ye (129 :: j3 (128 :: 130 :: j291 (j399 (131 :: [])))) <| Yc [125,126,127,117,88,93,89,94,90,95] hc2 <| Ye (133 :: j272 (117 :: j456 (j12 (135 :: 136 :: j162 (132 :: 137 :: j22 []))))) <| YD [126,131] (skC [t399,t399,t197]) (skC_ok _ _ _) <| Ye (j183 (j5 [])) <| Yc [4,5] hd4 <| Ye [0] <| Yc [4,5] hs3 <| Ye (j50 []) <| ch4 (arP) (#[]) l3.toArray (arT) (by decide) (by decide) hz3 (by decide) <| Ye (j394 []) <| Yc [0,8,9,16,6,7,13,24,12,23,34,20,28,38,44,47,19,27,37,43,46,18,26,36,42,45,55,57,59,58,65,71,17,11,22,80,10,21,29,31,54,61,67,88,93,98,102,104,106,108] hrun2 <| Ye (j393 []) <| YD [155] (slX l1.toArray (some (0 + (l2.size : Int))) none o2) (slX_ok _ _ _ _ _ _ (by omega) ho2) <| Ye (j317 []) <| Yc [] hdue2 <| Ye (162 :: j6 (167 :: j58 (169 :: j184 (170 :: j3 [])))) <| Yd [164,132] (inL_ok _ _ 4 (by decide)) <| Ye (j183 []) <| YC [164,135,140,145,149,136,141,146,150,137,142,147,151,138,143] (toldF (PB w b') ((0 + (l2.size : Int)) + (j2 + (l3.toArray.size : Int))) ((o2.size : Int) - (j2 + (l3.toArray.size : Int))) ((0 + (l2.size : Int)) + j2) (l3.toArray.size : Int) ((0 + (l2.size : Int)) + 0) j2) (toldF_ok _ _ _ _ _ _ _ _) <| Ye (8 :: 171 :: 163 :: j22 []) <| YD [165,157,166,167,168,158,159,160] (tdC2 "list.__eq__" true [(((0 + (l2.size : Int)) + (j2 + (l3.toArray.size : Int))),((o2.size : Int) - (j2 + (l3.toArray.size : Int)))),(((0 + (l2.size : Int)) + j2),(l3.toArray.size : Int)),(((0 + (l2.size : Int)) + 0),j2)] [((((0 + (l2.size : Int)) + j2) + (l3.toArray.size : Int)),(((o2.size : Int) - j2) - (l3.toArray.size : Int))),(((0 + (l2.size : Int)) + j2),(l3.toArray.size : Int)),((0 + (l2.size : Int)),j2)] true) (tdEq2 _ _ _ _ _ (hpT _ _ _ _)) <| Ye (8 :: 170 :: j6 (175 :: j42 (176 :: j3 (177 :: [])))) <| Yc [171,172,173,3,170,135,140,145,149,104,136,141,146,150,137,142,147,151] hc3 <| Ye (179 :: j3 (178 :: 180 :: j142 [])) <| Yn) [77,83,84,85,86,87] [189,190,191,192,193,198,199]
theorem MAn_ok (ns zs : List Int) (n1 k a1 : Int) (l1 : List UInt8) (l2 : Array UInt8) (e1 e2 : Int) (d a3 : Int) (l3 : List UInt8) (e3 : Int) (o2 : Array UInt8) (hdk : Ct w b' (dkC (PB w b') ns zs)) (hd0 : Ct w b' (drC (PB w b') sh1 (cutZ zs) 0 5 3)) (hd1 : Ct w b' (drC (PB w b') sh1 (cutZ zs) 1 11 n1)) (hs1 : Ct w b' (sigC (PB w b') (cutZ zs) 2 a1 n1 l1)) (hd2 : Ct w b' (drC (PB w b') sh1 (cutZ zs) a1 3 2)) (hd3 : Ct w b' (drC (PB w b') sh1 (cutZ zs) (a1 + 1) 3 k)) (hl2 : KBy.picked l1.toArray none (some k) = l2) (hz1 : l1.toArray.size ≤ 100) (hz2 : l2.size ≤ 100) (hrun : Ct w b' (LRA (PB w b') (((((#[40] ++ l1.toArray) ++ arB) ++ l2) ++ arC) ++ arA) e1 e2 l1.toArray l2)) (hdue : Ct w b' (dueA (PB w b') l1.toArray l2 0 0)) (hd4 : Ct w b' (drC (PB w b') sh1 (cutZ zs) ((a1 + 1) + 1) 2 d)) (hs3 : Ct w b' (sigC (PB w b') (cutZ zs) (((a1 + 1) + 1) + 1) a3 (1 + d) l3)) (hz3 : l3.toArray.size ≤ 100) (hrun2 : Ct w b' (LSAN (PB w b') ((((arP ++ #[]) ++ #[40]) ++ l3.toArray) ++ arT) e3 (3200 + (l1.toArray.size : Int) + (l2.size : Int)) l3.toArray l1.toArray (0 + (l2.size : Int)) ((l1.toArray.size : Int) - (l2.size : Int)) o2)) (ho2 : KBy.picked l1.toArray (some (0 + (l2.size : Int))) none = o2) (hdue2 : Ct w b' (dueN (PB w b') o2 l3.toArray (0 + (l2.size : Int)))) (hps2 : ([((0 + (l2.size : Int)),((l1.toArray.size : Int) - (l2.size : Int)))] : List (Int × Int)) = [((0 + (l2.size : Int)),(o2.size : Int))]) (hc1 : Ct w b' (c1A (PB w b'))) (hc2 : Ct w b' (c2A (PB w b'))) (hc3 : Ct w b' (c3N (PB w b'))) : Ct w b' (LW (PB w b') ns zs) :=
 sL 7 (pfx hdk <| Yc [4,5] hd0 <| Ye (j380 []) <| Yc [4,5] hd1 <| Ye [0] <| Yc [4,5] hs1 <| Ye (j443 []) <| Yc [4,5] hd2 <| Ye (8 :: j15 []) <| Yc [4,5] hd3 <| YD [76] (slX l1.toArray none (some k) l2) (slX_ok _ _ _ _ _ _ (by omega) hl2) <| Ye (j264 []) <| ch5 l1.toArray l2 arA hz1 hz2 (by decide) <| Ye [0] <| Yc [0,8,9,16,6,7,13,24,10,21,29,31,11,22,33,12,23,34,20,28,38,44,47,19,27,37,43,46,18,26,36,42,45,55,57,59,56,63,69,17] hrun <| Ye (j292 []) <| Yc [] hdue <| Ye (116 :: j6 (120 :: j58 (122 :: j184 (j399 [])))) <| Yd [117,80] (inL_ok _ _ 3 (by decide)) <| Ye (j183 []) <| YC [117,88,93,98,102,89,94,99,103,90,95] (toldA (PB w b') (0 + (l2.size : Int)) ((l1.toArray.size : Int) - (l2.size : Int)) (0 + 0) (l2.size : Int)) (toldA_ok _ _ _ _ _ _) <| Ye (8 :: 124 :: 117 :: j22 []) <| YD [118,111,119,120,112,113] (tdC2 "list.__ne__" false [((0 + (l2.size : Int)),((l1.toArray.size : Int) - (l2.size : Int))),((0 + 0),(l2.size : Int))] [(((0 + 0) + (l2.size : Int)),(((l1.toArray.size : Int) - 0) - (l2.size : Int))),((0 + 0),(l2.size : Int))] true) (tdNe2 _ _ _ _ _ (hpA _ _)) <| Ye (8 :: 123 :: j12 (94 :: j382 (104 :: j8 (108 :: j285 (j399 (127 :: [])))))) <| Yc [121,122,123,3,117,88,93,98,102,104,89,94,99,103,90,95] hc1 <| Ye (129 :: j3 (128 :: 130 :: j291 (j399 (131 :: [])))) <| Yc [125,126,127,117,88,93,89,94,90,95] hc2 <| Ye (133 :: j272 (117 :: j456 (j12 (135 :: 136 :: j162 (132 :: 137 :: j22 []))))) <| YD [126,131] (skC [t399,t399,t197]) (skC_ok _ _ _) <| Ye (j183 (j5 [])) <| Yc [4,5] hd4 <| Ye [0] <| Yc [4,5] hs3 <| Ye (j50 []) <| ch4 (arP) (#[]) l3.toArray (arT) (by decide) (by decide) hz3 (by decide) <| Ye (j394 []) <| Yc [0,8,9,16,6,7,13,24,12,23,34,20,28,38,44,47,19,27,37,43,46,18,26,36,42,45,55,57,59,58,65,71,17,11,22,80,10,21,29,31,54,61,67,88,93,98,102,104,106,108] hrun2 <| Ye (j393 []) <| YD [143] (slX l1.toArray (some (0 + (l2.size : Int))) none o2) (slX_ok _ _ _ _ _ _ (by omega) ho2) <| Ye (j317 []) <| Yc [] hdue2 <| Ye (150 :: j6 (153 :: j58 (155 :: j184 (156 :: j3 [])))) <| Yd [150,132] (inL_ok _ _ 2 (by decide)) <| Ye (j183 []) <| YC [150,88,93,98,102,135,137] (toldN (PB w b') (0 + (l2.size : Int)) ((l1.toArray.size : Int) - (l2.size : Int))) (toldN_ok _ _ _ _) <| Ye (8 :: 157 :: 151 :: j22 []) <| YD [151,145,152,146] (tdC2 "list.__eq__" true [((0 + (l2.size : Int)),((l1.toArray.size : Int) - (l2.size : Int)))] [((0 + (l2.size : Int)),(o2.size : Int))] false) (tdEq2 _ _ _ _ _ hps2) <| Ye (8 :: 156 :: j6 (159 :: j42 (160 :: j3 (161 :: [])))) <| Yc [155,156,157,3,154,88,93,98,102,104] hc3 <| Ye (163 :: j3 (162 :: 164 :: j142 [])) <| Yn) [77,83,84,85,86,87] [189,190,191,192,193,198,199]
variable (w : World) (b' : Bool)
theorem NF2_ok (ns zs : List Int) (n1 k a1 : Int) (l1 : List UInt8) (q a2 : Int) (l2 : List UInt8) (e1 e2 : Int) (j : Int) (hdk : Ct w b' (dkC (PB w b') ns zs)) (hd0 : Ct w b' (drC (PB w b') sh1 (cutZ zs) 0 5 2)) (hd1 : Ct w b' (drC (PB w b') sh1 (cutZ zs) 1 11 n1)) (hs1 : Ct w b' (sigC (PB w b') (cutZ zs) 2 a1 n1 l1)) (hd2 : Ct w b' (drC (PB w b') sh1 (cutZ zs) a1 3 q)) (hd3 : Ct w b' (drC (PB w b') sh1 (cutZ zs) (a1 + 1) 3 k)) (hs2 : Ct w b' (sigC (PB w b') (cutZ zs) ((a1 + 1) + 1) a2 (1 + k) l2)) (hz1 : l1.toArray.size ≤ 100) (hz2 : l2.toArray.size ≤ 100) (hrun : Ct w b' (LRF (PB w b') (((((#[40] ++ l1.toArray) ++ arB) ++ l2.toArray) ++ arC) ++ arS) e1 e2 l1.toArray l2.toArray j)) (hdue : Ct w b' (dueF (PB w b') l1.toArray l2.toArray 0 j)) (hq2 : (q == 2) = false) (hc1 : Ct w b' (c1F (PB w b'))) (hc2 : Ct w b' (c2F (PB w b'))) : Ct w b' (LW (PB w b') ns zs) :=
 sL 6 (pfx hdk <| Yc [4,5] hd0 <| Ye (j380 []) <| Yc [4,5] hd1 <| Ye [0] <| Yc [4,5] hs1 <| Ye (j443 []) <| Yc [4,5] hd2 <| Yv 0 (bE (q == 2)) (bF false) (bEq hq2) <| Ye (j217 []) <| Yc [4,5] hd3 <| Ye [0] <| Yc [4,5] hs2 <| Ye (j264 []) <| ch5 l1.toArray l2.toArray arS hz1 hz2 (by decide) <| Ye [0] <| Yc [0,8,9,16,6,7,13,24,10,21,29,31,11,22,33,12,23,34,20,28,38,44,47,19,27,37,43,46,18,26,36,42,45,55,57,59,54,61,67,17] hrun <| Ye (j292 []) <| Yc [] hdue <| Ye (119 :: j6 (124 :: j58 (126 :: j184 (j290 [])))) <| Yd [121,79] (inL_ok _ _ 4 (by decide)) <| Ye (j183 []) <| YC [121,87,93,99,104,88,94,100,105,89,95,101,106,90,96] (toldF (PB w b') (0 + (j + (l2.toArray.size : Int))) ((l1.toArray.size : Int) - (j + (l2.toArray.size : Int))) (0 + j) (l2.toArray.size : Int) (0 + 0) j) (toldF_ok _ _ _ _ _ _ _ _) <| Ye (j444 (120 :: j22 [])) <| YD [122,114,123,124,125,115,116,117] (tdC2 "list.__ne__" false [((0 + (j + (l2.toArray.size : Int))),((l1.toArray.size : Int) - (j + (l2.toArray.size : Int)))),((0 + j),(l2.toArray.size : Int)),((0 + 0),j)] [(((0 + j) + (l2.toArray.size : Int)),(((l1.toArray.size : Int) - j) - (l2.toArray.size : Int))),((0 + j),(l2.toArray.size : Int)),(0,j)] true) (tdNe2 _ _ _ _ _ (hpF _ _ _)) <| Ye (8 :: 127 :: j12 (93 :: j382 (105 :: j8 (110 :: j285 (j290 (132 :: [])))))) <| Yc [126,127,128,3,121,87,93,99,104,107,88,94,100,105,89,95,101,106,90,96] hc1 <| Ye (134 :: j455 (135 :: j291 (j290 (136 :: [])))) <| Yc [130,131,132,121,87,93,88,94,89,95,90,96] hc2 <| Ye (138 :: j272 (120 :: j3 (139 :: j12 (j405 (j162 (137 :: 142 :: j22 [])))))) <| YD [131,136] (skC [t399,t399,t399,t197]) (skC_ok _ _ _) <| Ye (j120 []) <| Yn) [76,82,83,84,85,86] [192,193,194,195,196,201,202]
theorem NFm_ok (ns zs : List Int) (way : Int) (n1 k a1 : Int) (l1 : List UInt8) (q a2 : Int) (l2 : List UInt8) (e1 e2 : Int) (hdk : Ct w b' (dkC (PB w b') ns zs)) (hd0 : Ct w b' (drC (PB w b') sh1 (cutZ zs) 0 5 way)) (hd1 : Ct w b' (drC (PB w b') sh1 (cutZ zs) 1 11 n1)) (hs1 : Ct w b' (sigC (PB w b') (cutZ zs) 2 a1 n1 l1)) (hd2 : Ct w b' (drC (PB w b') sh1 (cutZ zs) a1 3 q)) (hd3 : Ct w b' (drC (PB w b') sh1 (cutZ zs) (a1 + 1) 3 k)) (hs2 : Ct w b' (sigC (PB w b') (cutZ zs) ((a1 + 1) + 1) a2 (1 + k) l2)) (hz1 : l1.toArray.size ≤ 100) (hz2 : l2.toArray.size ≤ 100) (hrun : Ct w b' (LRN (PB w b') (((((#[40] ++ l1.toArray) ++ arB) ++ l2.toArray) ++ arC) ++ arS) e1 e2 l1.toArray l2.toArray)) (hdue : Ct w b' (dueN (PB w b') l1.toArray l2.toArray 0)) (hw4 : (way == 4) = false) (hw3 : (way == 3) = false) (hq2 : (q == 2) = false) (hc1 : Ct w b' (c1N (PB w b'))) (hc2 : Ct w b' (c2N (PB w b'))) : Ct w b' (LW (PB w b') ns zs) :=
 sL 6 (pfx hdk <| Yc [4,5] hd0 <| Ye (j50 []) <| Yv 0 (bE (way == 4)) (bF false) (bEq hw4) <| Ye (j217 []) <| Yc [4,5] hd1 <| Ye [0] <| Yc [4,5] hs1 <| Ye [8] <| Yv 0 (bE (way == 3)) (bF false) (bEq hw3) <| Ye (j258 (j50 (j91 []))) <| Yc [4,5] hd2 <| Yv 0 (bE (q == 2)) (bF false) (bEq hq2) <| Ye (j217 []) <| Yc [4,5] hd3 <| Ye [0] <| Yc [4,5] hs2 <| Ye (j264 []) <| ch5 l1.toArray l2.toArray arS hz1 hz2 (by decide) <| Ye [0] <| Yc [0,8,9,16,6,7,13,24,10,21,29,31,11,22,33,12,23,34,20,28,38,44,47,19,27,37,43,46,18,26,36,42,45,55,57,59,54,61,67,17] hrun <| Ye (j292 []) <| Yc [] hdue <| Ye (107 :: j6 (110 :: j58 (112 :: j184 (j396 [])))) <| Yd [107,79] (inL_ok _ _ 2 (by decide)) <| Ye (j183 []) <| YC [107,80,88,91,93,87,90] (toldN (PB w b') 0 (l1.toArray.size : Int)) (toldN_ok _ _ _ _) <| Ye (8 :: 114 :: 108 :: j22 []) <| YD [108,102,109,103] (tdC2 "list.__ne__" false [(0,(l1.toArray.size : Int))] [(0,(l1.toArray.size : Int))] false) (tdNe2 _ _ _ _ _ rfl) <| Ye (8 :: 113 :: j12 (86 :: j8 (94 :: 97 :: j382 (j285 (j396 (116 :: [])))))) <| Yc [110,111,112,3,107,80,88,91,93,95,87,90] hc1 <| Ye (118 :: j3 (117 :: 119 :: j291 (j396 (120 :: [])))) <| Yc [114,115,116,107,80,88,87,90] hc2 <| Ye (122 :: j272 (108 :: j3 (123 :: j12 (124 :: 125 :: j162 (121 :: 126 :: j22 []))))) <| YD [115,120] (skC [t399,t197]) (skC_ok _ _ _) <| Ye [8] <| Yn) [76,82,83,84,85,86] [192,193,194,195,196,201,202]
theorem NAm_ok (ns zs : List Int) (n1 k a1 : Int) (l1 : List UInt8) (q a2 : Int) (l2 : List UInt8) (e1 e2 : Int) (hdk : Ct w b' (dkC (PB w b') ns zs)) (hd0 : Ct w b' (drC (PB w b') sh1 (cutZ zs) 0 5 3)) (hd1 : Ct w b' (drC (PB w b') sh1 (cutZ zs) 1 11 n1)) (hs1 : Ct w b' (sigC (PB w b') (cutZ zs) 2 a1 n1 l1)) (hd2 : Ct w b' (drC (PB w b') sh1 (cutZ zs) a1 3 q)) (hd3 : Ct w b' (drC (PB w b') sh1 (cutZ zs) (a1 + 1) 3 k)) (hs2 : Ct w b' (sigC (PB w b') (cutZ zs) ((a1 + 1) + 1) a2 (1 + k) l2)) (hz1 : l1.toArray.size ≤ 100) (hz2 : l2.toArray.size ≤ 100) (hrun : Ct w b' (LRAN (PB w b') (((((#[40] ++ l1.toArray) ++ arB) ++ l2.toArray) ++ arC) ++ arA) e1 e2 l1.toArray l2.toArray)) (hdue : Ct w b' (dueAN (PB w b') l1.toArray l2.toArray 0)) (hq2 : (q == 2) = false) (hc1 : Ct w b' (c1N (PB w b'))) (hc2 : Ct w b' (c2N (PB w b'))) : Ct w b' (LW (PB w b') ns zs) :=
 sL 6 (pfx hdk <| Yc [4,5] hd0 <| Ye (j380 []) <| Yc [4,5] hd1 <| Ye [0] <| Yc [4,5] hs1 <| Ye (j443 []) <| Yc [4,5] hd2 <| Yv 0 (bE (q == 2)) (bF false) (bEq hq2) <| Ye (j217 []) <| Yc [4,5] hd3 <| Ye [0] <| Yc [4,5] hs2 <| Ye (j264 []) <| ch5 l1.toArray l2.toArray arA hz1 hz2 (by decide) <| Ye [0] <| Yc [0,8,9,16,6,7,13,24,10,21,29,31,11,22,33,12,23,34,20,28,38,44,47,19,27,37,43,46,18,26,36,42,45,55,57,59,56,63,69,17] hrun <| Ye (j292 []) <| Yc [] hdue <| Ye (107 :: j6 (110 :: j58 (112 :: j184 (j396 [])))) <| Yd [107,79] (inL_ok _ _ 2 (by decide)) <| Ye (j183 []) <| YC [107,80,88,91,93,87,90] (toldN (PB w b') 0 (l1.toArray.size : Int)) (toldN_ok _ _ _ _) <| Ye (8 :: 114 :: 108 :: j22 []) <| YD [108,102,109,103] (tdC2 "list.__ne__" false [(0,(l1.toArray.size : Int))] [(0,(l1.toArray.size : Int))] false) (tdNe2 _ _ _ _ _ rfl) <| Ye (8 :: 113 :: j12 (86 :: j8 (94 :: 97 :: j382 (j285 (j396 (116 :: [])))))) <| Yc [110,111,112,3,107,80,88,91,93,95,87,90] hc1 <| Ye (118 :: j3 (117 :: 119 :: j291 (j396 (120 :: [])))) <| Yc [114,115,116,107,80,88,87,90] hc2 <| Ye (122 :: j272 (108 :: j3 (123 :: j12 (124 :: 125 :: j162 (121 :: 126 :: j22 []))))) <| YD [115,120] (skC [t399,t197]) (skC_ok _ _ _) <| Ye [8] <| Yn) [76,82,83,84,85,86] [192,193,194,195,196,201,202]
variable (w : World) (b' : Bool)
theorem NFs_ok (ns zs : List Int) (way : Int) (n1 k a1 : Int) (l1 : List UInt8) (q a2 : Int) (l2 : List UInt8) (e1 e2 : Int) (j : Int) (d a3 : Int) (l3 : List UInt8) (e3 : Int) (o2 : Array UInt8) (j2 : Int) (hdk : Ct w b' (dkC (PB w b') ns zs)) (hd0 : Ct w b' (drC (PB w b') sh1 (cutZ zs) 0 5 way)) (hd1 : Ct w b' (drC (PB w b') sh1 (cutZ zs) 1 11 n1)) (hs1 : Ct w b' (sigC (PB w b') (cutZ zs) 2 a1 n1 l1)) (hd2 : Ct w b' (drC (PB w b') sh1 (cutZ zs) a1 3 q)) (hd3 : Ct w b' (drC (PB w b') sh1 (cutZ zs) (a1 + 1) 3 k)) (hs2 : Ct w b' (sigC (PB w b') (cutZ zs) ((a1 + 1) + 1) a2 (1 + k) l2)) (hz1 : l1.toArray.size ≤ 100) (hz2 : l2.toArray.size ≤ 100) (hrun : Ct w b' (LRF (PB w b') (((((#[40] ++ l1.toArray) ++ arB) ++ l2.toArray) ++ arC) ++ arS) e1 e2 l1.toArray l2.toArray j)) (hdue : Ct w b' (dueF (PB w b') l1.toArray l2.toArray 0 j)) (hw4 : (way == 4) = false) (hw3 : (way == 3) = false) (hq2 : (q == 2) = false) (hw2 : (way == 2) = false) (hd4 : Ct w b' (drC (PB w b') sh1 (cutZ zs) a2 2 d)) (hs3 : Ct w b' (sigC (PB w b') (cutZ zs) (a2 + 1) a3 (1 + d) l3)) (hz3 : l3.toArray.size ≤ 100) (hrun2 : Ct w b' (LSF (PB w b') ((((arP ++ arQ) ++ #[40]) ++ l3.toArray) ++ arT) e3 (3200 + (l1.toArray.size : Int) + (l2.toArray.size : Int)) l3.toArray l1.toArray (0 + (j + (l2.toArray.size : Int))) ((l1.toArray.size : Int) - (j + (l2.toArray.size : Int))) o2 j2)) (ho2 : KBy.picked l1.toArray (some (j + (l2.toArray.size : Int))) none = o2) (hdue2 : Ct w b' (dueF (PB w b') o2 l3.toArray (j + (l2.toArray.size : Int)) j2)) (hc1 : Ct w b' (c1F (PB w b'))) (hc2 : Ct w b' (c2F (PB w b'))) (hc3 : Ct w b' (c3F (PB w b'))) : Ct w b' (LW (PB w b') ns zs) :=
 sL 8 (pfx hdk <| Yc [4,5] hd0 <| Ye (j50 []) <| Yv 0 (bE (way == 4)) (bF false) (bEq hw4) <| Ye (j217 []) <| Yc [4,5] hd1 <| Ye [0] <| Yc [4,5] hs1 <| Ye [8] <| Yv 0 (bE (way == 3)) (bF false) (bEq hw3) <| Ye (j258 (j50 (j91 []))) <| Yc [4,5] hd2 <| Yv 0 (bE (q == 2)) (bF false) (bEq hq2) <| Ye (j217 []) <| Yc [4,5] hd3 <| Ye [0] <| Yc [4,5] hs2 <| Ye (j264 []) <| ch5 l1.toArray l2.toArray arS hz1 hz2 (by decide) <| Ye [0] <| Yc [0,8,9,16,6,7,13,24,10,21,29,31,11,22,33,12,23,34,20,28,38,44,47,19,27,37,43,46,18,26,36,42,45,55,57,59,54,61,67,17] hrun <| Ye (j292 []) <| Yc [] hdue <| Ye (119 :: j6 (124 :: j58 (126 :: j184 (j290 [])))) <| Yd [121,79] (inL_ok _ _ 4 (by decide)) <| Ye (j183 []) <| YC [121,87,93,99,104,88,94,100,105,89,95,101,106,90,96] (toldF (PB w b') (0 + (j + (l2.toArray.size : Int))) ((l1.toArray.size : Int) - (j + (l2.toArray.size : Int))) (0 + j) (l2.toArray.size : Int) (0 + 0) j) (toldF_ok _ _ _ _ _ _ _ _) <| Ye (j444 (120 :: j22 [])) <| YD [122,114,123,124,125,115,116,117] (tdC2 "list.__ne__" false [((0 + (j + (l2.toArray.size : Int))),((l1.toArray.size : Int) - (j + (l2.toArray.size : Int)))),((0 + j),(l2.toArray.size : Int)),((0 + 0),j)] [(((0 + j) + (l2.toArray.size : Int)),(((l1.toArray.size : Int) - j) - (l2.toArray.size : Int))),((0 + j),(l2.toArray.size : Int)),(0,j)] true) (tdNe2 _ _ _ _ _ (hpF _ _ _)) <| Ye (8 :: 127 :: j12 (93 :: j382 (105 :: j8 (110 :: j285 (j290 (132 :: [])))))) <| Yc [126,127,128,3,121,87,93,99,104,107,88,94,100,105,89,95,101,106,90,96] hc1 <| Ye (134 :: j455 (135 :: j291 (j290 (136 :: [])))) <| Yc [130,131,132,121,87,93,88,94,89,95,90,96] hc2 <| Ye (138 :: j272 (120 :: j3 (139 :: j12 (j405 (j162 (137 :: 142 :: j22 [])))))) <| YD [131,136] (skC [t399,t399,t399,t197]) (skC_ok _ _ _) <| Ye (j120 []) <| Yv 0 (bE (way == 2)) (bF false) (bEq hw2) <| Ye (j217 []) <| Yc [4,5] hd4 <| Ye [0] <| Yc [4,5] hs3 <| Ye (j50 []) <| ch4 (arP) (arQ) l3.toArray (arT) (by decide) (by decide) hz3 (by decide) <| Ye (j394 []) <| Yc [0,8,9,16,6,7,13,24,12,23,34,20,28,38,44,47,19,27,37,43,46,18,26,36,42,45,55,57,59,58,65,71,17,11,22,79,10,21,29,31,54,61,67,87,93,99,104,107,109,111] hrun2 <| Ye (j393 []) <| YD [160] (slX l1.toArray (some (j + (l2.toArray.size : Int))) none o2) (slX_ok _ _ _ _ _ _ (by omega) ho2) <| Ye (j317 []) <| Yc [] hdue2 <| Ye (167 :: j6 (172 :: j58 (174 :: j184 (175 :: j3 [])))) <| Yd [169,137] (inL_ok _ _ 4 (by decide)) <| Ye (j183 []) <| YC [169,140,145,150,154,141,146,151,155,142,147,152,156,143,148] (toldF (PB w b') ((0 + (j + (l2.toArray.size : Int))) + (j2 + (l3.toArray.size : Int))) ((o2.size : Int) - (j2 + (l3.toArray.size : Int))) ((0 + (j + (l2.toArray.size : Int))) + j2) (l3.toArray.size : Int) ((0 + (j + (l2.toArray.size : Int))) + 0) j2) (toldF_ok _ _ _ _ _ _ _ _) <| Ye (8 :: 176 :: 168 :: j22 []) <| YD [170,162,171,172,173,163,164,165] (tdC2 "list.__eq__" true [(((0 + (j + (l2.toArray.size : Int))) + (j2 + (l3.toArray.size : Int))),((o2.size : Int) - (j2 + (l3.toArray.size : Int)))),(((0 + (j + (l2.toArray.size : Int))) + j2),(l3.toArray.size : Int)),(((0 + (j + (l2.toArray.size : Int))) + 0),j2)] [((((j + (l2.toArray.size : Int)) + j2) + (l3.toArray.size : Int)),(((o2.size : Int) - j2) - (l3.toArray.size : Int))),(((j + (l2.toArray.size : Int)) + j2),(l3.toArray.size : Int)),((j + (l2.toArray.size : Int)),j2)] true) (tdEq2 _ _ _ _ _ (hpS _ _ _ _)) <| Ye (8 :: 175 :: j6 (180 :: j42 (181 :: j3 (182 :: [])))) <| Yc [176,177,178,3,175,140,145,150,154,107,141,146,151,155,142,147,152,156] hc3 <| Ye (184 :: j3 (183 :: 185 :: j142 [])) <| Yn) [76,82,83,84,85,86] [192,193,194,195,196,201,202]
theorem NFn_ok (ns zs : List Int) (way : Int) (n1 k a1 : Int) (l1 : List UInt8) (q a2 : Int) (l2 : List UInt8) (e1 e2 : Int) (j : Int) (d a3 : Int) (l3 : List UInt8) (e3 : Int) (o2 : Array UInt8) (hdk : Ct w b' (dkC (PB w b') ns zs)) (hd0 : Ct w b' (drC (PB w b') sh1 (cutZ zs) 0 5 way)) (hd1 : Ct w b' (drC (PB w b') sh1 (cutZ zs) 1 11 n1)) (hs1 : Ct w b' (sigC (PB w b') (cutZ zs) 2 a1 n1 l1)) (hd2 : Ct w b' (drC (PB w b') sh1 (cutZ zs) a1 3 q)) (hd3 : Ct w b' (drC (PB w b') sh1 (cutZ zs) (a1 + 1) 3 k)) (hs2 : Ct w b' (sigC (PB w b') (cutZ zs) ((a1 + 1) + 1) a2 (1 + k) l2)) (hz1 : l1.toArray.size ≤ 100) (hz2 : l2.toArray.size ≤ 100) (hrun : Ct w b' (LRF (PB w b') (((((#[40] ++ l1.toArray) ++ arB) ++ l2.toArray) ++ arC) ++ arS) e1 e2 l1.toArray l2.toArray j)) (hdue : Ct w b' (dueF (PB w b') l1.toArray l2.toArray 0 j)) (hw4 : (way == 4) = false) (hw3 : (way == 3) = false) (hq2 : (q == 2) = false) (hw2 : (way == 2) = false) (hd4 : Ct w b' (drC (PB w b') sh1 (cutZ zs) a2 2 d)) (hs3 : Ct w b' (sigC (PB w b') (cutZ zs) (a2 + 1) a3 (1 + d) l3)) (hz3 : l3.toArray.size ≤ 100) (hrun2 : Ct w b' (LSN (PB w b') ((((arP ++ arQ) ++ #[40]) ++ l3.toArray) ++ arT) e3 (3200 + (l1.toArray.size : Int) + (l2.toArray.size : Int)) l3.toArray l1.toArray (0 + (j + (l2.toArray.size : Int))) ((l1.toArray.size : Int) - (j + (l2.toArray.size : Int))) o2)) (ho2 : KBy.picked l1.toArray (some (j + (l2.toArray.size : Int))) none = o2) (hdue2 : Ct w b' (dueN (PB w b') o2 l3.toArray (j + (l2.toArray.size : Int)))) (hps2 : ([((0 + (j + (l2.toArray.size : Int))),((l1.toArray.size : Int) - (j + (l2.toArray.size : Int))))] : List (Int × Int)) = [((j + (l2.toArray.size : Int)),(o2.size : Int))]) (hc1 : Ct w b' (c1F (PB w b'))) (hc2 : Ct w b' (c2F (PB w b'))) (hc3 : Ct w b' (c3N (PB w b'))) : Ct w b' (LW (PB w b') ns zs) :=
 sL 8 (pfx hdk <| Yc [4,5] hd0 <| Ye (j50 []) <| Yv 0 (bE (way == 4)) (bF false) (bEq hw4) <| Ye (j217 []) <| Yc [4,5] hd1 <| Ye [0] <| Yc [4,5] hs1 <| Ye [8] <| Yv 0 (bE (way == 3)) (bF false) (bEq hw3) <| Ye (j258 (j50 (j91 []))) <| Yc [4,5] hd2 <| Yv 0 (bE (q == 2)) (bF false) (bEq hq2) <| Ye (j217 []) <| Yc [4,5] hd3 <| Ye [0] <| Yc [4,5] hs2 <| Ye (j264 []) <| ch5 l1.toArray l2.toArray arS hz1 hz2 (by decide) <| Ye [0] <| Yc [0,8,9,16,6,7,13,24,10,21,29,31,11,22,33,12,23,34,20,28,38,44,47,19,27,37,43,46,18,26,36,42,45,55,57,59,54,61,67,17] hrun <| Ye (j292 []) <| Yc [] hdue <| Ye (119 :: j6 (124 :: j58 (126 :: j184 (j290 [])))) <| Yd [121,79] (inL_ok _ _ 4 (by decide)) <| Ye (j183 []) <| YC [121,87,93,99,104,88,94,100,105,89,95,101,106,90,96] (toldF (PB w b') (0 + (j + (l2.toArray.size : Int))) ((l1.toArray.size : Int) - (j + (l2.toArray.size : Int))) (0 + j) (l2.toArray.size : Int) (0 + 0) j) (toldF_ok _ _ _ _ _ _ _ _) <| Ye (j444 (120 :: j22 [])) <| YD [122,114,123,124,125,115,116,117] (tdC2 "list.__ne__" false [((0 + (j + (l2.toArray.size : Int))),((l1.toArray.size : Int) - (j + (l2.toArray.size : Int)))),((0 + j),(l2.toArray.size : Int)),((0 + 0),j)] [(((0 + j) + (l2.toArray.size : Int)),(((l1.toArray.size : Int) - j) - (l2.toArray.size : Int))),((0 + j),(l2.toArray.size : Int)),(0,j)] true) (tdNe2 _ _ _ _ _ (hpF _ _ _)) <| Ye (8 :: 127 :: j12 (93 :: j382 (105 :: j8 (110 :: j285 (j290 (132 :: [])))))) <| Yc [126,127,128,3,121,87,93,99,104,107,88,94,100,105,89,95,101,106,90,96] hc1 <| Ye (134 :: j455 (135 :: j291 (j290 (136 :: [])))) <| Yc [130,131,132,121,87,93,88,94,89,95,90,96] hc2 <| Ye (138 :: j272 (120 :: j3 (139 :: j12 (j405 (j162 (137 :: 142 :: j22 [])))))) <| YD [131,136] (skC [t399,t399,t399,t197]) (skC_ok _ _ _) <| Ye (j120 []) <| Yv 0 (bE (way == 2)) (bF false) (bEq hw2) <| Ye (j217 []) <| Yc [4,5] hd4 <| Ye [0] <| Yc [4,5] hs3 <| Ye (j50 []) <| ch4 (arP) (arQ) l3.toArray (arT) (by decide) (by decide) hz3 (by decide) <| Ye (j394 []) <| Yc [0,8,9,16,6,7,13,24,12,23,34,20,28,38,44,47,19,27,37,43,46,18,26,36,42,45,55,57,59,58,65,71,17,11,22,79,10,21,29,31,54,61,67,87,93,99,104,107,109,111] hrun2 <| Ye (j393 []) <| YD [148] (slX l1.toArray (some (j + (l2.toArray.size : Int))) none o2) (slX_ok _ _ _ _ _ _ (by omega) ho2) <| Ye (j317 []) <| Yc [] hdue2 <| Ye (155 :: j6 (158 :: j58 (160 :: j184 (161 :: j3 [])))) <| Yd [155,137] (inL_ok _ _ 2 (by decide)) <| Ye (j183 []) <| YC [155,87,93,99,104,140,142] (toldN (PB w b') (0 + (j + (l2.toArray.size : Int))) ((l1.toArray.size : Int) - (j + (l2.toArray.size : Int)))) (toldN_ok _ _ _ _) <| Ye (8 :: 162 :: 156 :: j22 []) <| YD [156,150,157,151] (tdC2 "list.__eq__" true [((0 + (j + (l2.toArray.size : Int))),((l1.toArray.size : Int) - (j + (l2.toArray.size : Int))))] [((j + (l2.toArray.size : Int)),(o2.size : Int))] false) (tdEq2 _ _ _ _ _ hps2) <| Ye (8 :: 161 :: j6 (164 :: j42 (165 :: j3 (166 :: [])))) <| Yc [160,161,162,3,159,87,93,99,104,107] hc3 <| Ye (168 :: j3 (167 :: 169 :: j142 [])) <| Yn) [76,82,83,84,85,86] [192,193,194,195,196,201,202]
variable (w : World) (b' : Bool)
theorem NAs_ok (ns zs : List Int) (n1 k a1 : Int) (l1 : List UInt8) (q a2 : Int) (l2 : List UInt8) (e1 e2 : Int) (d a3 : Int) (l3 : List UInt8) (e3 : Int) (o2 : Array UInt8) (j2 : Int) (hdk : Ct w b' (dkC (PB w b') ns zs)) (hd0 : Ct w b' (drC (PB w b') sh1 (cutZ zs) 0 5 3)) (hd1 : Ct w b' (drC (PB w b') sh1 (cutZ zs) 1 11 n1)) (hs1 : Ct w b' (sigC (PB w b') (cutZ zs) 2 a1 n1 l1)) (hd2 : Ct w b' (drC (PB w b') sh1 (cutZ zs) a1 3 q)) (hd3 : Ct w b' (drC (PB w b') sh1 (cutZ zs) (a1 + 1) 3 k)) (hs2 : Ct w b' (sigC (PB w b') (cutZ zs) ((a1 + 1) + 1) a2 (1 + k) l2)) (hz1 : l1.toArray.size ≤ 100) (hz2 : l2.toArray.size ≤ 100) (hrun : Ct w b' (LRA (PB w b') (((((#[40] ++ l1.toArray) ++ arB) ++ l2.toArray) ++ arC) ++ arA) e1 e2 l1.toArray l2.toArray)) (hdue : Ct w b' (dueA (PB w b') l1.toArray l2.toArray 0 0)) (hq2 : (q == 2) = false) (hd4 : Ct w b' (drC (PB w b') sh1 (cutZ zs) a2 2 d)) (hs3 : Ct w b' (sigC (PB w b') (cutZ zs) (a2 + 1) a3 (1 + d) l3)) (hz3 : l3.toArray.size ≤ 100) (hrun2 : Ct w b' (LSA (PB w b') ((((arP ++ #[]) ++ #[40]) ++ l3.toArray) ++ arT) e3 (3200 + (l1.toArray.size : Int) + (l2.toArray.size : Int)) l3.toArray l1.toArray (0 + (l2.toArray.size : Int)) ((l1.toArray.size : Int) - (l2.toArray.size : Int)) o2 j2)) (ho2 : KBy.picked l1.toArray (some (0 + (l2.toArray.size : Int))) none = o2) (hdue2 : Ct w b' (dueF (PB w b') o2 l3.toArray (0 + (l2.toArray.size : Int)) j2)) (hc1 : Ct w b' (c1A (PB w b'))) (hc2 : Ct w b' (c2A (PB w b'))) (hc3 : Ct w b' (c3F (PB w b'))) : Ct w b' (LW (PB w b') ns zs) :=
 sL 8 (pfx hdk <| Yc [4,5] hd0 <| Ye (j380 []) <| Yc [4,5] hd1 <| Ye [0] <| Yc [4,5] hs1 <| Ye (j443 []) <| Yc [4,5] hd2 <| Yv 0 (bE (q == 2)) (bF false) (bEq hq2) <| Ye (j217 []) <| Yc [4,5] hd3 <| Ye [0] <| Yc [4,5] hs2 <| Ye (j264 []) <| ch5 l1.toArray l2.toArray arA hz1 hz2 (by decide) <| Ye [0] <| Yc [0,8,9,16,6,7,13,24,10,21,29,31,11,22,33,12,23,34,20,28,38,44,47,19,27,37,43,46,18,26,36,42,45,55,57,59,56,63,69,17] hrun <| Ye (j292 []) <| Yc [] hdue <| Ye (115 :: j6 (119 :: j58 (121 :: j184 (j398 [])))) <| Yd [116,79] (inL_ok _ _ 3 (by decide)) <| Ye (j183 []) <| YC [116,87,92,97,101,88,93,98,102,89,94] (toldA (PB w b') (0 + (l2.toArray.size : Int)) ((l1.toArray.size : Int) - (l2.toArray.size : Int)) (0 + 0) (l2.toArray.size : Int)) (toldA_ok _ _ _ _ _ _) <| Ye (8 :: 123 :: 116 :: j22 []) <| YD [117,110,118,119,111,112] (tdC2 "list.__ne__" false [((0 + (l2.toArray.size : Int)),((l1.toArray.size : Int) - (l2.toArray.size : Int))),((0 + 0),(l2.toArray.size : Int))] [(((0 + 0) + (l2.toArray.size : Int)),(((l1.toArray.size : Int) - 0) - (l2.toArray.size : Int))),((0 + 0),(l2.toArray.size : Int))] true) (tdNe2 _ _ _ _ _ (hpA _ _)) <| Ye (8 :: 122 :: j12 (93 :: j8 (98 :: 103 :: j8 (107 :: j285 (j398 (126 :: [])))))) <| Yc [120,121,122,3,116,87,92,97,101,103,88,93,98,102,89,94] hc1 <| Ye (j257 (127 :: 129 :: j291 (j398 (130 :: [])))) <| Yc [124,125,126,116,87,92,88,93,89,94] hc2 <| Ye (132 :: j272 (116 :: j455 (j12 (134 :: 135 :: j162 (131 :: 136 :: j22 []))))) <| YD [125,130] (skC [t399,t399,t197]) (skC_ok _ _ _) <| Ye (j183 (j5 [])) <| Yc [4,5] hd4 <| Ye [0] <| Yc [4,5] hs3 <| Ye (j50 []) <| ch4 (arP) (#[]) l3.toArray (arT) (by decide) (by decide) hz3 (by decide) <| Ye (j394 []) <| Yc [0,8,9,16,6,7,13,24,12,23,34,20,28,38,44,47,19,27,37,43,46,18,26,36,42,45,55,57,59,58,65,71,17,11,22,79,10,21,29,31,54,61,67,87,92,97,101,103,105,107] hrun2 <| Ye (j393 []) <| YD [154] (slX l1.toArray (some (0 + (l2.toArray.size : Int))) none o2) (slX_ok _ _ _ _ _ _ (by omega) ho2) <| Ye (j317 []) <| Yc [] hdue2 <| Ye (161 :: j6 (166 :: j58 (168 :: j184 (169 :: j3 [])))) <| Yd [163,131] (inL_ok _ _ 4 (by decide)) <| Ye (j183 []) <| YC [163,134,139,144,148,135,140,145,149,136,141,146,150,137,142] (toldF (PB w b') ((0 + (l2.toArray.size : Int)) + (j2 + (l3.toArray.size : Int))) ((o2.size : Int) - (j2 + (l3.toArray.size : Int))) ((0 + (l2.toArray.size : Int)) + j2) (l3.toArray.size : Int) ((0 + (l2.toArray.size : Int)) + 0) j2) (toldF_ok _ _ _ _ _ _ _ _) <| Ye (8 :: 170 :: 162 :: j22 []) <| YD [164,156,165,166,167,157,158,159] (tdC2 "list.__eq__" true [(((0 + (l2.toArray.size : Int)) + (j2 + (l3.toArray.size : Int))),((o2.size : Int) - (j2 + (l3.toArray.size : Int)))),(((0 + (l2.toArray.size : Int)) + j2),(l3.toArray.size : Int)),(((0 + (l2.toArray.size : Int)) + 0),j2)] [((((0 + (l2.toArray.size : Int)) + j2) + (l3.toArray.size : Int)),(((o2.size : Int) - j2) - (l3.toArray.size : Int))),(((0 + (l2.toArray.size : Int)) + j2),(l3.toArray.size : Int)),((0 + (l2.toArray.size : Int)),j2)] true) (tdEq2 _ _ _ _ _ (hpT _ _ _ _)) <| Ye (8 :: 169 :: j6 (174 :: j42 (175 :: j3 (176 :: [])))) <| Yc [170,171,172,3,169,134,139,144,148,103,135,140,145,149,136,141,146,150] hc3 <| Ye (178 :: j3 (177 :: 179 :: j142 [])) <| Yn) [76,82,83,84,85,86] [192,193,194,195,196,201,202]
theorem NAn_ok (ns zs : List Int) (n1 k a1 : Int) (l1 : List UInt8) (q a2 : Int) (l2 : List UInt8) (e1 e2 : Int) (d a3 : Int) (l3 : List UInt8) (e3 : Int) (o2 : Array UInt8) (hdk : Ct w b' (dkC (PB w b') ns zs)) (hd0 : Ct w b' (drC (PB w b') sh1 (cutZ zs) 0 5 3)) (hd1 : Ct w b' (drC (PB w b') sh1 (cutZ zs) 1 11 n1)) (hs1 : Ct w b' (sigC (PB w b') (cutZ zs) 2 a1 n1 l1)) (hd2 : Ct w b' (drC (PB w b') sh1 (cutZ zs) a1 3 q)) (hd3 : Ct w b' (drC (PB w b') sh1 (cutZ zs) (a1 + 1) 3 k)) (hs2 : Ct w b' (sigC (PB w b') (cutZ zs) ((a1 + 1) + 1) a2 (1 + k) l2)) (hz1 : l1.toArray.size ≤ 100) (hz2 : l2.toArray.size ≤ 100) (hrun : Ct w b' (LRA (PB w b') (((((#[40] ++ l1.toArray) ++ arB) ++ l2.toArray) ++ arC) ++ arA) e1 e2 l1.toArray l2.toArray)) (hdue : Ct w b' (dueA (PB w b') l1.toArray l2.toArray 0 0)) (hq2 : (q == 2) = false) (hd4 : Ct w b' (drC (PB w b') sh1 (cutZ zs) a2 2 d)) (hs3 : Ct w b' (sigC (PB w b') (cutZ zs) (a2 + 1) a3 (1 + d) l3)) (hz3 : l3.toArray.size ≤ 100) (hrun2 : Ct w b' (LSAN (PB w b') ((((arP ++ #[]) ++ #[40]) ++ l3.toArray) ++ arT) e3 (3200 + (l1.toArray.size : Int) + (l2.toArray.size : Int)) l3.toArray l1.toArray (0 + (l2.toArray.size : Int)) ((l1.toArray.size : Int) - (l2.toArray.size : Int)) o2)) (ho2 : KBy.picked l1.toArray (some (0 + (l2.toArray.size : Int))) none = o2) (hdue2 : Ct w b' (dueN (PB w b') o2 l3.toArray (0 + (l2.toArray.size : Int)))) (hps2 : ([((0 + (l2.toArray.size : Int)),((l1.toArray.size : Int) - (l2.toArray.size : Int)))] : List (Int × Int)) = [((0 + (l2.toArray.size : Int)),(o2.size : Int))]) (hc1 : Ct w b' (c1A (PB w b'))) (hc2 : Ct w b' (c2A (PB w b'))) (hc3 : Ct w b' (c3N (PB w b'))) : Ct w b' (LW (PB w b') ns zs) :=
 sL 8 (pfx hdk <| Yc [4,5] hd0 <| Ye (j380 []) <| Yc [4,5] hd1 <| Ye [0] <| Yc [4,5] hs1 <| Ye (j443 []) <| Yc [4,5] hd2 <| Yv 0 (bE (q == 2)) (bF false) (bEq hq2) <| Ye (j217 []) <| Yc [4,5] hd3 <| Ye [0] <| Yc [4,5] hs2 <| Ye (j264 []) <| ch5 l1.toArray l2.toArray arA hz1 hz2 (by decide) <| Ye [0] <| Yc [0,8,9,16,6,7,13,24,10,21,29,31,11,22,33,12,23,34,20,28,38,44,47,19,27,37,43,46,18,26,36,42,45,55,57,59,56,63,69,17] hrun <| Ye (j292 []) <| Yc [] hdue <| Ye (115 :: j6 (119 :: j58 (121 :: j184 (j398 [])))) <| Yd [116,79] (inL_ok _ _ 3 (by decide)) <| Ye (j183 []) <| YC [116,87,92,97,101,88,93,98,102,89,94] (toldA (PB w b') (0 + (l2.toArray.size : Int)) ((l1.toArray.size : Int) - (l2.toArray.size : Int)) (0 + 0) (l2.toArray.size : Int)) (toldA_ok _ _ _ _ _ _) <| Ye (8 :: 123 :: 116 :: j22 []) <| YD [117,110,118,119,111,112] (tdC2 "list.__ne__" false [((0 + (l2.toArray.size : Int)),((l1.toArray.size : Int) - (l2.toArray.size : Int))),((0 + 0),(l2.toArray.size : Int))] [(((0 + 0) + (l2.toArray.size : Int)),(((l1.toArray.size : Int) - 0) - (l2.toArray.size : Int))),((0 + 0),(l2.toArray.size : Int))] true) (tdNe2 _ _ _ _ _ (hpA _ _)) <| Ye (8 :: 122 :: j12 (93 :: j8 (98 :: 103 :: j8 (107 :: j285 (j398 (126 :: [])))))) <| Yc [120,121,122,3,116,87,92,97,101,103,88,93,98,102,89,94] hc1 <| Ye (j257 (127 :: 129 :: j291 (j398 (130 :: [])))) <| Yc [124,125,126,116,87,92,88,93,89,94] hc2 <| Ye (132 :: j272 (116 :: j455 (j12 (134 :: 135 :: j162 (131 :: 136 :: j22 []))))) <| YD [125,130] (skC [t399,t399,t197]) (skC_ok _ _ _) <| Ye (j183 (j5 [])) <| Yc [4,5] hd4 <| Ye [0] <| Yc [4,5] hs3 <| Ye (j50 []) <| ch4 (arP) (#[]) l3.toArray (arT) (by decide) (by decide) hz3 (by decide) <| Ye (j394 []) <| Yc [0,8,9,16,6,7,13,24,12,23,34,20,28,38,44,47,19,27,37,43,46,18,26,36,42,45,55,57,59,58,65,71,17,11,22,79,10,21,29,31,54,61,67,87,92,97,101,103,105,107] hrun2 <| Ye (j393 []) <| YD [142] (slX l1.toArray (some (0 + (l2.toArray.size : Int))) none o2) (slX_ok _ _ _ _ _ _ (by omega) ho2) <| Ye (j317 []) <| Yc [] hdue2 <| Ye (149 :: j6 (152 :: j58 (154 :: j184 (155 :: j3 [])))) <| Yd [149,131] (inL_ok _ _ 2 (by decide)) <| Ye (j183 []) <| YC [149,87,92,97,101,134,136] (toldN (PB w b') (0 + (l2.toArray.size : Int)) ((l1.toArray.size : Int) - (l2.toArray.size : Int))) (toldN_ok _ _ _ _) <| Ye (8 :: 156 :: 150 :: j22 []) <| YD [150,144,151,145] (tdC2 "list.__eq__" true [((0 + (l2.toArray.size : Int)),((l1.toArray.size : Int) - (l2.toArray.size : Int)))] [((0 + (l2.toArray.size : Int)),(o2.size : Int))] false) (tdEq2 _ _ _ _ _ hps2) <| Ye (8 :: 155 :: j6 (158 :: j42 (159 :: j3 (160 :: [])))) <| Yc [154,155,156,3,153,87,92,97,101,103] hc3 <| Ye (162 :: j3 (161 :: 163 :: j142 [])) <| Yn) [76,82,83,84,85,86] [192,193,194,195,196,201,202]
theorem hpN (s a o : Int) (h : o = a - s) : ([((0 + s),(a - s))] : List (Int × Int)) = [(s,o)] := p1 (by omega) h.symm
theorem hpM (b a o : Int) (h : o = a - b) : ([((0 + b),(a - b))] : List (Int × Int)) = [((0 + b),o)] := p1 rfl h.symm
theorem drop_size (l : List UInt8) (b : Nat) (x : Int) (hb : b ≤ l.length) (h : x = b) : (((l.drop b).toArray.size : Nat) : Int) = ((l.toArray.size : Nat) : Int) - x := by
  rw [List.size_toArray,List.size_toArray,List.length_drop]; omega
section
variable (w : World) (c b' : Bool) (vs : List Int) (hs : vs.length ≤ 1000)
include hs
theorem draw_at (n : Nat) (hn : n < 90000) (at_ : Int) (ha : at_ = n) (bl : Nat) (hb : 0 < bl) (bI : Int) (hbI : bI = bl) : ∃ r : Nat,r < bl ∧ Ct (WC w c) b' (drC (PB (WC w c) b') sh1 vs at_ bI (r : Nat)) := by
 subst ha hbI
 exact draw_any (WC w c) b' sh1 (.inl rfl) vs hs n (by omega) bl hb
theorem sig_at (n : Nat) (hn : n < 90000) (at_ : Int) (ha : at_ = n) (m : Nat) (hm : m ≤ 10) (aE many : Int) (hE : aE = at_ + m) (hmany : many = m) : ∃ l : List UInt8,l.length = m ∧ (∀ x ∈ l,Letter x) ∧ Ct (WC w c) b' (sigC (PB (WC w c) b') vs at_ aE many l) := by
 obtain ⟨l,h1,h2,h3⟩ := drawable_any (WC w c) b' vs hs m n (by omega)
 have h4 := sigC_all w c b' vs l n (by omega) h3
 rw [h1] at h4
 refine ⟨l,h1,h2,?_⟩
 rw [show ((n + m : Nat) : Int) = aE by omega,← ha,← hmany] at h4
 exact h4
end
theorem ne_cast {a b : Nat} (h : a ≠ b) : (((a : Nat) : Int) == ((b : Nat) : Int)) = false := by rw [beq_eq_false_iff_ne]; omega
theorem sz_le {l : List UInt8} {n : Nat} (h : l.length = n) (hn : n ≤ 10) : l.toArray.size ≤ 100 := by rw [List.size_toArray]; omega
theorem bd {n k m : Nat} (h1 : n < 11) (h2 : k < 3) (hm : m ≤ 80) : 2 + n + 1 + 1 + (1 + k) + m < 90000 := by omega
theorem bd0 {n : Nat} (h1 : n < 11) (m : Nat) (hm : m ≤ 80) : 2 + n + m < 90000 := by omega
theorem k3 {k n : Nat} (h : k < n) (hn : n ≤ 10 := by decide) : 1 + k ≤ 10 := by omega
theorem u_ok {a b : Nat} (h1 : a ≤ 100) (h2 : b ≤ 100) : 0 ≤ 3200 + (a : Int) + (b : Int) ∧ 3200 + (a : Int) + (b : Int) ≤ 100000 := by omega
theorem z_add (l : List UInt8) : 0 + (l.toArray.size : Int) = (l.length : Nat) := by rw [List.size_toArray]; omega
theorem z_add2 (j : Nat) (l : List UInt8) : 0 + ((j : Int) + (l.toArray.size : Int)) = ((j + l.length : Nat) : Int) := by rw [List.size_toArray]; omega
theorem law_all (w : World) (c b' : Bool) (ns : List Int) (hn : ns.length ≤ 63) : Ct (WC w c) b' (lawC (PB (WC w c) b') ns) := by
 have hdk := dkC_ok w c b' ns (ns.take 60) (by omega)
 have hs : (cutZ (ns.take 60)).length ≤ 1000 := by unfold cutZ; rw [List.length_map,List.length_take]; omega
 obtain ⟨way,hway,hd0⟩ := draw_at w c b' _ hs 0 (by decide) 0 rfl 5 (by decide) 5 rfl
 by_cases h4 : way = 4
 · subst h4
   obtain ⟨r,hr,hd1⟩ := draw_at w c b' _ hs 1 (by decide) 1 rfl 6 (by decide) 6 rfl
   have : r = 0 ∨ r = 1 ∨ r = 2 ∨ r = 3 ∨ r = 4 ∨ r = 5 := by omega
   rcases this with rfl | rfl | rfl | rfl | rfl | rfl
   · exact X0_ok _ _ _ _ hdk hd0 hd1
   · exact X1_ok _ _ _ _ hdk hd0 hd1
   · exact X2_ok _ _ _ _ hdk hd0 hd1
   · exact X3_ok _ _ _ _ hdk hd0 hd1
   · exact X4_ok _ _ _ _ hdk hd0 hd1
   · exact X5_ok _ _ _ _ hdk hd0 hd1
 obtain ⟨n1,hn1,hd1⟩ := draw_at w c b' _ hs 1 (by decide) 1 rfl 11 (by decide) 11 rfl
 have hn2 : n1 ≤ 10 := Nat.le_of_lt_succ hn1
 obtain ⟨l1,e1,hL1,hs1⟩ := sig_at w c b' _ hs 2 (by decide) 2 rfl n1 hn2 ((2 + n1 : Nat) : Int) (n1 : Nat) rfl rfl
 have h10 : l1.length ≤ 10 := e1 ▸ hn2
 obtain ⟨q,hq,hd2⟩ := draw_at w c b' _ hs (2 + n1) (bd0 hn1 0 (by decide)) ((2 + n1 : Nat) : Int) rfl 3 (by decide) 3 rfl
 obtain ⟨k,hk,hd3⟩ := draw_at w c b' _ hs (2 + n1 + 1) (bd0 hn1 1 (by decide)) (((2 + n1 : Nat) : Int) + 1) rfl 3 (by decide) 3 rfl
 have hw4 : ((way : Int) == 4) = false := ne_cast h4
 have hz1 : l1.toArray.size ≤ 100 := sz_le e1 hn2
 by_cases hq2 : q = 2
 · subst hq2
   have hl2 := pickK l1 k (k : Nat) rfl
   generalize el : l1.take k = l2 at hl2
   have hL2 : ∀ x ∈ l2,Letter x := fun x hx => hL1 x (by rw [← el] at hx; exact List.mem_of_mem_take hx)
   have h20 : l2.length ≤ 10 := el ▸ Nat.le_trans (List.length_take_le' ..) h10
   have hz2 : l2.toArray.size ≤ 100 := sz_le rfl h20
   by_cases h3 : way = 3
   · subst h3
     rcases anchor1 (WC w c) b' l1 l2 hL1 hL2 h10 h20 with ⟨hf,hrun,hdue⟩ | ⟨hrun,hdue,hno⟩
     · obtain ⟨d,hd,hd4⟩ := draw_at w c b' _ hs (2 + n1 + 1 + 1) (bd0 hn1 2 (by decide)) ((((2 + n1 : Nat) : Int) + 1) + 1) rfl 2 (by decide) 2 rfl
       obtain ⟨l3,e3,hL3,hs3⟩ := sig_at w c b' _ hs (2 + n1 + 1 + 1 + 1) (bd0 hn1 3 (by decide)) (((((2 + n1 : Nat) : Int) + 1) + 1) + 1) rfl (1 + d) (k3 hd) _ (1 + (d : Int)) rfl rfl
       have h30 : l3.length ≤ 10 := e3 ▸ k3 hd
       have hz3 : l3.toArray.size ≤ 100 := sz_le e3 (k3 hd)
       rcases searchA (WC w c) b' l1 l3 hL3 h10 h30 l2.length hf (3200 + (l1.toArray.size : Int) + (l2.toArray.size : Int)) (0 + (l2.toArray.size : Int)) ((l1.toArray.size : Int) - (l2.toArray.size : Int)) (0 + (l2.toArray.size : Int)) (u_ok hz1 hz2) (z_add l2) rfl with ⟨j2,hf2,hrun2,hdue2⟩ | ⟨hrun2,hdue2⟩
       · exact MAs_ok (WC w c) b' ns _ _ _ _ l1 _ _ _ _ _ l3 _ _ _ hdk hd0 hd1 hs1 hd2 hd3 hl2 hz1 hz2 hrun hdue hd4 hs3 hz3 hrun2 (pickE l1 l2.length hf _ (z_add l2)) hdue2 (c1A_ok w c b') (c2A_ok w c b') (c3F_ok w c b')
       · exact MAn_ok (WC w c) b' ns _ _ _ _ l1 _ _ _ _ _ l3 _ _ hdk hd0 hd1 hs1 hd2 hd3 hl2 hz1 hz2 hrun hdue hd4 hs3 hz3 hrun2 (pickE l1 l2.length hf _ (z_add l2)) hdue2 (hpM _ _ _ (drop_size l1 l2.length _ hf rfl)) (c1A_ok w c b') (c2A_ok w c b') (c3N_ok w c b')
     · exact absurd (hno.symm.trans (show plF l1.toArray l2.toArray 1 0 = some 0 by rw [← el]; exact plF_take l1 k 0)) (fun h => nomatch h)
   · have hw3 : ((way : Int) == 3) = false := ne_cast h3
     rcases search1 (WC w c) b' l1 l2 hL1 hL2 h10 h20 with ⟨j,hf,hrun,hdue⟩ | ⟨hrun,hdue,hno⟩
     · by_cases h2 : way = 2
       · subst h2
         exact MF2_ok (WC w c) b' ns _ _ _ _ l1 _ _ _ _ hdk hd0 hd1 hs1 hd2 hd3 hl2 hz1 hz2 hrun hdue (c1F_ok w c b') (c2F_ok w c b')
       · have hw2 : ((way : Int) == 2) = false := ne_cast h2
         obtain ⟨d,hd,hd4⟩ := draw_at w c b' _ hs (2 + n1 + 1 + 1) (bd0 hn1 2 (by decide)) ((((2 + n1 : Nat) : Int) + 1) + 1) rfl 2 (by decide) 2 rfl
         obtain ⟨l3,e3,hL3,hs3⟩ := sig_at w c b' _ hs (2 + n1 + 1 + 1 + 1) (bd0 hn1 3 (by decide)) (((((2 + n1 : Nat) : Int) + 1) + 1) + 1) rfl (1 + d) (k3 hd) _ (1 + (d : Int)) rfl rfl
         have h30 : l3.length ≤ 10 := e3 ▸ k3 hd
         have hz3 : l3.toArray.size ≤ 100 := sz_le e3 (k3 hd)
         rcases search2 (WC w c) b' l1 l3 hL3 h10 h30 (j + l2.length) hf (3200 + (l1.toArray.size : Int) + (l2.toArray.size : Int)) (0 + ((j : Int) + (l2.toArray.size : Int))) ((l1.toArray.size : Int) - ((j : Int) + (l2.toArray.size : Int))) ((j : Int) + (l2.toArray.size : Int)) (u_ok hz1 hz2) (z_add2 j l2) rfl with ⟨j2,hf2,hrun2,hdue2⟩ | ⟨hrun2,hdue2⟩
         · exact MFs_ok (WC w c) b' ns _ _ _ _ _ l1 _ _ _ _ _ _ l3 _ _ _ hdk hd0 hd1 hs1 hd2 hd3 hl2 hz1 hz2 hrun hdue hw4 hw3 hw2 hd4 hs3 hz3 hrun2 (pickE l1 (j + l2.length) hf _ rfl) hdue2 (c1F_ok w c b') (c2F_ok w c b') (c3F_ok w c b')
         · exact MFn_ok (WC w c) b' ns _ _ _ _ _ l1 _ _ _ _ _ _ l3 _ _ hdk hd0 hd1 hs1 hd2 hd3 hl2 hz1 hz2 hrun hdue hw4 hw3 hw2 hd4 hs3 hz3 hrun2 (pickE l1 (j + l2.length) hf _ rfl) hdue2 (hpN _ _ _ (drop_size l1 (j + l2.length) _ hf rfl)) (c1F_ok w c b') (c2F_ok w c b') (c3N_ok w c b')
     · exact absurd (hno.symm.trans (show plF l1.toArray l2.toArray (l1.length + 1) 0 = some 0 by rw [← el]; exact plF_take l1 k l1.length)) (fun h => nomatch h)
 · have hq2 : ((q : Int) == 2) = false := ne_cast hq2
   obtain ⟨l2,e2,hL2,hs2⟩ := sig_at w c b' _ hs (2 + n1 + 1 + 1) (bd0 hn1 2 (by decide)) ((((2 + n1 : Nat) : Int) + 1) + 1) rfl (1 + k) (k3 hk) ((2 + n1 + 1 + 1 + (1 + k) : Nat) : Int) (1 + (k : Int)) rfl rfl
   have h20 : l2.length ≤ 10 := e2 ▸ k3 hk
   have hz2 : l2.toArray.size ≤ 100 := sz_le e2 (k3 hk)
   by_cases h3 : way = 3
   · subst h3
     rcases anchor1 (WC w c) b' l1 l2 hL1 hL2 h10 h20 with ⟨hf,hrun,hdue⟩ | ⟨hrun,hdue,hno⟩
     · obtain ⟨d,hd,hd4⟩ := draw_at w c b' _ hs (2 + n1 + 1 + 1 + (1 + k)) (bd hn1 hk (Nat.zero_le 80)) ((2 + n1 + 1 + 1 + (1 + k) : Nat) : Int) rfl 2 (by decide) 2 rfl
       obtain ⟨l3,e3,hL3,hs3⟩ := sig_at w c b' _ hs (2 + n1 + 1 + 1 + (1 + k) + 1) (bd hn1 hk (m := 1) (by decide)) (((2 + n1 + 1 + 1 + (1 + k) : Nat) : Int) + 1) rfl (1 + d) (k3 hd) _ (1 + (d : Int)) rfl rfl
       have h30 : l3.length ≤ 10 := e3 ▸ k3 hd
       have hz3 : l3.toArray.size ≤ 100 := sz_le e3 (k3 hd)
       rcases searchA (WC w c) b' l1 l3 hL3 h10 h30 l2.length hf (3200 + (l1.toArray.size : Int) + (l2.toArray.size : Int)) (0 + (l2.toArray.size : Int)) ((l1.toArray.size : Int) - (l2.toArray.size : Int)) (0 + (l2.toArray.size : Int)) (u_ok hz1 hz2) (z_add l2) rfl with ⟨j2,hf2,hrun2,hdue2⟩ | ⟨hrun2,hdue2⟩
       · exact NAs_ok (WC w c) b' ns _ _ _ _ l1 _ _ l2 _ _ _ _ l3 _ _ _ hdk hd0 hd1 hs1 hd2 hd3 hs2 hz1 hz2 hrun hdue hq2 hd4 hs3 hz3 hrun2 (pickE l1 l2.length hf _ (z_add l2)) hdue2 (c1A_ok w c b') (c2A_ok w c b') (c3F_ok w c b')
       · exact NAn_ok (WC w c) b' ns _ _ _ _ l1 _ _ l2 _ _ _ _ l3 _ _ hdk hd0 hd1 hs1 hd2 hd3 hs2 hz1 hz2 hrun hdue hq2 hd4 hs3 hz3 hrun2 (pickE l1 l2.length hf _ (z_add l2)) hdue2 (hpM _ _ _ (drop_size l1 l2.length _ hf rfl)) (c1A_ok w c b') (c2A_ok w c b') (c3N_ok w c b')
     · exact NAm_ok (WC w c) b' ns _ _ _ _ l1 _ _ l2 _ _ hdk hd0 hd1 hs1 hd2 hd3 hs2 hz1 hz2 hrun hdue hq2 (c1N_ok w c b') (c2N_ok w c b')
   · have hw3 : ((way : Int) == 3) = false := ne_cast h3
     rcases search1 (WC w c) b' l1 l2 hL1 hL2 h10 h20 with ⟨j,hf,hrun,hdue⟩ | ⟨hrun,hdue,hno⟩
     · by_cases h2 : way = 2
       · subst h2
         exact NF2_ok (WC w c) b' ns _ _ _ _ l1 _ _ l2 _ _ _ hdk hd0 hd1 hs1 hd2 hd3 hs2 hz1 hz2 hrun hdue hq2 (c1F_ok w c b') (c2F_ok w c b')
       · have hw2 : ((way : Int) == 2) = false := ne_cast h2
         obtain ⟨d,hd,hd4⟩ := draw_at w c b' _ hs (2 + n1 + 1 + 1 + (1 + k)) (bd hn1 hk (Nat.zero_le 80)) ((2 + n1 + 1 + 1 + (1 + k) : Nat) : Int) rfl 2 (by decide) 2 rfl
         obtain ⟨l3,e3,hL3,hs3⟩ := sig_at w c b' _ hs (2 + n1 + 1 + 1 + (1 + k) + 1) (bd hn1 hk (m := 1) (by decide)) (((2 + n1 + 1 + 1 + (1 + k) : Nat) : Int) + 1) rfl (1 + d) (k3 hd) _ (1 + (d : Int)) rfl rfl
         have h30 : l3.length ≤ 10 := e3 ▸ k3 hd
         have hz3 : l3.toArray.size ≤ 100 := sz_le e3 (k3 hd)
         rcases search2 (WC w c) b' l1 l3 hL3 h10 h30 (j + l2.length) hf (3200 + (l1.toArray.size : Int) + (l2.toArray.size : Int)) (0 + ((j : Int) + (l2.toArray.size : Int))) ((l1.toArray.size : Int) - ((j : Int) + (l2.toArray.size : Int))) ((j : Int) + (l2.toArray.size : Int)) (u_ok hz1 hz2) (z_add2 j l2) rfl with ⟨j2,hf2,hrun2,hdue2⟩ | ⟨hrun2,hdue2⟩
         · exact NFs_ok (WC w c) b' ns _ _ _ _ _ l1 _ _ l2 _ _ _ _ _ l3 _ _ _ hdk hd0 hd1 hs1 hd2 hd3 hs2 hz1 hz2 hrun hdue hw4 hw3 hq2 hw2 hd4 hs3 hz3 hrun2 (pickE l1 (j + l2.length) hf _ rfl) hdue2 (c1F_ok w c b') (c2F_ok w c b') (c3F_ok w c b')
         · exact NFn_ok (WC w c) b' ns _ _ _ _ _ l1 _ _ l2 _ _ _ _ _ l3 _ _ hdk hd0 hd1 hs1 hd2 hd3 hs2 hz1 hz2 hrun hdue hw4 hw3 hq2 hw2 hd4 hs3 hz3 hrun2 (pickE l1 (j + l2.length) hf _ rfl) hdue2 (hpN _ _ _ (drop_size l1 (j + l2.length) _ hf rfl)) (c1F_ok w c b') (c2F_ok w c b') (c3N_ok w c b')
     · exact NFm_ok (WC w c) b' ns _ _ _ _ _ l1 _ _ l2 _ _ hdk hd0 hd1 hs1 hd2 hd3 hs2 hz1 hz2 hrun hdue hw4 hw3 hq2 (c1N_ok w c b') (c2N_ok w c b')
end Mine
namespace Mine
open PySem PySem.W PySem.W.X PySem.Spec PySem.Calls PyProof.Rows
theorem frag_addrs (P : Params) : (frag P).map (·.1) = addrs := by kernel_rfl
theorem frag_get (P : Params) : [3,200,201].map (fun i => (frag P)[i]?) = [(3,o3 P),(1495,o1495 P),(1499,o1499 P)].map some := by kernel_rfl
structure Behd (P : Params) (h : Heap) : Prop where
 all : ∀ p ∈ frag P,h.get? p.1 = some p.2
 size : h.objs.size = 1854
theorem behd_of {w : World} {s : Shared} (e : obs s = val w) : Behd w.params s.heap := by
 unfold obs val at e
 obtain ⟨e1,e2⟩ := Prod.mk.inj e
 refine ⟨fun p hp => ?_,e2⟩
 rw [← frag_addrs w.params,List.map_map] at e1
 have := List.map_inj_left.mp e1 p hp
 exact this
theorem Behd.three {P : Params} {h : Heap} (B : Behd P h) : h.get? 3 = some (o3 P) ∧ h.get? 1495 = some (o1495 P) ∧ h.get? 1499 = some (o1499 P) := by
 have e := frag_get P
 have H : ∀ l : List (Nat × Obj),[3,200,201].map (fun i => (frag P)[i]?) = l.map some → ∀ p ∈ l,h.get? p.1 = some p.2 := fun l e p hp => by
  have q : some p ∈ l.map some := List.mem_map.mpr ⟨p,hp,rfl⟩
  rw [← e] at q
  obtain ⟨i,_,q⟩ := List.mem_map.mp q
  exact B.all p (List.mem_of_getElem? q)
 have z := H _ e
 exact ⟨z (3,o3 P) (by simp),z (1495,o1495 P) (by simp),z (1499,o1499 P) (by simp)⟩
theorem allIn_of_mem {h : Heap} : ∀ {K : List (Nat × Obj)},(∀ p ∈ K,h.get? p.1 = some p.2) → AllIn h K
 | [],_ => trivial
 | p :: K,H => ⟨H p (List.mem_cons_self ..),allIn_of_mem fun q hq => H q (List.mem_cons_of_mem _ hq)⟩
theorem allIn_f {P : Params} {h : Heap} (B : Behd P h) (K : List (Nat × Obj)) (f : Nat × Obj → Bool) (hK : K = (frag P).filter f) : AllIn h K := allIn_of_mem fun p hp => B.all p (by rw [hK] at hp; exact (List.mem_filter.mp hp).1)
theorem Behd.holds {P : Params} {h : Heap} (B : Behd P h) : KT.Holds h 1 0 (kt P) := by
 have H : ∀ K : List (Nat × Obj),kt P = KT.of K → AllIn h K → KT.Holds h 1 0 (kt P) := fun K e a => e ▸ holds_of a
 exact H _ (kt_of P) (allIn_f B _ _ rfl)
theorem kt_less {h : Heap} {t : KT} (H : KT.Holds h 1 0 t) {a : Nat} (ha : h.objs.size ≤ a) : t.get a = none := by
 cases e : t.get a with
 | none => rfl
 | some o =>
  exact absurd (Heap.lt_size (kt_at H e)) (Nat.not_lt.mpr ha)
theorem frames_one (p : Pos) : frameCount [((.builtin "claim.caller" {} : Code),p)] ≤ 650 ∧ unitsOf [((.builtin "claim.caller" {} : Code),p)] ≤ 6500 := by
 rw [frameCount_cons,unitsOf_cons]
 constructor <;> decide +kernel
theorem free_one (p : Pos) : allFree [((.builtin "claim.caller" {} : Code),p)] := fun x hx => by
 rcases List.mem_cons.mp hx with rfl | hx
 · show free (.builtin "claim.caller" {}) = true
   decide +kernel
 · cases hx
theorem call_law {w : World} {s₀ s₁ : Shared} (B : Behd w.params s₀.heap) (law : ∀ ns : List Int,ns.length ≤ 63 → Ctr (model prog w) (kt w.params) (lawC w.params ns)) {ns : List Int} (hn : ns.length ≤ 63) {vs : List Value} {as : List Addr}
  (L : Laid [] w s₀ s₁ [ofPy (PyData.list (ns.map PyData.int))] vs as) :
  ∃ a,vs = [.ref a] ∧ ∃ s',Runs (model prog w) (Γc.enter (.call (.ref 1853) ⟨[.ref a],[]⟩) none default) default ((model prog w).den (.call (.ref 1853) ⟨[.ref a],[]⟩)) [] s₁ (.ret (.ok (.ret (.bool true)))) s' ∧
    OldK s₁.heap s'.heap ∧ s'.os = s₁.os ∧ s'.gens = #[] := by
 obtain ⟨a,rfl,its,hit,hI,ha,hs⟩ : ∃ a,vs = [.ref a] ∧ ∃ its : Array Value,s₁.heap.get? a = some (liO its 0) ∧ IntsAre its.toList ns ∧ a = s₀.heap.objs.size ∧ s₁.heap.objs.size = s₀.heap.objs.size + 1 := by
  cases L.reads with
  | cons x y =>
    cases y
    cases x with
    | list e1 e2 e3 e4 =>
      obtain ⟨hI,_⟩ := readsAll_intsAre0 (readsAll_of_readsAllW _ e4)
      have g := script_obj L ⟨_,e1,e2,_,e3⟩
      have z := script_at L
      exact ⟨_,rfl,_,g,hI,z.1,z.2⟩
 have hv := vals_of hI
 obtain ⟨m3,m1495,m1499⟩ := B.three
 have run : ∀ p,∃ s',Runs (model prog w) (Γc.enter (.call (.ref 1853) ⟨[.ref a],[]⟩) none p) p ((model prog w).den (.call (.ref 1853) ⟨[.ref a],[]⟩)) [] s₁ (.ret (.ok (.ret (.bool true)))) s' ∧ OldK s₁.heap s'.heap ∧ s'.os = s₁.os ∧ s'.gens = #[] := fun p => by
  have c := law ns hn [((.builtin "claim.caller" {} : Code),p)] (.call (.ref 1853) ⟨[.ref a],[]⟩) [1495,a] [⟨.none,none,.fields #[],#[]⟩,liO its 0] rfl ⟨⟨by
    show its.size = ns.length
    rw [← hv.1]; simp,fun i n e => by
      obtain ⟨t,z⟩ := hv.2 i n e
      exact ⟨t,by simpa [seqO,liO] using z⟩⟩,rfl⟩ rfl rfl
  have hne : (1495 : Nat) ≠ a := fun q => by rw [ha,B.size] at q; cases q
  obtain ⟨nad,ntk,s',_,_,_,_,R,U,_,K⟩ := c (Γc.enter (.call (.ref 1853) ⟨[.ref a],[]⟩) none p) p s₁ rfl rfl (fun _ => rfl) (fun _ => free_one p) (frames_one p).1 (frames_one p).2
    (fun b o e => L.keeps b o (kt_at B.holds e)) ⟨L.keeps _ _ m1495,hit,trivial⟩ (by simpa using hne)
    (fun b hb => by
      rcases List.mem_cons.mp hb with rfl | hb
      · exact kt_pin _
      · rcases List.mem_cons.mp hb with rfl | hb
        · exact kt_less B.holds (by rw [ha]; exact Nat.le_refl _)
        · cases hb)
  have U1 : s'.heap.get? 1495 = some ⟨.none,none,.fields #[.int 962 0,.int 4 0,.ref (A nad 0)],#[]⟩ := U.1
  have U2 : s'.heap.get? a = some (liO its 0) := U.2.1
  refine ⟨s',R,⟨fun b o e => ?_,fun b o e => ?_⟩,K.os,K.gens.trans L.gens⟩
  · by_cases q : b = 1495
    · subst q
      have : s₁.heap.get? 1495 = some ⟨.none,none,.fields #[],#[]⟩ := L.keeps _ _ m1495
      rw [this] at e
      cases e
      obtain ⟨vs,c1,c2,c3⟩ := o1499_at w.params
      exact .inr (.inl ⟨⟨1499,_,vs,L.keeps _ _ m1499,c1,c2,c3⟩,rfl,_,#[.int 962 0,.int 4 0,.ref (A nad 0)],rfl,U1⟩)
    · by_cases q' : b = a
      · subst q'
        rw [hit] at e
        cases e
        exact .inl U2
      · exact .inl (K.keep b o e (by simp [q,q']))
  · by_cases q : b = 1495
    · subst q; exact ⟨_,U1⟩
    · by_cases q' : b = a
      · subst q'; exact ⟨_,U2⟩
      · exact ⟨o,K.keep b o e (by simp [q,q'])⟩
 exact ⟨a,rfl,run default⟩
theorem law_def : ∃ d kwd,defOf q1 RW.row.name = some (d,kwd) ∧ prog.theDef RW.row.name = some (d.params,d.body,d.scope) ∧ kwWritten? d.params.kwonlyargs d.params.kw_defaults = some kwd := ⟨_,_,rfl,rfl,rfl⟩
theorem main_get (h : Heap) (P : Params) (e : h.get? 3 = some (o3 P)) : h.nsMap mainGlobals RW.row.name = some (.ref 1853) := by
 unfold Heap.nsMap
 rw [show h.get? mainGlobals = some (o3 P) from e]
 kernel_rfl
theorem chains_q1 : chainsOk q1 = true := by decide +kernel
theorem opens_well : opensWell prog = true := by decide +kernel
theorem raises_none (args : List WData) (cls : ExcName) : RW.row.toRowW.claim.raises args cls = false := rfl
theorem post_true (args : List WData) : RW.row.toRowW.claim.post args (.bool true) args = true := by
 have h1 : WShape.has [] (.bool true) .bool = true := by decide +kernel
 have h2 : W.same (.bool true) (.bool true) = true := by decide +kernel
 show (WShape.has [] (.bool true) .bool && WTm.holds [] (.eq .res (.lit (.bool true))) { args := args,res := some (.bool true),after := args }) = true
 rw [h1]
 have hv : ∀ c : WCtx,c.res = some (.bool true) → WTm.value [] (.eq .res (.lit (.bool true))) c = some (.bool (W.same (.bool true) (.bool true))) := fun c h => by
  show (match c.res,some (WData.bool true) with | some x,some y => some (WData.bool (W.same x y)) | _,_ => none) = _
  rw [h]
 unfold WTm.holds
 rw [hv _ rfl,h2]
 rfl
theorem bare_prog : prog.bare := ⟨rfl,rfl,rfl,rfl,rfl,by decide +kernel⟩
theorem promised_law : RW.row.toRowW.promised := ⟨[.list []],by decide +kernel,by decide +kernel⟩
theorem frees_law : frees RW.row.toRowW = true := by decide +kernel
theorem call_from {w : World} {s : Shared} {free : Addr → Prop} {gens : Prop} {kept : Heap → Prop} (hz : s.asleep) (hg : s.gens = #[]) (hk : ∀ h,kept h) (hm : s.heap.Ns mainGlobals (s.heap.nsMap mainGlobals)) (B : Behd w.params s.heap)
   (law : ∀ ns : List Int,ns.length ≤ 63 → Ctr (model prog w) (kt w.params) (lawC w.params ns)) :
   RW.row.toRowW.claim.CallFrom (callStub RW.row.name) w free gens kept s := by
 intro args hpre hlay ord hord
 obtain ⟨ns,rfl,hn⟩ := pre_law hpre
 obtain ⟨⟨vs,s₁⟩,hlaid⟩ := Option.isSome_iff_exists.mp (layAllW_isSome (R := []) (cl := classAt s.heap) (P := w.params) (ord := ord) (fun _ h => nomatch h) [ofPy (PyData.list (ns.map PyData.int))] RW.row.args s (pre_splitW hpre).1)
 have keeps := layAllW_keeps _ _ _ hlaid
 have hal := layAllW_rest _ _ _ hlaid
 obtain ⟨as,hrd,hin,hold⟩ := reads_layAllW hord _ _ _ hlaid hlay s₁.heap (fun _ _ e => e)
 have L : Laid [] w s s₁ [ofPy (PyData.list (ns.map PyData.int))] vs as := ⟨⟨ord,hord,hlaid⟩,hrd,hin,hold,keeps,hal.1.trans hg,hal.2.2.1⟩
 obtain ⟨a,rfl,s',R,hK,ho,hg'⟩ := call_law B law hn L
 obtain ⟨hsame,hu,ha,hap,hmk⟩ := frees_parts frees_law
 have good : GoodWG RW.row.toRowW.claim (classAt s.heap) (ExcName.means s.heap) [ofPy (PyData.list (ns.map PyData.int))] s₁ (.ok (.ret (.bool true))) s' :=
   ⟨.inl ⟨_,.bool true,[],rfl,raises_none _,.bool true,post_true _,fun _ => ⟨List.nodup_nil,fun _ h => nomatch h⟩⟩,hK,ho,.of_eq hg'⟩
 have z := good.laid (c := RW.row.toRowW.claim) (w := w) (s₀ := s) hsame rfl (ident_freeW hu ha hap) L
 have hm1 : s₁.heap.Ns mainGlobals (s.heap.nsMap mainGlobals) := hm.at fun o e => keeps _ _ e
 have hf := main_get s.heap w.params B.three.1
 obtain ⟨n,r,t,t',hrun,hsched,hfo,hR⟩ := ends_of (prog := prog) (w := w) (s := s₁) (Shared.asleep_of_life hal.2.2.2 hz)
   (R := fun r x => r = .ok (.ret (.bool true)) ∧ x = s')
   (stub_wp (M := model prog w) (R := fun r x => (r = .ok (.ret (.bool true)) ∧ x = s') ∧ leftWithCleanup x.gens = false) hm1 hf R ⟨⟨rfl,rfl⟩,leftWithCleanup_false_of_bare (AllBare.of_eq hg')⟩)
 obtain ⟨rfl,rfl⟩ := hR
 obtain ⟨eh,_,_,eo,_⟩ := Shared.forget_eq hfo
 have hcase := z.1.congr eh
 have hlife : t.heap.life = s.heap.life := (runN_life _ _ _ hrun).trans hal.2.2.2
 refine ⟨[.ref a],s₁,hlaid,n,_,t,hsched,?_,(fun _ i x hx => by rw [hg] at hx; simp at hx),hk _,by rw [hlife],Shared.rest_eq (eo.trans z.2.1)⟩
 rcases hcase with ⟨v,e,d1,d2,d3,d4,d5⟩ | ⟨e,ob,cls,e',d1,d2,d3,d4,d5⟩
 · cases e
   exact .inl ⟨_,rfl,d1,d2,d3,fun b o y _ => d4 b o y,d5⟩
 · cases e'
theorem lk_names : namesResolve prog = true := by kernel_rfl
theorem lk_road : noRoadLSs { strict := !(importedModules prog.main.body).all cThrough.contains,foot := none,bare := (["vars","dir","locals"] : List Str).filter (readsOut prog prog.main.body) } prog.main.body = true := by kernel_rfl
theorem lk_attr : (namesMeet prog prog.main.body fun _ n => attrL n) = true := by kernel_rfl
theorem lk_world : prog.boundNames.all (fun n => !worldNames.contains n) = true := by kernel_rfl
theorem lk_open : looksOpen prog = true := look_both (look_both (look_both (look_both (look_both (by kernel_rfl) (by kernel_rfl)) lk_names) lk_world) lk_road) lk_attr
theorem lk_row : RW.row.wellSaid = true := by
 unfold OpenRow.wellSaid OpenRow.partSaid
 refine look_both (look_both (look_both (look_both (look_both (look_both (look_both (look_both (look_both (look_both (look_both (look_both (look_both (look_both (look_both lk_open ?_) ?_) ?_) ?_) ?_) ?_) ?_) ?_) ?_) ?_) ?_) ?_) ?_) ?_) ?_
 all_goals kernel_rfl
theorem lk_meet : (namesMeet RW.prog RW.above fun _ n => !RW.own.contains n) = true := by kernel_rfl
theorem lk_law : RW.wellSaid = true := by
 unfold OpenLaw.wellSaid
 refine look_both (look_both (look_both (look_both (look_both (look_both (look_both (look_both (look_both (look_both (look_both (look_both (look_both (look_both (look_both (look_both (look_both (look_both lk_row ?_) ?_) ?_) ?_) ?_) ?_) ?_) ?_) ?_) ?_) ?_) ?_) ?_) ?_) ?_) ?_) lk_meet) ?_
 all_goals kernel_rfl
theorem holds_of_law {loose : List Str} (left : LeftO prog q1 loose (fun _ => true) obs val 25416) (law : ∀ (w : World) (ns : List Int),ns.length ≤ 63 → Ctr (model prog w) (kt w.params) (lawC w.params ns)) : PySem.Challenge.rw_nt0533_01.Holds := by
 refine holds_law lk_law fun said => ?_
 refine ⟨said,promised_law,⟨bare_prog,opens_well,rfl⟩,promised_law.witness,fun w => ⟨(left.behind (XP := fun _ _ => True) (fun _ _ => trivial) chains_q1 w).1,fun s' hs' => ?_⟩⟩
 obtain ⟨s₀,hf,hg0,s,hT,hz,hgens,hg,G,y⟩ := (left.behind (XP := fun _ _ => True) (fun _ _ => trivial) chains_q1 w).2 s' hs'
 have hgens : s.gens = #[] := Array.eq_empty_of_size_eq_zero (beq_iff_eq.mp hgens)
 obtain ⟨d,kwd,hdef,hp,hk⟩ := law_def
 refine ⟨s₀,hf,hg0,s,hT,fun n hn => ?_,fun _ h => (nomatch h),fun _ h => (nomatch h),?_⟩
 · obtain rfl : n = RW.row.name := List.mem_singleton.mp hn
   exact pinned_of_view hg G hdef hp hk
 · exact call_from hz hgens (fun h q => nomatch q) G.T.g (behd_of y) (fun ns hn => law w ns hn)
end Mine
namespace Mine
open PySem PySem.W PySem.W.X
noncomputable def ixOf (n0 k : Nat) (a : Nat) (as : List Nat) : Option Nat := match Nat.ble n0 a with
 | true => some (k + (a - n0))
 | false => go as 0
where go : List Nat → Nat → Option Nat
 | [],_ => none
 | x :: r,i => match Nat.beq x a with
  | true => some i
  | false => go r (i + 1)
noncomputable def quietC (c : Sem Fin) : Bool := match c with
 | .pure _ | .raise _ | .rule _ _ | .at _ _ | .point _ _ | .fresh _ | .ask _ | .call _ _ _ _ _ | .handled _ _ | .stack _ => true
 | _ => false
structure SP where
 T : BT
 m : Nat
 n : Nat
 toks : Nat
noncomputable def stepP (den : Code → Sem Fin) (p : Program) (w : World) (D : Drawn) (O : OsState) (n0 k : Nat) (as : List Nat) : SP → Thread → Option (SP × Thread)
 | ⟨T,m,n,toks⟩,⟨cur,code,pos,stack⟩ => match cur with
  | .load a _ f => match ixOf n0 k a as with
   | some j => match T.get j with
    | some o => match o.isFreed with
     | true => none
     | false => some (⟨T,m,n,toks⟩,⟨f o,code,pos,stack⟩)
    | none => none
   | none => none
  | .update a _ g f => match ixOf n0 k a as with
   | some j => match T.get j with
    | some o => match (g o).isFreed with
     | true => none
     | false => some (⟨T.set j g,m,n,toks⟩,⟨f (),code,pos,stack⟩)
    | none => none
   | none => none
  | .alloc o f => match o.isFreed with
   | true => none
   | false => match (T.ins m o).get m with
    | some _ => some (⟨T.ins m o,m + 1,n + 1,toks⟩,⟨f n,code,pos,stack⟩)
    | none => none
  | c => match quietC c with
   | true => match step den p w ⟨{},#[],D,toks,O⟩ ⟨c,code,pos,stack⟩ with
    | .go s' t' => some (⟨T,m,n,s'.toks⟩,t')
    | .halt _ _ => none
   | false => none
noncomputable def runP (den : Code → Sem Fin) (p : Program) (w : World) (D : Drawn) (O : OsState) (n0 k : Nat) (as : List Nat) (h0 : Nat) (ann : Option Value) (b : Nat) : Nat → SP → Thread → Option (Flow × SP × Code × Pos)
 | 0,_,_ => none
 | i + 1,s,t => match endAt b t with
  | some f => some (f,s,t.code,t.pos)
  | none => match stepOk h0 ann t with
   | false => none
   | true => match stepP den p w D O n0 k as s t with
    | some (s',t') => runP den p w D O n0 k as h0 ann b i s' t'
    | none => none
noncomputable def adr (n0 k : Nat) (as : List Nat) (j : Nat) : Nat := if j < k then as.getD j 0 else n0 + (j - k)
structure Cov (D : Drawn) (O : OsState) (n0 k : Nat) (as : List Nat) (s0 : Shared) (x : SP) (s : Shared) : Prop where
 own : ∀ j o,x.T.get j = some o → j < x.m ∧ s.heap.get? (adr n0 k as j) = some o
 mle : k ≤ x.m
 size : s.heap.objs.size = x.n
 nm : x.n = n0 + (x.m - k)
 gens : s.gens = #[]
 drawn : s.drawn = D
 toks : s.toks = x.toks
 os : s.os = O
 keep : ∀ b o,b < n0 → b ∉ as → s0.heap.get? b = some o → s.heap.get? b = some o
 life : s.heap.life = s0.heap.life
theorem go_some {a : Nat} : ∀ {as : List Nat} {i j : Nat},ixOf.go a as i = some j → i ≤ j ∧ j < i + as.length ∧ as.getD (j - i) 0 = a
 | [],_,_,h => nomatch h
 | x :: r,i,j,h => by
  unfold ixOf.go at h
  split at h
  · rename_i q
    cases h
    have := Nat.eq_of_beq_eq_true q
    subst this
    exact ⟨Nat.le_refl _,by simp,by simp⟩
  · obtain ⟨h1,h2,h3⟩ := go_some h
    refine ⟨by omega,by simp; omega,?_⟩
    have : j - i = (j - (i + 1)) + 1 := by omega
    rw [this]
    simpa using h3
theorem ix_adr {n0 k a j : Nat} {as : List Nat} (hk : as.length = k) (h : ixOf n0 k a as = some j) : adr n0 k as j = a := by
 unfold ixOf at h
 unfold adr
 split at h
 · rename_i q
   cases h
   have := Nat.le_of_ble_eq_true q
   rw [if_neg (by omega)]
   omega
 · obtain ⟨h1,h2,h3⟩ := go_some h
   rw [if_pos (by omega)]
   simpa using h3
theorem adr_inj {n0 k : Nat} {as : List Nat} (hk : as.length = k) (hn : as.Nodup) (hlt : ∀ a ∈ as,a < n0) {i j : Nat} (h : adr n0 k as i = adr n0 k as j) : i = j := by
 have mem : ∀ i,i < k → as.getD i 0 ∈ as := fun i hi => by
   rw [List.getD_eq_getElem?_getD,List.getElem?_eq_getElem (by omega)]
   exact List.getElem_mem _
 unfold adr at h
 split at h <;> split at h
 · rename_i h1 h2
   rw [List.getD_eq_getElem?_getD,List.getD_eq_getElem?_getD,List.getElem?_eq_getElem (by omega),List.getElem?_eq_getElem (by omega)] at h
   exact nodup_get hn (List.getElem?_eq_getElem (by omega)) (by rw [List.getElem?_eq_getElem (by omega)]; exact congrArg some h.symm)
 · rename_i h1 h2
   have := hlt _ (mem i h1)
   omega
 · rename_i h1 h2
   have := hlt _ (mem j h2)
   omega
 · omega
theorem no_fin {o : Outcome} {s s' : Shared} {t' : Thread} (h : finish o s = .go s' t') : False := by
 unfold finish at h
 split at h <;> cases h
theorem step_load {den : Code → Sem Fin} {p : Program} {w : World} {s : Shared} {a : Nat} {pt : Option Value} {f : Obj → Sem Fin} {code : Code} {pos : Pos} {stack : List Frame} {o : Obj} (e : s.heap.get? a = some o) : step den p w s ⟨.load a pt f,code,pos,stack⟩ = .go s ⟨f o,code,pos,stack⟩ := by
 show (match s.heap.get? a with | some o => Step.go s ⟨f o,code,pos,stack⟩ | none => _) = _
 rw [e]
theorem step_upd {den : Code → Sem Fin} {p : Program} {w : World} {s : Shared} {a : Nat} {pt : Option Value} {g : Obj → Obj} {f : Unit → Sem Fin} {code : Code} {pos : Pos} {stack : List Frame} {o : Obj} (e : s.heap.get? a = some o) : step den p w s ⟨.update a pt g f,code,pos,stack⟩ = .go ⟨s.heap.update a g,s.gens,s.drawn,s.toks,s.os⟩ ⟨f (),code,pos,stack⟩ := by
 show (if (s.heap.get? a).isSome then Step.go _ _ else _) = _
 rw [e]
 rfl
theorem step_new {den : Code → Sem Fin} {p : Program} {w : World} {s : Shared} {n : Nat} {o : Obj} {f : Nat → Sem Fin} {code : Code} {pos : Pos} {stack : List Frame} (e : s.heap.objs.size = n) : step den p w s ⟨.alloc o f,code,pos,stack⟩ = .go ⟨s.heap.push o,s.gens,s.drawn,s.toks,s.os⟩ ⟨f n,code,pos,stack⟩ := by
  subst e; rfl
theorem quiet_step {den : Code → Sem Fin} {p : Program} {w : World} {D : Drawn} {O : OsState} {toks : Nat} {c : Sem Fin} {code : Code} {pos : Pos} {stack : List Frame} {H : Heap} {s' : Shared} {t' : Thread} (q : quietC c = true)
  (h : step den p w ⟨{},#[],D,toks,O⟩ ⟨c,code,pos,stack⟩ = .go s' t') : step den p w ⟨H,#[],D,toks,O⟩ ⟨c,code,pos,stack⟩ = .go ⟨H,#[],D,s'.toks,O⟩ t' := by
 have e := step_heap (H := H) (by intro a x f e; subst e; cases q) (by intro a x g f e; subst e; cases q) (by intro o f e; subst e; cases q) (by intro a f e; subst e; cases q) h
 rw [e]
 have : s'.gens = #[] ∧ s'.drawn = D ∧ s'.os = O := by
  cases c with
  | pure f =>
   cases f with
   | done f =>
    cases stack with
    | nil => exact (no_fin h).elim
    | cons fr r => cases fr <;> (have h : Step.go _ _ = Step.go s' t' := h; cases h; exact ⟨by simp,rfl,rfl⟩)
   | again c => (have h : Step.go _ _ = Step.go s' t' := h); cases h; exact ⟨rfl,rfl,rfl⟩
  | raise e =>
   cases stack with
   | nil => exact (no_fin h).elim
   | cons fr r => cases fr <;> (have h : Step.go _ _ = Step.go s' t' := h; cases h; exact ⟨by simp,rfl,rfl⟩)
  | rule | «at» | point | fresh | ask | call | handled | stack => (have h : Step.go _ _ = Step.go s' t' := h); cases h; exact ⟨rfl,rfl,rfl⟩
  | _ => cases q
 obtain ⟨h1,h2,h3⟩ := this
 rw [h1,h2,h3]
theorem stepP_spec {den : Code → Sem Fin} {p : Program} {w : World} {D : Drawn} {O : OsState} {n0 k : Nat} {as : List Nat} (hk : as.length = k) (hn : as.Nodup) (hlt : ∀ a ∈ as,a < n0) {s0 s : Shared} {x x' : SP} {t t' : Thread}
  (h : stepP den p w D O n0 k as x t = some (x',t')) (C : Cov D O n0 k as s0 x s) (h0 : n0 ≤ s.heap.objs.size) : ∃ s',step den p w s t = .go s' t' ∧ Cov D O n0 k as s0 x' s' ∧ n0 ≤ s'.heap.objs.size := by
 obtain ⟨T,m,n,toks⟩ := x
 obtain ⟨heap,gens,drawn,tk,os⟩ := s
 obtain ⟨cur,code,pos,stack⟩ := t
 obtain ⟨own,mle,size,nm,hg,hd,ht,ho,keep,life⟩ := C
 simp only at own mle size nm hg hd ht ho keep life h0
 subst hg hd ht ho
 have quiet : ∀ c,quietC c = true → cur = c → (match step den p w ⟨{},#[],drawn,tk,os⟩ ⟨c,code,pos,stack⟩ with
      | .go s' t' => some ((⟨T,m,n,s'.toks⟩ : SP),t')
      | .halt _ _ => none) = some (x',t') → ∃ s',step den p w ⟨heap,#[],drawn,tk,os⟩ ⟨cur,code,pos,stack⟩ = .go s' t' ∧ Cov drawn os n0 k as s0 x' s' ∧ n0 ≤ s'.heap.objs.size := fun c q e h => by
  subst e
  cases hs : step den p w ⟨{},#[],drawn,tk,os⟩ ⟨cur,code,pos,stack⟩ with
  | halt o s => rw [hs] at h; cases h
  | go s' t'' =>
    rw [hs] at h
    cases h
    exact ⟨_,quiet_step q hs,⟨own,mle,size,nm,rfl,rfl,rfl,rfl,keep,life⟩,h0⟩
 cases cur with
 | load a pt f =>
  simp only [stepP] at h
  split at h
  · rename_i j hj
    split at h
    · rename_i o hT
      split at h
      · cases h
      · cases h
        have := (own j o hT).2
        rw [ix_adr hk hj] at this
        exact ⟨⟨heap,#[],drawn,tk,os⟩,step_load this,⟨own,mle,size,nm,rfl,rfl,rfl,rfl,keep,life⟩,h0⟩
    · cases h
  · cases h
 | update a pt g f =>
  simp only [stepP] at h
  split at h
  · rename_i j hj
    split at h
    · rename_i o hT
      split at h
      · cases h
      · rename_i hf
        cases h
        have z := (own j o hT).2
        rw [ix_adr hk hj] at z
        refine ⟨⟨heap.update a g,#[],drawn,tk,os⟩,step_upd z,⟨fun i o' e => ?_,mle,by rw [(Heap.SameBut.update heap a g).1]; exact size,nm,rfl,rfl,rfl,rfl,fun b o' hb hnb e => ?_,?_⟩,by rw [(Heap.SameBut.update heap a g).1]; exact h0⟩
        · rw [BT.get_set] at e
          by_cases hi : i = j
          · subst hi
            rw [if_pos rfl,hT] at e
            cases e
            refine ⟨(own i o hT).1,?_⟩
            rw [ix_adr hk hj]
            exact Heap.get?_update_self _ z hf
          · rw [if_neg hi] at e
            obtain ⟨e1,e2⟩ := own i o' e
            refine ⟨e1,(Heap.get?_update_ne _ _ _ _ fun q => hi (adr_inj hk hn hlt (q.trans (ix_adr hk hj).symm))).trans e2⟩
        · have hba : b ≠ a := fun q => by
            subst q
            unfold ixOf at hj
            rw [show Nat.ble n0 b = false from by
             cases hq : Nat.ble n0 b with
             | false => rfl
             | true => have := Nat.le_of_ble_eq_true hq; omega] at hj
            obtain ⟨g1,g2,g3⟩ := go_some hj
            apply hnb
            rw [← g3,List.getD_eq_getElem?_getD,List.getElem?_eq_getElem (by omega)]
            exact List.getElem_mem _
          exact (Heap.get?_update_ne _ _ _ _ hba).trans (keep b o' hb hnb e)
        · exact life
    · cases h
  · cases h
 | alloc o f =>
  simp only [stepP] at h
  split at h
  · cases h
  · rename_i hf
    split at h
    · rename_i y hy
      cases h
      refine ⟨⟨heap.push o,#[],drawn,tk,os⟩,step_new size,⟨fun i o' e => ?_,by show k ≤ m + 1; omega,by rw [Heap.size_push,size],by show n + 1 = n0 + (m + 1 - k); omega,rfl,rfl,rfl,rfl,fun b o' hb hnb e => Heap.get?_push_of_some _ (keep b o' hb hnb e),life⟩,by rw [Heap.size_push]; omega⟩
      have e : (T.ins m o).get i = some o' := e
      rw [BT.get_ins o T m (by rw [hy]; rfl)] at e
      by_cases hi : i = m
      · subst hi
        rw [if_pos rfl] at e
        cases e
        refine ⟨Nat.lt_succ_self _,?_⟩
        have : adr n0 k as i = heap.objs.size := by
          unfold adr
          rw [if_neg (by omega),size,nm]
        rw [this]
        exact Heap.get?_push_size _ hf
      · rw [if_neg hi] at e
        obtain ⟨e1,e2⟩ := own i o' e
        exact ⟨Nat.lt_succ_of_lt e1,Heap.get?_push_of_some _ e2⟩
    · cases h
 | pure _ => exact quiet _ rfl rfl h
 | raise _ => exact quiet _ rfl rfl h
 | rule _ _ => exact quiet _ rfl rfl h
 | «at» _ _ => exact quiet _ rfl rfl h
 | point _ _ => exact quiet _ rfl rfl h
 | fresh _ => exact quiet _ rfl rfl h
 | ask _ => exact quiet _ rfl rfl h
 | call _ _ _ _ _ => exact quiet _ rfl rfl h
 | handled _ _ => exact quiet _ rfl rfl h
 | stack _ => exact quiet _ rfl rfl h
 | _ => cases h
theorem runP_spec {tb : String → Option Builtin} {p : Program} {w : World} {D : Drawn} {O : OsState} {n0 k : Nat} {as : List Nat} (hk : as.length = k) (hn : as.Nodup) (hlt : ∀ a ∈ as,a < n0) {h0 b : Nat} {ann : Option Value} {s0 : Shared} :
  ∀ {i : Nat} {x x' : SP} {s : Shared} {t : Thread} {f : Flow} {c : Code} {q : Pos},runP (denote tb) p w D O n0 k as h0 ann b i x t = some (f,x',c,q) → Cov D O n0 k as s0 x s → n0 ≤ s.heap.objs.size →
  ∃ s',segRun tb p w h0 ann b i s t = some (f,s',c,q) ∧ Cov D O n0 k as s0 x' s'
 | 0,_,_,_,_,_,_,_,h,_,_ => by cases h
 | i + 1,x,x',s,t,f,c,q,h,C,hz => by
  unfold runP at h
  unfold segRun
  cases he : endAt b t with
  | some y => rw [he] at h; cases h; exact ⟨s,rfl,C⟩
  | none =>
   rw [he] at h
   cases ho : stepOk h0 ann t with
   | false => rw [ho] at h; cases h
   | true =>
    rw [ho] at h
    cases hs : stepP (denote tb) p w D O n0 k as x t with
    | none => rw [hs] at h; cases h
    | some r =>
     obtain ⟨x2,t2⟩ := r
     rw [hs] at h
     obtain ⟨s2,e2,C2,hz2⟩ := stepP_spec hk hn hlt hs C hz
     obtain ⟨s',e',C'⟩ := runP_spec hk hn hlt h C2 hz2
     exact ⟨s',by dsimp only; rw [e2]; exact e',C'⟩
noncomputable def wrapE (m : Sem Flow) : Sem PySem.Fin :=
 Sem.rec (motive := fun _ => Sem PySem.Fin)
  (pure := fun a => .pure (.done a))
  (raise := fun _ => .unsupported "a raise at the top")
  (unsupported := fun w => .unsupported w)
  (finish := fun e => .finish e)
  (rule := fun t _ ih => .rule t ih)
  («at» := fun p _ ih => .at p ih)
  (load := fun a p _ ih => .load a p ih)
  (update := fun a p g _ ih => .update a p g ih)
  (alloc := fun o _ ih => .alloc o ih)
  (loadIfAlive := fun a _ ih => .loadIfAlive a ih)
  (point := fun l _ ih => .point l ih)
  (register := fun a _ ih => .register a ih)
  (fresh := fun _ ih => .fresh ih)
  (ask := fun _ ih => .ask ih)
  (choose := fun s n _ ih => .choose s n ih)
  (os := fun q l _ ih => .os q l ih)
  (call := fun c h g l _ ih => .call c h g l ih)
  (handled := fun o _ ih => .handled o ih)
  (newGen := fun c _ ih => .newGen c ih)
  (genState := fun g _ ih => .genState g ih)
  (resume := fun g r l _ ih => .resume g r l ih)
  (yield := fun v g l _ ih => .yield v g l ih)
  (stack := fun _ ih => .stack ih)
  (fork := fun c _ ih => .fork c ih)
  (thread := fun _ ih => .thread ih)
  (await := fun a t d l _ ih => .await a t d l ih)
  m
theorem wrapE_eq (m : Sem Flow) : wrapE m = m.wrap doneF deadEnd id id := by
 induction m with
 | pure a => rfl
 | raise e => rfl
 | unsupported w => rfl
 | finish e => rfl
 | rule t k ih => exact congrArg (Sem.rule t) (funext ih)
 | «at» p k ih => exact congrArg (Sem.«at» p) (funext ih)
 | load a p k ih => exact congrArg (Sem.load a p) (funext ih)
 | update a p g k ih => exact congrArg (Sem.update a p g) (funext ih)
 | alloc o k ih => exact congrArg (Sem.alloc o) (funext ih)
 | loadIfAlive a k ih => exact congrArg (Sem.loadIfAlive a) (funext ih)
 | point l k ih => exact congrArg (Sem.point l) (funext ih)
 | register a k ih => exact congrArg (Sem.register a) (funext ih)
 | fresh  k ih => exact congrArg (Sem.fresh ) (funext ih)
 | ask  k ih => exact congrArg (Sem.ask ) (funext ih)
 | choose s n k ih => exact congrArg (Sem.choose s n) (funext ih)
 | os q l k ih => exact congrArg (Sem.os q l) (funext ih)
 | call c m g l k ih => exact congrArg (Sem.call c m g l) (funext ih)
 | handled o k ih => exact congrArg (Sem.handled o) (funext ih)
 | newGen c k ih => exact congrArg (Sem.newGen c) (funext ih)
 | genState g k ih => exact congrArg (Sem.genState g) (funext ih)
 | resume g r l k ih => exact congrArg (Sem.resume g r l) (funext ih)
 | yield v g l k ih => exact congrArg (Sem.«yield» v g l) (funext ih)
 | stack  k ih => exact congrArg (Sem.stack ) (funext ih)
 | fork c k ih => exact congrArg (Sem.fork c) (funext ih)
 | thread  k ih => exact congrArg (Sem.thread ) (funext ih)
 | await a t d l k ih => exact congrArg (Sem.await a t d l) (funext ih)
noncomputable def t589 : Str := ⟨#[60,109,111,100,117,108,101,62]⟩
noncomputable def o1849 (P : Params) : Obj := ⟨.type "tuple",none,.seq #[] 0,#[]⟩
noncomputable def o1850 (P : Params) : Obj := ⟨.none,none,.fields #[],#[]⟩
noncomputable def o1851 (P : Params) : Obj := ⟨.none,none,.func (F [158] t315 t315 0 [] (.none) (.none) (.none) (.none) none (.none) (.none) 0),#[]⟩
noncomputable def topEnv : Env := { scope := prog.main.scope,locals := mainNs,globals := mainNs,cells := [],code := .ref 13,frame := some 14 }
noncomputable def topC : Code := .body (behindTheImports prog) topEnv
noncomputable def stsT (i j : Nat) : List Stmt := ((behindTheImports prog).drop i).take (j - i)
noncomputable def topT (i j : Nat) (p : Pos) : Thread := ⟨wrapE (exT (stsT i j) topEnv),topC,p,[topFrame ⟨0,0,0,0⟩]⟩
noncomputable def mainE (P : Params) : List DictEntry := match (o3 P).data with | .dict es _ => es.toList | _ => []
noncomputable def mainAt (P : Params) (k : Nat) (nm : Value) (n : Nat) : Obj := ⟨.type "dict",none,.dict (K P (.str t0 165) nm :: (mainE P).tail.take (k - 1)).toArray n,#[]⟩
noncomputable def o12 (P : Params) : Obj := ⟨.none,none,.fields #[.int 1 0,.int 0 0,.ref 20,.int 12 0,.int 0 0,.ref 27,.int 16 0,.int 0 0,.ref 48,.int 18 0,.int 0 0,.ref 60,.int 20 0,.int 0 0,.ref 72,.int 22 0,.int 0 0,.ref 82,.int 28 0,.int 0 0,.ref 89,.int 30 0,.int 0 0,.ref 96,.int 32 0,.int 0 0,.ref 103,.int 34 0,.int 0 0,.ref 110,.int 36 0,.int 0 0,.ref 117,.int 44 0,.int 0 0,.ref 124,.int 56 0,.int 0 0,.ref 131,.int 63 0,.int 0 0,.ref 153,.int 70 0,.int 0 0,.ref 174,.int 77 0,.int 0 0,.ref 195,.int 92 0,.int 0 0,.ref 228,.int 98 0,.int 0 0,.ref 249,.int 100 0,.int 0 0,.ref 256,.int 102 0,.int 0 0,.ref 263,.int 104 0,.int 0 0,.ref 271,.int 106 0,.int 0 0,.ref 278,.int 108 0,.int 0 0,.ref 285,.int 110 0,.int 0 0,.ref 293,.int 112 0,.int 0 0,.ref 301,.int 114 0,.int 0 0,.ref 309,.int 116 0,.int 0 0,.ref 316,.int 118 0,.int 0 0,.ref 323,.int 120 0,.int 0 0,.ref 330,.int 126 0,.int 0 0,.ref 337,.int 128 0,.int 0 0,.ref 344,.int 132 0,.int 0 0,.ref 351,.int 135 0,.int 0 0,.ref 358,.int 137 0,.int 0 0,.ref 365,.int 139 0,.int 0 0,.ref 372,.int 141 0,.int 0 0,.ref 379,.int 144 0,.int 0 0,.ref 386,.int 147 0,.int 0 0,.ref 393,.int 149 0,.int 0 0,.ref 400,.int 151 0,.int 0 0,.ref 407,.int 156 0,.int 0 0,.ref 414,.int 158 0,.int 0 0,.ref 421,.int 166 0,.int 0 0,.ref 428,.int 180 0,.int 0 0,.ref 435,.int 184 0,.int 0 0,.ref 442,.int 187 0,.int 0 0,.ref 449,.int 261 0,.int 0 0,.ref 574,.int 278 0,.int 0 0,.ref 596,.int 285 0,.int 0 0,.ref 617,.int 341 0,.int 0 0,.ref 695,.int 394 0,.int 0 0,.ref 777,.int 459 0,.int 0 0,.ref 875,.int 464 0,.int 0 0,.ref 882,.int 488 0,.int 0 0,.ref 889,.int 492 0,.int 0 0,.ref 896,.int 494 0,.int 0 0,.ref 903,.int 498 0,.int 0 0,.ref 910,.int 500 0,.int 0 0,.ref 917,.int 504 0,.int 0 0,.ref 924,.int 514 0,.int 0 0,.ref 931,.int 524 0,.int 0 0,.ref 938,.int 527 0,.int 0 0,.ref 945,.int 535 0,.int 0 0,.ref 952,.int 545 0,.int 0 0,.ref 959,.int 550 0,.int 0 0,.ref 966,.int 561 0,.int 0 0,.ref 973,.int 590 0,.int 0 0,.ref 980,.int 608 0,.int 0 0,.ref 1024,.int 610 0,.int 0 0,.ref 1031,.int 614 0,.int 0 0,.ref 1038,.int 620 0,.int 0 0,.ref 1045,.int 629 0,.int 0 0,.ref 1052,.int 642 0,.int 0 0,.ref 1059,.int 647 0,.int 0 0,.ref 1066,.int 658 0,.int 0 0,.ref 1073,.int 667 0,.int 0 0,.ref 1080,.int 684 0,.int 0 0,.ref 1087,.int 700 0,.int 0 0,.ref 1094,.int 707 0,.int 0 0,.ref 1101,.int 726 0,.int 0 0,.ref 1108,.int 730 0,.int 0 0,.ref 1115,.int 735 0,.int 0 0,.ref 1122,.int 740 0,.int 0 0,.ref 1129,.int 823 0,.int 0 0,.ref 1216,.int 881 0,.int 0 0,.ref 1322,.int 887 0,.int 0 0,.ref 1329,.int 903 0,.int 0 0,.ref 1378,.int 924 0,.int 0 0,.ref 1418,.int 945 0,.int 0 0,.ref 1459,.int 960 0,.int 0 0,.ref 1499,.int 965 0,.int 0 0,.ref 1506,.int 1159 0,.int 0 0,.ref 1705,.int 1169 0,.int 0 0,.ref 1740,.int 1185 0,.int 0 0,.ref 1759,.int 1188 0,.int 0 0,.ref 1766,.int 1191 0,.int 0 0,.ref 1773,.int 1193 0,.int 0 0,.ref 1781,.int 1198 0,.int 0 0,.ref 1788,.int 1206 0,.int 0 0,.ref 1795,.int 1217 0,.int 0 0,.ref 1802,.int 1226 0,.int 0 0,.ref 1807,.int 1228 0,.int 0 0,.ref 1814,.int 1236 0,.int 0 0,.ref 1819,.int 1238 0,.int 0 0,.ref 1826,.int 1243 0,.int 0 0,.ref 1833,.int 1251 0,.int 0 0,.ref 1840,.int 1258 0,.int 0 0,.ref 1847,.int 1263 0,.int 0 0,.ref 1852],#[]⟩
noncomputable def recAt (P : Params) (k : Nat) : Obj := ⟨.none,none,.fields ((match (o12 P).data with | .fields vs => vs.toList | _ => []).take k).toArray,#[]⟩
noncomputable def chkP (x : Option (Flow × SP × Code × Pos)) (idx : List Nat) : Option (Flow × List Obj × Nat × Nat × Nat × Code × Pos) := match x with
 | some (f,s,c,q) => match objs s.T idx with
  | some u => some (f,u,s.m,s.n,s.toks,c,q)
  | none => none
 | none => none
noncomputable def pcB0 (P : Params) : List Obj := [o0 P,
 ⟨.none,none,.dict #[] 0,#[]⟩,
 mainAt P 9 (.str t588 164) 9,
 o4 P,
 recAt P 0,
 ⟨.type "code",none,.fields #[.str t589 182,.str t589 183,.str t166 184,.int 1 0,.int 0 0,.int 0 0,.int 0 0,.int 0 0,.ref 11,.bool false,.int 181 0,.ref 12,.none,.none,.none,.none,.int 185 0,.int 1 0,.str t166 186],#[]⟩]
noncomputable def pcA0 (P : Params) : List Obj := [o0 P,
 o2 P,
 mainAt P 31 (.str t324 342) 31,
 o4 P,
 recAt P 36,
 ⟨.type "code",none,.fields #[.str t589 182,.str t589 183,.str t166 184,.int 1 0,.int 0 0,.int 0 0,.int 0 0,.int 0 0,.ref 11,.bool false,.int 181 0,.ref 12,.none,.none,.none,.none,.int 185 0,.int 1 0,.str t166 186],#[]⟩,
 o29 P,
 o35 P,
 o36 P,
 o38 P,
 o39 P,
 o51 P,
 o52 P,
 o64 P,
 o89 P,
 o90 P,
 o96 P,
 o97 P,
 o124 P,
 o125 P]
theorem pc0 (w : World) (O : OsState) : chkP (runP deT prog w boot_drawn O 15 6 [0,2,3,4,12,13] 11 (some (.ref 6)) 1 1229 ⟨bt (pcB0 w.params),6,15,187⟩ (topT 0 24 ⟨0,0,0,0⟩)) [0,1,2,3,4,5,20,26,27,29,30,42,43,55,80,81,87,88,115,116] =
    some (.next,pcA0 w.params,117,126,350,topC,⟨55,0,55,9⟩) := by kernel_rfl
noncomputable def pcB1 (P : Params) : List Obj := [o0 P,
 o2 P,
 mainAt P 31 (.str t324 342) 31,
 o4 P,
 recAt P 36,
 ⟨.type "code",none,.fields #[.str t589 182,.str t589 183,.str t166 184,.int 1 0,.int 0 0,.int 0 0,.int 0 0,.int 0 0,.ref 11,.bool false,.int 181 0,.ref 12,.none,.none,.none,.none,.int 185 0,.int 1 0,.str t166 186],#[]⟩]
noncomputable def pcA1 (P : Params) : List Obj := [o0 P,
 o2 P,
 mainAt P 39 (.str t324 342) 39,
 o4 P,
 recAt P 60,
 ⟨.type "code",none,.fields #[.str t589 182,.str t589 183,.str t166 184,.int 1 0,.int 0 0,.int 0 0,.int 0 0,.int 0 0,.ref 11,.bool false,.int 181 0,.ref 12,.none,.none,.none,.none,.int 185 0,.int 1 0,.str t166 186],#[]⟩,
 o133 P,
 o139 P,
 o140 P,
 o142 P,
 o143 P,
 o160 P,
 o161 P,
 o163 P,
 o164 P,
 o202 P,
 o203 P,
 o217 P,
 o218 P,
 o235 P,
 o236 P,
 o238 P,
 o239 P,
 o249 P,
 o250 P,
 o263 P,
 o264 P]
theorem pc1 (w : World) (O : OsState) : chkP (runP deT prog w boot_drawn O 126 6 [0,2,3,4,12,13] 11 (some (.ref 6)) 1 1293 ⟨bt (pcB1 w.params),6,126,350⟩ (topT 24 32 ⟨55,0,55,9⟩)) [0,1,2,3,4,5,13,19,20,22,23,40,41,43,44,82,83,97,98,115,116,118,119,129,130,143,144] =
    some (.next,pcA1 w.params,145,265,560,topC,⟨102,0,103,34⟩) := by kernel_rfl
noncomputable def pcB2 (P : Params) : List Obj := [mainAt P 39 (.str t324 342) 39,
 o4 P,
 recAt P 60,
 ⟨.type "code",none,.fields #[.str t589 182,.str t589 183,.str t166 184,.int 1 0,.int 0 0,.int 0 0,.int 0 0,.int 0 0,.ref 11,.bool false,.int 181 0,.ref 12,.none,.none,.none,.none,.int 185 0,.int 1 0,.str t166 186],#[]⟩]
noncomputable def pcA2 (P : Params) : List Obj := [mainAt P 65 (.str t332 740) 65,
 o4 P,
 recAt P 135,
 ⟨.type "code",none,.fields #[.str t589 182,.str t589 183,.str t166 184,.int 1 0,.int 0 0,.int 0 0,.int 0 0,.int 0 0,.ref 11,.bool false,.int 181 0,.ref 12,.none,.none,.none,.none,.int 185 0,.int 1 0,.str t166 186],#[]⟩,
 o265 P,
 o271 P,
 o272 P,
 o278 P,
 o279 P,
 o287 P,
 o293 P,
 o294 P,
 o316 P,
 o317 P,
 o337 P,
 o338 P,
 o344 P,
 o345 P,
 o351 P,
 o352 P,
 o358 P,
 o359 P,
 o365 P,
 o366 P,
 o379 P,
 o380 P,
 o386 P,
 o387 P,
 o393 P,
 o394 P,
 o414 P,
 o415 P,
 o421 P,
 o422 P,
 o428 P,
 o429 P,
 o435 P,
 o436 P]
theorem pc2 (w : World) (O : OsState) : chkP (runP deT prog w boot_drawn O 265 4 [3,4,12,13] 11 (some (.ref 6)) 1 764 ⟨bt (pcB2 w.params),4,265,560⟩ (topT 32 59 ⟨102,0,103,34⟩)) [0,1,2,3,4,10,11,17,18,26,32,33,55,56,76,77,83,84,90,91,97,98,104,105,118,119,125,126,132,133,153,154,160,161,167,168,174,175] =
    some (.next,pcA2 w.params,183,444,751,topC,⟨184,0,186,39⟩) := by kernel_rfl
noncomputable def pcB3 (P : Params) : List Obj := [o0 P,
 o2 P,
 mainAt P 65 (.str t332 740) 65,
 o4 P,
 recAt P 135,
 ⟨.type "code",none,.fields #[.str t589 182,.str t589 183,.str t166 184,.int 1 0,.int 0 0,.int 0 0,.int 0 0,.int 0 0,.ref 11,.bool false,.int 181 0,.ref 12,.none,.none,.none,.none,.int 185 0,.int 1 0,.str t166 186],#[]⟩]
noncomputable def pcA3 (P : Params) : List Obj := [o0 P,
 o2 P,
 mainAt P 71 (.str t350 904) 71,
 o4 P,
 recAt P 144,
 ⟨.type "code",none,.fields #[.str t589 182,.str t589 183,.str t166 184,.int 1 0,.int 0 0,.int 0 0,.int 0 0,.int 0 0,.ref 11,.bool false,.int 181 0,.ref 12,.none,.none,.none,.none,.int 185 0,.int 1 0,.str t166 186],#[]⟩,
 o456 P,
 o457 P,
 o518 P,
 o519 P,
 o563 P,
 o564 P,
 o576 P,
 o582 P,
 o583 P,
 o585 P,
 o586 P]
theorem pc3 (w : World) (O : OsState) : chkP (runP deT prog w boot_drawn O 444 6 [0,2,3,4,12,13] 11 (some (.ref 6)) 1 1298 ⟨bt (pcB3 w.params),6,444,751⟩ (topT 59 66 ⟨184,0,186,39⟩)) [0,1,2,3,4,5,18,19,80,81,125,126,138,144,145,147,148] =
    some (.next,pcA3 w.params,174,612,1017,topC,⟨278,0,284,24⟩) := by kernel_rfl
noncomputable def pcB4 (P : Params) : List Obj := [o0 P,
 o2 P,
 mainAt P 71 (.str t350 904) 71,
 o4 P,
 recAt P 144,
 ⟨.type "code",none,.fields #[.str t589 182,.str t589 183,.str t166 184,.int 1 0,.int 0 0,.int 0 0,.int 0 0,.int 0 0,.ref 11,.bool false,.int 181 0,.ref 12,.none,.none,.none,.none,.int 185 0,.int 1 0,.str t166 186],#[]⟩]
noncomputable def pcA4 (P : Params) : List Obj := [o0 P,
 o2 P,
 mainAt P 73 (.str t350 904) 73,
 o4 P,
 recAt P 150,
 ⟨.type "code",none,.fields #[.str t589 182,.str t589 183,.str t166 184,.int 1 0,.int 0 0,.int 0 0,.int 0 0,.int 0 0,.ref 11,.bool false,.int 181 0,.ref 12,.none,.none,.none,.none,.int 185 0,.int 1 0,.str t166 186],#[]⟩,
 o624 P,
 o625 P,
 o631 P,
 o632 P,
 o633 P,
 o639 P,
 o640 P,
 o646 P,
 o647 P,
 o653 P,
 o654 P,
 o667 P,
 o668 P,
 o681 P,
 o682 P,
 o684 P,
 o685 P,
 o702 P,
 o703 P,
 o709 P,
 o710 P,
 o751 P,
 o752 P,
 o768 P,
 ⟨.type "type",none,.cls ⟨t231,[.ref 685],[.ref 769,.ref 685,.type "object"],768,t231,true,[],[],false,none,false⟩,#[(some (.ref 690)),none,(some (.str t231 1119)),(some (.str t231 1127)),(some (.builtin "object.__new__")),(some (.bool true))]⟩]
theorem pc4 (w : World) (O : OsState) : chkP (runP deT prog w boot_drawn O 612 6 [0,2,3,4,12,13] 11 (some (.ref 6)) 1 1097 ⟨bt (pcB4 w.params),6,612,1017⟩ (topT 66 68 ⟨278,0,284,24⟩)) [0,1,2,3,4,5,18,19,25,26,27,33,34,40,41,47,48,61,62,75,76,78,79,96,97,103,104,145,146,162,163] =
    some (.next,pcA4 w.params,166,772,1235,topC,⟨341,0,393,17⟩) := by kernel_rfl
noncomputable def pcB5 (P : Params) : List Obj := [o0 P,
 o2 P,
 mainAt P 73 (.str t350 904) 73,
 o4 P,
 recAt P 150,
 ⟨.type "code",none,.fields #[.str t589 182,.str t589 183,.str t166 184,.int 1 0,.int 0 0,.int 0 0,.int 0 0,.int 0 0,.ref 11,.bool false,.int 181 0,.ref 12,.none,.none,.none,.none,.int 185 0,.int 1 0,.str t166 186],#[]⟩,
 o684 P,
 o685 P,
 o768 P,
 ⟨.type "type",none,.cls ⟨t231,[.ref 685],[.ref 769,.ref 685,.type "object"],768,t231,true,[],[],false,none,false⟩,#[(some (.ref 690)),none,(some (.str t231 1119)),(some (.str t231 1127)),(some (.builtin "object.__new__")),(some (.bool true))]⟩]
noncomputable def pcA5 (P : Params) : List Obj := [o0 P,
 o2 P,
 mainAt P 106 (.str t393 1526) 106,
 o4 P,
 recAt P 198,
 ⟨.type "code",none,.fields #[.str t589 182,.str t589 183,.str t166 184,.int 1 0,.int 0 0,.int 0 0,.int 0 0,.int 0 0,.ref 11,.bool false,.int 181 0,.ref 12,.none,.none,.none,.none,.int 185 0,.int 1 0,.str t166 186],#[]⟩,
 o684 P,
 o685 P,
 o768 P,
 o769 P,
 o866 P,
 o867 P,
 o875 P,
 o876 P,
 o896 P,
 o897 P,
 o917 P,
 o918 P,
 o924 P,
 o925 P,
 o945 P,
 o946 P,
 o959 P,
 o960 P,
 o966 P,
 o967 P,
 o973 P,
 o974 P]
theorem pc5 (w : World) (O : OsState) : chkP (runP deT prog w boot_drawn O 772 10 [0,2,3,4,12,13,684,685,768,769] 11 (some (.ref 6)) 1 1293 ⟨bt (pcB5 w.params),10,772,1235⟩ (topT 68 103 ⟨341,0,393,17⟩)) [0,1,2,3,4,5,6,7,8,9,104,105,113,114,134,135,155,156,162,163,183,184,197,198,204,205,211,212] =
    some (.next,pcA5 w.params,213,975,1550,topC,⟨582,0,582,14⟩) := by kernel_rfl
noncomputable def pcB6 (P : Params) : List Obj := [o0 P,
 o2 P,
 mainAt P 106 (.str t393 1526) 106,
 o4 P,
 recAt P 198,
 ⟨.type "code",none,.fields #[.str t589 182,.str t589 183,.str t166 184,.int 1 0,.int 0 0,.int 0 0,.int 0 0,.int 0 0,.ref 11,.bool false,.int 181 0,.ref 12,.none,.none,.none,.none,.int 185 0,.int 1 0,.str t166 186],#[]⟩]
noncomputable def pcA6 (P : Params) : List Obj := [o0 P,
 o2 P,
 mainAt P 129 (.str t393 1526) 129,
 o4 P,
 recAt P 246,
 ⟨.type "code",none,.fields #[.str t589 182,.str t589 183,.str t166 184,.int 1 0,.int 0 0,.int 0 0,.int 0 0,.int 0 0,.ref 11,.bool false,.int 181 0,.ref 12,.none,.none,.none,.none,.int 185 0,.int 1 0,.str t166 186],#[]⟩,
 o982 P,
 o988 P,
 o989 P,
 o1003 P,
 o1004 P,
 o1010 P,
 o1011 P,
 o1013 P,
 o1014 P,
 o1024 P,
 o1025 P,
 o1045 P,
 o1046 P,
 o1052 P,
 o1053 P,
 o1059 P,
 o1060 P,
 o1080 P,
 o1081 P,
 o1108 P,
 o1109 P,
 o1115 P,
 o1116 P]
theorem pc6 (w : World) (O : OsState) : chkP (runP deT prog w boot_drawn O 975 6 [0,2,3,4,12,13] 11 (some (.ref 6)) 1 904 ⟨bt (pcB6 w.params),6,975,1550⟩ (topT 103 126 ⟨582,0,582,14⟩)) [0,1,2,3,4,5,13,19,20,34,35,41,42,44,45,55,56,76,77,83,84,90,91,111,112,139,140,146,147] =
    some (.next,pcA6 w.params,155,1124,1751,topC,⟨735,0,739,16⟩) := by kernel_rfl
noncomputable def pcB7 (P : Params) : List Obj := [o0 P,
 o2 P,
 mainAt P 129 (.str t393 1526) 129,
 o4 P,
 recAt P 246,
 ⟨.type "code",none,.fields #[.str t589 182,.str t589 183,.str t166 184,.int 1 0,.int 0 0,.int 0 0,.int 0 0,.int 0 0,.ref 11,.bool false,.int 181 0,.ref 12,.none,.none,.none,.none,.int 185 0,.int 1 0,.str t166 186],#[]⟩]
noncomputable def pcA7 (P : Params) : List Obj := [o0 P,
 o2 P,
 mainAt P 134 (.str t434 2005) 134,
 o4 P,
 recAt P 255,
 ⟨.type "code",none,.fields #[.str t589 182,.str t589 183,.str t166 184,.int 1 0,.int 0 0,.int 0 0,.int 0 0,.int 0 0,.ref 11,.bool false,.int 181 0,.ref 12,.none,.none,.none,.none,.int 185 0,.int 1 0,.str t166 186],#[]⟩,
 o1136 P,
 o1137 P,
 o1143 P,
 o1144 P,
 o1157 P,
 o1158 P,
 o1178 P,
 o1179 P,
 o1180 P,
 o1186 P,
 o1187 P,
 o1205 P,
 o1206 P,
 o1223 P,
 o1224 P,
 o1230 P,
 o1231 P,
 o1232 P,
 o1238 P,
 o1239 P,
 o1245 P,
 o1246 P,
 o1252 P,
 o1253 P,
 o1259 P,
 o1260 P,
 o1266 P,
 o1267 P,
 o1273 P,
 o1274 P,
 o1280 P,
 o1281 P,
 o1301 P,
 o1302 P,
 o1308 P,
 o1309 P,
 o1311 P,
 o1312 P,
 o1322 P,
 o1323 P]
theorem pc7 (w : World) (O : OsState) : chkP (runP deT prog w boot_drawn O 1124 6 [0,2,3,4,12,13] 11 (some (.ref 6)) 1 1261 ⟨bt (pcB7 w.params),6,1124,1751⟩ (topT 126 133 ⟨735,0,739,16⟩)) [0,1,2,3,4,5,18,19,25,26,39,40,60,61,62,68,69,87,88,105,106,112,113,114,120,121,127,128,134,135,141,142,148,149,155,156,162,163,183,184,190,191,193,194,204,205] =
    some (.next,pcA7 w.params,206,1324,2011,topC,⟨886,0,886,9⟩) := by kernel_rfl
noncomputable def pcB8 (P : Params) : List Obj := [o0 P,
 o2 P,
 mainAt P 134 (.str t434 2005) 134,
 o4 P,
 recAt P 255,
 ⟨.type "code",none,.fields #[.str t589 182,.str t589 183,.str t166 184,.int 1 0,.int 0 0,.int 0 0,.int 0 0,.int 0 0,.ref 11,.bool false,.int 181 0,.ref 12,.none,.none,.none,.none,.int 185 0,.int 1 0,.str t166 186],#[]⟩]
noncomputable def pcA8 (P : Params) : List Obj := [o0 P,
 o2 P,
 mainAt P 137 (.str t434 2005) 137,
 o4 P,
 recAt P 264,
 ⟨.type "code",none,.fields #[.str t589 182,.str t589 183,.str t166 184,.int 1 0,.int 0 0,.int 0 0,.int 0 0,.int 0 0,.ref 11,.bool false,.int 181 0,.ref 12,.none,.none,.none,.none,.int 185 0,.int 1 0,.str t166 186],#[]⟩,
 o1367 P,
 ⟨.type "type",none,.cls ⟨t293,[.type "object"],[.ref 1368,.type "object"],1367,t293,true,[],[.ref 1410,.ref 1451],false,none,false⟩,#[none,none,(some (.str t293 2011)),(some (.str t293 2019)),(some (.builtin "object.__new__")),(some (.bool true))]⟩,
 o1420 P,
 o1426 P,
 o1427 P,
 o1433 P,
 o1434 P,
 o1450 P,
 o1451 P]
theorem pc8 (w : World) (O : OsState) : chkP (runP deT prog w boot_drawn O 1324 6 [0,2,3,4,12,13] 11 (some (.ref 6)) 1 1037 ⟨bt (pcB8 w.params),6,1324,2011⟩ (topT 133 136 ⟨886,0,886,9⟩)) [0,1,2,3,4,5,49,50,102,108,109,115,116,132,133] =
    some (.next,pcA8 w.params,136,1454,2173,topC,⟨924,0,944,59⟩) := by kernel_rfl
noncomputable def pcB9 (P : Params) : List Obj := [o0 P,
 o2 P,
 mainAt P 137 (.str t434 2005) 137,
 o4 P,
 recAt P 264,
 ⟨.type "code",none,.fields #[.str t589 182,.str t589 183,.str t166 184,.int 1 0,.int 0 0,.int 0 0,.int 0 0,.int 0 0,.ref 11,.bool false,.int 181 0,.ref 12,.none,.none,.none,.none,.int 185 0,.int 1 0,.str t166 186],#[]⟩,
 o1367 P,
 ⟨.type "type",none,.cls ⟨t293,[.type "object"],[.ref 1368,.type "object"],1367,t293,true,[],[.ref 1410,.ref 1451],false,none,false⟩,#[none,none,(some (.str t293 2011)),(some (.str t293 2019)),(some (.builtin "object.__new__")),(some (.bool true))]⟩]
noncomputable def pcA9 (P : Params) : List Obj := [o0 P,
 o2 P,
 mainAt P 139 (.str t434 2005) 139,
 o4 P,
 recAt P 270,
 ⟨.type "code",none,.fields #[.str t589 182,.str t589 183,.str t166 184,.int 1 0,.int 0 0,.int 0 0,.int 0 0,.int 0 0,.ref 11,.bool false,.int 181 0,.ref 12,.none,.none,.none,.none,.int 185 0,.int 1 0,.str t166 186],#[]⟩,
 o1367 P,
 o1368 P,
 o1495 P,
 o1499 P,
 o1500 P]
theorem pc9 (w : World) (O : OsState) : chkP (runP deT prog w boot_drawn O 1454 8 [0,2,3,4,12,13,1367,1368] 11 (some (.ref 6)) 1 372 ⟨bt (pcB9 w.params),8,1454,2173⟩ (topT 136 138 ⟨924,0,944,59⟩)) [0,1,2,3,4,5,6,7,49,53,54] =
    some (.next,pcA9 w.params,55,1501,2230,topC,⟨960,0,964,16⟩) := by kernel_rfl
noncomputable def pcB10 (P : Params) : List Obj := [o0 P,
 o2 P,
 mainAt P 139 (.str t434 2005) 139,
 o4 P,
 recAt P 270,
 ⟨.type "code",none,.fields #[.str t589 182,.str t589 183,.str t166 184,.int 1 0,.int 0 0,.int 0 0,.int 0 0,.int 0 0,.ref 11,.bool false,.int 181 0,.ref 12,.none,.none,.none,.none,.int 185 0,.int 1 0,.str t166 186],#[]⟩]
noncomputable def pcA10 (P : Params) : List Obj := [o0 P,
 o2 P,
 mainAt P 140 (.str t434 2005) 140,
 o4 P,
 recAt P 273,
 ⟨.type "code",none,.fields #[.str t589 182,.str t589 183,.str t166 184,.int 1 0,.int 0 0,.int 0 0,.int 0 0,.int 0 0,.ref 11,.bool false,.int 181 0,.ref 12,.none,.none,.none,.none,.int 185 0,.int 1 0,.str t166 186],#[]⟩,
 o1520 P,
 o1521 P,
 o1527 P,
 o1528 P,
 o1534 P,
 o1535 P,
 o1571 P,
 o1572 P,
 o1578 P,
 o1579 P,
 o1585 P,
 o1586 P,
 o1592 P,
 o1593 P,
 o1620 P,
 o1621 P,
 o1627 P,
 o1628 P,
 o1634 P,
 o1635 P,
 o1641 P,
 o1642 P,
 o1662 P,
 o1663 P,
 o1664 P,
 o1670 P,
 o1671 P,
 o1677 P,
 o1678 P,
 o1691 P,
 o1692 P,
 o1694 P,
 ⟨.type "type",none,.cls ⟨t298,[.type "object"],[.ref 1695,.type "object"],1694,t298,true,[],[],false,none,false⟩,#[none,none,(some (.str t298 2230)),(some (.str t298 2238)),(some (.builtin "object.__new__")),(some (.bool true))]⟩]
theorem pc10 (w : World) (O : OsState) : chkP (runP deT prog w boot_drawn O 1501 6 [0,2,3,4,12,13] 11 (some (.ref 6)) 1 1081 ⟨bt (pcB10 w.params),6,1501,2230⟩ (topT 138 139 ⟨960,0,964,16⟩)) [0,1,2,3,4,5,25,26,32,33,39,40,76,77,83,84,90,91,97,98,125,126,132,133,139,140,146,147,167,168,169,175,176,182,183,196,197,199,200] =
    some (.next,pcA10 w.params,205,1700,2513,topC,⟨965,0,1158,94⟩) := by kernel_rfl
noncomputable def pcB11 (P : Params) : List Obj := [o0 P,
 o2 P,
 mainAt P 140 (.str t434 2005) 140,
 o4 P,
 recAt P 273,
 ⟨.type "code",none,.fields #[.str t589 182,.str t589 183,.str t166 184,.int 1 0,.int 0 0,.int 0 0,.int 0 0,.int 0 0,.ref 11,.bool false,.int 181 0,.ref 12,.none,.none,.none,.none,.int 185 0,.int 1 0,.str t166 186],#[]⟩,
 o1694 P,
 ⟨.type "type",none,.cls ⟨t298,[.type "object"],[.ref 1695,.type "object"],1694,t298,true,[],[],false,none,false⟩,#[none,none,(some (.str t298 2230)),(some (.str t298 2238)),(some (.builtin "object.__new__")),(some (.bool true))]⟩]
noncomputable def pcA11 (P : Params) : List Obj := [o0 P,
 o2 P,
 mainAt P 157 (.str t162 2661) 157,
 o4 P,
 recAt P 324,
 ⟨.type "code",none,.fields #[.str t589 182,.str t589 183,.str t166 184,.int 1 0,.int 0 0,.int 0 0,.int 0 0,.int 0 0,.ref 11,.bool false,.int 181 0,.ref 12,.none,.none,.none,.none,.int 185 0,.int 1 0,.str t166 186],#[]⟩,
 o1694 P,
 o1695 P,
 o1712 P,
 o1713 P,
 o1729 P,
 o1730 P,
 o1747 P,
 o1748 P,
 o1750 P,
 o1751 P,
 o1759 P,
 o1760 P,
 o1766 P,
 o1767 P,
 o1773 P,
 o1774 P,
 o1775 P,
 o1781 P,
 o1782 P,
 o1788 P,
 o1789 P,
 o1795 P,
 o1796 P,
 o1802 P,
 o1803 P,
 o1807 P,
 o1808 P,
 o1814 P,
 o1815 P,
 o1819 P,
 o1820 P,
 o1826 P,
 o1827 P,
 o1833 P,
 o1834 P,
 o1840 P,
 o1841 P,
 o1847 P,
 o1848 P,
 o1849 P,
 o1850 P,
 o1851 P,
 o1852 P,
 o1853 P]
theorem pc11 (w : World) (O : OsState) : chkP (runP deT prog w boot_drawn O 1700 8 [0,2,3,4,12,13,1694,1695] 11 (some (.ref 6)) 1 1028 ⟨bt (pcB11 w.params),8,1700,2513⟩ (topT 139 159 ⟨965,0,1158,94⟩)) [0,1,2,3,4,5,6,7,20,21,37,38,55,56,58,59,67,68,74,75,81,82,83,89,90,96,97,103,104,110,111,115,116,122,123,127,128,134,135,141,142,148,149,155,156,157,158,159,160,161] =
    some (.next,pcA11 w.params,162,1854,2733,topC,⟨1263,0,1296,112⟩) := by kernel_rfl
structure StK (w : World) (O : OsState) (n toks : Nat) (K : List (Nat × Obj)) (s : Shared) : Prop where
 size : s.heap.objs.size = n
 gens : s.gens = #[]
 drawn : s.drawn = boot_drawn
 toks : s.toks = toks
 os : s.os = O
 life : s.heap.life = (boot_heap w.params).life
 all : ∀ p ∈ K,s.heap.get? p.1 = some p.2
theorem deT_tree : denote treeTable = deT := by
 show denote treeTable = PySem.W.Fast.tw11892475500146522536 PySem.W.Fast.tw14364793385576792824
 rw [← PySem.W.Fast.te11892475500146522536,← PySem.W.Fast.te14364793385576792824]
theorem own_of_zip {h : Heap} : ∀ {as : List Nat} {os : List Obj},as.length = os.length → (∀ p ∈ as.zip os,h.get? p.1 = some p.2) → Own h as os
 | [],[],_,_ => trivial
 | a :: as,o :: os,hl,H => ⟨H (a,o) (by simp),own_of_zip (by simpa using hl) fun p hp => H p (by simp [hp])⟩
 | [],_ :: _,hl,_ => by simp at hl
 | _ :: _,[],hl,_ => by simp at hl
theorem zip_of_own {h : Heap} : ∀ {as : List Nat} {os : List Obj},Own h as os → ∀ p ∈ as.zip os,h.get? p.1 = some p.2
 | [],_,_,p,hp => by simp at hp
 | a :: as,[],H,_,_ => H.elim
 | a :: as,o :: os,H,p,hp => by
  rw [List.zip_cons_cons] at hp
  rcases List.mem_cons.mp hp with rfl | hp
  · exact H.1
  · exact zip_of_own H.2 p hp
theorem topT_eq (i j : Nat) (p : Pos) : topT i j p = piecesOf (stsT i j) topEnv topC p [topFrame ⟨0,0,0,0⟩] := by
 unfold topT
 rw [wrapE_eq,← ex_eq]
theorem chkP_some {x : Option (Flow × SP × Code × Pos)} {idx : List Nat} {f : Flow} {u : List Obj} {m n t : Nat} {c : Code} {q : Pos} (h : chkP x idx = some (f,u,m,n,t,c,q)) : ∃ s,x = some (f,s,c,q) ∧ objs s.T idx = some u ∧ s.m = m ∧ s.n = n ∧ s.toks = t := by
 unfold chkP at h
 cases x with
 | none => cases h
 | some y =>
  obtain ⟨f',s,c',q'⟩ := y
  dsimp only at h
  cases e : objs s.T idx with
  | none => rw [e] at h; cases h
  | some u' => rw [e] at h; cases h; exact ⟨s,rfl,e,rfl,rfl,rfl⟩
theorem piece_st {w : World} {O : OsState} {i j n0 k N n1 m1 toks0 toks1 : Nat} {as idx : List Nat} {objsB u : List Obj} {pos pos' : Pos}
   (h : chkP (runP deT prog w boot_drawn O n0 k as 11 (some (.ref 6)) 1 N ⟨bt objsB,k,n0,toks0⟩ (topT i j pos)) idx = some (.next,u,m1,n1,toks1,topC,pos'))
   (hk : as.length = k) (hb : objsB.length = k) (hn : as.Nodup) (hlt : ∀ a ∈ as,a < n0) {s : Shared} {K : List (Nat × Obj)} (hs : StK w O n0 toks0 K s) (hK : ∀ p ∈ as.zip objsB,p ∈ K) :
   ∃ s',segRun treeTable prog w 11 (some (.ref 6)) 1 N s (piecesOf (stsT i j) topEnv topC pos [topFrame ⟨0,0,0,0⟩]) = some (.next,s',topC,pos') ∧
    StK w O n1 toks1 (K.filter (fun p => !as.contains p.1) ++ (idx.map (adr n0 k as)).zip u) s' := by
 obtain ⟨x,hx,hu,rfl,rfl,rfl⟩ := chkP_some h
 rw [← deT_tree,topT_eq] at hx
 have own : Own s.heap as objsB := own_of_zip (by rw [hk,hb]) fun p hp => hs.all p (hK p hp)
 have C : Cov boot_drawn O n0 k as s ⟨bt objsB,k,n0,toks0⟩ s := by
   refine ⟨fun l o e => ?_,Nat.le_refl _,hs.size,by show n0 = n0 + (k - k); omega,hs.gens,hs.drawn,hs.toks,hs.os,fun _ _ _ _ e => e,rfl⟩
   have e : (bt objsB).get l = some o := e
   unfold bt at e
   cases q : news .nil 0 objsB with
   | none => rw [q] at e; cases e
   | some y =>
    rw [q] at e
    have z := news_nil_own own q l o e
    have hl : l < k := by have := z.1; omega
    refine ⟨hl,?_⟩
    unfold adr
    rw [if_pos hl]
    exact z.2
 obtain ⟨s',e,C'⟩ := runP_spec hk hn hlt hx C (by rw [hs.size]; exact Nat.le_refl _)
 refine ⟨s',e,C'.size,C'.gens,C'.drawn,C'.toks,C'.os,C'.life.trans hs.life,fun p hp => ?_⟩
 rcases List.mem_append.mp hp with hp | hp
 · obtain ⟨h1,h2⟩ := List.mem_filter.mp hp
   have g := hs.all p h1
   exact C'.keep p.1 p.2 (by rw [← hs.size]; exact Heap.lt_size g) (by simpa using h2) g
 · exact zip_of_own (objs_own (fun l o e => (C'.own l o e).2) hu) p hp
theorem mem_of_idx {K : List (Nat × Obj)} {l : List (Nat × Obj)} (is : List Nat) (h : is.map (fun i => K[i]?) = l.map some) : ∀ p ∈ l,p ∈ K := fun p hp => by
 have : some p ∈ l.map some := List.mem_map.mpr ⟨p,hp,rfl⟩
 rw [← h] at this
 obtain ⟨i,_,e⟩ := List.mem_map.mp this
 exact List.mem_of_getElem? e
noncomputable def nextK (as idx : List Nat) (n0 k : Nat) (K : List (Nat × Obj)) (u : List Obj) : List (Nat × Obj) := K.filter (fun p => !as.contains p.1) ++ (idx.map (adr n0 k as)).zip u
noncomputable def K0 (P : Params) : List (Nat × Obj) := [(0,o0 P),(1,o1 P),(2,(pcB0 P).getD 1 default),(3,(pcB0 P).getD 2 default),(4,o4 P),(5,⟨.type "module",some 3,.plain,#[]⟩),(6,⟨.type "dict",none,.dict #[] 0,#[]⟩),(7,⟨.type "tuple",none,.seq #[] 0,#[]⟩),(8,⟨.none,none,.fields #[],#[]⟩),(9,⟨.type "code",none,.fields #[.str t589 176,.str t589 177,.str t166 178,.int 1 0,.int 0 0,.int 0 0,.int 0 0,.int 0 0,.ref 7,.bool false,.int 175 0,.ref 8,.none,.none,.none,.none,.int 179 0,.int 1 0,.str t166 180],#[]⟩),(10,⟨.type "frame",none,.plain,#[(some (.ref 9)),(some (.ref 3)),(some (.ref 3)),none,(some (.str t588 164)),none,(some (.ref 0))]⟩),(11,⟨.type "tuple",none,.seq #[] 0,#[]⟩),(12,(pcB0 P).getD 4 default),(13,(pcB0 P).getD 5 default),(14,⟨.type "frame",none,.plain,#[(some (.ref 13)),(some (.ref 3)),(some (.ref 3)),none,(some (.str t588 164)),none,(some (.ref 0))]⟩)]
noncomputable def K1 (P : Params) : List (Nat × Obj) := nextK [0,2,3,4,12,13] [0,1,2,3,4,5,20,26,27,29,30,42,43,55,80,81,87,88,115,116] 15 6 (K0 P) (pcA0 P)
theorem st0 {w : World} {O : OsState} {s : Shared} (h : StK w O 15 187 (K0 w.params) s) : ∃ s',segRun treeTable prog w 11 (some (.ref 6)) 1 1229 s (piecesOf (stsT 0 24) topEnv topC ⟨0,0,0,0⟩ [topFrame ⟨0,0,0,0⟩]) = some (.next,s',topC,⟨55,0,55,9⟩) ∧ StK w O 126 350 (K1 w.params) s' :=
  piece_st (pc0 w O) rfl rfl (by decide) (by decide) h (mem_of_idx [0,2,3,4,12,13] (by kernel_rfl))
noncomputable def K2 (P : Params) : List (Nat × Obj) := nextK [0,2,3,4,12,13] [0,1,2,3,4,5,13,19,20,22,23,40,41,43,44,82,83,97,98,115,116,118,119,129,130,143,144] 126 6 (K1 P) (pcA1 P)
theorem st1 {w : World} {O : OsState} {s : Shared} (h : StK w O 126 350 (K1 w.params) s) : ∃ s',segRun treeTable prog w 11 (some (.ref 6)) 1 1293 s (piecesOf (stsT 24 32) topEnv topC ⟨55,0,55,9⟩ [topFrame ⟨0,0,0,0⟩]) = some (.next,s',topC,⟨102,0,103,34⟩) ∧ StK w O 265 560 (K2 w.params) s' :=
  piece_st (pc1 w O) rfl rfl (by decide) (by decide) h (mem_of_idx [9,10,11,12,13,14] (by kernel_rfl))
noncomputable def K3 (P : Params) : List (Nat × Obj) := nextK [3,4,12,13] [0,1,2,3,4,10,11,17,18,26,32,33,55,56,76,77,83,84,90,91,97,98,104,105,118,119,125,126,132,133,153,154,160,161,167,168,174,175] 265 4 (K2 P) (pcA2 P)
theorem st2 {w : World} {O : OsState} {s : Shared} (h : StK w O 265 560 (K2 w.params) s) : ∃ s',segRun treeTable prog w 11 (some (.ref 6)) 1 764 s (piecesOf (stsT 32 59) topEnv topC ⟨102,0,103,34⟩ [topFrame ⟨0,0,0,0⟩]) = some (.next,s',topC,⟨184,0,186,39⟩) ∧ StK w O 444 751 (K3 w.params) s' :=
  piece_st (pc2 w O) rfl rfl (by decide) (by decide) h (mem_of_idx [25,26,27,28] (by kernel_rfl))
noncomputable def K4 (P : Params) : List (Nat × Obj) := nextK [0,2,3,4,12,13] [0,1,2,3,4,5,18,19,80,81,125,126,138,144,145,147,148] 444 6 (K3 P) (pcA3 P)
theorem st3 {w : World} {O : OsState} {s : Shared} (h : StK w O 444 751 (K3 w.params) s) : ∃ s',segRun treeTable prog w 11 (some (.ref 6)) 1 1298 s (piecesOf (stsT 59 66) topEnv topC ⟨184,0,186,39⟩ [topFrame ⟨0,0,0,0⟩]) = some (.next,s',topC,⟨278,0,284,24⟩) ∧ StK w O 612 1017 (K4 w.params) s' :=
  piece_st (pc3 w O) rfl rfl (by decide) (by decide) h (mem_of_idx [23,24,46,47,48,49] (by kernel_rfl))
noncomputable def K5 (P : Params) : List (Nat × Obj) := nextK [0,2,3,4,12,13] [0,1,2,3,4,5,18,19,25,26,27,33,34,40,41,47,48,61,62,75,76,78,79,96,97,103,104,145,146,162,163] 612 6 (K4 P) (pcA4 P)
theorem st4 {w : World} {O : OsState} {s : Shared} (h : StK w O 612 1017 (K4 w.params) s) : ∃ s',segRun treeTable prog w 11 (some (.ref 6)) 1 1097 s (piecesOf (stsT 66 68) topEnv topC ⟨278,0,284,24⟩ [topFrame ⟨0,0,0,0⟩]) = some (.next,s',topC,⟨341,0,393,17⟩) ∧ StK w O 772 1235 (K5 w.params) s' :=
  piece_st (pc4 w O) rfl rfl (by decide) (by decide) h (mem_of_idx [78,79,80,81,82,83] (by kernel_rfl))
noncomputable def K6 (P : Params) : List (Nat × Obj) := nextK [0,2,3,4,12,13,684,685,768,769] [0,1,2,3,4,5,6,7,8,9,104,105,113,114,134,135,155,156,162,163,183,184,197,198,204,205,211,212] 772 10 (K5 P) (pcA5 P)
theorem st5 {w : World} {O : OsState} {s : Shared} (h : StK w O 772 1235 (K5 w.params) s) : ∃ s',segRun treeTable prog w 11 (some (.ref 6)) 1 1293 s (piecesOf (stsT 68 103) topEnv topC ⟨341,0,393,17⟩ [topFrame ⟨0,0,0,0⟩]) = some (.next,s',topC,⟨582,0,582,14⟩) ∧ StK w O 975 1550 (K6 w.params) s' :=
  piece_st (pc5 w O) rfl rfl (by decide) (by decide) h (mem_of_idx [89,90,91,92,93,94,110,111,118,119] (by kernel_rfl))
noncomputable def K7 (P : Params) : List (Nat × Obj) := nextK [0,2,3,4,12,13] [0,1,2,3,4,5,13,19,20,34,35,41,42,44,45,55,56,76,77,83,84,90,91,111,112,139,140,146,147] 975 6 (K6 P) (pcA6 P)
theorem st6 {w : World} {O : OsState} {s : Shared} (h : StK w O 975 1550 (K6 w.params) s) : ∃ s',segRun treeTable prog w 11 (some (.ref 6)) 1 904 s (piecesOf (stsT 103 126) topEnv topC ⟨582,0,582,14⟩ [topFrame ⟨0,0,0,0⟩]) = some (.next,s',topC,⟨735,0,739,16⟩) ∧ StK w O 1124 1751 (K7 w.params) s' :=
  piece_st (pc6 w O) rfl rfl (by decide) (by decide) h (mem_of_idx [110,111,112,113,114,115] (by kernel_rfl))
noncomputable def K8 (P : Params) : List (Nat × Obj) := nextK [0,2,3,4,12,13] [0,1,2,3,4,5,18,19,25,26,39,40,60,61,62,68,69,87,88,105,106,112,113,114,120,121,127,128,134,135,141,142,148,149,155,156,162,163,183,184,190,191,193,194,204,205] 1124 6 (K7 P) (pcA7 P)
theorem st7 {w : World} {O : OsState} {s : Shared} (h : StK w O 1124 1751 (K7 w.params) s) : ∃ s',segRun treeTable prog w 11 (some (.ref 6)) 1 1261 s (piecesOf (stsT 126 133) topEnv topC ⟨735,0,739,16⟩ [topFrame ⟨0,0,0,0⟩]) = some (.next,s',topC,⟨886,0,886,9⟩) ∧ StK w O 1324 2011 (K8 w.params) s' :=
  piece_st (pc7 w O) rfl rfl (by decide) (by decide) h (mem_of_idx [132,133,134,135,136,137] (by kernel_rfl))
noncomputable def K9 (P : Params) : List (Nat × Obj) := nextK [0,2,3,4,12,13] [0,1,2,3,4,5,49,50,102,108,109,115,116,132,133] 1324 6 (K8 P) (pcA8 P)
theorem st8 {w : World} {O : OsState} {s : Shared} (h : StK w O 1324 2011 (K8 w.params) s) : ∃ s',segRun treeTable prog w 11 (some (.ref 6)) 1 1037 s (piecesOf (stsT 133 136) topEnv topC ⟨886,0,886,9⟩ [topFrame ⟨0,0,0,0⟩]) = some (.next,s',topC,⟨924,0,944,59⟩) ∧ StK w O 1454 2173 (K9 w.params) s' :=
  piece_st (pc8 w O) rfl rfl (by decide) (by decide) h (mem_of_idx [155,156,157,158,159,160] (by kernel_rfl))
noncomputable def K10 (P : Params) : List (Nat × Obj) := nextK [0,2,3,4,12,13,1367,1368] [0,1,2,3,4,5,6,7,49,53,54] 1454 8 (K9 P) (pcA9 P)
theorem st9 {w : World} {O : OsState} {s : Shared} (h : StK w O 1454 2173 (K9 w.params) s) : ∃ s',segRun treeTable prog w 11 (some (.ref 6)) 1 372 s (piecesOf (stsT 136 138) topEnv topC ⟨924,0,944,59⟩ [topFrame ⟨0,0,0,0⟩]) = some (.next,s',topC,⟨960,0,964,16⟩) ∧ StK w O 1501 2230 (K10 w.params) s' :=
  piece_st (pc9 w O) rfl rfl (by decide) (by decide) h (mem_of_idx [195,196,197,198,199,200,201,202] (by kernel_rfl))
noncomputable def K11 (P : Params) : List (Nat × Obj) := nextK [0,2,3,4,12,13] [0,1,2,3,4,5,25,26,32,33,39,40,76,77,83,84,90,91,97,98,125,126,132,133,139,140,146,147,167,168,169,175,176,182,183,196,197,199,200] 1501 6 (K10 P) (pcA10 P)
theorem st10 {w : World} {O : OsState} {s : Shared} (h : StK w O 1501 2230 (K10 w.params) s) : ∃ s',segRun treeTable prog w 11 (some (.ref 6)) 1 1081 s (piecesOf (stsT 138 139) topEnv topC ⟨960,0,964,16⟩ [topFrame ⟨0,0,0,0⟩]) = some (.next,s',topC,⟨965,0,1158,94⟩) ∧ StK w O 1700 2513 (K11 w.params) s' :=
  piece_st (pc10 w O) rfl rfl (by decide) (by decide) h (mem_of_idx [202,203,204,205,206,207] (by kernel_rfl))
noncomputable def K12 (P : Params) : List (Nat × Obj) := nextK [0,2,3,4,12,13,1694,1695] [0,1,2,3,4,5,6,7,20,21,37,38,55,56,58,59,67,68,74,75,81,82,83,89,90,96,97,103,104,110,111,115,116,122,123,127,128,134,135,141,142,148,149,155,156,157,158,159,160,161] 1700 8 (K11 P) (pcA11 P)
theorem st11 {w : World} {O : OsState} {s : Shared} (h : StK w O 1700 2513 (K11 w.params) s) : ∃ s',segRun treeTable prog w 11 (some (.ref 6)) 1 1028 s (piecesOf (stsT 139 159) topEnv topC ⟨965,0,1158,94⟩ [topFrame ⟨0,0,0,0⟩]) = some (.next,s',topC,⟨1263,0,1296,112⟩) ∧ StK w O 1854 2733 (K12 w.params) s' :=
  piece_st (pc11 w O) rfl rfl (by decide) (by decide) h (mem_of_idx [207,208,209,210,211,212,244,245] (by kernel_rfl))
noncomputable def fragIs : List Nat := [238,0,239,240,241,9,10,11,12,13,14,15,16,17,18,19,20,21,22,23,24,25,26,27,28,29,30,31,32,33,34,35,36,37,38,39,40,41,42,43,44,45,46,47,48,49,50,51,52,53,54,55,56,57,58,59,60,61,62,63,64,65,66,67,68,69,70,71,72,73,74,75,76,77,78,79,80,81,82,83,84,85,86,87,88,89,90,91,92,93,94,95,96,97,98,99,100,101,102,103,110,111,104,105,106,107,108,109,112,113,114,115,116,117,118,119,120,121,122,123,124,125,126,127,128,129,130,131,132,133,134,135,136,137,138,139,140,141,142,143,144,145,146,147,148,149,150,151,152,153,154,155,156,157,158,159,160,161,162,163,164,165,166,167,168,169,170,171,172,173,174,175,176,177,178,179,180,181,182,183,184,185,186,187,188,189,190,191,192,193,194,202,203,195,196,197,198,199,200,201,204,205,206,207,208,209,210,211,212,213,214,215,216,217,218,219,220,221,222,223,224,225,226,227,228,229,230,231,232,233,234,235,236,237,244,245,246,247,248,249,250,251,252,253,254,255,256,257,258,259,260,261,262,263,264,265,266,267,268,269,270,271,272,273,274,275,276,277,278,279,280,281,282,286,287]
theorem frag_in (P : Params) : ∀ p ∈ frag P,p ∈ K12 P := mem_of_idx fragIs (by kernel_rfl)
noncomputable def topH : Thread := ⟨denote treeTable topC,topC,⟨0,0,0,0⟩,[topFrame ⟨0,0,0,0⟩]⟩
noncomputable def seeT (x : Shared × Thread) : Thread × List (Option Obj) × Nat × Array GenState × Drawn × Nat × OsState × Life :=
  (x.2,(List.range 15).map x.1.heap.get?,x.1.heap.objs.size,x.1.gens,x.1.drawn,x.1.toks,x.1.os,x.1.heap.life)
theorem pre_eq (w : World) (O : OsState) : (topGo treeTable prog w 11 (some (.ref 6)) 12 ⟨boot_heap w.params,#[],boot_drawn,boot_toks,O⟩ (topStub prog)).map seeT =
  some (topH,(K0 w.params).map (fun p => some p.2),15,#[],boot_drawn,187,O,(boot_heap w.params).life) := by
 unfold topH
 rw [PySem.W.Fast.te15667345088766844465,PySem.W.Fast.te14364793385576792824]
 rw [show denote = PySem.W.Fast.tw11892475500146522536 from PySem.W.Fast.te11892475500146522536]
 kernel_rfl
theorem map_get {h : Heap} : ∀ {K : List (Nat × Obj)},(K.map (·.1)).map h.get? = K.map (fun p => some p.2) → ∀ p ∈ K,h.get? p.1 = some p.2
 | [],_,p,hp => nomatch hp
 | x :: K,e,p,hp => by
  rw [List.map_cons,List.map_cons,List.map_cons] at e
  injection e with e1 e2
  rcases List.mem_cons.mp hp with rfl | hp
  · exact e1
  · exact map_get e2 p hp
theorem top_pre (w : World) (O : OsState) : ∃ Sa,topGo treeTable prog w 11 (some (.ref 6)) 12 ⟨boot_heap w.params,#[],boot_drawn,boot_toks,O⟩ (topStub prog) = some (Sa,topH) ∧ StK w O 15 187 (K0 w.params) Sa := by
 obtain ⟨⟨Sa,th⟩,e,h⟩ := Option.map_eq_some_iff.mp (pre_eq w O)
 unfold seeT at h
 simp only [Prod.mk.injEq] at h
 obtain ⟨h1,h2,h3,h4,h5,h6,h7,h8⟩ := h
 subst h1
 exact ⟨Sa,e,h3,h4,h5,h6,h7,h8,map_get (by
  rw [show (K0 w.params).map (·.1) = List.range 15 from rfl]
  exact h2)⟩
theorem block_eq (w : World) (s : Shared) : segRun treeTable prog w 11 (some (.ref 6)) 1 1 s (blockOf (behindTheImports prog) topEnv topC ⟨0,0,0,0⟩ [topFrame ⟨0,0,0,0⟩]) = some (.next,s,topC,⟨0,0,0,0⟩) := by
  kernel_rfl
theorem last_eq (w : World) (s : Shared) (p : Pos) : topRun treeTable prog w 11 (some (.ref 6)) 2 s ⟨doneF .next,topC,p,[topFrame ⟨0,0,0,0⟩]⟩ = some s := by
  kernel_rfl
theorem no_rest : (behindTheImports prog).drop 159 = [] := by kernel_rfl
theorem cut_rest {i j : Nat} (h : i ≤ j) : (behindTheImports prog).drop i = stsT i j ++ (behindTheImports prog).drop j := by
 unfold stsT
 rw [show (behindTheImports prog).drop j = ((behindTheImports prog).drop i).drop (j - i) by rw [List.drop_drop]; congr 1; omega]
 exact (List.take_append_drop _ _).symm
theorem top_run (w : World) (O : OsState) : ∃ s₁,topRun treeTable prog w 11 (some (.ref 6)) (12 + (1 + (1229 + (1293 + (764 + (1298 + (1097 + (1293 + (904 + (1261 + (1037 + (372 + (1081 + (1028 + (2))))))))))))))) ⟨boot_heap w.params,#[],boot_drawn,boot_toks,O⟩ (topStub prog) = some s₁ ∧ StK w O 1854 2733 (K12 w.params) s₁ := by
 obtain ⟨s0,ea,h⟩ := top_pre w O
 obtain ⟨s1,e0,h⟩ := st0 h
 obtain ⟨s2,e1,h⟩ := st1 h
 obtain ⟨s3,e2,h⟩ := st2 h
 obtain ⟨s4,e3,h⟩ := st3 h
 obtain ⟨s5,e4,h⟩ := st4 h
 obtain ⟨s6,e5,h⟩ := st5 h
 obtain ⟨s7,e6,h⟩ := st6 h
 obtain ⟨s8,e7,h⟩ := st7 h
 obtain ⟨s9,e8,h⟩ := st8 h
 obtain ⟨s10,e9,h⟩ := st9 h
 obtain ⟨s11,e10,h⟩ := st10 h
 obtain ⟨s12,e11,h⟩ := st11 h
 have k := piece_nil (env := topEnv) (q := ⟨0,0,0,0⟩) (last_eq w s12 ⟨1263,0,1296,112⟩)
 rw [← no_rest] at k
 have k := piece_app e11 k
 rw [← cut_rest (by decide)] at k
 have k := piece_app e10 k
 rw [← cut_rest (by decide)] at k
 have k := piece_app e9 k
 rw [← cut_rest (by decide)] at k
 have k := piece_app e8 k
 rw [← cut_rest (by decide)] at k
 have k := piece_app e7 k
 rw [← cut_rest (by decide)] at k
 have k := piece_app e6 k
 rw [← cut_rest (by decide)] at k
 have k := piece_app e5 k
 rw [← cut_rest (by decide)] at k
 have k := piece_app e4 k
 rw [← cut_rest (by decide)] at k
 have k := piece_app e3 k
 rw [← cut_rest (by decide)] at k
 have k := piece_app e2 k
 rw [← cut_rest (by decide)] at k
 have k := piece_app e1 k
 rw [← cut_rest (by decide)] at k
 have k := piece_app e0 k
 rw [← cut_rest (by decide)] at k
 rw [List.drop_zero] at k
 have k := piece_block (block_eq w s0) k
 exact ⟨s12,go_top ea k,h⟩
end Mine
namespace Mine
open PySem PySem.W PySem.W.X PyProof.Rows
noncomputable def low15 (P : Params) : List Obj := [o0 P,o1 P,o2 P,o3 P,o4 P,⟨.type "module",some 3,.plain,#[]⟩,⟨.type "dict",none,.dict #[] 0,#[]⟩,⟨.type "tuple",none,.seq #[] 0,#[]⟩,⟨.none,none,.fields #[],#[]⟩,⟨.type "code",none,.fields #[.str t589 176,.str t589 177,.str t166 178,.int 1 0,.int 0 0,.int 0 0,.int 0 0,.int 0 0,.ref 7,.bool false,.int 175 0,.ref 8,.none,.none,.none,.none,.int 179 0,.int 1 0,.str t166 180],#[]⟩,⟨.type "frame",none,.plain,#[(some (.ref 9)),(some (.ref 3)),(some (.ref 3)),none,(some (.str t588 164)),none,(some (.ref 0))]⟩,⟨.type "tuple",none,.seq #[] 0,#[]⟩,o12 P,(pcB0 P).getD 5 default,⟨.type "frame",none,.plain,#[(some (.ref 13)),(some (.ref 3)),(some (.ref 3)),none,(some (.str t588 164)),none,(some (.ref 0))]⟩]
noncomputable def high3 (P : Params) : List Obj := [o1849 P,o1850 P,o1851 P]
noncomputable def know (P : Params) (a : Nat) : Option Obj := match Nat.ble a 14 with
 | true => (low15 P)[a]?
 | false => match Nat.ble 1849 a with
  | true => match Nat.ble a 1851 with
   | true => (high3 P)[a - 1849]?
   | false => (kt P).get a
  | false => (kt P).get a
noncomputable def topHp (P : Params) (f : Nat → Obj) : Heap := ⟨((List.range 1854).map fun a => (know P a).getD (f a)).toArray,(boot_heap P).life⟩
theorem look1 (P : Params) (f : Nat → Obj) : staticsOk (importedModules prog.main.body) (boot_heap P) (topHp P f) = true := by kernel_rfl
theorem look3 (P : Params) (f : Nat → Obj) : laidKept (boot_heap P) (topHp P f) = true := by kernel_rfl
theorem look2 (P : Params) (f : Nat → Obj) : namesBound prog (topHp P f) = true := by kernel_rfl
theorem knows (P : Params) : ∀ p ∈ (List.range 1854).filterMap (fun a => (know P a).map fun o => (a,o)),p ∈ K12 P := mem_of_idx [238,0,239,240,241,1,2,3,4,5,6,7,242,243,8,9,10,11,12,13,14,15,16,17,18,19,20,21,22,23,24,25,26,27,28,29,30,31,32,33,34,35,36,37,38,39,40,41,42,43,44,45,46,47,48,49,50,51,52,53,54,55,56,57,58,59,60,61,62,63,64,65,66,67,68,69,70,71,72,73,74,75,76,77,78,79,80,81,82,83,84,85,86,87,88,89,90,91,92,93,94,95,96,97,98,99,100,101,102,103,110,111,104,105,106,107,108,109,112,113,114,115,116,117,118,119,120,121,122,123,124,125,126,127,128,129,130,131,132,133,134,135,136,137,138,139,140,141,142,143,144,145,146,147,148,149,150,151,152,153,154,155,156,157,158,159,160,161,162,163,164,165,166,167,168,169,170,171,172,173,174,175,176,177,178,179,180,181,182,183,184,185,186,187,188,189,190,191,192,193,194,202,203,195,196,197,198,199,200,201,205,206,207,208,209,210,211,212,213,214,215,216,217,218,219,220,221,222,223,224,225,226,227,228,229,230,231,232,233,234,235,236,237,244,245,246,247,248,249,250,251,252,253,254,255,256,257,258,259,260,261,262,263,264,265,266,267,268,269,270,271,272,273,274,275,276,277,278,279,280,281,282,283,284,285,286,287] (by kernel_rfl)
theorem objs_of {h : Heap} {a : Nat} {o : Obj} (e : h.get? a = some o) : h.objs[a]? = some o := ((Heap.get?_eq_some h a o).mp e).1
theorem heap_eq {w : World} {O : OsState} {s : Shared} (h : StK w O 1854 2733 (K12 w.params) s) : s.heap = topHp w.params (fun a => s.heap.objs.getD a default) := by
 have hs := h.size
 have hl := h.life
 have ha := h.all
 generalize s.heap = H at hs hl ha
 obtain ⟨objs,life⟩ := H
 cases hl
 unfold topHp
 refine congrArg (fun x => (⟨x,_⟩ : Heap)) (Array.ext_getElem? fun i => ?_)
 simp only [List.getElem?_toArray,List.getElem?_map]
 by_cases hi : i < 1854
 · rw [List.getElem?_range hi,Option.map_some]
   cases hk : know w.params i with
   | none =>
    show objs[i]? = some (objs.getD i default)
    rw [Array.getElem?_eq_getElem (by rw [hs]; exact hi),Array.getD_eq_getD_getElem?,Array.getElem?_eq_getElem (by rw [hs]; exact hi)]
    rfl
   | some o =>
    have := ha (i,o) (knows w.params _ (List.mem_filterMap.mpr ⟨i,List.mem_range.mpr hi,by rw [hk]; rfl⟩))
    exact objs_of this
 · rw [List.getElem?_eq_none (by rw [List.length_range]; omega)]
   exact Array.getElem?_eq_none (by show objs.size ≤ i; rw [hs]; omega)
noncomputable def loose1 : List Str := [t168,t169,t170,t171,t172,t173,t174,t175,t176,t177,t178,t179,t180,t181,t182,t183,t184,t185,t186,t187,t188,t189,t190,t191,t192,t193,t194,t195,t196,t197,t198,t199,t200,t201,t202,t203,t204,t205,t206,t207,t208,t209,t210,t211,t212,t213,t214,t215,t216,t217,t218,t219,t220,t221,t222,t223,t224,t225,t226,t227,t228,t229,t230,t231,t232,t233,t234,t235,t236,t237,t238,t239,t240,t241,t242,t243,t244,t245,t246,t247,t248,t249,t250,t251,t252,t253,t254,t255,t256,t257,t258,t259,t260,t261,t262,t263,t264,t265,t266,t267,t268,t269,t270,t271,t272,t273,t274,t275,t276,t277,t278,t279,t280,t281,t282,t283,t284,t285,t286,t287,t288,t289,t290,t291,t292,t293,t294,t295,t296,t297,t298,t299,t300,t301,t302,t303,t304,t305,t306,t307,t308,t309,t310,t311,t312,t313,t314]
theorem look4 (P : Params) (f : Nat → Obj) (O : OsState) : openSeen q1 loose1 (importedModules prog.main.body) (fun _ => true) true ⟨topHp P f,#[],boot_drawn,2733,O⟩ = openGood q1 loose1 := by kernel_rfl
theorem open_size (w : World) : ((boot_heap w.params).isNs mainGlobals && (Array.mk [] : Array GenState).size == 0,(boot_heap w.params).objs.size,(boot_heap w.params).nsMap mainGlobals "__annotations__") = (true,11,some (.ref 6)) := by kernel_rfl
theorem fence_at (s : Shared) : fenceModules? prog s = some s := by kernel_rfl
theorem opening_at : opening prog = plainProg prog.main.scope.names := by kernel_rfl
theorem and4 {a b c d : Bool} (h1 : a = true) (h2 : b = true) (h3 : c = true) (h4 : d = true) : (a && b && c && d) = true := by rw [h1,h2,h3,h4]; rfl
theorem topFrom_eq {p : Program} {w : World} {N : Nat} {s₀ s₁ : Shared} (h1 : (s₀.heap.isNs mainGlobals && s₀.gens.size == 0) = true)
  (h2 : topRun treeTable p w s₀.heap.objs.size (s₀.heap.nsMap mainGlobals "__annotations__") N s₀ (topStub p) = some s₁)
  (h3 : (staticsOk (importedModules p.main.body) s₀.heap s₁.heap && namesBound p s₁.heap && gensDone s₁ && laidKept s₀.heap s₁.heap) = true) : topFrom treeTable p w N s₀ = some s₁ := by
 unfold topFrom
 rw [h1]
 show (topRun treeTable p w s₀.heap.objs.size (s₀.heap.nsMap mainGlobals "__annotations__") N s₀ (topStub p)).bind _ = _
 rw [h2]
 show (match staticsOk (importedModules p.main.body) s₀.heap s₁.heap && namesBound p s₁.heap && gensDone s₁ && laidKept s₀.heap s₁.heap with | true => some s₁ | false => none) = _
 rw [h3]
theorem looks_of {w : World} {s₁ : Shared} {f : Nat → Obj} (he : s₁.heap = topHp w.params f) (hg : s₁.gens = #[]) (hd : s₁.drawn = boot_drawn) (ht : s₁.toks = 2733) :
  (staticsOk (importedModules prog.main.body) (boot_heap w.params) s₁.heap && namesBound prog s₁.heap && gensDone s₁ && laidKept (boot_heap w.params) s₁.heap) = true ∧
  openSeen q1 loose1 (importedModules prog.main.body) (fun _ => true) true s₁ = openGood q1 loose1 := by
 obtain ⟨H,gs,d,k,O⟩ := s₁
 cases hg
 cases hd
 cases ht
 cases he
 refine ⟨?_,look4 _ _ _⟩
 have h1 := look1 w.params f
 have h2 := look2 w.params f
 have h3 := look3 w.params f
 exact and4 h1 h2 rfl h3
theorem top_from (w : World) (O : OsState) : ∃ s₁,topFrom treeTable prog w 25416 ⟨boot_heap w.params,Array.mk [],boot_drawn,boot_toks,O⟩ = some s₁ ∧ openSeen q1 loose1 (importedModules prog.main.body) (fun _ => true) true s₁ = openGood q1 loose1 ∧ obs s₁ = val w := by
 obtain ⟨s₁,r,hs⟩ := top_run w O
 have r : topRun treeTable prog w 11 (some (.ref 6)) 25416 ⟨boot_heap w.params,#[],boot_drawn,boot_toks,O⟩ (topStub prog) = some s₁ := topRun_mono 12744 _ _ _ _ r
 obtain ⟨k1,k2⟩ := looks_of (heap_eq hs) hs.gens hs.drawn hs.toks
 have hobs : obs s₁ = val w := by
  unfold obs val
  rw [hs.size,← frag_addrs w.params]
  congr 1
  rw [List.map_map]
  refine List.map_congr_left fun p hp => ?_
  exact hs.all p (frag_in w.params p hp)
 obtain ⟨z1,z'⟩ := Prod.mk.inj (open_size w)
 obtain ⟨z2,z3⟩ := Prod.mk.inj z'
 refine ⟨s₁,topFrom_eq (s₀ := ⟨boot_heap w.params,Array.mk [],boot_drawn,boot_toks,O⟩) z1 ?_ k1,k2,hobs⟩
 rw [show (⟨boot_heap w.params,Array.mk [],boot_drawn,boot_toks,O⟩ : Shared).heap = boot_heap w.params from rfl,z2,z3]
 exact r
theorem left1 : LeftO prog q1 loose1 (fun _ => true) obs val 25416 := fun w => by
 obtain ⟨⟨h,gs,d,k,O⟩,e,e'⟩ := Option.map_eq_some_iff.mp (boot_open opening_at (N := 25416) (by decide) fence_at w)
 obtain ⟨e1,e'⟩ := Prod.mk.inj e'
 obtain ⟨e2,e'⟩ := Prod.mk.inj e'
 obtain ⟨e3,e4⟩ := Prod.mk.inj e'
 have e1 : h = boot_heap w.params := e1
 have e2 : gs = Array.mk [] := e2
 have e3 : d = boot_drawn := e3
 have e4 : k = boot_toks := e4
 obtain ⟨s₁,t1,t2,t3⟩ := top_from w O
 rw [← e1,← e2,← e3,← e4] at t1
 unfold openEnds
 rw [e]
 show (topFrom treeTable prog w 25416 _).map _ = _
 rw [t1]
 exact congrArg some (Prod.ext t2 t3)
end Mine
namespace Mine
open PySem PySem.W PySem.W.X PySem.Builtin
theorem law_any (w : World) (ns : List Int) (hn : ns.length ≤ 63) : Ctr (model prog w) (kt w.params) (lawC w.params ns) := by
 have h := law_all w (w.params.followText "comprehension-iter-twice") (w.params.followText "special-get-raises") ns hn
 have e1 : WC w (w.params.followText "comprehension-iter-twice") = w := World.withFollow_self w _
 rw [e1] at h
 have e2 : w.withFollow "special-get-raises" (w.params.followText "special-get-raises") = w := World.withFollow_self w _
 have h : Ctr (model prog (w.withFollow "special-get-raises" (w.params.followText "special-get-raises"))) (kt (w.withFollow "special-get-raises" (w.params.followText "special-get-raises")).params) (lawC (w.withFollow "special-get-raises" (w.params.followText "special-get-raises")).params ns) := h
 rw [e2] at h
 exact h
theorem whole : PySem.Challenge.rw_nt0533_01.Holds := holds_of_law left1 law_any
end Mine
theorem PySem.Challenge.cw_nt0533_01_holds : PySem.Challenge.rw_nt0533_01.Holds :=
  Mine.whole
