/- CircDays: a part of the proof of the given statement, which is proved without conditions. -/
import Derived.Test.YtdahfgialanmpaaGreatDoorD5
import Derived.KernelRfl
import Derived.Test.YtdahfgialanmpaaGreatDoorProg
import Derived.Laws.BitsLemmas
set_option linter.all false
namespace Go.Proofs.YtdahfgialanmpaaGreatDoor
set_option maxRecDepth 100000
open Ev
open Go (IntKind)
open Go
noncomputable abbrev ZP:=Tryz.prog
theorem zagz:fnB ZP 19 Tryz.f19 [4,9,14]=true:=by kernel_rfl
theorem zagd:CG ZP sg @zaqo:=cg0
theorem zawe:zaf ZP sg 0 Tryz.f19 @zjq 4:=zar z8p good Tryz.func19 zagz zagd zaa (fun a=>by kernel_rfl) (by kernel_rfl) (fun _ _=>rfl)
theorem zawf:zaf ZP sg 0 Tryz.f19 @zjq 9:=zar z8q good Tryz.func19 zagz zagd zaa (fun a=>by kernel_rfl) (by kernel_rfl) (fun _ _=>rfl)
theorem zaho:zaf ZP sg 0 Tryz.f19 @zjq 14:=zar zyu good Tryz.func19 zagz zagd zaa (fun a=>by kernel_rfl) (by kernel_rfl) (fun _ _=>rfl)
theorem za28:SG ZP sg 19 @za59:=conD (loops:=zjq) good Tryz.func19 zagz (by kernel_rfl) zagd (all_cons zawe (all_cons zawf (all_cons zaho zaa))) (fun a=>by kernel_rfl)
theorem zvf:SG ZP sg 258 @zw7:=conE good Tryz.func258 (by kernel_rfl) (by kernel_rfl) cg0 (fun a=>by kernel_rfl)
theorem zam2:fnB ZP 174 Tryz.f174 [2]=true:=by kernel_rfl
theorem zak9:CG ZP sg @zafd:=(cgc zvf cg0)
theorem zahy:zaf ZP sg 0 Tryz.f174 @ztd 2:=zar zy5 good Tryz.func174 zam2 zak9 zaa (fun a=>by kernel_rfl) (by kernel_rfl) (fun _ _=>rfl)
theorem z6d:SG ZP sg 174 @zw6:=conD (loops:=ztd) good Tryz.func174 zam2 (by kernel_rfl) zak9 (all_cons zahy zaa) (fun a=>by kernel_rfl)
theorem za3d:SG ZP sg 259 @zapx:=conE good Tryz.func259 (by kernel_rfl) (by kernel_rfl) (cgc zvf cg0) (fun a=>by kernel_rfl)
theorem zar0:SG ZP sg 260 @zabl:=conE good Tryz.func260 (by kernel_rfl) (by kernel_rfl) cg0 (fun a=>by kernel_rfl)
theorem zam3:fnB ZP 175 Tryz.f175 [4]=true:=by kernel_rfl
theorem zak7:CG ZP sg @zae2:=(cgc zvf (cgc za3d (cgc zar0 cg0)))
theorem zahm:zaf ZP sg 0 Tryz.f175 @ztb 4:=zar zys good Tryz.func175 zam3 zak7 zaa (fun a=>by kernel_rfl) (by kernel_rfl) (fun _ _=>rfl)
theorem zarq:SG ZP sg 175 @zabf:=conD (loops:=ztb) good Tryz.func175 zam3 (by kernel_rfl) zak7 (all_cons zahm zaa) (fun a=>by kernel_rfl)
theorem za38:fnB ZP 68 Tryz.f68 [4]=true:=by kernel_rfl
theorem zali:CG ZP sg @zafm:=(cgc z6d (cgc zarq cg0))
theorem zah6:zaf ZP sg 0 Tryz.f68 @ztm 4:=zar zzd good Tryz.func68 za38 zali zaa (fun a=>by kernel_rfl) (by kernel_rfl) (fun _ _=>rfl)
theorem zar8:SG ZP sg 68 @zabp:=conD (loops:=ztm) good Tryz.func68 za38 (by kernel_rfl) zali (all_cons zah6 zaa) (fun a=>by kernel_rfl)
theorem za39:fnB ZP 69 Tryz.f69 [4]=true:=by kernel_rfl
theorem zalh:CG ZP sg @zafl:=cg0
theorem zah5:zaf ZP sg 0 Tryz.f69 @ztl 4:=zar zzc good Tryz.func69 za39 zalh zaa (fun a=>by kernel_rfl) (by kernel_rfl) (fun _ _=>rfl)
theorem zar7:SG ZP sg 69 @zabo:=conD (loops:=ztl) good Tryz.func69 za39 (by kernel_rfl) zalh (all_cons zah5 zaa) (fun a=>by kernel_rfl)
theorem z66:SG ZP sg 261 @zacu:=conE good Tryz.func261 (by kernel_rfl) (by kernel_rfl) cg0 (fun a=>by kernel_rfl)
theorem z7a:SG ZP sg 262 @zac7:=conE good Tryz.func262 (by kernel_rfl) (by kernel_rfl) cg0 (fun a=>by kernel_rfl)
theorem zata:SG ZP sg 176 @zacr:=conE good Tryz.func176 (by kernel_rfl) (by kernel_rfl) (cgc z66 (cgc z7a cg0)) (fun a=>by kernel_rfl)
theorem zag4:fnB ZP 70 Tryz.f70 [4,12,15]=true:=by kernel_rfl
theorem zagf:CG ZP sg @zaqz:=(cgc zata cg0)
theorem zawr:zaf ZP sg 0 Tryz.f70 @zjs 4:=zar z84 good Tryz.func70 zag4 zagf zaa (fun a=>by kernel_rfl) (by kernel_rfl) (fun _ _=>rfl)
theorem z0k:zaf ZP sg 0 Tryz.f70 @zjs 15:=zar z0c good Tryz.func70 zag4 zagf zaa (fun a=>by kernel_rfl) (by kernel_rfl) (fun _ _=>rfl)
theorem zai4:zaf ZP sg 0 Tryz.f70 @zjs 12:=zar z0b good Tryz.func70 zag4 zagf (all_cons z0k zaa) (fun a=>by kernel_rfl) (by kernel_rfl) (fun _ _=>rfl)
theorem za3i:SG ZP sg 70 @zap1:=conD (loops:=zjs) good Tryz.func70 zag4 (by kernel_rfl) zagf (all_cons zawr (all_cons zai4 (all_cons z0k zaa))) (fun a=>by kernel_rfl)
theorem zavb:SG ZP sg 177 @zadw:=conE good Tryz.func177 (by kernel_rfl) (by kernel_rfl) cg0 (fun a=>by kernel_rfl)
theorem za4a:fnB ZP 71 Tryz.f71 [4]=true:=by kernel_rfl
theorem zak6:CG ZP sg @zae1:=(cgc zavb cg0)
theorem zahl:zaf ZP sg 0 Tryz.f71 @zta 4:=zar zyr good Tryz.func71 za4a zak6 zaa (fun a=>by kernel_rfl) (by kernel_rfl) (fun _ _=>rfl)
theorem zarp:SG ZP sg 71 @zabe:=conD (loops:=zta) good Tryz.func71 za4a (by kernel_rfl) zak6 (all_cons zahl zaa) (fun a=>by kernel_rfl)
theorem zasm:SG ZP sg 263 @zay2:=conE good Tryz.func263 (by kernel_rfl) (by kernel_rfl) cg0 (fun a=>by kernel_rfl)
theorem zasx:SG ZP sg 178 @zace:=conE good Tryz.func178 (by kernel_rfl) (by kernel_rfl) (cgc zasm cg0) (fun a=>by kernel_rfl)
theorem zavv:fnB ZP 72 Tryz.f72 [4,9]=true:=by kernel_rfl
theorem zarc:CG ZP sg @zaqx:=(cgc zasx cg0)
theorem z9u:zaf ZP sg 0 Tryz.f72 @zqs 9:=zar z82 good Tryz.func72 zavv zarc zaa (fun a=>by kernel_rfl) (by kernel_rfl) (fun _ _=>rfl)
theorem zawp:zaf ZP sg 0 Tryz.f72 @zqs 4:=zar z81 good Tryz.func72 zavv zarc (all_cons z9u zaa) (fun a=>by kernel_rfl) (by kernel_rfl) (fun _ _=>rfl)
theorem za3g:SG ZP sg 72 @zap0:=conD (loops:=zqs) good Tryz.func72 zavv (by kernel_rfl) zarc (all_cons zawp (all_cons z9u zaa)) (fun a=>by kernel_rfl)
theorem zavw:fnB ZP 73 Tryz.f73 [6,11]=true:=by kernel_rfl
theorem zara:CG ZP sg @zaqm:=cg0
theorem zawc:zaf ZP sg 0 Tryz.f73 @zqq 6:=zar z8n good Tryz.func73 zavw zara zaa (fun a=>by kernel_rfl) (by kernel_rfl) (fun _ _=>rfl)
theorem zahd:zaf ZP sg 0 Tryz.f73 @zqq 11:=zar zyj good Tryz.func73 zavw zara zaa (fun a=>by kernel_rfl) (by kernel_rfl) (fun _ _=>rfl)
theorem za27:SG ZP sg 73 @zapv:=conD (loops:=zqq) good Tryz.func73 zavw (by kernel_rfl) zara (all_cons zawc (all_cons zahd zaa)) (fun a=>by kernel_rfl)
theorem zam4:fnB ZP 179 Tryz.f179 [2]=true:=by kernel_rfl
theorem zak1:CG ZP sg @zaew:=cg0
theorem zahg:zaf ZP sg 0 Tryz.f179 @zs5 2:=zar zym good Tryz.func179 zam4 zak1 zaa (fun a=>by kernel_rfl) (by kernel_rfl) (fun _ _=>rfl)
theorem zarl:SG ZP sg 179 @zax6:=conD (loops:=zs5) good Tryz.func179 zam4 (by kernel_rfl) zak1 (all_cons zahg zaa) (fun a=>by kernel_rfl)
theorem zkl:SG ZP sg 74 @zq4:=conE good Tryz.func74 (by kernel_rfl) (by kernel_rfl) (cgc zarl cg0) (fun a=>by kernel_rfl)
theorem zatb:SG ZP sg 85 @zacs:=conE good Tryz.func85 (by kernel_rfl) (by kernel_rfl) cg0 (fun a=>by kernel_rfl)
theorem zavh:SG ZP sg 306 @za06:=conE good Tryz.func306 (by kernel_rfl) (by kernel_rfl) cg0 (fun a=>by kernel_rfl)
theorem zat1:SG ZP sg 275 @za0a:=conE good Tryz.func275 (by kernel_rfl) (by kernel_rfl) (cgc zavh cg0) (fun a=>by kernel_rfl)
theorem zaty:SG ZP sg 276 @zaz8:=conE good Tryz.func276 (by kernel_rfl) (by kernel_rfl) cg0 (fun a=>by kernel_rfl)
theorem zas5:SG ZP sg 307 @zacl:=conE good Tryz.func307 (by kernel_rfl) (by kernel_rfl) cg0 (fun a=>by kernel_rfl)
theorem zanh:fnB ZP 277 Tryz.f277 [3]=true:=by kernel_rfl
theorem zald:CG ZP sg @zafh:=(cgc zas5 cg0)
theorem zah2:zaf ZP sg 0 Tryz.f277 @zth 3:=zar zy9 good Tryz.func277 zanh zald zaa (fun a=>by kernel_rfl) (by kernel_rfl) (fun _ _=>rfl)
theorem zar4:SG ZP sg 277 @zayj:=conD (loops:=zth) good Tryz.func277 zanh (by kernel_rfl) zald (all_cons zah2 zaa) (fun a=>by kernel_rfl)
theorem zato:SG ZP sg 278 @zazz:=conE good Tryz.func278 (by kernel_rfl) (by kernel_rfl) cg0 (fun a=>by kernel_rfl)
theorem zauo:SG ZP sg 279 @za0m:=conE good Tryz.func279 (by kernel_rfl) (by kernel_rfl) cg0 (fun a=>by kernel_rfl)
theorem z6z:SG ZP sg 200 @zxa:=conE good Tryz.func200 (by kernel_rfl) (by kernel_rfl) (cgc zat1 (cgc zaty (cgc zar4 (cgc zato (cgc zauo cg0))))) (fun a=>by kernel_rfl)
theorem zam5:fnB ZP 180 Tryz.f180 [5]=true:=by kernel_rfl
theorem zalb:CG ZP sg @zaff:=(cgc zatb (cgc z6z cg0))
theorem zah0:zaf ZP sg 0 Tryz.f180 @ztf 5:=zar zy7 good Tryz.func180 zam5 zalb zaa (fun a=>by kernel_rfl) (by kernel_rfl) (fun _ _=>rfl)
theorem zar2:SG ZP sg 180 @zabm:=conD (loops:=ztf) good Tryz.func180 zam5 (by kernel_rfl) zalb (all_cons zah0 zaa) (fun a=>by kernel_rfl)
theorem za4b:fnB ZP 84 Tryz.f84 [2]=true:=by kernel_rfl
theorem za2z:CG ZP sg @zaqw:=cg0
theorem zawo:zaf ZP sg 0 Tryz.f84 @z0t 2:=zar z80 good Tryz.func84 za4b za2z zaa (fun a=>by kernel_rfl) (by kernel_rfl) (fun _ _=>rfl)
theorem zkm:SG ZP sg 84 @zuv:=conD (loops:=z0t) good Tryz.func84 za4b (by kernel_rfl) za2z (all_cons zawo zaa) (fun a=>by kernel_rfl)
theorem zavx:fnB ZP 75 Tryz.f75 [4,15]=true:=by kernel_rfl
theorem z5x:CG ZP sg @zae6:=(cgc zkm (cgc z6d (cgc zar2 cg0)))
theorem zahr:zaf ZP sg 0 Tryz.f75 @zk9 4:=zar zyy good Tryz.func75 zavx z5x zaa (fun a=>by kernel_rfl) (by kernel_rfl) (fun _ _=>rfl)
theorem z9l:zaf ZP sg 0 Tryz.f75 @zk9 15:=zar zsq good Tryz.func75 zavx z5x zaa (fun a=>by kernel_rfl) (by kernel_rfl) (fun _ _=>rfl)
theorem zart:SG ZP sg 75 @zabi:=conD (loops:=zk9) good Tryz.func75 zavx (by kernel_rfl) z5x (all_cons zahr (all_cons z9l zaa)) (fun a=>by kernel_rfl)
theorem zats:SG ZP sg 111 @zac8:=conE good Tryz.func111 (by kernel_rfl) (by kernel_rfl) cg0 (fun a=>by kernel_rfl)
theorem zam7:fnB ZP 201 Tryz.f201 [2]=true:=by kernel_rfl
theorem zalc:CG ZP sg @zafg:=cg0
theorem zah1:zaf ZP sg 0 Tryz.f201 @ztg 2:=zar zy8 good Tryz.func201 zam7 zalc zaa (fun a=>by kernel_rfl) (by kernel_rfl) (fun _ _=>rfl)
theorem zar3:SG ZP sg 201 @zayi:=conD (loops:=ztg) good Tryz.func201 zam7 (by kernel_rfl) zalc (all_cons zah1 zaa) (fun a=>by kernel_rfl)
theorem zat2:SG ZP sg 122 @zadc:=conE good Tryz.func122 (by kernel_rfl) (by kernel_rfl) (cgc zar3 cg0) (fun a=>by kernel_rfl)
theorem zavy:fnB ZP 76 Tryz.f76 [2,10]=true:=by kernel_rfl
theorem z5w:CG ZP sg @zae5:=(cgc zkl (cgc zkm (cgc zats (cgc zat2 cg0))))
theorem zahq:zaf ZP sg 0 Tryz.f76 @zk8 2:=zar zyx good Tryz.func76 zavy z5w zaa (fun a=>by kernel_rfl) (by kernel_rfl) (fun _ _=>rfl)
theorem z9k:zaf ZP sg 0 Tryz.f76 @zk8 10:=zar zsp good Tryz.func76 zavy z5w zaa (fun a=>by kernel_rfl) (by kernel_rfl) (fun _ _=>rfl)
theorem zars:SG ZP sg 76 @zabh:=conD (loops:=zk8) good Tryz.func76 zavy (by kernel_rfl) z5w (all_cons zahq (all_cons z9k zaa)) (fun a=>by kernel_rfl)
theorem zami:fnB ZP 105 Tryz.f105 [2]=true:=by kernel_rfl
theorem zalf:CG ZP sg @zafj:=cg0
theorem zah4:zaf ZP sg 0 Tryz.f105 @ztj 2:=zar zzb good Tryz.func105 zami zalf zaa (fun a=>by kernel_rfl) (by kernel_rfl) (fun _ _=>rfl)
theorem zar6:SG ZP sg 105 @zabn:=conD (loops:=ztj) good Tryz.func105 zami (by kernel_rfl) zalf (all_cons zah4 zaa) (fun a=>by kernel_rfl)
theorem zavz:fnB ZP 77 Tryz.f77 [2,18]=true:=by kernel_rfl
theorem z5y:CG ZP sg @zae7:=(cgc zkl (cgc zkm (cgc zar6 cg0)))
theorem zahs:zaf ZP sg 0 Tryz.f77 @zla 2:=zar zyz good Tryz.func77 zavz z5y zaa (fun a=>by kernel_rfl) (by kernel_rfl) (fun _ _=>rfl)
theorem z9m:zaf ZP sg 0 Tryz.f77 @zla 18:=zar zsr good Tryz.func77 zavz z5y zaa (fun a=>by kernel_rfl) (by kernel_rfl) (fun _ _=>rfl)
theorem zaru:SG ZP sg 77 @zabj:=conD (loops:=zla) good Tryz.func77 zavz (by kernel_rfl) z5y (all_cons zahs (all_cons z9m zaa)) (fun a=>by kernel_rfl)
theorem zavr:fnB ZP 21 Tryz.f21 [6,11]=true:=by kernel_rfl
theorem z54:CG ZP sg @zafb:=(cgc zar8 (cgc zar7 (cgc za3i (cgc zarp (cgc za3g (cgc za27 (cgc zkl (cgc zart (cgc zars (cgc zaru cg0))))))))))
theorem zahw:zaf ZP sg 0 Tryz.f21 @zle 6:=zar zy3 good Tryz.func21 zavr z54 zaa (fun a=>by kernel_rfl) (by kernel_rfl) (fun _ _=>rfl)
theorem z9q:zaf ZP sg 0 Tryz.f21 @zle 11:=zar zsv good Tryz.func21 zavr z54 zaa (fun a=>by kernel_rfl) (by kernel_rfl) (fun _ _=>rfl)
theorem zarz:SG ZP sg 21 @zayf:=conD (loops:=zle) good Tryz.func21 zavr (by kernel_rfl) z54 (all_cons zahw (all_cons z9q zaa)) (fun a=>by kernel_rfl)
theorem zaup:SG ZP sg 22 @za0n:=conE good Tryz.func22 (by kernel_rfl) (by kernel_rfl) (cgc za28 (cgc zarz cg0)) (fun a=>by kernel_rfl)
theorem zauj:SG ZP sg 17 @za0i:=conE good Tryz.func17 (by kernel_rfl) (by kernel_rfl) cg0 (fun a=>by kernel_rfl)
theorem zatm:SG ZP sg 181 @zac4:=conE good Tryz.func181 (by kernel_rfl) (by kernel_rfl) cg0 (fun a=>by kernel_rfl)
theorem z2g:fnB ZP 80 Tryz.f80 [2]=true:=by kernel_rfl
theorem za2w:CG ZP sg @zaqs:=(cgc zatm cg0)
theorem zawj:zaf ZP sg 0 Tryz.f80 @z0q 2:=zar z8v good Tryz.func80 z2g za2w zaa (fun a=>by kernel_rfl) (by kernel_rfl) (fun _ _=>rfl)
theorem za3c:SG ZP sg 80 @za6c:=conD (loops:=z0q) good Tryz.func80 z2g (by kernel_rfl) za2w (all_cons zawj zaa) (fun a=>by kernel_rfl)
theorem zgw:SG ZP sg 78 @zmm:=conE good Tryz.func78 (by kernel_rfl) (by kernel_rfl) (cgc za3c cg0) (fun a=>by kernel_rfl)
theorem z7f:SG ZP sg 79 @zadh:=conE good Tryz.func79 (by kernel_rfl) (by kernel_rfl) cg0 (fun a=>by kernel_rfl)
theorem zati:SG ZP sg 81 @zacy:=conE good Tryz.func81 (by kernel_rfl) (by kernel_rfl) cg0 (fun a=>by kernel_rfl)
theorem zx8:CG ZP sg @z1v:=(cgc zati cg0)
theorem z2z:zaf ZP sg 0 Tryz.f80 @zlk 2:=zar zn6 good Tryz.func80 z2g zx8 zaa (fun a=>by kernel_rfl) (by kernel_rfl) (fun _ _=>rfl)
theorem z7c:SG ZP sg 80 @zadb:=conD (loops:=zlk) good Tryz.func80 z2g (by kernel_rfl) zx8 (all_cons z2z zaa) (fun a=>by kernel_rfl)
theorem z60:SG ZP sg 83 @zazm:=conS (loops:=l0) (ids:=[]) good Tryz.func83 (by kernel_rfl) (by kernel_rfl) cg0 zaa (fun a=>by kernel_rfl) (by kernel_rfl)
theorem zpo:SG ZP sg 62 @zach:=conE good Tryz.func62 (by kernel_rfl) (by kernel_rfl) cg0 (fun a=>by kernel_rfl)
theorem zaub:SG ZP sg 166 @zadf:=conE good Tryz.func166 (by kernel_rfl) (by kernel_rfl) (cgc zpo (cgc (sgP z68) cg0)) (fun a=>by kernel_rfl)
theorem zpl:SG ZP sg 162 @zabr:=conE good Tryz.func162 (by kernel_rfl) (by kernel_rfl) cg0 (fun a=>by kernel_rfl)
theorem zavg:SG ZP sg 238 @za05:=conE good Tryz.func238 (by kernel_rfl) (by kernel_rfl) (cgc zpl cg0) (fun a=>by kernel_rfl)
theorem zavf:SG ZP sg 239 @za04:=conE good Tryz.func239 (by kernel_rfl) (by kernel_rfl) (cgc zpl cg0) (fun a=>by kernel_rfl)
theorem z6u:SG ZP sg 241 @zay9:=conE good Tryz.func241 (by kernel_rfl) (by kernel_rfl) cg0 (fun a=>by kernel_rfl)
theorem zavi:SG ZP sg 240 @za07:=conE good Tryz.func240 (by kernel_rfl) (by kernel_rfl) (cgc z6u cg0) (fun a=>by kernel_rfl)
theorem z7g:SG ZP sg 163 @zadi:=conE good Tryz.func163 (by kernel_rfl) (by kernel_rfl) (cgc zpl (cgc zavg (cgc zavf (cgc zavi (cgc z6u cg0))))) (fun a=>by kernel_rfl)
theorem za36:fnB ZP 58 Tryz.f58 [5]=true:=by kernel_rfl
theorem zal2:CG ZP sg @zaf6:=(cgc z7f (cgc zpl (cgc z7g cg0)))
theorem zaiq:zaf ZP sg 0 Tryz.f58 @zt6 5:=zar zzx good Tryz.func58 za36 zal2 zaa (fun a=>by kernel_rfl) (by kernel_rfl) (fun _ _=>rfl)
theorem zaso:SG ZP sg 58 @zab4:=conD (loops:=zt6) good Tryz.func58 za36 (by kernel_rfl) zal2 (all_cons zaiq zaa) (fun a=>by kernel_rfl)
theorem zag1:fnB ZP 63 Tryz.f63 [4,10,16]=true:=by kernel_rfl
theorem zagj:CG ZP sg @zaq5:=(cgc zaso (cgc zgw (cgc zaub cg0)))
theorem zawy:zaf ZP sg 0 Tryz.f63 @zjw 4:=zar z9d good Tryz.func63 zag1 zagj zaa (fun a=>by kernel_rfl) (by kernel_rfl) (fun _ _=>rfl)
theorem zai8:zaf ZP sg 0 Tryz.f63 @zjw 10:=zar z0h good Tryz.func63 zag1 zagj zaa (fun a=>by kernel_rfl) (by kernel_rfl) (fun _ _=>rfl)
theorem zai9:zaf ZP sg 0 Tryz.f63 @zjw 16:=zar z0i good Tryz.func63 zag1 zagj zaa (fun a=>by kernel_rfl) (by kernel_rfl) (fun _ _=>rfl)
theorem za3p:SG ZP sg 63 @za6k:=conD (loops:=zjw) good Tryz.func63 zag1 (by kernel_rfl) zagj (all_cons zawy (all_cons zai8 (all_cons zai9 zaa))) (fun a=>by kernel_rfl)
theorem zas1:SG ZP sg 245 @zacf:=conE good Tryz.func245 (by kernel_rfl) (by kernel_rfl) (cgc (sgP z68) (cgc (sgP zaug) cg0)) (fun a=>by kernel_rfl)
theorem zamw:fnB ZP 167 Tryz.f167 [5]=true:=by kernel_rfl
theorem zalt:CG ZP sg @zafx:=(cgc zas1 cg0)
theorem zaih:zaf ZP sg 0 Tryz.f167 @ztx 5:=zar zzo good Tryz.func167 zamw zalt zaa (fun a=>by kernel_rfl) (by kernel_rfl) (fun _ _=>rfl)
theorem z6m:SG ZP sg 167 @zaby:=conD (loops:=ztx) good Tryz.func167 zamw (by kernel_rfl) zalt (all_cons zaih zaa) (fun a=>by kernel_rfl)
theorem zauy:SG ZP sg 246 @zadn:=conE good Tryz.func246 (by kernel_rfl) (by kernel_rfl) cg0 (fun a=>by kernel_rfl)
theorem z7e:SG ZP sg 219 @zadd:=conE good Tryz.func219 (by kernel_rfl) (by kernel_rfl) cg0 (fun a=>by kernel_rfl)
theorem zamx:fnB ZP 168 Tryz.f168 [4]=true:=by kernel_rfl
theorem zalu:CG ZP sg @zafy:=(cgc z7e (cgc zauy cg0))
theorem zaii:zaf ZP sg 0 Tryz.f168 @zty 4:=zar zzp good Tryz.func168 zamx zalu zaa (fun a=>by kernel_rfl) (by kernel_rfl) (fun _ _=>rfl)
theorem z6n:SG ZP sg 168 @zab0:=conD (loops:=zty) good Tryz.func168 zamx (by kernel_rfl) zalu (all_cons zaii zaa) (fun a=>by kernel_rfl)
theorem zvh:SG ZP sg 284 @zazh:=conE good Tryz.func284 (by kernel_rfl) (by kernel_rfl) cg0 (fun a=>by kernel_rfl)
theorem zat0:SG ZP sg 298 @zaz9:=conE good Tryz.func298 (by kernel_rfl) (by kernel_rfl) (cgc zvh cg0) (fun a=>by kernel_rfl)
theorem zau7:SG ZP sg 247 @zadt:=conE good Tryz.func247 (by kernel_rfl) (by kernel_rfl) (cgc zvh (cgc zat0 cg0)) (fun a=>by kernel_rfl)
theorem zas6:SG ZP sg 249 @zacn:=conE good Tryz.func249 (by kernel_rfl) (by kernel_rfl) cg0 (fun a=>by kernel_rfl)
theorem znu:fnB ZP 248 Tryz.f248 [2,5]=true:=by kernel_rfl
theorem zarb:CG ZP sg @zaqr:=(cgc zas6 cg0)
theorem z9t:zaf ZP sg 0 Tryz.f248 @zqr 5:=zar z8u good Tryz.func248 znu zarb zaa (fun a=>by kernel_rfl) (by kernel_rfl) (fun _ _=>rfl)
theorem zawi:zaf ZP sg 0 Tryz.f248 @zqr 2:=zar z8t good Tryz.func248 znu zarb (all_cons z9t zaa) (fun a=>by kernel_rfl) (by kernel_rfl) (fun _ _=>rfl)
theorem za3b:SG ZP sg 248 @zapw:=conD (loops:=zqr) good Tryz.func248 znu (by kernel_rfl) zarb (all_cons zawi (all_cons z9t zaa)) (fun a=>by kernel_rfl)
theorem zas9:SG ZP sg 250 @zacq:=conE good Tryz.func250 (by kernel_rfl) (by kernel_rfl) cg0 (fun a=>by kernel_rfl)
theorem zpg:CG ZP sg @z1u:=(cgc zas9 cg0)
theorem zob:zaf ZP sg 0 Tryz.f248 @zg1 5:=zar zn5 good Tryz.func248 znu zpg zaa (fun a=>by kernel_rfl) (by kernel_rfl) (fun _ _=>rfl)
theorem z2y:zaf ZP sg 0 Tryz.f248 @zg1 2:=zar zn4 good Tryz.func248 znu zpg (all_cons zob zaa) (fun a=>by kernel_rfl) (by kernel_rfl) (fun _ _=>rfl)
theorem z65:SG ZP sg 248 @zut:=conD (loops:=zg1) good Tryz.func248 znu (by kernel_rfl) zpg (all_cons z2y (all_cons zob zaa)) (fun a=>by kernel_rfl)
theorem zamy:fnB ZP 169 Tryz.f169 [4]=true:=by kernel_rfl
theorem za2y:CG ZP sg @zaqv:=(cgc zau7 (cgc (sgi za3b (sgi z65 sg0)) cg0))
theorem zawn:zaf ZP sg 0 Tryz.f169 @z0s 4:=zar z8z good Tryz.func169 zamy za2y zaa (fun a=>by kernel_rfl) (by kernel_rfl) (fun _ _=>rfl)
theorem zama:SG ZP sg 169 @zapz:=conD (loops:=z0s) good Tryz.func169 zamy (by kernel_rfl) za2y (all_cons zawn zaa) (fun a=>by kernel_rfl)
theorem zau3:SG ZP sg 299 @za0y:=conE good Tryz.func299 (by kernel_rfl) (by kernel_rfl) cg0 (fun a=>by kernel_rfl)
theorem z7h:SG ZP sg 280 @za0g:=conE good Tryz.func280 (by kernel_rfl) (by kernel_rfl) cg0 (fun a=>by kernel_rfl)
theorem zas3:SG ZP sg 251 @zaci:=conE good Tryz.func251 (by kernel_rfl) (by kernel_rfl) (cgc z7h (cgc zau3 cg0)) (fun a=>by kernel_rfl)
theorem zamz:fnB ZP 170 Tryz.f170 [4]=true:=by kernel_rfl
theorem zalv:CG ZP sg @zafz:=(cgc zas3 cg0)
theorem zaij:zaf ZP sg 0 Tryz.f170 @ztz 4:=zar zzq good Tryz.func170 zamz zalv zaa (fun a=>by kernel_rfl) (by kernel_rfl) (fun _ _=>rfl)
theorem z6o:SG ZP sg 170 @zab1:=conD (loops:=ztz) good Tryz.func170 zamz (by kernel_rfl) zalv (all_cons zaij zaa) (fun a=>by kernel_rfl)
theorem z6g:SG ZP sg 268 @zayu:=conE good Tryz.func268 (by kernel_rfl) (by kernel_rfl) cg0 (fun a=>by kernel_rfl)
theorem zau1:SG ZP sg 252 @zadq:=conE good Tryz.func252 (by kernel_rfl) (by kernel_rfl) (cgc z6g cg0) (fun a=>by kernel_rfl)
theorem z61:SG ZP sg 253 @zacp:=conE good Tryz.func253 (by kernel_rfl) (by kernel_rfl) cg0 (fun a=>by kernel_rfl)
theorem zanl:fnB ZP 300 Tryz.f300 [2]=true:=by kernel_rfl
theorem zalq:CG ZP sg @zafu:=(cgc z61 cg0)
theorem zaie:zaf ZP sg 0 Tryz.f300 @ztu 2:=zar zzl good Tryz.func300 zanl zalq zaa (fun a=>by kernel_rfl) (by kernel_rfl) (fun _ _=>rfl)
theorem zasg:SG ZP sg 300 @zayv:=conD (loops:=ztu) good Tryz.func300 zanl (by kernel_rfl) zalq (all_cons zaie zaa) (fun a=>by kernel_rfl)
theorem zauz:SG ZP sg 254 @zado:=conE good Tryz.func254 (by kernel_rfl) (by kernel_rfl) (cgc z61 (cgc zasg cg0)) (fun a=>by kernel_rfl)
theorem zam0:fnB ZP 171 Tryz.f171 [4]=true:=by kernel_rfl
theorem za24:CG ZP sg @zaq9:=(cgc zau1 (cgc zauz cg0))
theorem zaw2:zaf ZP sg 0 Tryz.f171 @z0y 4:=zar z9i good Tryz.func171 zam0 za24 zaa (fun a=>by kernel_rfl) (by kernel_rfl) (fun _ _=>rfl)
theorem za3s:SG ZP sg 171 @zap6:=conD (loops:=z0y) good Tryz.func171 zam0 (by kernel_rfl) za24 (all_cons zaw2 zaa) (fun a=>by kernel_rfl)
theorem zvl:SG ZP sg 257 @zacz:=conE good Tryz.func257 (by kernel_rfl) (by kernel_rfl) cg0 (fun a=>by kernel_rfl)
theorem z67:SG ZP sg 256 @zacv:=conE good Tryz.func256 (by kernel_rfl) (by kernel_rfl) (cgc zvl cg0) (fun a=>by kernel_rfl)
theorem zanm:fnB ZP 301 Tryz.f301 [2]=true:=by kernel_rfl
theorem zalr:CG ZP sg @zafv:=(cgc z67 cg0)
theorem zaif:zaf ZP sg 0 Tryz.f301 @ztv 2:=zar zzm good Tryz.func301 zanm zalr zaa (fun a=>by kernel_rfl) (by kernel_rfl) (fun _ _=>rfl)
theorem zash:SG ZP sg 301 @zayw:=conD (loops:=ztv) good Tryz.func301 zanm (by kernel_rfl) zalr (all_cons zaif zaa) (fun a=>by kernel_rfl)
theorem zau0:SG ZP sg 255 @zadp:=conE good Tryz.func255 (by kernel_rfl) (by kernel_rfl) (cgc z67 (cgc zash cg0)) (fun a=>by kernel_rfl)
theorem zam1:fnB ZP 172 Tryz.f172 [8]=true:=by kernel_rfl
theorem za23:CG ZP sg @zaq7:=(cgc zau0 cg0)
theorem zaw0:zaf ZP sg 0 Tryz.f172 @z0x 8:=zar z9f good Tryz.func172 zam1 za23 zaa (fun a=>by kernel_rfl) (by kernel_rfl) (fun _ _=>rfl)
theorem zamc:SG ZP sg 172 @zap4:=conD (loops:=z0x) good Tryz.func172 zam1 (by kernel_rfl) za23 (all_cons zaw0 zaa) (fun a=>by kernel_rfl)
theorem zag2:fnB ZP 64 Tryz.f64 [4,12,18]=true:=by kernel_rfl
theorem zagi:CG ZP sg @zaq4:=(cgc zpo (cgc z6m (cgc z6n (cgc zama (cgc z6o (cgc za3s (cgc zamc cg0)))))))
theorem zawx:zaf ZP sg 0 Tryz.f64 @zjv 4:=zar z9c good Tryz.func64 zag2 zagi zaa (fun a=>by kernel_rfl) (by kernel_rfl) (fun _ _=>rfl)
theorem zai6:zaf ZP sg 0 Tryz.f64 @zjv 12:=zar z0f good Tryz.func64 zag2 zagi zaa (fun a=>by kernel_rfl) (by kernel_rfl) (fun _ _=>rfl)
theorem zai7:zaf ZP sg 0 Tryz.f64 @zjv 18:=zar z0g good Tryz.func64 zag2 zagi zaa (fun a=>by kernel_rfl) (by kernel_rfl) (fun _ _=>rfl)
theorem za3o:SG ZP sg 64 @za6j:=conD (loops:=zjv) good Tryz.func64 zag2 (by kernel_rfl) zagi (all_cons zawx (all_cons zai6 (all_cons zai7 zaa))) (fun a=>by kernel_rfl)
theorem zatg:SG ZP sg 265 @zacw:=conE good Tryz.func265 (by kernel_rfl) (by kernel_rfl) cg0 (fun a=>by kernel_rfl)
theorem zyg:fnB ZP 185 Tryz.f185 [2]=true:=by kernel_rfl
theorem za21:CG ZP sg @zaq0:=(cgc zatg cg0)
theorem zaws:zaf ZP sg 0 Tryz.f185 @z0v 2:=zar z85 good Tryz.func185 zyg za21 zaa (fun a=>by kernel_rfl) (by kernel_rfl) (fun _ _=>rfl)
theorem za3j:SG ZP sg 185 @za6f:=conD (loops:=z0v) good Tryz.func185 zyg (by kernel_rfl) za21 (all_cons zaws zaa) (fun a=>by kernel_rfl)
theorem z6w:SG ZP sg 184 @zazc:=conE good Tryz.func184 (by kernel_rfl) (by kernel_rfl) (cgc za3j cg0) (fun a=>by kernel_rfl)
theorem zh9:SG ZP sg 90 @zazi:=conE good Tryz.func90 (by kernel_rfl) (by kernel_rfl) (cgc z6w cg0) (fun a=>by kernel_rfl)
theorem zas4:SG ZP sg 173 @zack:=conE good Tryz.func173 (by kernel_rfl) (by kernel_rfl) (cgc zh9 cg0) (fun a=>by kernel_rfl)
theorem zag3:fnB ZP 65 Tryz.f65 [3,9,15]=true:=by kernel_rfl
theorem zage:CG ZP sg @zaqt:=(cgc zgw (cgc zas4 cg0))
theorem zawk:zaf ZP sg 0 Tryz.f65 @zjr 3:=zar z8w good Tryz.func65 zag3 zage zaa (fun a=>by kernel_rfl) (by kernel_rfl) (fun _ _=>rfl)
theorem zawl:zaf ZP sg 0 Tryz.f65 @zjr 9:=zar z8x good Tryz.func65 zag3 zage zaa (fun a=>by kernel_rfl) (by kernel_rfl) (fun _ _=>rfl)
theorem zai3:zaf ZP sg 0 Tryz.f65 @zjr 15:=zar z0a good Tryz.func65 zag3 zage zaa (fun a=>by kernel_rfl) (by kernel_rfl) (fun _ _=>rfl)
theorem za3e:SG ZP sg 65 @za6d:=conD (loops:=zjr) good Tryz.func65 zag3 (by kernel_rfl) zage (all_cons zawk (all_cons zawl (all_cons zai3 zaa))) (fun a=>by kernel_rfl)
theorem zki:SG ZP sg 165 @zayb:=conE good Tryz.func165 (by kernel_rfl) (by kernel_rfl) cg0 (fun a=>by kernel_rfl)
theorem z6x:SG ZP sg 243 @zacj:=conE good Tryz.func243 (by kernel_rfl) (by kernel_rfl) cg0 (fun a=>by kernel_rfl)
theorem zyh:fnB ZP 242 Tryz.f242 [2]=true:=by kernel_rfl
theorem za20:CG ZP sg @zaqy:=(cgc z6x cg0)
theorem zawq:zaf ZP sg 0 Tryz.f242 @z0u 2:=zar z83 good Tryz.func242 zyh za20 zaa (fun a=>by kernel_rfl) (by kernel_rfl) (fun _ _=>rfl)
theorem za3h:SG ZP sg 242 @za6e:=conD (loops:=z0u) good Tryz.func242 zyh (by kernel_rfl) za20 (all_cons zawq zaa) (fun a=>by kernel_rfl)
theorem zkk:SG ZP sg 164 @zay4:=conE good Tryz.func164 (by kernel_rfl) (by kernel_rfl) (cgc za3h (cgc z6x cg0)) (fun a=>by kernel_rfl)
theorem zvk:SG ZP sg 59 @zxb:=conE good Tryz.func59 (by kernel_rfl) (by kernel_rfl) (cgc zkk (cgc zki cg0)) (fun a=>by kernel_rfl)
theorem za37:fnB ZP 66 Tryz.f66 [2]=true:=by kernel_rfl
theorem zal8:CG ZP sg @zagc:=(cgc zvk cg0)
theorem zaiw:zaf ZP sg 0 Tryz.f66 @zuc 2:=zar zz3 good Tryz.func66 za37 zal8 zaa (fun a=>by kernel_rfl) (by kernel_rfl) (fun _ _=>rfl)
theorem zasv:SG ZP sg 66 @zay6:=conD (loops:=zuc) good Tryz.func66 za37 (by kernel_rfl) zal8 (all_cons zaiw zaa) (fun a=>by kernel_rfl)
theorem zatc:SG ZP sg 197 @zact:=conE good Tryz.func197 (by kernel_rfl) (by kernel_rfl) cg0 (fun a=>by kernel_rfl)
theorem zm6:fnB ZP 99 Tryz.f99 [2]=true:=by kernel_rfl
theorem za2v:CG ZP sg @zaqp:=(cgc zatc cg0)
theorem zawg:zaf ZP sg 0 Tryz.f99 @z0p 2:=zar z8r good Tryz.func99 zm6 za2v zaa (fun a=>by kernel_rfl) (by kernel_rfl) (fun _ _=>rfl)
theorem za29:SG ZP sg 99 @za6a:=conD (loops:=z0p) good Tryz.func99 zm6 (by kernel_rfl) za2v (all_cons zawg zaa) (fun a=>by kernel_rfl)
theorem zve:SG ZP sg 96 @zabz:=conE good Tryz.func96 (by kernel_rfl) (by kernel_rfl) (cgc za29 cg0) (fun a=>by kernel_rfl)
theorem zavu:fnB ZP 67 Tryz.f67 [2,16]=true:=by kernel_rfl
theorem z50:CG ZP sg @zae9:=(cgc zgw (cgc zve cg0))
theorem zahu:zaf ZP sg 0 Tryz.f67 @zlc 2:=zar zy1 good Tryz.func67 zavu z50 zaa (fun a=>by kernel_rfl) (by kernel_rfl) (fun _ _=>rfl)
theorem z9o:zaf ZP sg 0 Tryz.f67 @zlc 16:=zar zst good Tryz.func67 zavu z50 zaa (fun a=>by kernel_rfl) (by kernel_rfl) (fun _ _=>rfl)
theorem zarx:SG ZP sg 67 @zayd:=conD (loops:=zlc) good Tryz.func67 zavu (by kernel_rfl) z50 (all_cons zahu (all_cons z9o zaa)) (fun a=>by kernel_rfl)
theorem z7k:SG ZP sg 20 @za0t:=conE good Tryz.func20 (by kernel_rfl) (by kernel_rfl) (cgc zpo (cgc za3p (cgc za3o (cgc za3e (cgc zasv (cgc zarx cg0)))))) (fun a=>by kernel_rfl)
theorem zarv:SG ZP sg 23 @zayc:=conE good Tryz.func23 (by kernel_rfl) (by kernel_rfl) (cgc z7k (cgc zgw (cgc z7f (cgc z7c (cgc (sgP zat7) (cgc z60 cg0)))))) (fun a=>by kernel_rfl)
theorem zatk:SG ZP sg 186 @zac1:=conE good Tryz.func186 (by kernel_rfl) (by kernel_rfl) cg0 (fun a=>by kernel_rfl)
theorem zyb:CG ZP sg @z1y:=(cgc zatk cg0)
theorem z25:zaf ZP sg 0 Tryz.f185 @zln 2:=zar zn9 good Tryz.func185 zyg zyb zaa (fun a=>by kernel_rfl) (by kernel_rfl) (fun _ _=>rfl)
theorem z7m:SG ZP sg 185 @zady:=conD (loops:=zln) good Tryz.func185 zyg (by kernel_rfl) zyb (all_cons z25 zaa) (fun a=>by kernel_rfl)
theorem zat5:SG ZP sg 189 @za0b:=conS (loops:=l0) (ids:=[]) good Tryz.func189 (by kernel_rfl) (by kernel_rfl) cg0 zaa (fun a=>by kernel_rfl) (by kernel_rfl)
theorem zaua:SG ZP sg 187 @za0c:=conE good Tryz.func187 (by kernel_rfl) (by kernel_rfl) (cgc z6m cg0) (fun a=>by kernel_rfl)
theorem zasz:SG ZP sg 86 @zaze:=conE good Tryz.func86 (by kernel_rfl) (by kernel_rfl) (cgc z6w (cgc z7m (cgc zaua (cgc (sgP zat4) (cgc zat5 cg0))))) (fun a=>by kernel_rfl)
theorem zas8:SG ZP sg 25 @zazt:=conE good Tryz.func25 (by kernel_rfl) (by kernel_rfl) (cgc zasz cg0) (fun a=>by kernel_rfl)
theorem zaud:SG ZP sg 60 @za0d:=conE good Tryz.func60 (by kernel_rfl) (by kernel_rfl) (cgc zauj (cgc zarv (cgc zas8 cg0))) (fun a=>by kernel_rfl)
theorem zgx:SG ZP sg 88 @zabs:=conN (loops:=l0) (ids:=[]) good Tryz.func88 (by kernel_rfl) (by kernel_rfl) cg0 zaa (fun a=>by kernel_rfl)
theorem zit:SG ZP sg 91 @za6l:=conM (loops:=l0) (ids:=[]) good Tryz.func91 (by kernel_rfl) (by kernel_rfl) cg0 zaa (fun a b=>by kernel_rfl)
theorem zpn:SG ZP sg 89 @zaza:=conM (loops:=l0) (ids:=[]) good Tryz.func89 (by kernel_rfl) (by kernel_rfl) (cgc zgw (cgc zit cg0)) zaa (fun a b=>by kernel_rfl)
theorem zatr:SG ZP sg 192 @zaz2:=conS (loops:=l0) (ids:=[]) good Tryz.func192 (by kernel_rfl) (by kernel_rfl) cg0 zaa (fun a=>by kernel_rfl) (by kernel_rfl)
theorem zgy:SG ZP sg 93 @zay1:=conM (loops:=l0) (ids:=[]) good Tryz.func93 (by kernel_rfl) (by kernel_rfl) (cgc z60 (cgc zit (cgc z7g (cgc zatr cg0)))) zaa (fun a b=>by kernel_rfl)
theorem zvg:SG ZP sg 222 @zw8:=conE good Tryz.func222 (by kernel_rfl) (by kernel_rfl) cg0 (fun a=>by kernel_rfl)
theorem z7y:fnB ZP 316 Tryz.f316 [1,4]=true:=by kernel_rfl
theorem zard:CG ZP sg @zaq3:=(cgc zvg cg0)
theorem z9w:zaf ZP sg MA Tryz.f316 @zqt 4:=zar z9b good Tryz.func316 z7y zard zaa (fun a=>by kernel_rfl) (by kernel_rfl) (fun _ _=>rfl)
theorem zaww:zaf ZP sg MA Tryz.f316 @zqt 1:=zar z9a good Tryz.func316 z7y zard (all_cons z9w zaa) (fun a=>by kernel_rfl) (by kernel_rfl) (fun _ _=>rfl)
theorem za3n:SG ZP sg 316 @zap2:=conI (loops:=zqt) good Tryz.func316 z7y (by kernel_rfl) zard (all_cons zaww (all_cons z9w zaa)) (fun a=>by kernel_rfl)
theorem zyi:fnB ZP 291 Tryz.f291 [2,7,9]=true:=by kernel_rfl
theorem zagg:CG ZP sg @zaq1:=(cgc zvg (cgc za3n (cgc (sgP zate) cg0)))
theorem zawt:zaf ZP sg MA Tryz.f291 @zjt 2:=zar z86 good Tryz.func291 zyi zagg zaa (fun a=>by kernel_rfl) (by kernel_rfl) (fun _ _=>rfl)
theorem z9v:zaf ZP sg MA Tryz.f291 @zjt 9:=zar z88 good Tryz.func291 zyi zagg zaa (fun a=>by kernel_rfl) (by kernel_rfl) (fun _ _=>rfl)
theorem zawu:zaf ZP sg MA Tryz.f291 @zjt 7:=zar z87 good Tryz.func291 zyi zagg (all_cons z9v zaa) (fun a=>by kernel_rfl) (by kernel_rfl) (fun _ _=>rfl)
theorem za3k:SG ZP sg 291 @za6g:=conI (loops:=zjt) good Tryz.func291 zyi (by kernel_rfl) zagg (all_cons zawt (all_cons zawu (all_cons z9v zaa))) (fun a=>by kernel_rfl)
theorem zat3:SG ZP sg 221 @zade:=conI (loops:=l0) (ids:=[]) good Tryz.func221 (by kernel_rfl) (by kernel_rfl) (cgc zvg (cgc za3k cg0)) zaa (fun a=>by kernel_rfl)
theorem zamn:fnB ZP 135 Tryz.f135 [3]=true:=by kernel_rfl
theorem za2x:CG ZP sg @zaqu:=(cgc zat3 cg0)
theorem zawm:zaf ZP sg 0 Tryz.f135 @z0r 3:=zar z8y good Tryz.func135 zamn za2x zaa (fun a=>by kernel_rfl) (by kernel_rfl) (fun _ _=>rfl)
theorem za3f:SG ZP sg 135 @zapy:=conD (loops:=z0r) good Tryz.func135 zamn (by kernel_rfl) za2x (all_cons zawm zaa) (fun a=>by kernel_rfl)
theorem za34:fnB ZP 35 Tryz.f35 [3]=true:=by kernel_rfl
theorem zalw:CG ZP sg @zaf0:=(cgc za3f cg0)
theorem zaik:zaf ZP sg 0 Tryz.f35 @zt0 3:=zar zzr good Tryz.func35 za34 zalw zaa (fun a=>by kernel_rfl) (by kernel_rfl) (fun _ _=>rfl)
theorem zasi:SG ZP sg 35 @zayy:=conD (loops:=zt0) good Tryz.func35 za34 (by kernel_rfl) zalw (all_cons zaik zaa) (fun a=>by kernel_rfl)
theorem zvo:SG ZP sg 156 @zac6:=conE good Tryz.func156 (by kernel_rfl) (by kernel_rfl) (cgc zasi cg0) (fun a=>by kernel_rfl)
theorem zaue:SG ZP sg 289 @zadj:=conE good Tryz.func289 (by kernel_rfl) (by kernel_rfl) cg0 (fun a=>by kernel_rfl)
theorem zx4:CG ZP sg @z1q:=(cgc zaue cg0)
theorem z2u:zaf ZP sg 0 Tryz.f99 @zlg 2:=zar zn0 good Tryz.func99 zm6 zx4 zaa (fun a=>by kernel_rfl) (by kernel_rfl) (fun _ _=>rfl)
theorem z6h:SG ZP sg 99 @zabt:=conD (loops:=zlg) good Tryz.func99 zm6 (by kernel_rfl) zx4 (all_cons z2u zaa) (fun a=>by kernel_rfl)
theorem zvd:SG ZP sg 217 @zaym:=conE good Tryz.func217 (by kernel_rfl) (by kernel_rfl) (cgc z6h cg0) (fun a=>by kernel_rfl)
theorem zpm:SG ZP sg 128 @zacd:=conE good Tryz.func128 (by kernel_rfl) (by kernel_rfl) (cgc zvd cg0) (fun a=>by kernel_rfl)
theorem z6v:SG ZP sg 137 @zazb:=conM (loops:=l0) (ids:=[]) good Tryz.func137 (by kernel_rfl) (by kernel_rfl) (cgc zgy cg0) zaa (fun a b=>by kernel_rfl)
theorem zatt:SG ZP sg 337 @zaz4:=conE good Tryz.func337 (by kernel_rfl) (by kernel_rfl) cg0 (fun a=>by kernel_rfl)
theorem zas2:SG ZP sg 311 @zacg:=conE good Tryz.func311 (by kernel_rfl) (by kernel_rfl) (cgc zatt cg0) (fun a=>by kernel_rfl)
theorem zano:fnB ZP 312 Tryz.f312 [3]=true:=by kernel_rfl
theorem zalz:CG ZP sg @zaf3:=cg0
theorem zain:zaf ZP sg 0 Tryz.f312 @zt3 3:=zar zzu good Tryz.func312 zano zalz zaa (fun a=>by kernel_rfl) (by kernel_rfl) (fun _ _=>rfl)
theorem zasl:SG ZP sg 312 @zab2:=conD (loops:=zt3) good Tryz.func312 zano (by kernel_rfl) zalz (all_cons zain zaa) (fun a=>by kernel_rfl)
theorem zanj:fnB ZP 287 Tryz.f287 [3]=true:=by kernel_rfl
theorem zakz:CG ZP sg @zaeu:=(cgc zas2 (cgc zasl cg0))
theorem zahe:zaf ZP sg 0 Tryz.f287 @zs3 3:=zar zyk good Tryz.func287 zanj zakz zaa (fun a=>by kernel_rfl) (by kernel_rfl) (fun _ _=>rfl)
theorem zarj:SG ZP sg 287 @zax4:=conD (loops:=zs3) good Tryz.func287 zanj (by kernel_rfl) zakz (all_cons zahe zaa) (fun a=>by kernel_rfl)
theorem zatl:SG ZP sg 211 @zazx:=conE good Tryz.func211 (by kernel_rfl) (by kernel_rfl) (cgc zarj cg0) (fun a=>by kernel_rfl)
theorem zh8:SG ZP sg 118 @zazg:=conE good Tryz.func118 (by kernel_rfl) (by kernel_rfl) (cgc zh9 (cgc zatl cg0)) (fun a=>by kernel_rfl)
theorem zpq:SG ZP sg 120 @zazj:=conE good Tryz.func120 (by kernel_rfl) (by kernel_rfl) (cgc zpo cg0) (fun a=>by kernel_rfl)
theorem zau2:SG ZP sg 345 @za0x:=conE good Tryz.func345 (by kernel_rfl) (by kernel_rfl) cg0 (fun a=>by kernel_rfl)
theorem zau4:SG ZP sg 324 @zadr:=conE good Tryz.func324 (by kernel_rfl) (by kernel_rfl) (cgc zau2 cg0) (fun a=>by kernel_rfl)
theorem zauk:SG ZP sg 349 @zadm:=conE good Tryz.func349 (by kernel_rfl) (by kernel_rfl) cg0 (fun a=>by kernel_rfl)
theorem zanp:fnB ZP 334 Tryz.f334 [3]=true:=by kernel_rfl
theorem zak2:CG ZP sg @zaex:=(cgc zau4 (cgc zauk cg0))
theorem zahh:zaf ZP sg 0 Tryz.f334 @zs6 3:=zar zyn good Tryz.func334 zanp zak2 zaa (fun a=>by kernel_rfl) (by kernel_rfl) (fun _ _=>rfl)
theorem zarm:SG ZP sg 334 @zax7:=conD (loops:=zs6) good Tryz.func334 zanp (by kernel_rfl) zak2 (all_cons zahh zaa) (fun a=>by kernel_rfl)
theorem zann:fnB ZP 308 Tryz.f308 [3]=true:=by kernel_rfl
theorem zalj:CG ZP sg @zafn:=cg0
theorem zah7:zaf ZP sg 0 Tryz.f308 @ztn 3:=zar zze good Tryz.func308 zann zalj zaa (fun a=>by kernel_rfl) (by kernel_rfl) (fun _ _=>rfl)
theorem z6f:SG ZP sg 308 @zabq:=conD (loops:=ztn) good Tryz.func308 zann (by kernel_rfl) zalj (all_cons zah7 zaa) (fun a=>by kernel_rfl)
theorem zaun:SG ZP sg 336 @za0l:=conE good Tryz.func336 (by kernel_rfl) (by kernel_rfl) cg0 (fun a=>by kernel_rfl)
theorem zvm:SG ZP sg 310 @zac2:=conE good Tryz.func310 (by kernel_rfl) (by kernel_rfl) (cgc zaun cg0) (fun a=>by kernel_rfl)
theorem z6y:SG ZP sg 304 @zw9:=conE good Tryz.func304 (by kernel_rfl) (by kernel_rfl) (cgc zvl (cgc z6f (cgc zvm (cgc zarm cg0)))) (fun a=>by kernel_rfl)
theorem zanf:fnB ZP 269 Tryz.f269 [2]=true:=by kernel_rfl
theorem zak5:CG ZP sg @zae0:=(cgc z6y cg0)
theorem zahk:zaf ZP sg 0 Tryz.f269 @zs9 2:=zar zyq good Tryz.func269 zanf zak5 zaa (fun a=>by kernel_rfl) (by kernel_rfl) (fun _ _=>rfl)
theorem z6b:SG ZP sg 269 @zabd:=conD (loops:=zs9) good Tryz.func269 zanf (by kernel_rfl) zak5 (all_cons zahk zaa) (fun a=>by kernel_rfl)
theorem zanb:fnB ZP 218 Tryz.f218 [9]=true:=by kernel_rfl
theorem zak4:CG ZP sg @zaez:=(cgc zvl (cgc z6b cg0))
theorem zahj:zaf ZP sg 0 Tryz.f218 @zs8 9:=zar zyp good Tryz.func218 zanb zak4 zaa (fun a=>by kernel_rfl) (by kernel_rfl) (fun _ _=>rfl)
theorem zaro:SG ZP sg 218 @zax9:=conD (loops:=zs8) good Tryz.func218 zanb (by kernel_rfl) zak4 (all_cons zahj zaa) (fun a=>by kernel_rfl)
theorem z7b:SG ZP sg 130 @zaz3:=conM (loops:=l0) (ids:=[]) good Tryz.func130 (by kernel_rfl) (by kernel_rfl) (cgc zit (cgc zpq (cgc zaro cg0))) zaa (fun a b=>by kernel_rfl)
theorem z6r:SG ZP sg 285 @zaca:=conE good Tryz.func285 (by kernel_rfl) (by kernel_rfl) cg0 (fun a=>by kernel_rfl)
theorem zx5:CG ZP sg @z1r:=(cgc z6r cg0)
theorem z2v:zaf ZP sg 0 Tryz.f99 @zlh 2:=zar zn1 good Tryz.func99 zm6 zx5 zaa (fun a=>by kernel_rfl) (by kernel_rfl) (fun _ _=>rfl)
theorem z6i:SG ZP sg 99 @zabu:=conD (loops:=zlh) good Tryz.func99 zm6 (by kernel_rfl) zx5 (all_cons z2v zaa) (fun a=>by kernel_rfl)
theorem zasw:SG ZP sg 117 @zay8:=conE good Tryz.func117 (by kernel_rfl) (by kernel_rfl) (cgc z6i (cgc z6r cg0)) (fun a=>by kernel_rfl)
theorem zvj:SG ZP sg 225 @zazo:=conS (loops:=l0) (ids:=[]) good Tryz.func225 (by kernel_rfl) (by kernel_rfl) cg0 zaa (fun a=>by kernel_rfl) (by kernel_rfl)
theorem zaux:SG ZP sg 228 @za0w:=conE good Tryz.func228 (by kernel_rfl) (by kernel_rfl) (cgc zvj cg0) (fun a=>by kernel_rfl)
theorem z6e:SG ZP sg 205 @zayh:=conE good Tryz.func205 (by kernel_rfl) (by kernel_rfl) (cgc zasw (cgc zvd (cgc zaux (cgc zvh cg0)))) (fun a=>by kernel_rfl)
theorem zps:SG ZP sg 139 @zazl:=conM (loops:=l0) (ids:=[]) good Tryz.func139 (by kernel_rfl) (by kernel_rfl) (cgc zit cg0) zaa (fun a b=>by kernel_rfl)
theorem z62:SG ZP sg 109 @zazp:=conM (loops:=l0) (ids:=[]) good Tryz.func109 (by kernel_rfl) (by kernel_rfl) (cgc zgy (cgc zh8 (cgc z7b (cgc zps (cgc z6e cg0))))) zaa (fun a b=>by kernel_rfl)
theorem zpt:SG ZP sg 110 @zaco:=conM (loops:=l0) (ids:=[]) good Tryz.func110 (by kernel_rfl) (by kernel_rfl) (cgc zgy (cgc z62 (cgc zpm (cgc z6v (cgc zps (cgc zvo (cgc z6e cg0))))))) zaa (fun a b=>by kernel_rfl)
theorem zamb:SG ZP sg 136 @zap3:=conM (loops:=l0) (ids:=[]) good Tryz.func136 (by kernel_rfl) (by kernel_rfl) cg0 zaa (fun a b=>by kernel_rfl)
theorem zatd:SG ZP sg 36 @zazu:=conE good Tryz.func36 (by kernel_rfl) (by kernel_rfl) (cgc zgx (cgc zpn (cgc zgy (cgc zpt (cgc zamb cg0))))) (fun a=>by kernel_rfl)
theorem za35:fnB ZP 45 Tryz.f45 [3]=true:=by kernel_rfl
theorem zak8:CG ZP sg @zae3:=cg0
theorem zahn:zaf ZP sg 0 Tryz.f45 @ztc 3:=zar zyt good Tryz.func45 za35 zak8 zaa (fun a=>by kernel_rfl) (by kernel_rfl) (fun _ _=>rfl)
theorem z6c:SG ZP sg 45 @zaya:=conD (loops:=ztc) good Tryz.func45 za35 (by kernel_rfl) zak8 (all_cons zahn zaa) (fun a=>by kernel_rfl)
theorem zam6:fnB ZP 190 Tryz.f190 [3]=true:=by kernel_rfl
theorem za2u:CG ZP sg @zaqn:=cg0
theorem zawd:zaf ZP sg 0 Tryz.f190 @z0o 3:=zar z8o good Tryz.func190 zam6 za2u zaa (fun a=>by kernel_rfl) (by kernel_rfl) (fun _ _=>rfl)
theorem z6a:SG ZP sg 190 @zabc:=conD (loops:=z0o) good Tryz.func190 zam6 (by kernel_rfl) za2u (all_cons zawd zaa) (fun a=>by kernel_rfl)
theorem zana:fnB ZP 210 Tryz.f210 [3]=true:=by kernel_rfl
theorem zak0:CG ZP sg @zaev:=(cgc z6a cg0)
theorem zahf:zaf ZP sg 0 Tryz.f210 @zs4 3:=zar zyl good Tryz.func210 zana zak0 zaa (fun a=>by kernel_rfl) (by kernel_rfl) (fun _ _=>rfl)
theorem zark:SG ZP sg 210 @zax5:=conD (loops:=zs4) good Tryz.func210 zana (by kernel_rfl) zak0 (all_cons zahf zaa) (fun a=>by kernel_rfl)
theorem zam9:fnB ZP 209 Tryz.f209 [3]=true:=by kernel_rfl
theorem zaly:CG ZP sg @zaf2:=cg0
theorem zaim:zaf ZP sg 0 Tryz.f209 @zt2 3:=zar zzt good Tryz.func209 zam9 zaly zaa (fun a=>by kernel_rfl) (by kernel_rfl) (fun _ _=>rfl)
theorem zask:SG ZP sg 209 @zay0:=conD (loops:=zt2) good Tryz.func209 zam9 (by kernel_rfl) zaly (all_cons zaim zaa) (fun a=>by kernel_rfl)
theorem zvn:SG ZP sg 115 @zac3:=conE good Tryz.func115 (by kernel_rfl) (by kernel_rfl) (cgc z6c (cgc zask (cgc zark cg0))) (fun a=>by kernel_rfl)
theorem zang:fnB ZP 270 Tryz.f270 [2]=true:=by kernel_rfl
theorem zalk:CG ZP sg @zafo:=(cgc z6y cg0)
theorem zah8:zaf ZP sg 0 Tryz.f270 @zto 2:=zar zzf good Tryz.func270 zang zalk zaa (fun a=>by kernel_rfl) (by kernel_rfl) (fun _ _=>rfl)
theorem zar9:SG ZP sg 270 @zayn:=conD (loops:=zto) good Tryz.func270 zang (by kernel_rfl) zalk (all_cons zah8 zaa) (fun a=>by kernel_rfl)
theorem z69:SG ZP sg 191 @zazy:=conE good Tryz.func191 (by kernel_rfl) (by kernel_rfl) (cgc z6g (cgc z6b (cgc zar9 cg0))) (fun a=>by kernel_rfl)
theorem zatw:SG ZP sg 92 @zaz6:=conE good Tryz.func92 (by kernel_rfl) (by kernel_rfl) (cgc zvn (cgc zh8 (cgc zpq (cgc zpm (cgc zvo (cgc z6a (cgc z69 cg0))))))) (fun a=>by kernel_rfl)
theorem z6t:SG ZP sg 193 @zacc:=conE good Tryz.func193 (by kernel_rfl) (by kernel_rfl) cg0 (fun a=>by kernel_rfl)
theorem zya:CG ZP sg @z1x:=(cgc z6t cg0)
theorem z24:zaf ZP sg 0 Tryz.f242 @zlm 2:=zar zn8 good Tryz.func242 zyh zya zaa (fun a=>by kernel_rfl) (by kernel_rfl) (fun _ _=>rfl)
theorem z7l:SG ZP sg 242 @zadx:=conD (loops:=zlm) good Tryz.func242 zyh (by kernel_rfl) zya (all_cons z24 zaa) (fun a=>by kernel_rfl)
theorem z14:SG ZP sg 164 @z4h:=conE good Tryz.func164 (by kernel_rfl) (by kernel_rfl) (cgc z6t (cgc z7l cg0)) (fun a=>by kernel_rfl)
theorem zvi:SG ZP sg 196 @zazn:=conS (loops:=l0) (ids:=[]) good Tryz.func196 (by kernel_rfl) (by kernel_rfl) cg0 zaa (fun a=>by kernel_rfl) (by kernel_rfl)
theorem z6q:SG ZP sg 194 @zay7:=conE good Tryz.func194 (by kernel_rfl) (by kernel_rfl) (cgc z6n cg0) (fun a=>by kernel_rfl)
theorem zase:SG ZP sg 95 @zays:=conE good Tryz.func95 (by kernel_rfl) (by kernel_rfl) (cgc (sgi (ac:=zaqc) zkk (sgi (ac:=zo8) z14 sg0)) (cgc zki (cgc z6q (cgc (sgP zat6) (cgc zvi cg0))))) (fun a=>by kernel_rfl)
theorem zpr:SG ZP sg 94 @zazk:=conM (loops:=l0) (ids:=[]) good Tryz.func94 (by kernel_rfl) (by kernel_rfl) (cgc zit cg0) zaa (fun a b=>by kernel_rfl)
theorem zauf:SG ZP sg 198 @za0e:=conE good Tryz.func198 (by kernel_rfl) (by kernel_rfl) (cgc zvd (cgc zvj (cgc (sgP zat9) cg0))) (fun a=>by kernel_rfl)
theorem z64:SG ZP sg 97 @zazs:=conM (loops:=l0) (ids:=[]) good Tryz.func97 (by kernel_rfl) (by kernel_rfl) (cgc zps (cgc zauf cg0)) zaa (fun a b=>by kernel_rfl)
theorem zkj:SG ZP sg 98 @zayx:=conM (loops:=l0) (ids:=[]) good Tryz.func98 (by kernel_rfl) (by kernel_rfl) cg0 zaa (fun a b=>by kernel_rfl)
theorem zpp:SG ZP sg 101 @zacm:=conE good Tryz.func101 (by kernel_rfl) (by kernel_rfl) cg0 (fun a=>by kernel_rfl)
theorem zatn:SG ZP sg 100 @zac5:=conE good Tryz.func100 (by kernel_rfl) (by kernel_rfl) (cgc zpp cg0) (fun a=>by kernel_rfl)
theorem zx6:CG ZP sg @z1s:=(cgc zatn cg0)
theorem z2w:zaf ZP sg 0 Tryz.f99 @zli 2:=zar zn2 good Tryz.func99 zm6 zx6 zaa (fun a=>by kernel_rfl) (by kernel_rfl) (fun _ _=>rfl)
theorem z6j:SG ZP sg 99 @zabv:=conD (loops:=zli) good Tryz.func99 zm6 (by kernel_rfl) zx6 (all_cons z2w zaa) (fun a=>by kernel_rfl)
theorem zass:SG ZP sg 27 @zay5:=conE good Tryz.func27 (by kernel_rfl) (by kernel_rfl) (cgc zgx (cgc zpn (cgc zh9 (cgc zit (cgc zatw (cgc zgy (cgc zpr (cgc zase (cgc zve (cgc z64 (cgc zkj (cgc z6j cg0)))))))))))) (fun a=>by kernel_rfl)
theorem zatx:SG ZP sg 224 @zaz7:=conE good Tryz.func224 (by kernel_rfl) (by kernel_rfl) cg0 (fun a=>by kernel_rfl)
theorem zath:SG ZP sg 223 @zacx:=conE good Tryz.func223 (by kernel_rfl) (by kernel_rfl) (cgc zpp (cgc zatx cg0)) (fun a=>by kernel_rfl)
theorem zx9:CG ZP sg @z1w:=(cgc zath cg0)
theorem z23:zaf ZP sg 0 Tryz.f80 @zll 2:=zar zn7 good Tryz.func80 z2g zx9 zaa (fun a=>by kernel_rfl) (by kernel_rfl) (fun _ _=>rfl)
theorem z7d:SG ZP sg 80 @zuu:=conD (loops:=zll) good Tryz.func80 z2g (by kernel_rfl) zx9 (all_cons z23 zaa) (fun a=>by kernel_rfl)
theorem zamo:fnB ZP 138 Tryz.f138 [9]=true:=by kernel_rfl
theorem za22:CG ZP sg @zaq6:=(cgc zgw (cgc z7d (cgc zvn (cgc z6a cg0))))
theorem zawz:zaf ZP sg 0 Tryz.f138 @z0w 9:=zar z9e good Tryz.func138 zamo za22 zaa (fun a=>by kernel_rfl) (by kernel_rfl) (fun _ _=>rfl)
theorem za3q:SG ZP sg 138 @za6m:=conD (loops:=z0w) good Tryz.func138 zamo (by kernel_rfl) za22 (all_cons zawz zaa) (fun a=>by kernel_rfl)
theorem zauh:SG ZP sg 140 @za0f:=conE good Tryz.func140 (by kernel_rfl) (by kernel_rfl) (cgc zama (cgc zvj cg0)) (fun a=>by kernel_rfl)
theorem zamp:fnB ZP 141 Tryz.f141 [1]=true:=by kernel_rfl
theorem zals:CG ZP sg @zafw:=(cgc zpt (cgc zvo cg0))
theorem zaig:zaf ZP sg 1 Tryz.f141 @ztw 1:=zar zzn good Tryz.func141 zamp zals zaa (fun a=>by kernel_rfl) (by kernel_rfl) (fun _ _=>rfl)
theorem z6l:SG ZP sg 141 @zabx:=conM (loops:=ztw) good Tryz.func141 zamp (by kernel_rfl) zals (all_cons zaig zaa) (fun a b=>by kernel_rfl)
theorem zaui:SG ZP sg 40 @za0h:=conE good Tryz.func40 (by kernel_rfl) (by kernel_rfl) (cgc zgx (cgc zh9 (cgc zkj (cgc zh8 (cgc za3q (cgc zps (cgc zauh (cgc z6l cg0)))))))) (fun a=>by kernel_rfl)
theorem z6s:SG ZP sg 116 @zacb:=conE good Tryz.func116 (by kernel_rfl) (by kernel_rfl) (cgc zpp cg0) (fun a=>by kernel_rfl)
theorem zx7:CG ZP sg @z1t:=(cgc z6s cg0)
theorem z2x:zaf ZP sg 0 Tryz.f99 @zlj 2:=zar zn3 good Tryz.func99 zm6 zx7 zaa (fun a=>by kernel_rfl) (by kernel_rfl) (fun _ _=>rfl)
theorem z6k:SG ZP sg 99 @zabw:=conD (loops:=zlj) good Tryz.func99 zm6 (by kernel_rfl) zx7 (all_cons z2x zaa) (fun a=>by kernel_rfl)
theorem z15:SG ZP sg 117 @z4i:=conE good Tryz.func117 (by kernel_rfl) (by kernel_rfl) (cgc z6k (cgc z6s cg0)) (fun a=>by kernel_rfl)
theorem zatv:SG ZP sg 119 @zaz5:=conE good Tryz.func119 (by kernel_rfl) (by kernel_rfl) (cgc z69 cg0) (fun a=>by kernel_rfl)
theorem z63:SG ZP sg 212 @zazq:=conE good Tryz.func212 (by kernel_rfl) (by kernel_rfl) (cgc zvi cg0) (fun a=>by kernel_rfl)
theorem zaum:SG ZP sg 121 @za0k:=conE good Tryz.func121 (by kernel_rfl) (by kernel_rfl) (cgc zkk (cgc zki (cgc z6q (cgc z63 cg0)))) (fun a=>by kernel_rfl)
theorem zas0:SG ZP sg 31 @zazf:=conE good Tryz.func31 (by kernel_rfl) (by kernel_rfl) (cgc zvk (cgc zgw (cgc zgx (cgc zh9 (cgc zpr (cgc zkj (cgc zvn (cgc z15 (cgc zh8 (cgc zatv (cgc zpq (cgc zaum cg0)))))))))))) (fun a=>by kernel_rfl)
theorem zamk:fnB ZP 129 Tryz.f129 [2]=true:=by kernel_rfl
theorem zak3:CG ZP sg @zaey:=(cgc zvk (cgc zpp cg0))
theorem zahi:zaf ZP sg 0 Tryz.f129 @zs7 2:=zar zyo good Tryz.func129 zamk zak3 zaa (fun a=>by kernel_rfl) (by kernel_rfl) (fun _ _=>rfl)
theorem zarn:SG ZP sg 129 @zax8:=conD (loops:=zs7) good Tryz.func129 zamk (by kernel_rfl) zak3 (all_cons zahi zaa) (fun a=>by kernel_rfl)
theorem zavj:SG ZP sg 131 @za08:=conE good Tryz.func131 (by kernel_rfl) (by kernel_rfl) (cgc zkk (cgc zki (cgc z63 (cgc z7e cg0)))) (fun a=>by kernel_rfl)
theorem zaul:SG ZP sg 33 @za0j:=conE good Tryz.func33 (by kernel_rfl) (by kernel_rfl) (cgc zgx (cgc zpr (cgc zkj (cgc zh8 (cgc zpm (cgc zarn (cgc z7b (cgc zavj cg0)))))))) (fun a=>by kernel_rfl)
theorem zavd:SG ZP sg 234 @za02:=conE good Tryz.func234 (by kernel_rfl) (by kernel_rfl) (cgc zvi (cgc (sgP zat8) cg0)) (fun a=>by kernel_rfl)
theorem zauw:SG ZP sg 154 @za0v:=conE good Tryz.func154 (by kernel_rfl) (by kernel_rfl) (cgc zkk (cgc zki (cgc zavd cg0))) (fun a=>by kernel_rfl)
theorem zatu:SG ZP sg 309 @zac9:=conE good Tryz.func309 (by kernel_rfl) (by kernel_rfl) (cgc zvm cg0) (fun a=>by kernel_rfl)
theorem z7v:fnB ZP 281 Tryz.f281 [7,13]=true:=by kernel_rfl
theorem z52:CG ZP sg @zafa:=(cgc z6f (cgc zatu (cgc zvm cg0)))
theorem zahv:zaf ZP sg 0 Tryz.f281 @zld 7:=zar zy2 good Tryz.func281 z7v z52 zaa (fun a=>by kernel_rfl) (by kernel_rfl) (fun _ _=>rfl)
theorem z9p:zaf ZP sg 0 Tryz.f281 @zld 13:=zar zsu good Tryz.func281 z7v z52 zaa (fun a=>by kernel_rfl) (by kernel_rfl) (fun _ _=>rfl)
theorem zary:SG ZP sg 281 @zaye:=conD (loops:=zld) good Tryz.func281 z7v (by kernel_rfl) z52 (all_cons zahv (all_cons z9p zaa)) (fun a=>by kernel_rfl)
theorem zauq:SG ZP sg 203 @za0o:=conE good Tryz.func203 (by kernel_rfl) (by kernel_rfl) (cgc zamc (cgc z7h (cgc zary cg0))) (fun a=>by kernel_rfl)
theorem zatp:SG ZP sg 226 @zaz0:=conE good Tryz.func226 (by kernel_rfl) (by kernel_rfl) (cgc z6o cg0) (fun a=>by kernel_rfl)
theorem zave:SG ZP sg 149 @za03:=conM (loops:=l0) (ids:=[]) good Tryz.func149 (by kernel_rfl) (by kernel_rfl) (cgc zit (cgc zatp cg0)) zaa (fun a b=>by kernel_rfl)
theorem zatj:SG ZP sg 283 @zac0:=conE good Tryz.func283 (by kernel_rfl) (by kernel_rfl) cg0 (fun a=>by kernel_rfl)
theorem zani:fnB ZP 282 Tryz.f282 [2]=true:=by kernel_rfl
theorem zale:CG ZP sg @zafi:=(cgc zatj cg0)
theorem zah3:zaf ZP sg 0 Tryz.f282 @zti 2:=zar zza good Tryz.func282 zani zale zaa (fun a=>by kernel_rfl) (by kernel_rfl) (fun _ _=>rfl)
theorem zar5:SG ZP sg 282 @zayk:=conD (loops:=zti) good Tryz.func282 zani (by kernel_rfl) zale (all_cons zah3 zaa) (fun a=>by kernel_rfl)
theorem zasy:SG ZP sg 204 @zazd:=conE good Tryz.func204 (by kernel_rfl) (by kernel_rfl) (cgc zar5 cg0) (fun a=>by kernel_rfl)
theorem zavc:SG ZP sg 108 @za01:=conM (loops:=l0) (ids:=[]) good Tryz.func108 (by kernel_rfl) (by kernel_rfl) (cgc zgy (cgc zpr (cgc zh8 (cgc zpq (cgc zave (cgc zauw (cgc zauq (cgc zasy cg0)))))))) zaa (fun a b=>by kernel_rfl)
theorem zau9:SG ZP sg 29 @za00:=conE good Tryz.func29 (by kernel_rfl) (by kernel_rfl) (cgc zgx (cgc zpn (cgc zit (cgc zgy (cgc zve (cgc zkj (cgc zavc (cgc z62 (cgc zpt cg0))))))))) (fun a=>by kernel_rfl)
theorem zau6:SG ZP sg 15 @za0z:=conE good Tryz.func15 (by kernel_rfl) (by kernel_rfl) (cgc z7k (cgc zass (cgc zau9 (cgc zas0 (cgc zaul (cgc zatd (cgc zaui (cgc z6c (cgc zaud cg0))))))))) (fun a=>by kernel_rfl)
theorem zamr:fnB ZP 148 Tryz.f148 [6]=true:=by kernel_rfl
theorem zalx:CG ZP sg @zaf1:=cg0
theorem zail:zaf ZP sg 0 Tryz.f148 @zt1 6:=zar zzs good Tryz.func148 zamr zalx zaa (fun a=>by kernel_rfl) (by kernel_rfl) (fun _ _=>rfl)
theorem zasj:SG ZP sg 148 @zayz:=conD (loops:=zt1) good Tryz.func148 zamr (by kernel_rfl) zalx (all_cons zail zaa) (fun a=>by kernel_rfl)
theorem zaut:SG ZP sg 44 @za0r:=conE good Tryz.func44 (by kernel_rfl) (by kernel_rfl) (cgc zh9 (cgc zasj cg0)) (fun a=>by kernel_rfl)
theorem zams:fnB ZP 158 Tryz.f158 [5]=true:=by kernel_rfl
theorem zalp:CG ZP sg @zaft:=cg0
theorem zaid:zaf ZP sg 0 Tryz.f158 @ztt 5:=zar zzk good Tryz.func158 zams zalp zaa (fun a=>by kernel_rfl) (by kernel_rfl) (fun _ _=>rfl)
theorem zasf:SG ZP sg 158 @zayt:=conD (loops:=ztt) good Tryz.func158 zams (by kernel_rfl) zalp (all_cons zaid zaa) (fun a=>by kernel_rfl)
theorem zauu:SG ZP sg 54 @za0s:=conE good Tryz.func54 (by kernel_rfl) (by kernel_rfl) (cgc zkl (cgc zasf cg0)) (fun a=>by kernel_rfl)
theorem zamt:fnB ZP 159 Tryz.f159 [3]=true:=by kernel_rfl
theorem zal3:CG ZP sg @zaf7:=cg0
theorem zair:zaf ZP sg 0 Tryz.f159 @zt7 3:=zar zzy good Tryz.func159 zamt zal3 zaa (fun a=>by kernel_rfl) (by kernel_rfl) (fun _ _=>rfl)
theorem zasp:SG ZP sg 159 @zab5:=conD (loops:=zt7) good Tryz.func159 zamt (by kernel_rfl) zal3 (all_cons zair zaa) (fun a=>by kernel_rfl)
theorem zauc:SG ZP sg 146 @zadg:=conM (loops:=l0) (ids:=[]) good Tryz.func146 (by kernel_rfl) (by kernel_rfl) (cgc zpn (cgc z64 (cgc zpt (cgc z6v cg0)))) zaa (fun a b=>by kernel_rfl)
theorem zamu:fnB ZP 160 Tryz.f160 [3]=true:=by kernel_rfl
theorem zal4:CG ZP sg @zaf8:=(cgc (sgP zatf) (cgc (sgP zatq) cg0))
theorem zais:zaf ZP sg 0 Tryz.f160 @zt8 3:=zar zzz good Tryz.func160 zamu zal4 zaa (fun a=>by kernel_rfl) (by kernel_rfl) (fun _ _=>rfl)
theorem zasq:SG ZP sg 160 @zab6:=conD (loops:=zt8) good Tryz.func160 zamu (by kernel_rfl) zal4 (all_cons zais zaa) (fun a=>by kernel_rfl)
theorem zavs:fnB ZP 55 Tryz.f55 [6,13]=true:=by kernel_rfl
theorem z55:CG ZP sg @zafc:=(cgc zgx (cgc zpm (cgc zamb (cgc z6l (cgc zauc (cgc zasp (cgc zasq cg0)))))))
theorem zahx:zaf ZP sg 0 Tryz.f55 @zlf 6:=zar zy4 good Tryz.func55 zavs z55 zaa (fun a=>by kernel_rfl) (by kernel_rfl) (fun _ _=>rfl)
theorem z9r:zaf ZP sg 0 Tryz.f55 @zlf 13:=zar zsw good Tryz.func55 zavs z55 zaa (fun a=>by kernel_rfl) (by kernel_rfl) (fun _ _=>rfl)
theorem zar1:SG ZP sg 55 @zayg:=conD (loops:=zlf) good Tryz.func55 zavs (by kernel_rfl) z55 (all_cons zahx (all_cons z9r zaa)) (fun a=>by kernel_rfl)
theorem zamv:fnB ZP 161 Tryz.f161 [3]=true:=by kernel_rfl
theorem zal5:CG ZP sg @zaf9:=cg0
theorem zait:zaf ZP sg 0 Tryz.f161 @zt9 3:=zar zz0 good Tryz.func161 zamv zal5 zaa (fun a=>by kernel_rfl) (by kernel_rfl) (fun _ _=>rfl)
theorem zasr:SG ZP sg 161 @zab7:=conD (loops:=zt9) good Tryz.func161 zamv (by kernel_rfl) zal5 (all_cons zait zaa) (fun a=>by kernel_rfl)
theorem zaml:fnB ZP 132 Tryz.f132 [2]=true:=by kernel_rfl
theorem zala:CG ZP sg @zafe:=cg0
theorem zahz:zaf ZP sg 0 Tryz.f132 @zte 2:=zar zy6 good Tryz.func132 zaml zala zaa (fun a=>by kernel_rfl) (by kernel_rfl) (fun _ _=>rfl)
theorem zpk:SG ZP sg 132 @zq3:=conD (loops:=zte) good Tryz.func132 zaml (by kernel_rfl) zala (all_cons zahz zaa) (fun a=>by kernel_rfl)
theorem zamj:fnB ZP 107 Tryz.f107 [6]=true:=by kernel_rfl
theorem zall:CG ZP sg @zafp:=(cgc zpk cg0)
theorem zah9:zaf ZP sg 0 Tryz.f107 @ztp 6:=zar zzg good Tryz.func107 zamj zall zaa (fun a=>by kernel_rfl) (by kernel_rfl) (fun _ _=>rfl)
theorem zasa:SG ZP sg 107 @zayo:=conD (loops:=ztp) good Tryz.func107 zamj (by kernel_rfl) zall (all_cons zah9 zaa) (fun a=>by kernel_rfl)
theorem zamh:fnB ZP 103 Tryz.f103 [10]=true:=by kernel_rfl
theorem zalg:CG ZP sg @zafk:=(cgc zkm (cgc z6z cg0))
theorem z9s:zaf ZP sg 0 Tryz.f103 @ztk 10:=zar zsx good Tryz.func103 zamh zalg zaa (fun a=>by kernel_rfl) (by kernel_rfl) (fun _ _=>rfl)
theorem zvc:SG ZP sg 103 @zayl:=conD (loops:=ztk) good Tryz.func103 zamh (by kernel_rfl) zalg (all_cons z9s zaa) (fun a=>by kernel_rfl)
theorem z7x:fnB ZP 293 Tryz.f293 [3,6]=true:=by kernel_rfl
theorem z5v:CG ZP sg @zae4:=cg0
theorem z0j:zaf ZP sg 0 Tryz.f293 @zk7 6:=zar zyw good Tryz.func293 z7x z5v zaa (fun a=>by kernel_rfl) (by kernel_rfl) (fun _ _=>rfl)
theorem zahp:zaf ZP sg 0 Tryz.f293 @zk7 3:=zar zyv good Tryz.func293 z7x z5v (all_cons z0j zaa) (fun a=>by kernel_rfl) (by kernel_rfl) (fun _ _=>rfl)
theorem zarr:SG ZP sg 293 @zabg:=conD (loops:=zk7) good Tryz.func293 z7x (by kernel_rfl) z5v (all_cons zahp (all_cons z0j zaa)) (fun a=>by kernel_rfl)
theorem zane:fnB ZP 235 Tryz.f235 [4]=true:=by kernel_rfl
theorem zalo:CG ZP sg @zafs:=(cgc zpk (cgc zarr cg0))
theorem zaic:zaf ZP sg 0 Tryz.f235 @zts 4:=zar zzj good Tryz.func235 zane zalo zaa (fun a=>by kernel_rfl) (by kernel_rfl) (fun _ _=>rfl)
theorem zasd:SG ZP sg 235 @zayr:=conD (loops:=zts) good Tryz.func235 zane (by kernel_rfl) zalo (all_cons zaic zaa) (fun a=>by kernel_rfl)
theorem z7i:SG ZP sg 157 @zadk:=conE good Tryz.func157 (by kernel_rfl) (by kernel_rfl) (cgc zkm (cgc zasd cg0)) (fun a=>by kernel_rfl)
theorem zava:SG ZP sg 313 @zadv:=conE good Tryz.func313 (by kernel_rfl) (by kernel_rfl) cg0 (fun a=>by kernel_rfl)
theorem zatz:SG ZP sg 314 @zada:=conE good Tryz.func314 (by kernel_rfl) (by kernel_rfl) cg0 (fun a=>by kernel_rfl)
theorem zank:fnB ZP 288 Tryz.f288 [3]=true:=by kernel_rfl
theorem zalm:CG ZP sg @zafq:=(cgc zava (cgc zatz cg0))
theorem zaia:zaf ZP sg 0 Tryz.f288 @ztq 3:=zar zzh good Tryz.func288 zank zalm zaa (fun a=>by kernel_rfl) (by kernel_rfl) (fun _ _=>rfl)
theorem zasb:SG ZP sg 288 @zayp:=conD (loops:=ztq) good Tryz.func288 zank (by kernel_rfl) zalm (all_cons zaia zaa) (fun a=>by kernel_rfl)
theorem zaus:SG ZP sg 216 @za0q:=conE good Tryz.func216 (by kernel_rfl) (by kernel_rfl) (cgc zasb cg0) (fun a=>by kernel_rfl)
theorem zaur:SG ZP sg 124 @za0p:=conE good Tryz.func124 (by kernel_rfl) (by kernel_rfl) (cgc zkl (cgc zaus cg0)) (fun a=>by kernel_rfl)
theorem za3l:SG ZP sg 126 @za6h:=conE good Tryz.func126 (by kernel_rfl) (by kernel_rfl) cg0 (fun a=>by kernel_rfl)
theorem zavk:SG ZP sg 338 @za09:=conE good Tryz.func338 (by kernel_rfl) (by kernel_rfl) cg0 (fun a=>by kernel_rfl)
theorem zau5:SG ZP sg 315 @zads:=conE good Tryz.func315 (by kernel_rfl) (by kernel_rfl) (cgc zavk cg0) (fun a=>by kernel_rfl)
theorem z7w:fnB ZP 290 Tryz.f290 [6,12]=true:=by kernel_rfl
theorem z5z:CG ZP sg @zae8:=(cgc zau5 cg0)
theorem zaht:zaf ZP sg 0 Tryz.f290 @zlb 6:=zar zy0 good Tryz.func290 z7w z5z zaa (fun a=>by kernel_rfl) (by kernel_rfl) (fun _ _=>rfl)
theorem z9n:zaf ZP sg 0 Tryz.f290 @zlb 12:=zar zss good Tryz.func290 z7w z5z zaa (fun a=>by kernel_rfl) (by kernel_rfl) (fun _ _=>rfl)
theorem zarw:SG ZP sg 290 @zabk:=conD (loops:=zlb) good Tryz.func290 z7w (by kernel_rfl) z5z (all_cons zaht (all_cons z9n zaa)) (fun a=>by kernel_rfl)
theorem zanc:fnB ZP 220 Tryz.f220 [2]=true:=by kernel_rfl
theorem zal1:CG ZP sg @zaf5:=(cgc zarw cg0)
theorem zaip:zaf ZP sg 0 Tryz.f220 @zt5 2:=zar zzw good Tryz.func220 zanc zal1 zaa (fun a=>by kernel_rfl) (by kernel_rfl) (fun _ _=>rfl)
theorem zasn:SG ZP sg 220 @zab3:=conD (loops:=zt5) good Tryz.func220 zanc (by kernel_rfl) zal1 (all_cons zaip zaa) (fun a=>by kernel_rfl)
theorem zamm:fnB ZP 133 Tryz.f133 [9]=true:=by kernel_rfl
theorem zaln:CG ZP sg @zafr:=(cgc zasn cg0)
theorem zaib:zaf ZP sg 0 Tryz.f133 @ztr 9:=zar zzi good Tryz.func133 zamm zaln zaa (fun a=>by kernel_rfl) (by kernel_rfl) (fun _ _=>rfl)
theorem zasc:SG ZP sg 133 @zayq:=conD (loops:=ztr) good Tryz.func133 zamm (by kernel_rfl) zaln (all_cons zaib zaa) (fun a=>by kernel_rfl)
theorem zand:fnB ZP 230 Tryz.f230 [3]=true:=by kernel_rfl
theorem zal7:CG ZP sg @zagb:=cg0
theorem zaiv:zaf ZP sg 0 Tryz.f230 @zub 3:=zar zz2 good Tryz.func230 zand zal7 zaa (fun a=>by kernel_rfl) (by kernel_rfl) (fun _ _=>rfl)
theorem zasu:SG ZP sg 230 @zab9:=conD (loops:=zub) good Tryz.func230 zand (by kernel_rfl) zal7 (all_cons zaiv zaa) (fun a=>by kernel_rfl)
theorem zam8:fnB ZP 208 Tryz.f208 [9]=true:=by kernel_rfl
theorem zal0:CG ZP sg @zaf4:=(cgc zpk (cgc zasu (cgc z66 (cgc z7a cg0))))
theorem zaio:zaf ZP sg 0 Tryz.f208 @zt4 9:=zar zzv good Tryz.func208 zam8 zal0 zaa (fun a=>by kernel_rfl) (by kernel_rfl) (fun _ _=>rfl)
theorem z6p:SG ZP sg 208 @zay3:=conD (loops:=zt4) good Tryz.func208 zam8 (by kernel_rfl) zal0 (all_cons zaio zaa) (fun a=>by kernel_rfl)
theorem zauv:SG ZP sg 113 @za0u:=conE good Tryz.func113 (by kernel_rfl) (by kernel_rfl) (cgc zkm (cgc zvc (cgc zaur (cgc za3l (cgc zasc (cgc z6p cg0)))))) (fun a=>by kernel_rfl)
theorem z7j:SG ZP sg 114 @zadl:=conE good Tryz.func114 (by kernel_rfl) (by kernel_rfl) (cgc zkm (cgc zvc (cgc zauv (cgc zpk (cgc z7i (cgc z6p cg0)))))) (fun a=>by kernel_rfl)
theorem zau8:SG ZP sg 147 @zadu:=conE good Tryz.func147 (by kernel_rfl) (by kernel_rfl) (cgc zvc (cgc zasa (cgc z7j cg0))) (fun a=>by kernel_rfl)
theorem zamq:fnB ZP 145 Tryz.f145 [2]=true:=by kernel_rfl
theorem zal6:CG ZP sg @zaga:=(cgc z7j (cgc z7i cg0))
theorem zaiu:zaf ZP sg 0 Tryz.f145 @zua 2:=zar zz1 good Tryz.func145 zamq zal6 zaa (fun a=>by kernel_rfl) (by kernel_rfl) (fun _ _=>rfl)
theorem zast:SG ZP sg 145 @zab8:=conD (loops:=zua) good Tryz.func145 zamq (by kernel_rfl) zal6 (all_cons zaiu zaa) (fun a=>by kernel_rfl)
theorem zag0:fnB ZP 56 Tryz.f56 [6,13,15]=true:=by kernel_rfl
theorem zagh:CG ZP sg @zaq2:=(cgc zast (cgc zau8 (cgc zasr cg0)))
theorem zawv:zaf ZP sg 0 Tryz.f56 @zju 6:=zar z89 good Tryz.func56 zag0 zagh zaa (fun a=>by kernel_rfl) (by kernel_rfl) (fun _ _=>rfl)
theorem z0l:zaf ZP sg 0 Tryz.f56 @zju 15:=zar z0e good Tryz.func56 zag0 zagh zaa (fun a=>by kernel_rfl) (by kernel_rfl) (fun _ _=>rfl)
theorem zai5:zaf ZP sg 0 Tryz.f56 @zju 13:=zar z0d good Tryz.func56 zag0 zagh (all_cons z0l zaa) (fun a=>by kernel_rfl) (by kernel_rfl) (fun _ _=>rfl)
theorem za3m:SG ZP sg 56 @za6i:=conD (loops:=zju) good Tryz.func56 zag0 (by kernel_rfl) zagh (all_cons zawv (all_cons zai5 (all_cons z0l zaa))) (fun a=>by kernel_rfl)
theorem zavt:fnB ZP 61 Tryz.f61 [2,7]=true:=by kernel_rfl
theorem zare:CG ZP sg @zaq8:=cg0
theorem z9x:zaf ZP sg 0 Tryz.f61 @zqu 7:=zar z9h good Tryz.func61 zavt zare zaa (fun a=>by kernel_rfl) (by kernel_rfl) (fun _ _=>rfl)
theorem zaw1:zaf ZP sg 0 Tryz.f61 @zqu 2:=zar z9g good Tryz.func61 zavt zare (all_cons z9x zaa) (fun a=>by kernel_rfl) (by kernel_rfl) (fun _ _=>rfl)
theorem za3r:SG ZP sg 61 @zap5:=conD (loops:=zqu) good Tryz.func61 zavt (by kernel_rfl) zare (all_cons zaw1 (all_cons z9x zaa)) (fun a=>by kernel_rfl)
theorem zr9:fnB ZP 16 Tryz.f16 [6,11,16,21,26,31,36]=true:=by kernel_rfl
theorem zrr:CG ZP sg @zaqq:=(cgc za3r cg0)
theorem zawh:zaf ZP sg 0 Tryz.f16 @zel 6:=zar z8s good Tryz.func16 zr9 zrr zaa (fun a=>by kernel_rfl) (by kernel_rfl) (fun _ _=>rfl)
theorem zaix:zaf ZP sg 0 Tryz.f16 @zel 11:=zar zz4 good Tryz.func16 zr9 zrr zaa (fun a=>by kernel_rfl) (by kernel_rfl) (fun _ _=>rfl)
theorem zaiy:zaf ZP sg 0 Tryz.f16 @zel 16:=zar zz5 good Tryz.func16 zr9 zrr zaa (fun a=>by kernel_rfl) (by kernel_rfl) (fun _ _=>rfl)
theorem zaiz:zaf ZP sg 0 Tryz.f16 @zel 21:=zar zz6 good Tryz.func16 zr9 zrr zaa (fun a=>by kernel_rfl) (by kernel_rfl) (fun _ _=>rfl)
theorem zai0:zaf ZP sg 0 Tryz.f16 @zel 26:=zar zz7 good Tryz.func16 zr9 zrr zaa (fun a=>by kernel_rfl) (by kernel_rfl) (fun _ _=>rfl)
theorem zai1:zaf ZP sg 0 Tryz.f16 @zel 31:=zar zz8 good Tryz.func16 zr9 zrr zaa (fun a=>by kernel_rfl) (by kernel_rfl) (fun _ _=>rfl)
theorem zai2:zaf ZP sg 0 Tryz.f16 @zel 36:=zar zz9 good Tryz.func16 zr9 zrr zaa (fun a=>by kernel_rfl) (by kernel_rfl) (fun _ _=>rfl)
theorem za3a:SG ZP sg 16 @za6b:=conD (loops:=zel) good Tryz.func16 zr9 (by kernel_rfl) zrr (all_cons zawh (all_cons zaix (all_cons zaiy (all_cons zaiz (all_cons zai0 (all_cons zai1 (all_cons zai2 zaa))))))) (fun a=>by kernel_rfl)
theorem zas7:SG ZP sg 13 @zazr:=conE good Tryz.func13 (by kernel_rfl) (by kernel_rfl) (cgc zau6 (cgc za3a (cgc zaup (cgc zaut (cgc zauu (cgc zar1 (cgc za3m cg0))))))) (fun a=>by kernel_rfl)
end Go.Proofs.YtdahfgialanmpaaGreatDoor
namespace Go.Proofs.YtdahfgialanmpaaGreatDoor
open Ev
open Go (IntKind)
section
variable {α β σ X:Type}
theorem z2s {step:α→Option (α⊕β)}:∀{n m:Nat} {a:α} {b:β},n≤m→zau step n a=some b→zau step m a=some b:=by
 intro n
 induction n with
 |zero=>intro m a b _ h;cases h
 |succ n ih=>
  intro m a b hm h
  obtain ⟨m,rfl⟩:∃k,m=k+1:=⟨m-1,by omega⟩
  simp only[zau]at h ⊢
  cases h1:step a with
  |none=>rw[h1]at h;cases h
  |some x=>
   rw[h1]at h
   cases x with
   |inl a'=>exact ih (by omega) h
   |inr b'=>exact h
theorem zav {step:α→Option (α⊕β)} {a:α} {b:β} (n:Nat) (hn:n≤FUEL) (h:zau step n a=some b):zab step a=some b:=z2s hn h
theorem zaeb {step:α→Option (α⊕β)} (Inv:α→Prop) (μ:α→Nat) (f:α→β)
 (h:∀a,Inv a→(∃a',step a=some (.inl a')∧Inv a'∧μ a'<μ a∧f a'=f a)∨step a=some (.inr (f a))) {a:α} (ha:Inv a) (hm:μ a<FUEL):zab step a=some (f a):=by
 have key:∀n a,Inv a→μ a<n→zau step n a=some (f a):=by
  intro n
  induction n with
  |zero=>intro a _ h;omega
  |succ n ih=>
   intro a hi hn
   simp only[zau]
   rcases h a hi with ⟨a',h1,h2,h3,h4⟩|h1
   ·rw[h1];simp only;rw[ih a' h2 (by omega),h4]
   ·rw[h1]
 exact key FUEL a ha hm
def zc1 (f:Nat→X→σ→σ⊕β) (fin:σ→β):Nat→List X→σ→β
 |_,[],s=>fin s
 |i,x::l,s=>match f i x s with
  |.inl s'=>zc1 f fin (i+1) l s'
  |.inr b=>b
theorem zbk {step:α→Option (α⊕β)} (Inv:Nat→σ→Prop) (enc:Nat→σ→α) (l:List X) (f:Nat→X→σ→σ⊕β) (fin:σ→β) (hl:l.length<FUEL)
 (h0:∀s,Inv l.length s→step (enc l.length s)=some (.inr (fin s)))
 (h1:∀i x s,l[i]?=some x→Inv i s→(step (enc i s)=some (match f i x s with | .inl s'=>.inl (enc (i+1) s') | .inr b=>.inr b))∧∀s',f i x s=.inl s'→Inv (i+1) s')
 (s:σ) (hs:Inv 0 s):zab step (enc 0 s)=some (zc1 f fin 0 l s):=by
 have key:∀k i s,i+k=l.length→Inv i s→zau step (k+1) (enc i s)=some (zc1 f fin i (l.drop i) s):=by
  intro k
  induction k with
  |zero=>
   intro i s hi hs
   have:i=l.length:=by omega
   subst this
   rw[List.drop_length]
   simp only[zau,h0 s hs,zc1]
  |succ k ih=>
   intro i s hi hs
   have hlt:i<l.length:=by omega
   obtain ⟨e1,e2⟩:=h1 i l[i] s (List.getElem?_eq_getElem hlt) hs
   rw[List.drop_eq_getElem_cons hlt]
   rw[zau,e1]
   simp only[zc1]
   cases hf:f i l[i] s with
   |inl s'=>simp only;exact ih (i+1) s' (by omega) (e2 s' hf)
   |inr b=>rfl
 have:=key l.length 0 s (by omega) hs
 exact zav (l.length+1) (by omega) (by simpa using this)
theorem zct {step:α→Option (α⊕β)} (enc:Nat→σ→α) (l:List X) (f:Nat→X→σ→σ⊕β) (fin:σ→β) (hl:l.length<FUEL)
 (h0:∀s,step (enc l.length s)=some (.inr (fin s)))
 (h1:∀i x s,l[i]?=some x→step (enc i s)=some (match f i x s with | .inl s'=>.inl (enc (i+1) s') | .inr b=>.inr b))
 (s:σ):zab step (enc 0 s)=some (zc1 f fin 0 l s):=
 zbk (fun _ _=>True) enc l f fin hl (fun s _=>h0 s) (fun i x s hx _=>⟨h1 i x s hx,fun _ _=>trivial⟩) s trivial
def fIdx (p:X→Bool) (l:List X):Int:=match l.findIdx? p with|some i=>(i:Int)|none=>-1
def zcd (f:Nat→X→Int):Nat→List X→Int
 |_,[]=>0
 |i,x::l=>if f i x==0 then zcd f (i+1) l else f i x
theorem zaa8 {f:Nat→X→Int} {d:β} {g:Int→β}:∀{l:List X} {i:Nat},zc1 (σ:=Unit) (fun i x _=>if f i x==0 then .inl () else .inr (g (f i x))) (fun _=>d) i l ()=if zcd f i l==0 then d else g (zcd f i l):=by
 intro l
 induction l with
 |nil=>intros;rfl
 |cons x l ih=>
  intro i
  simp only[zc1,zcd]
  by_cases h:(f i x==0)=true
  ·simp only[h,if_true];exact ih
  ·have h2:¬f i x=0:=fun e=>h (by simp[e])
   simp[h2]
theorem z2f {f:Nat→X→Int}:∀{l:List X} {i:Nat},zcd f i l=0↔∀k x,l[k]?=some x→f (i+k) x=0:=by
 intro l
 induction l with
 |nil=>intro i;simp[zcd]
 |cons y l ih=>
  intro i
  simp only[zcd]
  constructor
  ·intro h k x hk
   split at h
   ·rename_i h1
    cases k with
    |zero=>simp at hk;subst hk;simpa using h1
    |succ k=>have:=(ih (i:=i+1)).1 h k x (by simpa using hk);rwa [show i+(k+1)=i+1+k by omega]
   ·rename_i h1;exfalso;apply h1;simp[h]
  ·intro h
   have h0:=h 0 y rfl
   simp only[Nat.add_zero]at h0
   rw[h0]
   simp only[beq_self_eq_true,if_true]
   exact ih.2 (fun k x hk=>by have:=h (k+1) x (by simpa using hk);rwa [show i+(k+1)=i+1+k by omega]at this)
theorem zdg {f:X→σ→σ} {fin:σ→β}:∀{l:List X} {i:Nat} {s:σ},zc1 (fun _ x s=>.inl (f x s)) fin i l s=fin (l.foldl (fun s x=>f x s) s):=by
 intro l
 induction l with
 |nil=>intros;rfl
 |cons x l ih=>intro i s;simp only[zc1,List.foldl_cons];exact ih
end
section
variable {α β σ X:Type} {step:α→Option (α⊕β)}
def ziw (a:α) (g:Int→β) (e:Int):Option (α⊕β):=if e==0 then some (.inl a) else some (.inr (g e))
theorem zea (a:α) (g:Int→β) (b:Bool) (x y:Int):ziw a g (bif b then x else y)=bif b then ziw a g x else ziw a g y:=by cases b<;>rfl
theorem zfe (enc:Nat→α) (l:List X) (f:Nat→X→Int) (d:β) (g:Int→β) (hl:l.length<1000000000) (h0:step (enc l.length)=some (.inr d))
 (h1:∀i x,l[i]?=some x→step (enc i)=ziw (enc (i+1)) g (f i x)):zab step (enc 0)=some (if zcd f 0 l==0 then d else g (zcd f 0 l)):=by
 have h:=zct (step:=step) (fun i (_:Unit)=>enc i) l (fun i x _=>if f i x==0 then .inl () else .inr (g (f i x))) (fun _=>d) (by show l.length<18446744073709551616;omega) (fun _=>h0)
  (fun i x _ hx=>by rw[h1 i x hx];unfold ziw;split<;>rfl) ()
 rw[h,zaa8]
def zfh (p:X→Bool) (g:Nat→X→β) (d:β):Nat→List X→β
 |_,[]=>d
 |i,x::l=>bif p x then g i x else zfh p g d (i+1) l
theorem zbu (enc:Nat→α) (l:List X) (p:X→Bool) (g:Nat→X→β) (d:β) (hl:l.length<1000000000) (h0:step (enc l.length)=some (.inr d))
 (h1:∀i x,l[i]?=some x→step (enc i)=bif p x then some (.inr (g i x)) else some (.inl (enc (i+1)))):zab step (enc 0)=some (zfh p g d 0 l):=by
 have h:=zct (step:=step) (fun i (_:Unit)=>enc i) l (fun i x _=>if p x then .inr (g i x) else .inl ()) (fun _=>d) (by show l.length<18446744073709551616;omega) (fun _=>h0)
  (fun i x _ hx=>by rw[h1 i x hx];cases p x<;>rfl) ()
 rw[h]
 have key:∀(l:List X) (i:Nat),zc1 (σ:=Unit) (fun i x _=>if p x then .inr (g i x) else .inl ()) (fun _=>d) i l ()=zfh p g d i l:=by
  intro l
  induction l with
  |nil=>intro i;rfl
  |cons x l ih=>
   intro i
   simp only[zc1,zfh]
   cases p x with
   |true=>rfl
   |false=>exact ih _
 rw[key]
theorem zid {p:X→Bool} {g:X→β} {d:β}:∀{l:List X} {i:Nat},zfh p (fun _ x=>g x) d i l=(match l.find? p with|some x=>g x|none=>d):=by
 intro l
 induction l with
 |nil=>intros;rfl
 |cons x l ih=>intro i;simp only[zfh,List.find?_cons];cases p x with|true=>rfl|false=>exact ih
theorem z71 {p:X→Bool}:∀{l:List X} {i:Nat},zfh p (fun i _=>(i:Int)) (-1) i l=(match l.findIdx? p with|some k=>((i+k:Nat):Int)|none=>-1):=by
 intro l
 induction l with
 |nil=>intros;rfl
 |cons x l ih=>
  intro i
  simp only[zfh,List.findIdx?_cons]
  cases p x with
  |true=>rfl
  |false=>
   simp only[Bool.false_eq_true,if_false,cond_false]
   rw[ih]
   cases l.findIdx? p with
   |none=>rfl
   |some k=>simp only[Option.map_some];rw[show i+1+k=i+(k+1) by omega]
theorem zd1 {p:X→Bool} {l:List X}:zfh p (fun i _=>(i:Int)) (-1) 0 l=fIdx p l:=by
 rw[z71];unfold fIdx;simp
theorem zcm {γ:Type} {p:X→Bool} {g:Nat→X→β} {d:β} (f:β→γ):∀{l:List X} {i:Nat},f (zfh p g d i l)=zfh p (fun i x=>f (g i x)) (f d) i l:=by
 intro l
 induction l with
 |nil=>intros;rfl
 |cons x l ih=>intro i;simp only[zfh];cases p x with|true=>rfl|false=>exact ih
def zc3 (p:Nat→X→Bool):Nat→List X→Bool
 |_,[]=>true
 |i,x::l=>p i x&&zc3 p (i+1) l
theorem zax (enc:Nat→α) (l:List X) (p:Nat→X→Bool) (b d:β) (hl:l.length<1000000000) (h0:step (enc l.length)=some (.inr d))
 (h1:∀i x,l[i]?=some x→step (enc i)=bif p i x then some (.inl (enc (i+1))) else some (.inr b)):zab step (enc 0)=some (bif zc3 p 0 l then d else b):=by
 have h:=zct (step:=step) (fun i (_:Unit)=>enc i) l (fun i x _=>if p i x then .inl () else .inr b) (fun _=>d) (by show l.length<18446744073709551616;omega) (fun _=>h0)
  (fun i x _ hx=>by rw[h1 i x hx];cases p i x<;>rfl) ()
 rw[h]
 have key:∀(l:List X) (i:Nat),zc1 (σ:=Unit) (fun i x _=>if p i x then .inl () else .inr b) (fun _=>d) i l ()=bif zc3 p i l then d else b:=by
  intro l
  induction l with
  |nil=>intro i;rfl
  |cons x l ih=>
   intro i
   simp only[zc1,zc3]
   cases p i x with
   |true=>exact ih _
   |false=>rfl
 rw[key]
theorem za3 {p:X→Bool}:∀{l:List X} {i:Nat},zc3 (fun _=>p) i l=l.all p:=by
 intro l
 induction l with
 |nil=>intros;rfl
 |cons x l ih=>intro i;simp only[zc3,List.all_cons];rw[ih]
theorem zj3 {p:Nat→X→Bool}:∀{l:List X} {i:Nat},zc3 p i l=true↔∀k x,l[k]?=some x→p (i+k) x=true:=by
 intro l
 induction l with
 |nil=>intro i;simp[zc3]
 |cons y l ih=>
  intro i
  simp only[zc3,Bool.and_eq_true]
  rw[ih]
  constructor
  ·rintro ⟨h0,h⟩ k x hk
   cases k with
   |zero=>simp at hk;subst hk;exact h0
   |succ k=>have:=h k x (by simpa using hk);rwa [show i+(k+1)=i+1+k by omega]
  ·intro h
   exact ⟨h 0 y rfl,fun k x hk=>by have:=h (k+1) x (by simpa using hk);rwa [show i+(k+1)=i+1+k by omega]at this⟩
theorem zxi (enc:Nat→σ→α) (l:List X) (f:X→σ→σ) (fin:σ→β) (hl:l.length<1000000000) (h0:∀s,step (enc l.length s)=some (.inr (fin s)))
 (h1:∀i x s,l[i]?=some x→step (enc i s)=some (.inl (enc (i+1) (f x s)))) (s:σ):zab step (enc 0 s)=some (fin (l.foldl (fun s x=>f x s) s)):=by
 have h:=zct (step:=step) enc l (fun i x s=>.inl (f x s)) fin (by show l.length<18446744073709551616;omega) h0 (fun i x s hx=>by rw[h1 i x s hx]) s
 rw[h,zdg]
end
def zbn {X:Type} (l:List X) (i:Nat) (f:X→Bool):Bool:=match i with
 |0=>false
 |j+1=>match l[j]? with|some y=>f y|none=>false
theorem zds {n:Int} (h1 : -9223372036854775808≤n) (h2:n≤9223372036854775807):wr .i64 n=n:=by
 unfold wr;rw[IntKind.wrap_i64];omega
theorem zam {n:Nat} (h:n<9223372036854775807):wr .i64 ((n:Int)+1)=((n+1:Nat):Int):=by
 rw[zds (by omega) (by omega)];rfl
theorem zhd {j:Nat} (h:j<1000000000):wr .i64 (((j+1:Nat):Int)-1)=(j:Int):=by
 rw[show ((j+1:Nat):Int)-1=(j:Int) by omega]
 exact zds (by omega) (by omega)
theorem dpos {j:Nat}:decide ((0:Int)<((j+1:Nat):Int))=true:=by rw[decide_eq_true_eq];omega
theorem z7t:decide ((0:Int)<((0:Nat):Int))=false:=rfl
theorem zai {α:Type} (l:List α) (i:Nat):getI l (i:Int)=l[i]?:=by
 unfold getI;simp
theorem z4s:LIM=1073741824:=rfl
theorem zaz:FUEL=18446744073709551616:=rfl
end Go.Proofs.YtdahfgialanmpaaGreatDoor
namespace Go.Proofs.YtdahfgialanmpaaGreatDoor
open Ev
open Go (IntKind)
theorem dlt {i n:Nat} (h:i<n):decide ((i:Int)<(n:Int))=true:=by simpa using h
theorem dge {n:Nat}:decide ((n:Int)<(n:Int))=false:=by simp
theorem k_or {α:Type} (k:Bool→α) (a b:Bool):(bif a then k true else k b)=k (a||b):=by cases a<;>rfl
theorem zbc {α:Type} (k:Bool→α) (a b:Bool):(bif a then k b else k false)=k (a&&b):=by cases a<;>rfl
theorem zig {α:Type} (k:Bool→α) (a b:Bool):(bif a then k a else k b)=k (a||b):=by cases a<;>rfl
theorem zc4 {α:Type} (c:Bool) (a b:α):(bif c then some a else some b)=some (bif c then a else b):=by cases c<;>rfl
theorem za1e (b:UInt8):wr .i64 (b.toNat:Int)=(b.toNat:Int):=by
 have:=b.toNat_lt
 exact zds (by omega) (by omega)
def dcdI (r:List UInt8):Int×Int:=(((dcd r).1:Int),((dcd r).2:Int))
theorem zaap {s:List UInt8} {i:Nat} (hi:i<s.length) (hs:s.length<1000000000):qbg s (i:Int)=some (dcdI (s.drop i)):=by
 obtain ⟨a,r,hr⟩:∃a r,s.drop i=a::r:=⟨s[i],s.drop (i+1),List.drop_eq_getElem_cons hi⟩
 have g:∀k,getI s ((i+k:Nat):Int)=(a::r)[k]?:=fun k=>by rw[zai,←hr,List.getElem?_drop]
 have h0:getI s (i:Int)=some a:=g 0
 have w1:wr .i64 ((i:Int)+1)=((i+1:Nat):Int):=zam (by omega)
 have w2:wr .i64 ((i:Int)+2)=((i+2:Nat):Int):=by rw[zds (by omega) (by omega)];rfl
 have hl:s.length=i+(r.length+1):=by
  have:=congrArg List.length hr
  simp only[List.length_drop,List.length_cons]at this
  omega
 have ha:=a.toNat_lt
 unfold qbg
 rw[hr]
 unfold dcdI dcd
 have t1:decide (((i+1:Nat):Int)<((i+(r.length+1):Nat):Int))=decide (0<r.length):=by congr 1;simp only[eq_iff_iff];omega
 have t2:decide (((i+2:Nat):Int)<((i+(r.length+1):Nat):Int))=decide (1<r.length):=by congr 1;simp only[eq_iff_iff];omega
 simp -zeta only[h0,w1,w2,g 1,g 2,za1e,k_or,zbc,hl,t1,t2]
 dsimp only
 clear hl t1 t2 g hr hi h0 w1 w2 hs
 by_cases c1:32≤a.toNat∧a.toNat<127
 ·have e1:(decide ((32:Int)≤(a.toNat:Int))&&decide ((a.toNat:Int)<127))=true:=by simp;omega
  simp only[e1,cond_true,if_pos c1];rfl
 have e1:(decide ((32:Int)≤(a.toNat:Int))&&decide ((a.toNat:Int)<127))=false:=by simp;omega
 simp only[e1,cond_false,if_neg c1]
 by_cases c2:194≤a.toNat∧a.toNat<224
 ·have e2:(decide ((194:Int)≤(a.toNat:Int))&&decide ((a.toNat:Int)<224))=true:=by simp;omega
  have e3:decide ((224:Int)≤(a.toNat:Int))=false:=by simp;omega
  simp only[e2,e3,Bool.true_and,Bool.false_and,cond_false,if_pos c2]
  rcases r with _|⟨b,r⟩
  ·rfl
  have hb:=b.toNat_lt
  have l1:decide (0<(b::r).length)=true:=by simp
  have g1:(a::b::r)[1]?=some b:=rfl
  have e4:wr .i64 ((wr .i64 ((wr .i64 ((wr .i64 ((a.toNat:Int)-192))*64))+(b.toNat:Int)))-128)=((a.toNat:Int)-192)*64+(b.toNat:Int)-128:=by
   rw[zds (n:=(a.toNat:Int)-192) (by omega) (by omega),zds (n:=((a.toNat:Int)-192)*64) (by omega) (by omega),zds (n:=((a.toNat:Int)-192)*64+(b.toNat:Int)) (by omega) (by omega),zds (by omega) (by omega)]
  simp only[l1,g1,e4,cond_true]
  by_cases cb:128≤b.toNat
  ·have b1:decide ((128:Int)≤(b.toNat:Int))=true:=by simp;omega
   simp only[b1,cond_true]
   by_cases cb2:b.toNat<192
   ·have b2:decide ((b.toNat:Int)<192)=true:=by simp;omega
    simp only[b2,g1,cond_true,Bool.cond_eq_ite,decide_eq_true_eq]
    rw[if_pos True.intro]
    split
    ·rw[if_pos (by omega)];simp only[Option.some.injEq,Prod.mk.injEq];omega
    ·rw[if_neg (by omega)];rfl
   ·have b2:decide ((b.toNat:Int)<192)=false:=by simp;omega
    simp only[b2,cond_false]
    rw[if_neg (by omega)];rfl
  ·have b1:decide ((128:Int)≤(b.toNat:Int))=false:=by simp;omega
   simp only[b1,cond_false]
   rw[if_neg (by omega)];rfl
 have e2:(decide ((194:Int)≤(a.toNat:Int))&&decide ((a.toNat:Int)<224))=false:=by simp;omega
 simp only[e2,Bool.false_and,cond_false,if_neg c2]
 by_cases c3:224≤a.toNat∧a.toNat<240
 ·have e3:(decide ((224:Int)≤(a.toNat:Int))&&decide ((a.toNat:Int)<240))=true:=by simp;omega
  simp only[e3,Bool.true_and,if_pos c3]
  rcases r with _|⟨b,_|⟨c,r⟩⟩
  ·rfl
  ·rfl
  have hb:=b.toNat_lt
  have hc:=c.toNat_lt
  have l1:decide (1<(b::c::r).length)=true:=by simp
  have g1:(a::b::c::r)[1]?=some b:=rfl
  have g2:(a::b::c::r)[2]?=some c:=rfl
  have e4:wr .i64 ((wr .i64 ((wr .i64 ((wr .i64 ((wr .i64 ((a.toNat:Int)-224))*4096))+(wr .i64 ((wr .i64 ((b.toNat:Int)-128))*64))))+(c.toNat:Int)))-128)=((a.toNat:Int)-224)*4096+((b.toNat:Int)-128)*64+(c.toNat:Int)-128:=by
   rw[zds (n:=(a.toNat:Int)-224) (by omega) (by omega),zds (n:=((a.toNat:Int)-224)*4096) (by omega) (by omega),zds (n:=(b.toNat:Int)-128) (by omega) (by omega),zds (n:=((b.toNat:Int)-128)*64) (by omega) (by omega),
    zds (n:=((a.toNat:Int)-224)*4096+((b.toNat:Int)-128)*64) (by omega) (by omega),zds (n:=((a.toNat:Int)-224)*4096+((b.toNat:Int)-128)*64+(c.toNat:Int)) (by omega) (by omega),zds (by omega) (by omega)]
  simp only[l1,g1,g2,e4,cond_true]
  by_cases cb:128≤b.toNat
  ·have b1:decide ((128:Int)≤(b.toNat:Int))=true:=by simp;omega
   simp only[b1,cond_true]
   by_cases cb2:b.toNat<192
   ·have b2:decide ((b.toNat:Int)<192)=true:=by simp;omega
    simp only[b2,cond_true]
    by_cases cc:128≤c.toNat
    ·have d1:decide ((128:Int)≤(c.toNat:Int))=true:=by simp;omega
     simp only[d1,cond_true]
     by_cases cc2:c.toNat<192
     ·have d2:decide ((c.toNat:Int)<192)=true:=by simp;omega
      simp only[d2,g1,g2,cond_true,Bool.cond_eq_ite,Bool.and_eq_true,Bool.or_eq_true,decide_eq_true_eq]
      rw[if_pos True.intro]
      split
      ·rw[if_pos (by omega)];simp only[Option.some.injEq,Prod.mk.injEq];omega
      ·rw[if_neg (by omega)];rfl
     ·have d2:decide ((c.toNat:Int)<192)=false:=by simp;omega
      simp only[d2,cond_false]
      rw[if_neg (by omega)];rfl
    ·have d1:decide ((128:Int)≤(c.toNat:Int))=false:=by simp;omega
     simp only[d1,cond_false]
     rw[if_neg (by omega)];rfl
   ·have b2:decide ((b.toNat:Int)<192)=false:=by simp;omega
    simp only[b2,cond_false]
    rw[if_neg (by omega)];rfl
  ·have b1:decide ((128:Int)≤(b.toNat:Int))=false:=by simp;omega
   simp only[b1,cond_false]
   rw[if_neg (by omega)];rfl
 ·have e3:(decide ((224:Int)≤(a.toNat:Int))&&decide ((a.toNat:Int)<240))=false:=by simp;omega
  simp only[e3,Bool.false_and,cond_false,if_neg c3];rfl
theorem zame (l:List UInt8):(dcd l).2≤l.length:=by
 unfold dcd
 split
 ·simp
 ·rename_i a r
  split
  ·simp
  ·split
   ·split
    ·split<;>simp
    ·simp
   ·split
    ·split
     ·split<;>simp
     ·simp
    ·simp
theorem zad8 (n:Nat) {s:List UInt8} {i:Nat} (hi:i<s.length):vldN (n+1) (s.drop i)=if (dcd (s.drop i)).2=0 then false else vldN n (s.drop (i+(dcd (s.drop i)).2)):=by
 have:s.drop i≠[]:=by simp;omega
 simp only[vldN,this,if_false,List.drop_drop]
theorem zan9 {s:List UInt8} (hs:s.length<1000000000):qan s=some (vld s):=by
 have key:∀n i,s.length-i≤n→i≤s.length→zau zoj (n+1) (s,(i:Int),())=some (if vldN n (s.drop i) then .inl () else .inr (false,())):=by
  intro n
  induction n with
  |zero=>
   intro i h1 h2
   have:i=s.length:=by omega
   subst this
   simp only[zau,zoj,dge,cond_false,vldN,if_true]
  |succ n ih=>
   intro i h1 h2
   rw[zau]
   by_cases hi:i<s.length
   ·rw[zad8 n hi]
    have hle:=zame (s.drop i)
    rw[List.length_drop]at hle
    simp only[zoj,dlt hi,cond_true,zaap hi hs,dcdI]
    by_cases h0:(dcd (s.drop i)).2=0
    ·simp[h0]
    ·have hb:(((dcd (s.drop i)).2:Int)==0)=false:=by simp;omega
     have hw:wr .i64 ((i:Int)+((dcd (s.drop i)).2:Int))=((i+(dcd (s.drop i)).2:Nat):Int):=by rw[zds (by omega) (by omega)];rfl
     simp only[hb,cond_false,hw,h0,if_false]
     exact ih _ (by omega) (by omega)
   ·have:i=s.length:=by omega
    subst this
    simp[zoj,vldN]
 unfold qan
 have:=key s.length 0 (by omega) (by omega)
 rw[show ((0:Int))=((0:Nat):Int) from rfl,zav (s.length+1) (by rw[zaz];omega) this]
 simp only[List.drop_zero]
 unfold vld
 cases vldN s.length s<;>rfl
theorem za64 {s:List UInt8} {i:Nat} (hi:i<s.length) (hs:s.length<1000000000):qf s (i:Int)=some ((wid (s.drop i):Nat):Int):=by
 unfold qf wid
 rw[zaap hi hs]
 show some (if (((dcd (s.drop i)).2:Nat):Int)<1 then (1:Int) else (((dcd (s.drop i)).2:Nat):Int))=_
 rw[Option.some.injEq]
 by_cases h:(dcd (s.drop i)).2<1
 ·rw[if_pos h,if_pos (by omega)];rfl
 ·rw[if_neg h,if_neg (by omega)]
theorem za6q {l:List UInt8} (h:l≠[]):1≤wid l∧wid l≤l.length:=by
 have:=zame l
 have:0<l.length:=List.length_pos_iff.2 h
 unfold wid
 split<;>omega
theorem z57 (n:Nat) {s:List UInt8} {i:Nat} (hi:i<s.length) {out:List UInt8} {gap:Bool}:clnN (n+1) (s.drop i) out gap =
 if blk (dcd (s.drop i)).1 then clnN n (s.drop (i+wid (s.drop i))) out true else clnN n (s.drop (i+wid (s.drop i))) ((if gap&&!(out==[]) then out++[32] else out)++(s.drop i).take (wid (s.drop i))) false:=by
 have:s.drop i≠[]:=by simp;omega
 rw[clnN,if_neg this,List.drop_drop]
theorem za4r {s:List UInt8} (hs:s.length<100000000):qa8 s=some (cln s):=by
 have key:∀n i (out:List UInt8) (gap:Bool),s.length-i≤n→i≤s.length→out.length≤2*i→zau zoh (n+1) (s,out,gap,(i:Int),())=some (clnN n (s.drop i) out gap,()):=by
  intro n
  induction n with
  |zero=>
   intro i out gap h1 h2 h3
   have:i=s.length:=by omega
   subst this
   simp only[zau,zoh,dge,cond_false,clnN]
  |succ n ih=>
   intro i out gap h1 h2 h3
   rw[zau]
   by_cases hi:i<s.length
   ·rw[z57 n hi]
    have hw0:=za6q (l:=s.drop i) (by simp;omega)
    rw[List.length_drop]at hw0
    obtain ⟨k,hk⟩:∃k,wid (s.drop i)=k:=⟨_,rfl⟩
    rw[hk]at hw0 ⊢
    have hw:wr .i64 ((i:Int)+(k:Int))=((i+k:Nat):Int):=by rw[zds (by omega) (by omega)];rfl
    have hb:qal ((dcd (s.drop i)).1:Int)=some (blk (dcd (s.drop i)).1):=by
     unfold qal
     simp -zeta only[k_or]
     simp only[Option.some.injEq,blk]
     rw[Bool.eq_iff_iff];simp;omega
    simp only[zoh,dlt hi,cond_true,zaap hi (show s.length<1000000000 by omega),za64 hi (show s.length<1000000000 by omega),dcdI,hb,hk,hw]
    cases blk (dcd (s.drop i)).1 with
    |true=>simp only[cond_true,if_true];exact ih _ _ _ (by omega) (by omega) (by omega)
    |false=>
     have hc:(decide ((0:Int)≤(i:Int))&&(decide ((i:Int)≤((i+k:Nat):Int))&&decide (((i+k:Nat):Int)≤(s.length:Int))))=true:=by simp;omega
     have ht:(s.take (i+k)).drop i=(s.drop i).take k:=by rw[List.drop_take];congr 1;omega
     simp only[cond_false,hc,cond_true,Int.toNat_natCast,ht,Bool.false_eq_true,if_false]
     have hlen:∀o:List UInt8,o.length≤2*i+1→decide (o.length+((s.drop i).take k).length≤LIM)=true:=fun o ho=>by
      rw[z4s];simp only[List.length_take,List.length_drop,decide_eq_true_eq];omega
     cases hg:(gap&&!(out==[])) with
     |true=>
      simp only[Bool.and_eq_true,Bool.not_eq_true']at hg
      have h32:decide (out.length+([32]:List Nat).length≤LIM)=true:=by rw[z4s];simp;omega
      simp only[hg.1,hg.2,hc,ht,Int.toNat_natCast,cond_true,Bool.not_false,h32,hlen (out++[32]) (by simp;omega),if_true]
      exact ih _ _ _ (by omega) (by omega) (by simp;omega)
     |false=>
      cases gap with
      |false=>
       simp only[cond_false,hlen out (by omega),cond_true,Bool.false_eq_true,if_false]
       exact ih _ _ _ (by omega) (by omega) (by simp;omega)
      |true=>
       simp only[Bool.true_and]at hg
       simp only[cond_true,hg,cond_false,hlen out (by omega),Bool.false_eq_true,if_false]
       exact ih _ _ _ (by omega) (by omega) (by simp;omega)
   ·have:i=s.length:=by omega
    subst this
    simp[zoh,clnN]
 unfold qa8
 have:=key s.length 0 [] false (by omega) (by omega) (by simp)
 rw[show ((0:Int))=((0:Nat):Int) from rfl,zav (s.length+1) (by rw[zaz];omega) this]
 try rfl
end Go.Proofs.YtdahfgialanmpaaGreatDoor
namespace Go.Proofs.YtdahfgialanmpaaGreatDoor
open Ev
open Go (IntKind)
def rng (lo hi n:Int):Bool:=decide (lo≤n)&&decide (n≤hi)
theorem zao2 (n:Int):qfr n=some (rng 0 109572 n):=by
 unfold qfr
 simp -zeta only[k_or,zbc]
 try rfl
theorem zaoz (n:Int):qdx n=some (rng 0 109572 n):=by
 unfold qdx
 simp -zeta only[k_or,zbc]
 try rfl
theorem zaox (n:Int):qdd n=some (rng 1 9999 n):=by
 unfold qdd
 simp -zeta only[k_or,zbc]
 try rfl
theorem za49 (n lo hi:Int):qbo n lo hi=some (rng lo hi n):=by
 unfold qbo
 simp -zeta only[k_or,zbc]
 try rfl
def zd7 (l:List Charge) (i:Nat) (x:Charge):Int:=
 bif zbn l i (fun y=>decide (x.ID≤y.ID)) then 7
 else bif decide (x.ID<1)||decide (99999<x.ID)||decide (x.Patron<1)||decide (9999<x.Patron)||decide (x.Item<1)||decide (9999<x.Item)||!(rng 0 109572 x.Day) then 2
 else bif decide (x.Kind<1)||decide (3<x.Kind) then 1
 else bif decide (x.Amount<1)||decide (100000000<x.Amount)||decide (x.Paid<0)||decide (x.Amount≤x.Paid) then 2 else 0
def zdb (l:List Charge):Int:=bif decide (128<(l.length:Int)) then 13 else zcd (zd7 l) 0 l
theorem z3p {l:List Charge} (hl:l.length<1000000000):zab zlv (l,0,())=some (if zcd (zd7 l) 0 l==0 then .inl () else .inr (zcd (zd7 l) 0 l,())):=by
 have h:=zfe (step:=zlv) (fun i=>(l,(i:Int),())) l (zd7 l) (.inl ()) (fun e=>.inr (e,())) hl
  (by simp only[zlv,dge,cond_false])
  (fun i x hx=>by
   have hi:=(List.getElem?_eq_some_iff.1 hx).1
   have hxm:=List.mem_of_getElem? hx
   unfold zd7
   simp only[zea]
   rcases i with _|j
   ·simp -zeta only[zlv,dlt hi,zai,hx,k_or,zbc,z7t,cond_false,cond_true,zbn,zam (show 0<9223372036854775807 by omega),zao2]
    try rfl
   ·have hj:l[j]?=some l[j]:=List.getElem?_eq_getElem (by omega)
    simp -zeta only[zlv,dlt hi,zai,hx,k_or,zbc,dpos,zhd (show j<1000000000 by omega),hj,cond_false,cond_true,zbn,zam (show j+1<9223372036854775807 by omega),zao2]
    rfl)
 exact h
theorem za4q {l:List Charge} (hl:l.length<1000000000):qa7 l=some (zdb l):=by
 unfold qa7 zdb
 rw[z3p hl]
 generalize zcd (zd7 l) 0 l=e
 cases decide (128<(l.length:Int)) with
 |true=>rfl
 |false=>
  by_cases h:e=0
  ·subst h;rfl
  ·have h2:(e==0)=false:=by simpa using h
   simp only[h2,Bool.false_eq_true,if_false,cond_false]
def ze8 (l:List Patron) (i:Nat) (x:Patron):Int:=
 bif decide (x.ID<1)||decide (9999<x.ID) then 2
 else bif zbn l i (fun y=>decide (x.ID≤y.ID)) then 7
 else bif decide (x.Kind<1)||decide (9<x.Kind)||decide (x.Branch<1)||decide (4<x.Branch) then 1
 else bif decide (x.Until<0)||decide (109572<x.Until) then 2
 else bif x.Name==[]||!(vld x.Name)||!(cln x.Name==x.Name) then 3
 else bif decide (200<(x.Name.length:Int)) then 4 else 0
def ze9 (l:List Patron):Int:=bif decide (32<(l.length:Int)) then 13 else zcd (ze8 l) 0 l
theorem z3x {l:List Patron} (hl:l.length<1000000000) (hn:∀x∈l,x.Name.length<10000000):zab zl1 (l,0,())=some (if zcd (ze8 l) 0 l==0 then .inl () else .inr (zcd (ze8 l) 0 l,())):=by
 have h:=zfe (step:=zl1) (fun i=>(l,(i:Int),())) l (ze8 l) (.inl ()) (fun e=>.inr (e,())) hl
  (by simp only[zl1,dge,cond_false])
  (fun i x hx=>by
   have hi:=(List.getElem?_eq_some_iff.1 hx).1
   have hxm:=List.mem_of_getElem? hx
   have hv:=zan9 (s:=x.Name) (by have:=hn x hxm;omega)
   have hc:=za4r (s:=x.Name) (by have:=hn x hxm;omega)
   unfold ze8
   simp only[zea]
   rcases i with _|j
   ·simp -zeta only[zl1,dlt hi,zai,hx,k_or,zbc,z7t,cond_false,cond_true,zbn,zam (show 0<9223372036854775807 by omega),hv,hc]
    try rfl
   ·have hj:l[j]?=some l[j]:=List.getElem?_eq_getElem (by omega)
    simp -zeta only[zl1,dlt hi,zai,hx,k_or,zbc,dpos,zhd (show j<1000000000 by omega),hj,cond_false,cond_true,zbn,zam (show j+1<9223372036854775807 by omega),hv,hc]
    rfl)
 exact h
theorem za42 {l:List Patron} (hl:l.length<1000000000) (hn:∀x∈l,x.Name.length<10000000):qax l=some (ze9 l):=by
 unfold qax ze9
 rw[z3x hl hn]
 generalize zcd (ze8 l) 0 l=e
 cases decide (32<(l.length:Int)) with
 |true=>rfl
 |false=>
  by_cases h:e=0
  ·subst h;rfl
  ·have h2:(e==0)=false:=by simpa using h
   simp only[h2,Bool.false_eq_true,if_false,cond_false]
def zii (l:List Loan) (i:Nat) (x:Loan):Int:=
 bif zbn l i (fun y=>decide (x.Item≤y.Item)) then 7
 else bif decide (x.Item<1)||decide (9999<x.Item)||decide (x.Patron<1)||decide (9999<x.Patron)||decide (x.Out<0)||decide (109572<x.Out)||decide (x.Due<0)||decide (109572<x.Due)||decide (x.Due<x.Out)||decide (x.Renewals<0)||decide (10<x.Renewals) then 2 else 0
def zhv (l:List Loan):Int:=bif decide (64<(l.length:Int)) then 13 else zcd (zii l) 0 l
theorem z3w {l:List Loan} (hl:l.length<1000000000):zab zl0 (l,0,())=some (if zcd (zii l) 0 l==0 then .inl () else .inr (zcd (zii l) 0 l,())):=by
 have h:=zfe (step:=zl0) (fun i=>(l,(i:Int),())) l (zii l) (.inl ()) (fun e=>.inr (e,())) hl
  (by simp only[zl0,dge,cond_false])
  (fun i x hx=>by
   have hi:=(List.getElem?_eq_some_iff.1 hx).1
   have hxm:=List.mem_of_getElem? hx
   unfold zii
   simp only[zea]
   rcases i with _|j
   ·simp -zeta only[zl0,dlt hi,zai,hx,k_or,zbc,z7t,cond_false,cond_true,zbn,zam (show 0<9223372036854775807 by omega)]
    try rfl
   ·have hj:l[j]?=some l[j]:=List.getElem?_eq_getElem (by omega)
    simp -zeta only[zl0,dlt hi,zai,hx,k_or,zbc,dpos,zhd (show j<1000000000 by omega),hj,cond_false,cond_true,zbn,zam (show j+1<9223372036854775807 by omega)]
    rfl)
 exact h
theorem za41 {l:List Loan} (hl:l.length<1000000000):qaw l=some (zhv l):=by
 unfold qaw zhv
 rw[z3w hl]
 generalize zcd (zii l) 0 l=e
 cases decide (64<(l.length:Int)) with
 |true=>rfl
 |false=>
  by_cases h:e=0
  ·subst h;rfl
  ·have h2:(e==0)=false:=by simpa using h
   simp only[h2,Bool.false_eq_true,if_false,cond_false]
def zb0 (h:Hold):Int:=
 bif decide (h.ID<1)||decide (99999<h.ID)||!(rng 1 9999 h.Patron)||!(rng 1 9999 h.Record)||!(h.Item==0)&&!(rng 1 9999 h.Item)||decide (h.Pickup<1)||decide (4<h.Pickup)||!(rng 0 109572 h.Placed)||!(h.Got==0)&&!(rng 1 9999 h.Got)||!(rng 0 109572 h.Until)||!(rng 0 109572 h.Asleep)||decide (h.Rank<0)||decide (9<h.Rank) then 2
 else bif decide (h.State<1)||decide (3<h.State) then 1
 else bif !((decide (0<h.Got))==(!(h.State==1)))||!((decide (0<h.Until))==(h.State==3)) then 12 else 0
theorem zaov (h:Hold):qd8 h=some (zb0 h):=by
 unfold qd8 zb0
 simp -zeta only[k_or,zbc,zaox,zaoz,←zc4]
 try rfl
def zdc (l:List Hold) (i:Nat) (x:Hold):Int:=
 bif zbn l i (fun y=>decide (x.ID≤y.ID)) then 7 else bif !(zb0 x==0) then zb0 x else 0
theorem zaaw {l:List Hold} (hl:l.length<1000000000):zab zwu (l,0,())=some (if zcd (zdc l) 0 l==0 then .inl (l,()) else .inr (zcd (zdc l) 0 l,())):=by
 have h:=zfe (step:=zwu) (fun i=>(l,(i:Int),())) l (zdc l) (.inl (l,())) (fun e=>.inr (e,())) hl
  (by simp only[zwu,dge,cond_false])
  (fun i x hx=>by
   have hi:=(List.getElem?_eq_some_iff.1 hx).1
   have hxm:=List.mem_of_getElem? hx
   have hs:∀(a:List Hold×Int×Unit) (g:Int→((List Hold×Unit)⊕(Int×Unit))),(bif !(zb0 x==0) then ziw a g (zb0 x) else ziw a g 0)=bif !(zb0 x==0) then some (.inr (g (zb0 x))) else some (.inl a):=fun a g=>by
    unfold ziw
    cases zb0 x==0<;>rfl
   unfold zdc
   simp only[zea,hs]
   rcases i with _|j
   ·simp -zeta only[zwu,dlt hi,zai,hx,k_or,zbc,z7t,cond_false,cond_true,zbn,zam (show 0<9223372036854775807 by omega),zaov]
    try rfl
   ·have hj:l[j]?=some l[j]:=List.getElem?_eq_getElem (by omega)
    simp -zeta only[zwu,dlt hi,zai,hx,k_or,zbc,dpos,zhd (show j<1000000000 by omega),hj,cond_false,cond_true,zbn,zam (show j+1<9223372036854775807 by omega),zaov]
    rfl)
 exact h
def ze5 (x y:Hold):Bool:=x.Patron==y.Patron&&x.Record==y.Record||decide (0<x.Got)&&x.Got==y.Got
theorem z34 {l:List Hold} {i:Nat} {x:Hold} (hl:l.length<1000000000) (hx:l[i]?=some x):zab zmc (l,(i:Int),0,())=some (bif (l.take i).all (fun y=>!(ze5 x y)) then .inl (l,(i:Int),()) else .inr (7,())):=by
 have hi:=(List.getElem?_eq_some_iff.1 hx).1
 have h:=zax (step:=zmc) (fun k=>(l,(i:Int),(k:Int),())) (l.take i) (fun _ y=>!(ze5 x y)) (.inr (7,())) (.inl (l,(i:Int),())) (by rw[List.length_take];omega)
  (by rw[List.length_take,Nat.min_eq_left (by omega)];simp only[zmc,dge,cond_false])
  (fun k y hy=>by
   have hk:=(List.getElem?_eq_some_iff.1 hy).1
   rw[List.length_take]at hk
   have hy2:l[k]?=some y:=by rw[←hy,List.getElem?_take_of_lt (by omega)]
   simp -zeta only[zmc,dlt (show k<i by omega),zai,hx,hy2,k_or,zbc,cond_true,zam (show k<9223372036854775807 by omega)]
   dsimp only
   unfold ze5
   cases (x.Patron==y.Patron&&x.Record==y.Record||decide (0<x.Got)&&x.Got==y.Got)<;>rfl)
 rw[show zab zmc (l,(i:Int),0,())=_ from h,za3]
def zif (l:List Hold):Bool:=zc3 (fun i x=>(l.take i).all (fun y=>!(ze5 x y))) 0 l
theorem z33 {l:List Hold} (hl:l.length<1000000000):zab zox (l,0,())=some (bif zif l then .inl () else .inr (7,())):=by
 have h:=zax (step:=zox) (fun i=>(l,(i:Int),())) l (fun i x=>(l.take i).all (fun y=>!(ze5 x y))) (.inr (7,())) (.inl ()) hl
  (by simp only[zox,dge,cond_false])
  (fun i x hx=>by
   have hi:=(List.getElem?_eq_some_iff.1 hx).1
   simp only[zox,dlt hi,cond_true,z34 hl hx]
   cases (l.take i).all (fun y=>!(ze5 x y)) with
   |true=>simp only[cond_true,zam (show i<9223372036854775807 by omega)]
   |false=>rfl)
 exact h
def zdx (l:List Hold):Int:=bif decide (64<(l.length:Int)) then 13 else bif zcd (zdc l) 0 l==0 then (bif zif l then 0 else 7) else zcd (zdc l) 0 l
theorem za67 {l:List Hold} (hl:l.length<1000000000):qm l=some (zdx l):=by
 unfold qm zdx
 rw[zaaw hl]
 cases decide (64<(l.length:Int)) with
 |true=>rfl
 |false=>
  by_cases h:zcd (zdc l) 0 l=0
  ·simp only[h,beq_self_eq_true,if_true,cond_false,cond_true,z33 hl]
   cases zif l<;>rfl
  ·have:(zcd (zdc l) 0 l==0)=false:=by simpa using h
   simp only[this,Bool.false_eq_true,if_false,cond_false]
def zo1 (r:Rule):Bool:=rng 0 9 r.Patron&&rng 0 9 r.Item&&rng 0 4 r.Branch&&(rng 0 365 r.Days&&rng 0 10 r.Renewals&&rng 0 99 r.Loans)&&(rng 0 1000 r.Fine&&rng 0 30 r.Grace&&rng 0 100000000 r.MaxFine)&&rng 1 60 r.Shelf&&rng 1 60 r.Recall&&rng 0 109572 r.Fixed&&rng 0 9 r.Rank
theorem za5b (r:Rule):qc9 r=some (zo1 r):=by
 unfold qc9 zo1
 simp -zeta only[k_or,zbc,za49]
 try rfl
def zh1 (x y:Rule):Bool:=x.Patron==y.Patron&&x.Item==y.Item&&x.Branch==y.Branch
def zha (l:List Rule) (i:Nat) (x:Rule):Int:=bif !(zo1 x) then 2 else bif (l.take i).all (fun y=>!(zh1 y x)) then 0 else 7
theorem zaav {l:List Rule} {i:Nat} {x:Rule} (hl:l.length<1000000000) (hx:l[i]?=some x):zab zwt (l,(i:Int),0,())=some (bif (l.take i).all (fun y=>!(zh1 y x)) then .inl (l,(i:Int),()) else .inr (7,())):=by
 have hi:=(List.getElem?_eq_some_iff.1 hx).1
 have h:=zax (step:=zwt) (fun k=>(l,(i:Int),(k:Int),())) (l.take i) (fun _ y=>!(zh1 y x)) (.inr (7,())) (.inl (l,(i:Int),())) (by rw[List.length_take];omega)
  (by rw[List.length_take,Nat.min_eq_left (by omega)];simp only[zwt,dge,cond_false])
  (fun k y hy=>by
   have hk:=(List.getElem?_eq_some_iff.1 hy).1
   rw[List.length_take]at hk
   have hy2:l[k]?=some y:=by rw[←hy,List.getElem?_take_of_lt (by omega)]
   simp -zeta only[zwt,dlt (show k<i by omega),zai,hx,hy2,k_or,zbc,cond_true,zam (show k<9223372036854775807 by omega)]
   dsimp only
   unfold zh1
   cases (y.Patron==x.Patron&&y.Item==x.Item&&y.Branch==x.Branch)<;>rfl)
 rw[show zab zwt (l,(i:Int),0,())=_ from h,za3]
theorem zaau {l:List Rule} (hl:l.length<1000000000):zab z32 (l,0,())=some (if zcd (zha l) 0 l==0 then .inl () else .inr (zcd (zha l) 0 l,())):=by
 have h:=zfe (step:=z32) (fun i=>(l,(i:Int),())) l (zha l) (.inl ()) (fun e=>.inr (e,())) hl
  (by simp only[z32,dge,cond_false])
  (fun i x hx=>by
   have hi:=(List.getElem?_eq_some_iff.1 hx).1
   unfold zha
   simp only[zea,z32,dlt hi,zai,hx,cond_true,za5b,zaav hl hx]
   cases zo1 x with
   |false=>rfl
   |true=>
    simp only[Bool.not_true,cond_false]
    cases (l.take i).all (fun y=>!(zh1 y x)) with
    |true=>simp only[cond_true,zam (show i<9223372036854775807 by omega)];rfl
    |false=>rfl)
 exact h
def zgk (l:List Rule):Int:=bif decide (32<(l.length:Int)) then 13 else zcd (zha l) 0 l
theorem za66 {l:List Rule} (hl:l.length<1000000000):qk l=some (zgk l):=by
 unfold qk zgk
 rw[zaau hl]
 generalize zcd (zha l) 0 l=e
 cases decide (32<(l.length:Int)) with
 |true=>rfl
 |false=>
  by_cases h:e=0
  ·subst h;rfl
  ·have h2:(e==0)=false:=by simpa using h
   simp only[h2,Bool.false_eq_true,if_false,cond_false]
def incr (l:List Int):Bool:=zc3 (fun i x=>!(zbn l i (fun y=>decide (x≤y)))) 0 l
theorem zu6 {X:Type} {p:Nat→X→Bool}:∀{l:List X} {i:Nat},zc3 p (i+1) l=zc3 (fun i=>p (i+1)) i l:=by
 intro l
 induction l with
 |nil=>intros;rfl
 |cons x l ih=>intro i;simp only[zc3];rw[ih]
theorem z8g (l:List Int):incr l=zc3 (fun i x=>!(zbn l (i+1) (fun y=>decide (x≤y)))) 0 l.tail:=by
 cases l with
 |nil=>rfl
 |cons x l=>
  unfold incr
  simp only[zc3,List.tail_cons]
  rw[zu6]
  try rfl
def zcl (c:Calendar):Int:=
 bif decide (c.Week<0)||decide (126<c.Week) then 1
 else bif decide (64<(c.Closed.length:Int)) then 13
 else bif c.Closed.all (fun x=>!(decide (x<0)||decide (109572<x))) then (bif incr c.Closed then 0 else 7) else 2
theorem zaai {c:Calendar} (hl:c.Closed.length<1000000000):zab zwg (0,c,())=some (bif c.Closed.all (fun x=>!(decide (x<0)||decide (109572<x))) then .inl (c,()) else .inr (2,())):=by
 have h:=zax (step:=zwg) (fun i=>((i:Int),c,())) c.Closed (fun _ x=>!(decide (x<0)||decide (109572<x))) (.inr (2,())) (.inl (c,())) hl
  (by simp only[zwg,dge,cond_false])
  (fun i x hx=>by
   have hi:=(List.getElem?_eq_some_iff.1 hx).1
   simp -zeta only[zwg,dlt hi,zai,hx,k_or,zbc,cond_true,zam (show i<9223372036854775807 by omega)]
   cases (decide (x<0)||decide (109572<x))<;>rfl)
 rw[show zab zwg (0,c,())=_ from h,za3]
theorem z3o {c:Calendar} (hl:c.Closed.length<1000000000):zab zlt (1,c,())=some (bif incr c.Closed then .inl () else .inr (7,())):=by
 have h:=zax (step:=zlt) (fun i=>(((i+1:Nat):Int),c,())) c.Closed.tail (fun i x=>!(zbn c.Closed (i+1) (fun y=>decide (x≤y)))) (.inr (7,())) (.inl ()) (by rw[List.length_tail];omega)
  (by
   rw[List.length_tail]
   have:decide (((c.Closed.length-1+1:Nat):Int)<(c.Closed.length:Int))=false:=by rw[decide_eq_false_iff_not];omega
   simp only[zlt,this,cond_false])
  (fun i x hx=>by
   rw[List.getElem?_tail]at hx
   have hi:=(List.getElem?_eq_some_iff.1 hx).1
   have hj:c.Closed[i]?=some c.Closed[i]:=List.getElem?_eq_getElem (by omega)
   simp -zeta only[zlt,dlt hi,zai,hx,cond_true,zhd (show i<1000000000 by omega),hj,zbn,zam (show i+1<9223372036854775807 by omega)]
   cases decide (x≤c.Closed[i])<;>rfl)
 rw[show zab zlt (1,c,())=_ from h,z8g]
theorem zajm {c:Calendar} (hl:c.Closed.length<1000000000):q8 c=some (zcl c):=by
 unfold q8 zcl
 simp -zeta only[k_or]
 dsimp only
 rw[zaai hl]
 cases (decide (c.Week<0)||decide (126<c.Week)) with
 |true=>rfl
 |false=>
  cases decide (64<(c.Closed.length:Int)) with
  |true=>rfl
  |false=>
   cases c.Closed.all (fun x=>!(decide (x<0)||decide (109572<x))) with
   |false=>rfl
   |true=>
    simp only[cond_false,cond_true,z3o hl]
    cases incr c.Closed<;>rfl
end Go.Proofs.YtdahfgialanmpaaGreatDoor
namespace Go.Proofs.YtdahfgialanmpaaGreatDoor
open Ev
open Go (IntKind)
def zaxs (state:Int):Bool:=(state==4||state==5||state==8||state==9||state==10)
theorem zmb (state:Int):qfx state=some (zaxs state):=by
 unfold qfx
 try simp -zeta only[k_or,zbc,zig,zc4,cond_true,cond_false]
 try dsimp only
 try simp only[zc4]
 try rfl
def zjj (c:Custody):Bool:=(bif decide (c.State<1)||decide (12<c.State)||decide (c.Branch<1)||decide (4<c.Branch) then false
 else
  bif c.State==6 then
   decide (0≤c.Who)&&decide (c.Who≤9999)&&decide (1≤c.To)&&decide (c.To≤4)&&!c.To==c.Branch
  else
   bif !c.To==0 then false
   else bif zaxs c.State then decide (1≤c.Who)&&decide (c.Who≤9999) else c.Who==0)
theorem zma (c:Custody):qea c=some (zjj c):=by
 unfold qea
 try simp -zeta only[k_or,zbc,zig,zc4,cond_true,cond_false,zmb]
 try dsimp only
 try simp only[zc4]
 try rfl
def zne (m:Move):Bool:=(decide (0≤m.Day)&&decide (m.Day≤109572)&&decide (1≤m.Item)&&decide (m.Item≤9999)&&
 decide (1≤m.Kind)&&
 decide (m.Kind≤15)&&
 decide (1≤m.Branch)&&
 decide (m.Branch≤4)&&
 decide (0≤m.Who)&&
 decide (m.Who≤9999))
theorem zow (m:Move):qe7 m=some (zne m):=by
 unfold qe7
 try simp -zeta only[k_or,zbc,zig,zc4,cond_true,cond_false,zmb,zma]
 try dsimp only
 try simp only[zc4]
 try rfl
def zaar (kind:Int):(List Int):=(bif kind==1 then [1]
 else
  bif kind==2 then [2,5]
  else
   bif kind==3 then [3,5]
   else
    bif kind==4 then [4,8,9,10]
    else
     bif kind==5||kind==8 then [2,3]
     else
      bif kind==6 then [2,3,5]
      else
       bif kind==7 then [6]
       else
        bif kind==9 then [7]
        else
         bif kind==10 then [3]
         else
          bif kind==11 then [4]
          else
           bif kind==12 then [4,9]
           else
            bif kind==13 then [2,3,5,6,7]
            else bif kind==14 then [11] else bif kind==15 then [1,2,3,11,10] else [])
theorem zuj (kind:Int):qcq kind=some (zaar kind):=by
 unfold qcq
 try simp -zeta only[k_or,zbc,zig,zc4,cond_true,cond_false,zmb,zma,zow]
 try dsimp only
 try simp only[zc4]
 try rfl
def zcz (kind:Int):Int:=(bif kind==1||(kind==4||(kind==7||(kind==9||kind==14))) then 2
 else
  bif kind==2 then 3
  else
   bif kind==3 then 4
   else
    bif kind==5 then 5
    else
     bif kind==6 then 6
     else
      bif kind==8 then 7
      else
       bif kind==10 then 8
       else bif kind==11 then 9 else bif kind==12 then 10 else bif kind==13 then 11 else 12)
theorem z06 (kind:Int):qf3 kind=some (zcz kind):=by
 unfold qf3
 try simp -zeta only[k_or,zbc,zig,zc4,cond_true,cond_false,zmb,zma,zow,zuj]
 try dsimp only
 try simp only[zc4]
 try rfl
def zaat (c:Custody) (m:Move):Bool:=(bif m.Kind==1||(m.Kind==4||(m.Kind==9||m.Kind==14)) then m.Who==0
 else
  bif m.Kind==7 then m.Who==0&&m.Branch==c.To
  else
   bif m.Kind==6 then !m.Branch==c.Branch
   else
    bif m.Kind==3||(m.Kind==5||m.Kind==10) then m.Branch==c.Branch&&decide (1≤m.Who)
    else m.Branch==c.Branch&&m.Who==0)
theorem zaas (c:Custody) (m:Move):qdv c m=some (zaat c m):=by
 unfold qdv
 try simp -zeta only[k_or,zbc,zig,zc4,cond_true,cond_false,zmb,zma,zow,zuj,z06]
 try dsimp only
 try simp only[zc4]
 try rfl
def zws (branch:Int):Custody:={State:=1,Branch:=branch,Who:=0,To:=0}
theorem zaow (branch:Int):qd9 branch=some (zws branch):=by
 unfold qd9
 try simp -zeta only[k_or,zbc,zig,zc4,cond_true,cond_false,zmb,zma,zow,zuj,z06,zaas]
 try dsimp only
 try simp only[zc4]
 try rfl
def zuk (u:Custody):Bool:=(u.State==4||u.State==9||u.State==10)
theorem zao0 (u:Custody):qe1 u=some (zuk u):=by
 unfold qe1
 try simp -zeta only[k_or,zbc,zig,zc4,cond_true,cond_false,zmb,zma,zow,zuj,z06,zaas,zaow]
 try dsimp only
 try simp only[zc4]
 try rfl
end Go.Proofs.YtdahfgialanmpaaGreatDoor
namespace Go.Proofs.YtdahfgialanmpaaGreatDoor
open Ev
open Go (IntKind)
theorem hasX {X:Type} {p:X→Bool}:∀{l:List X} {i:Nat},zfh p (fun _ _=>true) false i l=l.any p:=by
 intro l
 induction l with
 |nil=>intros;rfl
 |cons x l ih=>intro i;simp only[zfh,List.any_cons];cases p x with|true=>rfl|false=>rw[cond_false,ih,Bool.false_or]
def zj4 (state kind:Int):Bool:=(zaar kind).any (fun x=>x==state)
theorem zagq {X:Type} {b:Bool} {x y:List X} {n:Nat} (hx:x.length<n) (hy:y.length<n):(bif b then x else y).length<n:=by cases b<;>assumption
theorem z4m (kind:Int):(zaar kind).length<10:=by
 unfold zaar
 repeat' first|apply zagq|decide
theorem za4z (state kind:Int):qas state kind=some (zj4 state kind):=by
 unfold qas zj4
 rw[zuj]
 have hl:=z4m kind
 generalize zaar kind=l at hl ⊢
 have h:=zbu (step:=zon) (fun i=>(state,l,(i:Int),())) l (fun x=>x==state) (fun _ _=>(.inr (true,()):Unit⊕(Bool×Unit))) (.inl ()) (by omega)
  (by simp only[zon,dge,cond_false])
  (fun i x hx=>by
   have hi:=(List.getElem?_eq_some_iff.1 hx).1
   simp only[zon,dlt hi,zai,hx,cond_true,zam (show i<9223372036854775807 by omega)])
 dsimp only
 rw[show zab zon (state,l,0,())=_ from h,←hasX (i:=0)]
 have key:∀(l:List Int) (i:Nat),(match some (zfh (fun x=>x==state) (fun _ _=>(.inr (true,()):Unit⊕(Bool×Unit))) (.inl ()) i l) with|some (.inl _)=>some false|some (.inr (v,_))=>some v|none=>none)=some (zfh (fun x=>x==state) (fun _ _=>true) false i l):=by
  intro l
  induction l with
  |nil=>intro i;rfl
  |cons x l ih=>intro i;simp only[zfh];cases x==state with|true=>rfl|false=>exact ih _
 exact key l 0
def za8 (c:Custody) (m:Move):Custody×Int:=
 bif !(zjj c)||!(zne m) then (⟨0,0,0,0⟩,1)
 else bif !(zj4 c.State m.Kind) then (⟨0,0,0,0⟩,12)
 else bif m.Kind==3&&c.State==5&&!(m.Who==c.Who) then (⟨0,0,0,0⟩,16)
 else bif !(zaat c m) then (⟨0,0,0,0⟩,1)
 else bif zcz m.Kind==2 then (⟨zcz m.Kind,m.Branch,0,0⟩,0)
 else bif zcz m.Kind==4||(zcz m.Kind==5||zcz m.Kind==8) then (⟨zcz m.Kind,c.Branch,m.Who,0⟩,0)
 else bif zcz m.Kind==6 then (⟨zcz m.Kind,c.Branch,m.Who,m.Branch⟩,0)
 else bif zcz m.Kind==9||zcz m.Kind==10 then (⟨zcz m.Kind,c.Branch,c.Who,0⟩,0)
 else (⟨zcz m.Kind,c.Branch,0,0⟩,0)
theorem zaot (c:Custody) (m:Move):qcr c m=some (za8 c m):=by
 unfold qcr za8
 simp -zeta only[k_or,zbc,zig,zma,zow,za4z,zaas,z06]
 dsimp only
 simp only[zc4]
def zde:Nat→List Move→Int→Custody→(Custody⊕(Int×Int))
 |_,[],_,c=>.inl c
 |i,x::l,item,c=>bif x.Item==item then (bif (za8 c x).2==0 then zde (i+1) l item (za8 c x).1 else .inr ((i:Int),(za8 c x).2)) else zde (i+1) l item c
def zed (branch:Int) (l:List Move) (item:Int):Custody×Int×Int:=
 bif decide (branch<1)||decide (4<branch) then (⟨0,0,0,0⟩,-1,1)
 else match zde 0 l item (zws branch) with
  |.inl c=>(c,-1,0)
  |.inr (i,e)=>(⟨0,0,0,0⟩,i,e)
theorem zw4 {β:Type} (item:Int) (fin:Custody→β) (out:Int×Int→β):∀(l:List Move) (i:Nat) (c:Custody),
 zc1 (fun i x c=>bif x.Item==item then (bif (za8 c x).2==0 then .inl (za8 c x).1 else .inr (out ((i:Int),(za8 c x).2))) else .inl c) fin i l c=(match zde i l item c with | .inl c=>fin c | .inr p=>out p):=by
 intro l
 induction l with
 |nil=>intros;rfl
 |cons x l ih=>
  intro i c
  simp only[zc1,zde]
  cases x.Item==item with
  |false=>exact ih _ _
  |true=>
   simp only[cond_true]
   cases (za8 c x).2==0 with
   |true=>exact ih _ _
   |false=>rfl
theorem za4x {branch:Int} {l:List Move} {item:Int} (hl:l.length<1000000000):qap branch l item=some (zed branch l item):=by
 unfold qap zed
 simp -zeta only[k_or,zaow]
 dsimp only
 have h:=zct (step:=zol) (fun i c=>(l,item,(i:Int),(⟨0,0,0,0⟩:Custody),c,())) l
  (fun i x c=>bif x.Item==item then (bif (za8 c x).2==0 then .inl (za8 c x).1 else .inr (.inr ((i:Int),(za8 c x).2,(⟨0,0,0,0⟩:Custody),()))) else .inl c)
  (fun c=>.inl (⟨0,0,0,0⟩,c,())) (by show l.length<18446744073709551616;omega) (fun c=>by simp only[zol,dge,cond_false])
  (fun i x c hx=>by
   have hi:=(List.getElem?_eq_some_iff.1 hx).1
   simp only[zol,dlt hi,zai,hx,cond_true,zaot,zam (show i<9223372036854775807 by omega)]
   cases x.Item==item with
   |false=>rfl
   |true=>
    simp only[Bool.not_true,cond_false,cond_true]
    obtain ⟨d,e⟩:=za8 c x
    cases he:e==0 with
    |true=>rfl
    |false=>rfl) (zws branch)
 rw[zw4 item (fun c=>(.inl (⟨0,0,0,0⟩,c,()):(Custody×Custody×Unit)⊕(Int×Int×Custody×Unit))) (fun p=>.inr (p.1,p.2,(⟨0,0,0,0⟩:Custody),()))]at h
 rw[show zab zol (l,item,0,(⟨0,0,0,0⟩:Custody),zws branch,())=_ from h]
 cases (decide (branch<1)||decide (4<branch)) with
 |true=>rfl
 |false=>
  simp only[cond_false]
  cases zde 0 l item (zws branch) with
  |inl c=>rfl
  |inr p=>rfl
end Go.Proofs.YtdahfgialanmpaaGreatDoor
namespace Go.Proofs.YtdahfgialanmpaaGreatDoor
open Ev
open Go (IntKind)
theorem zbl {X:Type} (p:X→Bool) (l:List X):(fIdx p l = -1∧l.find? p=none)∨∃(i:Nat) (x:X),fIdx p l=(i:Int)∧l[i]?=some x∧p x=true∧l.find? p=some x:=by
 unfold fIdx
 induction l with
 |nil=>exact .inl ⟨rfl,rfl⟩
 |cons y l ih=>
  simp only[List.findIdx?_cons,List.find?_cons]
  cases hp:p y with
  |true=>exact .inr ⟨0,y,rfl,rfl,hp,rfl⟩
  |false=>
   simp only[Bool.false_eq_true,if_false]
   rcases ih with ⟨h1,h2⟩|⟨i,x,h1,h2,h3,h4⟩
   ·left
    refine ⟨?_,h2⟩
    cases hf:l.findIdx? p with
    |none=>rfl
    |some k=>rw[hf]at h1;simp only at h1;omega
   ·right
    refine ⟨i+1,x,?_,by simpa using h2,h3,h4⟩
    cases hf:l.findIdx? p with
    |none=>rw[hf]at h1;simp only at h1;omega
    |some k=>rw[hf]at h1;simp only[Option.map_some]at h1 ⊢;omega
theorem zr6:decide ((-1:Int)<0)=true:=rfl
theorem zp4 {i:Nat}:decide ((i:Int)<0)=false:=by rw[decide_eq_false_iff_not];omega
def getP (l:List Patron) (id:Int):Patron×Bool:=match l.find? (fun p=>p.ID==id) with|some p=>(p,true)|none=>(⟨0,0,0,0,false,[]⟩,false)
def zvz (l:List Loan) (item:Int):Loan×Bool:=match l.find? (fun n=>n.Item==item) with|some n=>(n,true)|none=>(⟨0,0,0,0,0,false⟩,false)
def zhw:Hold:=⟨0,0,0,0,0,0,0,0,0,0,0⟩
def zh6 (c:Circ) (item:Int):Hold×Bool:=match c.Holds.find? (fun h=>h.Got==item) with|some h=>(h,true)|none=>(zhw,false)
theorem zaxt {c:Circ} {item:Int} (hl:c.Items.length<1000000000):qj c item=some (fIdx (fun x=>x.ID==item) c.Items):=by
 unfold qj
 have h:=zbu (step:=z30) (fun i=>(item,(i:Int),c,())) c.Items (fun x=>x.ID==item) (fun i _=>(.inr ((i:Int),()):Unit⊕(Int×Unit))) (.inl ()) hl
  (by simp only[z30,dge,cond_false])
  (fun i x hx=>by
   have hi:=(List.getElem?_eq_some_iff.1 hx).1
   simp only[z30,dlt hi,zai,hx,cond_true,zam (show i<9223372036854775807 by omega)])
 rw[show zab z30 (item,0,c,())=_ from h,←zd1]
 have:=zcm (p:=fun x:Item=>x.ID==item) (g:=fun i _=>(.inr ((i:Int),()):Unit⊕(Int×Unit))) (d:=.inl ()) (fun z=>match (some z:Option (Unit⊕(Int×Unit))) with|some (.inl _)=>some (-1)|some (.inr (v,_))=>some v|none=>none) (l:=c.Items) (i:=0)
 exact this.trans ((zcm (p:=fun x:Item=>x.ID==item) (g:=fun i _=>(i:Int)) (d:=-1) (fun z=>some z) (l:=c.Items) (i:=0)).symm)
theorem zq0 {c:Circ} {item:Int} (hl:c.Items.length<1000000000):(qj c item=some (-1)∧c.Items.find? (fun x=>x.ID==item)=none)∨
 ∃(i:Nat) (x:Item),qj c item=some (i:Int)∧c.Items[i]?=some x∧x.ID=item∧c.Items.find? (fun x=>x.ID==item)=some x:=by
 rw[zaxt hl]
 rcases zbl (fun x:Item=>x.ID==item) c.Items with ⟨h1,h2⟩|⟨i,x,h1,h2,h3,h4⟩
 ·exact .inl ⟨by rw[h1],h2⟩
 ·exact .inr ⟨i,x,by rw[h1],h2,by simpa using h3,h4⟩
theorem za4p {l:List Patron} {id:Int} (hl:l.length<1000000000):qa2 l id=some (fIdx (fun x=>x.ID==id) l):=by
 unfold qa2
 have h:=zbu (step:=zoe) (fun i=>(l,id,(i:Int),())) l (fun x=>x.ID==id) (fun i _=>(.inr ((i:Int),()):Unit⊕(Int×Unit))) (.inl ()) hl
  (by simp only[zoe,dge,cond_false])
  (fun i x hx=>by
   have hi:=(List.getElem?_eq_some_iff.1 hx).1
   simp only[zoe,dlt hi,zai,hx,cond_true,zam (show i<9223372036854775807 by omega)])
 rw[show zab zoe (l,id,0,())=_ from h,←zd1]
 have:=zcm (p:=fun x:Patron=>x.ID==id) (g:=fun i _=>(.inr ((i:Int),()):Unit⊕(Int×Unit))) (d:=.inl ()) (fun z=>match (some z:Option (Unit⊕(Int×Unit))) with|some (.inl _)=>some (-1)|some (.inr (v,_))=>some v|none=>none) (l:=l) (i:=0)
 exact this.trans ((zcm (p:=fun x:Patron=>x.ID==id) (g:=fun i _=>(i:Int)) (d:=-1) (fun z=>some z) (l:=l) (i:=0)).symm)
theorem zi3 {l:List Patron} {id:Int} (hl:l.length<1000000000):qce l id=some (getP l id):=by
 unfold qce getP
 rw[za4p hl]
 rcases zbl (fun x:Patron=>x.ID==id) l with ⟨h1,h2⟩|⟨i,x,h1,h2,h3,h4⟩
 ·simp only[h1,h2,zr6,cond_true]
 ·simp only[h1,h4,zp4,cond_false,zai,h2]
theorem za4y {l:List Loan} {id:Int} (hl:l.length<1000000000):qar l id=some (fIdx (fun x=>x.Item==id) l):=by
 unfold qar
 have h:=zbu (step:=zom) (fun i=>(l,id,(i:Int),())) l (fun x=>x.Item==id) (fun i _=>(.inr ((i:Int),()):Unit⊕(Int×Unit))) (.inl ()) hl
  (by simp only[zom,dge,cond_false])
  (fun i x hx=>by
   have hi:=(List.getElem?_eq_some_iff.1 hx).1
   simp only[zom,dlt hi,zai,hx,cond_true,zam (show i<9223372036854775807 by omega)])
 rw[show zab zom (l,id,0,())=_ from h,←zd1]
 have:=zcm (p:=fun x:Loan=>x.Item==id) (g:=fun i _=>(.inr ((i:Int),()):Unit⊕(Int×Unit))) (d:=.inl ()) (fun z=>match (some z:Option (Unit⊕(Int×Unit))) with|some (.inl _)=>some (-1)|some (.inr (v,_))=>some v|none=>none) (l:=l) (i:=0)
 exact this.trans ((zcm (p:=fun x:Loan=>x.Item==id) (g:=fun i _=>(i:Int)) (d:=-1) (fun z=>some z) (l:=l) (i:=0)).symm)
theorem za5g {l:List Loan} {id:Int} (hl:l.length<1000000000):qeb l id=some (zvz l id):=by
 unfold qeb zvz
 rw[za4y hl]
 rcases zbl (fun x:Loan=>x.Item==id) l with ⟨h1,h2⟩|⟨i,x,h1,h2,h3,h4⟩
 ·simp only[h1,h2,zr6,cond_true]
 ·simp only[h1,h4,zp4,cond_false,zai,h2]
theorem za40 {c:Circ} {item:Int} (hl:c.Holds.length<1000000000):qau c item=some (zh6 c item):=by
 unfold qau zh6
 have h:=zbu (step:=zoo) (fun i=>(item,(i:Int),c,zhw,())) c.Holds (fun x=>x.Got==item) (fun _ x=>(.inr (true,x,()):(Hold×Unit)⊕(Bool×Hold×Unit))) (.inl (zhw,())) hl
  (by simp only[zoo,dge,cond_false])
  (fun i x hx=>by
   have hi:=(List.getElem?_eq_some_iff.1 hx).1
   simp only[zoo,dlt hi,zai,hx,cond_true,zam (show i<9223372036854775807 by omega)])
 rw[show zab zoo (item,0,c,(⟨0,0,0,0,0,0,0,0,0,0,0⟩:Hold),())=_ from h,zid]
 cases c.Holds.find? (fun x=>x.Got==item)<;>rfl
def zdy (c:Circ) (i:Nat) (x:Item):Bool:=
 !(decide (x.ID<1)||decide (9999<x.ID)||zbn c.Items i (fun y=>decide (x.ID≤y.ID))||decide (x.Record<1)||decide (9999<x.Record)||decide (x.Branch<1)||decide (4<x.Branch))&&
 !(decide (x.Kind<1)||decide (9<x.Kind)||decide (x.Price<0)||decide (100000000<x.Price)||decide (200<(x.Call.length:Int))||!(vld x.Call))&&
 !(!((zed x.Branch c.Moves x.ID).2.2==0)||!(zbf (zed x.Branch c.Moves x.ID).1 x.Custody))
def ze6 (c:Circ):Bool:=!(decide (64<(c.Items.length:Int))||decide (2000<(c.Moves.length:Int)))&&(zc3 (zdy c) 0 c.Items&&c.Moves.all (fun m=>(c.Items.find? (fun x=>x.ID==m.Item)).isSome))
structure Short (c:Circ):Prop where
 items:c.Items.length<1000000000
 patrons:c.Patrons.length<1000000000
 loans:c.Loans.length<1000000000
 holds:c.Holds.length<1000000000
 charges:c.Charges.length<1000000000
 rules:c.Rules.length<1000000000
 moves:c.Moves.length<1000000000
 call:∀x∈c.Items,x.Call.length<10000000
 name:∀x∈c.Patrons,x.Name.length<10000000
 cal0:c.Cals.x0.Closed.length<1000000000
 cal1:c.Cals.x1.Closed.length<1000000000
 cal2:c.Cals.x2.Closed.length<1000000000
 cal3:c.Cals.x3.Closed.length<1000000000
theorem z3t {c:Circ} (hs:Short c):zab zly (0,c,())=some (bif zc3 (zdy c) 0 c.Items then .inl (c,()) else .inr (false,())):=by
 have h:=zax (step:=zly) (fun i=>((i:Int),c,())) c.Items (zdy c) (.inr (false,())) (.inl (c,())) hs.items
  (by simp only[zly,dge,cond_false])
  (fun i x hx=>by
   have hi:=(List.getElem?_eq_some_iff.1 hx).1
   have hm:=List.mem_of_getElem? hx
   have hv:=zan9 (s:=x.Call) (by have:=hs.call x hm;omega)
   have hr:=za4x (branch:=x.Branch) (item:=x.ID) hs.moves
   unfold zdy
   rcases i with _|j
   ·simp -zeta only[zly,dlt hi,zai,hx,k_or,zbc,z7t,cond_false,cond_true,zbn,zam (show 0<9223372036854775807 by omega),hv,hr]
    dsimp only
    generalize (decide (x.ID<1)||decide (9999<x.ID)||false||decide (x.Record<1)||decide (9999<x.Record)||decide (x.Branch<1)||decide (4<x.Branch))=b1
    generalize (decide (x.Kind<1)||decide (9<x.Kind)||decide (x.Price<0)||decide (100000000<x.Price)||decide (200<(x.Call.length:Int))||!(vld x.Call))=b2
    generalize (!((zed x.Branch c.Moves x.ID).2.2==0)||!(zbf (zed x.Branch c.Moves x.ID).1 x.Custody))=b3
    cases b1<;>cases b2<;>cases b3<;>rfl
   ·have hj:c.Items[j]?=some c.Items[j]:=List.getElem?_eq_getElem (by omega)
    have:=hs.items
    simp -zeta only[zly,dlt hi,zai,hx,k_or,zbc,dpos,zhd (show j<1000000000 by omega),hj,cond_false,cond_true,Bool.true_and,zbn,zam (show j+1<9223372036854775807 by omega),hv,hr]
    dsimp only
    generalize (decide (x.ID<1)||decide (9999<x.ID)||decide (x.ID≤c.Items[j].ID)||decide (x.Record<1)||decide (9999<x.Record)||decide (x.Branch<1)||decide (4<x.Branch))=b1
    generalize (decide (x.Kind<1)||decide (9<x.Kind)||decide (x.Price<0)||decide (100000000<x.Price)||decide (200<(x.Call.length:Int))||!(vld x.Call))=b2
    generalize (!((zed x.Branch c.Moves x.ID).2.2==0)||!(zbf (zed x.Branch c.Moves x.ID).1 x.Custody))=b3
    cases b1<;>cases b2<;>cases b3<;>rfl)
 exact h
theorem zwh {c:Circ} (hs:Short c):zab zg5 (0,c,())=some (bif c.Moves.all (fun m=>(c.Items.find? (fun x=>x.ID==m.Item)).isSome) then .inl () else .inr (false,())):=by
 have h:=zax (step:=zg5) (fun i=>((i:Int),c,())) c.Moves (fun _ m=>(c.Items.find? (fun x=>x.ID==m.Item)).isSome) (.inr (false,())) (.inl ()) hs.moves
  (by simp only[zg5,dge,cond_false])
  (fun i x hx=>by
   have hi:=(List.getElem?_eq_some_iff.1 hx).1
   have:=hs.moves
   simp only[zg5,dlt hi,zai,hx,cond_true,zam (show i<9223372036854775807 by omega)]
   rcases zq0 (item:=x.Item) hs.items with ⟨h1,h2⟩|⟨k,y,h1,h2,h3,h4⟩
   ·simp only[h1,h2,zr6,cond_true,Option.isSome_none,cond_false]
   ·simp only[h1,h4,zp4,cond_false,Option.isSome_some,cond_true])
 rw[show zab zg5 (0,c,())=_ from h,za3]
theorem za4u {c:Circ} (hs:Short c):qae c=some (ze6 c):=by
 unfold qae ze6
 simp -zeta only[k_or]
 dsimp only
 rw[z3t hs]
 cases (decide (64<(c.Items.length:Int))||decide (2000<(c.Moves.length:Int))) with
 |true=>rfl
 |false=>
  cases zc3 (zdy c) 0 c.Items with
  |false=>rfl
  |true=>
   simp only[cond_false,cond_true,zwh hs]
   cases c.Moves.all (fun m=>(c.Items.find? (fun x=>x.ID==m.Item)).isSome)<;>rfl
def zhu (c:Circ) (n:Loan):Bool:=match c.Items.find? (fun x=>x.ID==n.Item) with
 |some x=>!(!(getP c.Patrons n.Patron).2||!(zuk x.Custody)||!(x.Custody.Who==n.Patron))
 |none=>false
def zf4 (c:Circ):Bool:=c.Loans.all (zhu c)&&c.Items.all (fun x=>(zvz c.Loans x.ID).2==zuk x.Custody)
theorem za4t {c:Circ} (hs:Short c):qad c=some (zf4 c):=by
 have h1:=zax (step:=zlx) (fun i=>((i:Int),c,())) c.Loans (fun _=>zhu c) (.inr (false,())) (.inl (c,())) hs.loans
  (by simp only[zlx,dge,cond_false])
  (fun i x hx=>by
   have hi:=(List.getElem?_eq_some_iff.1 hx).1
   have:=hs.loans
   unfold zhu
   rcases zq0 (item:=x.Item) hs.items with ⟨h1,h2⟩|⟨k,y,h1,h2,h3,h4⟩
   ·simp -zeta only[zlx,dlt hi,zai,hx,cond_true,k_or,zi3 hs.patrons,h1,h2,zr6,Bool.true_or]
    try rfl
   ·simp -zeta only[zlx,dlt hi,zai,hx,cond_true,k_or,zi3 hs.patrons,h1,h2,h4,zp4,Bool.false_or,zao0,zam (show i<9223372036854775807 by omega)]
    dsimp only
    cases (!(getP c.Patrons x.Patron).2||!(zuk y.Custody)||!(y.Custody.Who==x.Patron))<;>rfl)
 have h2:=zax (step:=zim) (fun i=>((i:Int),c,())) c.Items (fun _ x=>(zvz c.Loans x.ID).2==zuk x.Custody) (.inr (false,())) (.inl ()) hs.items
  (by simp only[zim,dge,cond_false])
  (fun i x hx=>by
   have hi:=(List.getElem?_eq_some_iff.1 hx).1
   have:=hs.items
   simp only[zim,dlt hi,zai,hx,cond_true,za5g hs.loans,zao0,zam (show i<9223372036854775807 by omega)]
   cases (zvz c.Loans x.ID).2==zuk x.Custody<;>rfl)
 unfold qad zf4
 rw[show zab zlx (0,c,())=_ from h1,za3]
 cases c.Loans.all (zhu c) with
 |false=>rfl
 |true=>
  simp only[cond_true]
  rw[show zab zim (0,c,())=_ from h2,za3]
  cases c.Items.all (fun x=>(zvz c.Loans x.ID).2==zuk x.Custody)<;>rfl
def zgi (c:Circ) (h:Hold):Bool:=
 !(!(getP c.Patrons h.Patron).2||decide (c.NextHold≤h.ID))&&(h.State==1||(match c.Items.find? (fun x=>x.ID==h.Got) with
  |some x=>!(!(x.Record==h.Record))&&!(h.State==3&&(!(x.Custody.State==5)||!(x.Custody.Branch==h.Pickup)||!(x.Custody.Who==h.Patron)))&&
   !(h.State==2&&(!(x.Custody.State==6)||!(x.Custody.To==h.Pickup)||!(x.Custody.Who==h.Patron)))
  |none=>false))
def zgb (c:Circ) (x:Item):Bool:=!(x.Custody.State==5)||!(!(zh6 c x.ID).2||!((zh6 c x.ID).1.State==3))
def zf2 (c:Circ):Bool:=c.Holds.all (zgi c)&&c.Items.all (zgb c)
theorem za4v {c:Circ} (hs:Short c):qaf c=some (zf2 c):=by
 have h1:=zax (step:=zlz) (fun i=>((i:Int),c,())) c.Holds (fun _=>zgi c) (.inr (false,())) (.inl (c,())) hs.holds
  (by simp only[zlz,dge,cond_false])
  (fun i x hx=>by
   have hi:=(List.getElem?_eq_some_iff.1 hx).1
   have:=hs.holds
   unfold zgi
   rcases zq0 (item:=x.Got) hs.items with ⟨h1,h2⟩|⟨k,y,h1,h2,h3,h4⟩
   ·simp -zeta only[zlz,dlt hi,zai,hx,cond_true,k_or,zi3 hs.patrons,h1,h2,zr6,zam (show i<9223372036854775807 by omega)]
    dsimp only
    cases (!(getP c.Patrons x.Patron).2||decide (c.NextHold≤x.ID)) with
    |true=>rfl
    |false=>cases x.State==1<;>rfl
   ·simp -zeta only[zlz,dlt hi,zai,hx,cond_true,k_or,zbc,zi3 hs.patrons,h1,h2,h4,zp4,cond_false,zam (show i<9223372036854775807 by omega)]
    dsimp only
    generalize (!(getP c.Patrons x.Patron).2||decide (c.NextHold≤x.ID))=b1
    generalize (x.State==1)=b2
    generalize (!(y.Record==x.Record))=b3
    generalize (!(y.Custody.State==5)||!(y.Custody.Branch==x.Pickup)||!(y.Custody.Who==x.Patron))=b4
    generalize (!(y.Custody.State==6)||!(y.Custody.To==x.Pickup)||!(y.Custody.Who==x.Patron))=b5
    generalize (x.State==3)=b6
    generalize (x.State==2)=b7
    cases b1<;>cases b2<;>cases b3<;>cases b4<;>cases b5<;>cases b6<;>cases b7<;>rfl)
 have h2:=zax (step:=zin) (fun i=>((i:Int),c,())) c.Items (fun _=>zgb c) (.inr (false,())) (.inl ()) hs.items
  (by simp only[zin,dge,cond_false])
  (fun i x hx=>by
   have hi:=(List.getElem?_eq_some_iff.1 hx).1
   have:=hs.items
   unfold zgb
   simp -zeta only[zin,dlt hi,zai,hx,cond_true,k_or,za40 hs.holds,zam (show i<9223372036854775807 by omega)]
   dsimp only
   cases x.Custody.State==5 with
   |false=>rfl
   |true=>
    generalize (!(zh6 c x.ID).2||!((zh6 c x.ID).1.State==3))=b
    cases b<;>rfl)
 unfold qaf zf2
 rw[show zab zlz (0,c,())=_ from h1,za3]
 cases c.Holds.all (zgi c) with
 |false=>rfl
 |true=>
  simp only[cond_true]
  rw[show zab zin (0,c,())=_ from h2,za3]
  cases c.Items.all (zgb c)<;>rfl
end Go.Proofs.YtdahfgialanmpaaGreatDoor
namespace Go.Proofs.YtdahfgialanmpaaGreatDoor
open Ev
open Go (IntKind)
def zhi (c:Circ):Bool:=zcl c.Cals.x0==0&&(zcl c.Cals.x1==0&&(zcl c.Cals.x2==0&&zcl c.Cals.x3==0))
theorem z3v {c:Circ} (hs:Short c):zab zi0 (0,c,())=some (bif zhi c then .inl (c,()) else .inr (false,())):=by
 have s0:zi0 (0,c,())=bif zcl c.Cals.x0==0 then some (.inl (1,c,())) else some (.inr (.inr (false,()))):=by
  show (match q8 c.Cals.x0 with|some r=>(bif !(r==0) then (some (.inr (.inr (false,()))):Option ((Int×Circ×Unit)⊕((Circ×Unit)⊕(Bool×Unit)))) else some (.inl (1,c,())))|none=>none)=_
  rw[zajm hs.cal0];dsimp only;cases zcl c.Cals.x0==0<;>rfl
 have s1:zi0 (1,c,())=bif zcl c.Cals.x1==0 then some (.inl (2,c,())) else some (.inr (.inr (false,()))):=by
  show (match q8 c.Cals.x1 with|some r=>(bif !(r==0) then (some (.inr (.inr (false,()))):Option ((Int×Circ×Unit)⊕((Circ×Unit)⊕(Bool×Unit)))) else some (.inl (2,c,())))|none=>none)=_
  rw[zajm hs.cal1];dsimp only;cases zcl c.Cals.x1==0<;>rfl
 have s2:zi0 (2,c,())=bif zcl c.Cals.x2==0 then some (.inl (3,c,())) else some (.inr (.inr (false,()))):=by
  show (match q8 c.Cals.x2 with|some r=>(bif !(r==0) then (some (.inr (.inr (false,()))):Option ((Int×Circ×Unit)⊕((Circ×Unit)⊕(Bool×Unit)))) else some (.inl (3,c,())))|none=>none)=_
  rw[zajm hs.cal2];dsimp only;cases zcl c.Cals.x2==0<;>rfl
 have s3:zi0 (3,c,())=bif zcl c.Cals.x3==0 then some (.inl (4,c,())) else some (.inr (.inr (false,()))):=by
  show (match q8 c.Cals.x3 with|some r=>(bif !(r==0) then (some (.inr (.inr (false,()))):Option ((Int×Circ×Unit)⊕((Circ×Unit)⊕(Bool×Unit)))) else some (.inl (4,c,())))|none=>none)=_
  rw[zajm hs.cal3];dsimp only;cases zcl c.Cals.x3==0<;>rfl
 have s4:zi0 (4,c,())=some (.inr (.inl (c,()))):=rfl
 refine zav 5 (by rw[zaz];omega) ?_
 unfold zhi
 simp only[zau,s0,s1,s2,s3,s4]
 cases zcl c.Cals.x0==0 with
 |false=>rfl
 |true=>
  simp only[cond_true,zau,s1]
  cases zcl c.Cals.x1==0 with
  |false=>rfl
  |true=>
   simp only[cond_true,zau,s2]
   cases zcl c.Cals.x2==0 with
   |false=>rfl
   |true=>
    simp only[cond_true,zau,s3]
    cases zcl c.Cals.x3==0 with
    |false=>rfl
    |true=>simp only[cond_true,zau,s4];rfl
def ze1 (c:Circ) (x:Charge):Bool:=!(!(getP c.Patrons x.Patron).2||decide (c.NextCharge≤x.ID))
theorem zwj {c:Circ} (hs:Short c):zab zg7 (0,c,())=some (bif c.Charges.all (ze1 c) then .inl (c,()) else .inr (false,())):=by
 have h:=zax (step:=zg7) (fun i=>((i:Int),c,())) c.Charges (fun _=>ze1 c) (.inr (false,())) (.inl (c,())) hs.charges
  (by simp only[zg7,dge,cond_false])
  (fun i x hx=>by
   have hi:=(List.getElem?_eq_some_iff.1 hx).1
   have:=hs.charges
   unfold ze1
   simp -zeta only[zg7,dlt hi,zai,hx,cond_true,k_or,zi3 hs.patrons,zam (show i<9223372036854775807 by omega)]
   dsimp only
   cases (!(getP c.Patrons x.Patron).2||decide (c.NextCharge≤x.ID))<;>rfl)
 rw[show zab zg7 (0,c,())=_ from h,za3]
def zqv (c:Circ):Bool:=!(decide (c.Today<0)||decide (109572<c.Today)||decide (c.NextHold<1)||decide (100000<c.NextHold)||decide (c.NextCharge<1)||decide (100000<c.NextCharge))
def zk5 (c:Circ):Bool:=!(!(ze9 c.Patrons==0)||!(zhv c.Loans==0)||!(zdx c.Holds==0)||!(zdb c.Charges==0)||!(zgk c.Rules==0))
def zo0 (c:Circ):Bool:=zqv c&&(zk5 c&&(zhi c&&(c.Charges.all (ze1 c)&&(ze6 c&&(zf4 c&&zf2 c)))))
theorem za4w {c:Circ} (hs:Short c):qak c=some (zo0 c):=by
 unfold qak zo0 zqv zk5
 simp -zeta only[k_or,zbc,za42 hs.patrons hs.name,za41 hs.loans,za67 hs.holds,za4q hs.charges,za66 hs.rules]
 dsimp only
 rw[z3v hs]
 generalize (decide (c.Today<0)||decide (109572<c.Today)||decide (c.NextHold<1)||decide (100000<c.NextHold)||decide (c.NextCharge<1)||decide (100000<c.NextCharge))=b1
 generalize (!(ze9 c.Patrons==0)||!(zhv c.Loans==0)||!(zdx c.Holds==0)||!(zdb c.Charges==0)||!(zgk c.Rules==0))=b2
 cases b1 with
 |true=>rfl
 |false=>
  cases b2 with
  |true=>rfl
  |false=>
   cases zhi c with
   |false=>rfl
   |true=>
    simp only[cond_false,cond_true,zwj hs]
    cases c.Charges.all (ze1 c) with
    |false=>rfl
    |true=>
     simp -zeta only[cond_false,cond_true,za4u hs,za4t hs,za4v hs,zbc]
     try dsimp only
     cases ze6 c<;>cases zf4 c<;>cases zf2 c<;>rfl
def zmr (c:Circ):Bool:=
 !(decide (10<(c.Items.length:Int))||decide (8<(c.Patrons.length:Int))||decide (12<(c.Holds.length:Int))||decide (12<(c.Loans.length:Int))||decide (30<(c.Charges.length:Int))||decide (10<(c.Rules.length:Int))||decide (200<(c.Moves.length:Int)))&&
 (c.Items.all (fun x=>!(decide (300<(x.Call.length:Int))))&&(c.Patrons.all (fun x=>!(decide (300<(x.Name.length:Int))))&&
  (!(decide (20<(c.Cals.x0.Closed.length:Int)))&&(!(decide (20<(c.Cals.x1.Closed.length:Int)))&&(!(decide (20<(c.Cals.x2.Closed.length:Int)))&&!(decide (20<(c.Cals.x3.Closed.length:Int))))))))
theorem za63 (c:Circ):qa c=some (zmr c):=by
 unfold qa zmr
 simp -zeta only[k_or,zbc]
 dsimp only
 cases hb:(decide (10<(c.Items.length:Int))||decide (8<(c.Patrons.length:Int))||decide (12<(c.Holds.length:Int))||decide (12<(c.Loans.length:Int))||decide (30<(c.Charges.length:Int))||decide (10<(c.Rules.length:Int))||decide (200<(c.Moves.length:Int))) with
 |true=>rfl
 |false=>
  simp only[Bool.or_eq_false_iff,decide_eq_false_iff_not]at hb
  have h1:=zax (step:=z3q) (fun i=>((i:Int),c,())) c.Items (fun _ x=>!(decide (300<(x.Call.length:Int)))) (.inr (false,())) (.inl (c,())) (by omega)
   (by simp only[z3q,dge,cond_false])
   (fun i x hx=>by
    have hi:=(List.getElem?_eq_some_iff.1 hx).1
    simp only[z3q,dlt hi,zai,hx,cond_true,zam (show i<9223372036854775807 by omega)]
    cases decide (300<(x.Call.length:Int))<;>rfl)
  have h2:=zax (step:=z3r) (fun i=>((i:Int),c,())) c.Patrons (fun _ x=>!(decide (300<(x.Name.length:Int)))) (.inr (false,())) (.inl (c,())) (by omega)
   (by simp only[z3r,dge,cond_false])
   (fun i x hx=>by
    have hi:=(List.getElem?_eq_some_iff.1 hx).1
    simp only[z3r,dlt hi,zai,hx,cond_true,zam (show i<9223372036854775807 by omega)]
    cases decide (300<(x.Name.length:Int))<;>rfl)
  have h3:zab ziz (0,c,())=some (bif (!(decide (20<(c.Cals.x0.Closed.length:Int)))&&(!(decide (20<(c.Cals.x1.Closed.length:Int)))&&(!(decide (20<(c.Cals.x2.Closed.length:Int)))&&!(decide (20<(c.Cals.x3.Closed.length:Int)))))) then .inl () else .inr (false,())):=by
   have s0:ziz (0,c,())=bif decide (20<(c.Cals.x0.Closed.length:Int)) then some (.inr (.inr (false,()))) else some (.inl (1,c,())):=rfl
   have s1:ziz (1,c,())=bif decide (20<(c.Cals.x1.Closed.length:Int)) then some (.inr (.inr (false,()))) else some (.inl (2,c,())):=rfl
   have s2:ziz (2,c,())=bif decide (20<(c.Cals.x2.Closed.length:Int)) then some (.inr (.inr (false,()))) else some (.inl (3,c,())):=rfl
   have s3:ziz (3,c,())=bif decide (20<(c.Cals.x3.Closed.length:Int)) then some (.inr (.inr (false,()))) else some (.inl (4,c,())):=rfl
   have s4:ziz (4,c,())=some (.inr (.inl ())):=rfl
   refine zav 5 (by rw[zaz];omega) ?_
   simp only[zau,s0]
   cases decide (20<(c.Cals.x0.Closed.length:Int)) with
   |true=>rfl
   |false=>
    simp only[cond_false,zau,s1]
    cases decide (20<(c.Cals.x1.Closed.length:Int)) with
    |true=>rfl
    |false=>
     simp only[cond_false,zau,s2]
     cases decide (20<(c.Cals.x2.Closed.length:Int)) with
     |true=>rfl
     |false=>
      simp only[cond_false,zau,s3]
      cases decide (20<(c.Cals.x3.Closed.length:Int)) with
      |true=>rfl
      |false=>simp only[cond_false,zau,s4];rfl
  simp only[cond_false,Bool.not_false,Bool.true_and]
  rw[show zab z3q (0,c,())=_ from h1,za3]
  cases c.Items.all (fun x=>!(decide (300<(x.Call.length:Int)))) with
  |false=>rfl
  |true=>
   simp only[cond_true,Bool.true_and]
   rw[show zab z3r (0,c,())=_ from h2,za3]
   cases c.Patrons.all (fun x=>!(decide (300<(x.Name.length:Int)))) with
   |false=>rfl
   |true=>
    simp only[cond_true,Bool.true_and,h3]
    cases (!(decide (20<(c.Cals.x0.Closed.length:Int)))&&(!(decide (20<(c.Cals.x1.Closed.length:Int)))&&(!(decide (20<(c.Cals.x2.Closed.length:Int)))&&!(decide (20<(c.Cals.x3.Closed.length:Int))))))<;>rfl
structure SmallP (c:Circ):Prop where
 items:c.Items.length≤10
 patrons:c.Patrons.length≤8
 holds:c.Holds.length≤12
 loans:c.Loans.length≤12
 charges:c.Charges.length≤30
 rules:c.Rules.length≤10
 moves:c.Moves.length≤200
 call:∀x∈c.Items,x.Call.length≤300
 name:∀x∈c.Patrons,x.Name.length≤300
 cal0:c.Cals.x0.Closed.length≤20
 cal1:c.Cals.x1.Closed.length≤20
 cal2:c.Cals.x2.Closed.length≤20
 cal3:c.Cals.x3.Closed.length≤20
theorem zap7 {c:Circ} (h:zmr c=true):SmallP c:=by
 unfold zmr at h
 simp only[Bool.and_eq_true,Bool.not_eq_true',Bool.or_eq_false_iff,decide_eq_false_iff_not,List.all_eq_true]at h
 obtain ⟨⟨⟨⟨⟨⟨⟨h1,h2⟩,h3⟩,h4⟩,h5⟩,h6⟩,h7⟩,h8,h9,h10,h11,h12,h13⟩:=h
 exact ⟨by omega,by omega,by omega,by omega,by omega,by omega,by omega,fun x hx=>by have:=h8 x hx;omega,fun x hx=>by have:=h9 x hx;omega,by omega,by omega,by omega,by omega⟩
theorem SmallP.short {c:Circ} (h:SmallP c):Short c:=by
 obtain ⟨h1,h2,h3,h4,h5,h6,h7,h8,h9,h10,h11,h12,h13⟩:=h
 exact ⟨by omega,by omega,by omega,by omega,by omega,by omega,by omega,fun x hx=>by have:=h8 x hx;omega,fun x hx=>by have:=h9 x hx;omega,by omega,by omega,by omega,by omega⟩
theorem za5j (c:Circ):qf4 c=some (zmr c&&zo0 c):=by
 unfold qf4
 rw[za63]
 cases h:zmr c with
 |false=>rfl
 |true=>
  simp only[cond_true,za4w (zap7 h).short]
  try rfl
end Go.Proofs.YtdahfgialanmpaaGreatDoor
namespace Go.Proofs.YtdahfgialanmpaaGreatDoor
open Ev
open Go (IntKind)
theorem zaej:qfm=some true:=by kernel_rfl
theorem za68 {γ0:Type} {p:γ0→Patron→Option Bool} {q:Patron→Bool} {s:List Patron} {g:γ0} (hs:s.length<1000000000) (hp:∀x∈s,p g x=some (q x)):qn p s g=some (fIdx q s):=by
 have h:=zbu (step:=zwv p) (fun i=>(s,g,(s.length:Int),(i:Int),())) s q (fun i _=>(.inr ((i:Int),()):Unit⊕(Int×Unit))) (.inl ()) hs
  (by simp only[zwv,dge,cond_false])
  (fun i x hx=>by
   have hi:=(List.getElem?_eq_some_iff.1 hx).1
   simp only[zwv,dlt hi,cond_true,zai,hx,hp x (List.mem_of_getElem? hx),zam (show i<9223372036854775807 by omega)])
 unfold qn
 rw[show zab (zwv p) (s,g,(s.length:Int),0,())=_ from h,←zd1]
 have:=zcm (p:=q) (g:=fun i _=>(.inr ((i:Int),()):Unit⊕(Int×Unit))) (d:=.inl ()) (fun z=>match (some z:Option (Unit⊕(Int×Unit))) with|some (.inl _)=>some (-1)|some (.inr (v,_))=>some v|none=>none) (l:=s) (i:=0)
 exact this.trans ((zcm (p:=q) (g:=fun i _=>(i:Int)) (d:=-1) (fun z=>some z) (l:=s) (i:=0)).symm)
theorem zaos {l:List Patron} {id:Int} (hl:l.length<1000000000):qcp l id=some (getP l id):=by
 unfold qcp qca getP
 rw[za68 (q:=fun x=>x.ID==id) hl (fun x _=>rfl)]
 rcases zbl (fun x:Patron=>x.ID==id) l with ⟨h1,h2⟩|⟨i,x,h1,h2,h3,h4⟩
 ·simp only[h1,h2,zr6,cond_true]
 ·simp only[h1,h4,zp4,cond_false,zai,h2]
end Go.Proofs.YtdahfgialanmpaaGreatDoor
namespace Go.Proofs.YtdahfgialanmpaaGreatDoor
open Ev
open Go (IntKind)
theorem zwe (lo hi n:Int):(!(rng lo hi n))=(decide (n<lo)||decide (hi<n)):=by
 unfold rng
 by_cases h1:n<lo
 ·have:¬lo≤n:=by omega
  simp[h1,this]
 ·have:lo≤n:=by omega
  by_cases h2:hi<n
  ·have:¬n≤hi:=by omega
   simp[*]
  ·have:n≤hi:=by omega
   simp[*]
theorem zavq {X:Type} (p:X→Bool) (l:List X):decide (fIdx p l<0)=!(l.any p):=by
 unfold fIdx
 induction l with
 |nil=>rfl
 |cons y l ih=>
  simp only[List.findIdx?_cons,List.any_cons]
  cases hp:p y with
  |true=>rfl
  |false=>
   simp only[Bool.false_eq_true,if_false,Bool.false_or]
   rw[←ih]
   cases l.findIdx? p with
   |none=>rfl
   |some k=>simp only[Option.map_some];rw[decide_eq_decide];omega
theorem zavp {X:Type} (p:X→Bool) (l:List X):decide (0≤fIdx p l)=l.any p:=by
 have h:=zavq p l
 cases hb:l.any p with
 |true=>rw[hb]at h;simp at h ⊢;omega
 |false=>rw[hb]at h;simp at h ⊢;omega
theorem za5f {γ:Type} {p:γ→Item→Option Bool} {g:γ} (q:Item→Bool) {l:List Item} (hl:l.length<1000000000) (hp:∀x∈l,p g x=some (q x)):qe p l g=some (fIdx q l):=by
 have h:=zbu (step:=zul p) (fun i=>(l,g,(l.length:Int),(i:Int),())) l q (fun i _=>(.inr ((i:Int),()):(Unit)⊕(Int×Unit))) (.inl ()) hl
  (by simp only[zul,dge,cond_false])
  (fun i x hx=>by
   have hi:=(List.getElem?_eq_some_iff.1 hx).1
   simp only[zul,dlt hi,zai,hx,cond_true,hp x (List.mem_of_getElem? hx),zam (show i<9223372036854775807 by omega)])
 unfold qe
 rw[show zab (zul p) (l,g,(l.length:Int),0,())=_ from h]
 have e:=zcm (p:=q) (g:=fun i _=>(.inr ((i:Int),()):(Unit)⊕(Int×Unit))) (d:=.inl ()) (fun r:(Unit)⊕(Int×Unit)=>match r with | .inl (_)=>(-1:Int) | .inr (v,_)=>v) (l:=l) (i:=0)
 dsimp only at e
 rw[←zd1,←e]
 generalize zfh q (fun i _=>(.inr ((i:Int),()):(Unit)⊕(Int×Unit))) (.inl ()) 0 l=r
 rcases r with _|⟨v,_⟩<;>rfl
theorem z03 {γ:Type} {p:γ→Hold→Option Bool} {g:γ} (q:Hold→Bool) {l:List Hold} (hl:l.length<1000000000) (hp:∀x∈l,p g x=some (q x)):qb p l g=some (fIdx q l):=by
 have h:=zbu (step:=znd p) (fun i=>(l,g,(l.length:Int),(i:Int),())) l q (fun i _=>(.inr ((i:Int),()):(Unit)⊕(Int×Unit))) (.inl ()) hl
  (by simp only[znd,dge,cond_false])
  (fun i x hx=>by
   have hi:=(List.getElem?_eq_some_iff.1 hx).1
   simp only[znd,dlt hi,zai,hx,cond_true,hp x (List.mem_of_getElem? hx),zam (show i<9223372036854775807 by omega)])
 unfold qb
 rw[show zab (znd p) (l,g,(l.length:Int),0,())=_ from h]
 have e:=zcm (p:=q) (g:=fun i _=>(.inr ((i:Int),()):(Unit)⊕(Int×Unit))) (d:=.inl ()) (fun r:(Unit)⊕(Int×Unit)=>match r with | .inl (_)=>(-1:Int) | .inr (v,_)=>v) (l:=l) (i:=0)
 dsimp only at e
 rw[←zd1,←e]
 generalize zfh q (fun i _=>(.inr ((i:Int),()):(Unit)⊕(Int×Unit))) (.inl ()) 0 l=r
 rcases r with _|⟨v,_⟩<;>rfl
theorem zaxn {γ:Type} {p:γ→Hold→Option Bool} {g:γ} (q:Hold→Bool) {l:List Hold} (hl:l.length<1000000000) (hp:∀x∈l,p g x=some (q x)):qc5 p l g=some (l.any q):=by
 unfold qc5
 rw[z03 q hl hp]
 dsimp only
 rw[zavp]
theorem za5c (n lo hi:Int):qcj n lo hi=some (rng lo hi n):=by
 unfold qcj
 simp -zeta only[k_or,zbc]
 try rfl
theorem zaoy (n:Int):qdk n=some (rng 0 109572 n):=by
 unfold qdk
 simp -zeta only[k_or,zbc]
 try rfl
theorem zhp (l:List Hold) (i:Nat) (x:Hold):zdc l i x=bif zbn l i (fun y=>decide (x.ID≤y.ID)) then 7 else zb0 x:=by
 unfold zdc
 congr 1
 cases h:zb0 x==0 with
 |true=>simp at h;simp[h]
 |false=>simp
def za7l (q:Hold→Hold→Bool) (l:List Hold):Bool:=zc3 (fun i x=>(l.take i).all (fun y=>!(q y x))) 0 l
theorem zaqe {X:Type} (q:X→Bool) (l:List X):l.any q=!(l.all (fun y=>!(q y))):=by
 induction l with
 |nil=>rfl
 |cons y l ih=>simp only[List.any_cons,List.all_cons];rw[ih];cases q y<;>rfl
end Go.Proofs.YtdahfgialanmpaaGreatDoor
namespace Go.Proofs.YtdahfgialanmpaaGreatDoor
open Ev
open Go (IntKind)
theorem zaod (n lo hi:Int):qb1 n lo hi=some (rng lo hi n):=by
 unfold qb1
 simp -zeta only[k_or,zbc]
 try rfl
theorem zcg {lo hi n:Int}:rng lo hi n=true↔lo≤n∧n≤hi:=by
 unfold rng
 simp only[Bool.and_eq_true,decide_eq_true_eq]
theorem zkx {n:Int} (h:rng 1 12 n=true):n=1∨n=2∨n=3∨n=4∨n=5∨n=6∨n=7∨n=8∨n=9∨n=10∨n=11∨n=12:=by
 have:=zcg.1 h;omega
theorem zeb {n:Int} (h:rng 1 15 n=true):n=1∨n=2∨n=3∨n=4∨n=5∨n=6∨n=7∨n=8∨n=9∨n=10∨n=11∨n=12∨n=13∨n=14∨n=15:=by
 have:=zcg.1 h;omega
theorem za5m {s k:Int} (hs:rng 1 12 s=true) (hk:rng 1 15 k=true):qfv s k=some (zj4 s k):=by
 rcases zkx hs with h|h|h|h|h|h|h|h|h|h|h|h<;>subst h<;>
  rcases zeb hk with h|h|h|h|h|h|h|h|h|h|h|h|h|h|h<;>subst h<;>rfl
theorem za5n (c:Custody):qfw c=some (zjj c):=by
 unfold qfw zjj zaxs
 simp -zeta only[k_or,zbc,zig,zaod,zwe]
 dsimp only
 cases hb:(decide (c.State<1)||decide (12<c.State)||(decide (c.Branch<1)||decide (4<c.Branch))) with
 |true=>
  have:(decide (c.State<1)||decide (12<c.State)||decide (c.Branch<1)||decide (4<c.Branch))=true:=by rw[←hb,Bool.or_assoc _ _ (decide (4<c.Branch))]
  rw[this];rfl
 |false=>
  have:(decide (c.State<1)||decide (12<c.State)||decide (c.Branch<1)||decide (4<c.Branch))=false:=by rw[←hb,Bool.or_assoc _ _ (decide (4<c.Branch))]
  rw[this]
  have hr:rng 1 12 c.State=true:=by
   simp only[Bool.or_eq_false_iff,decide_eq_false_iff_not]at hb
   rw[zcg];omega
  unfold rng
  simp only[cond_false]
  generalize decide (0≤c.Who)=a1
  generalize decide (c.Who≤9999)=a2
  generalize decide (1≤c.Who)=a3
  generalize decide (1≤c.To)=a4
  generalize decide (c.To≤4)=a5
  generalize (c.To==0)=a6
  generalize (c.To==c.Branch)=a7
  generalize (c.Who==0)=a8
  rcases zkx hr with h|h|h|h|h|h|h|h|h|h|h|h<;>rw[h]<;>revert a1 a2 a3 a4 a5 a6 a7 a8<;>decide
theorem zaop (c:Custody) (ok:Bool):qc6 c ok=some (bif ok then (c,0) else (⟨0,0,0,0⟩,1)):=by
 cases ok<;>rfl
theorem za5o (c:Custody) (m:Move):qfy c m=some (bif !(m.Branch==c.Branch) then (⟨6,c.Branch,m.Who,m.Branch⟩,0) else (⟨0,0,0,0⟩,1)):=by
 unfold qfy
 rw[zaop]
theorem za5h (c:Custody) (m:Move):qeo c m=some (za8 c m):=by
 unfold qeo za8
 simp -zeta only[k_or,zbc,zig,zaod,za5n]
 dsimp only
 have hw:(!(rng 0 109572 m.Day)||!(rng 1 9999 m.Item)||!(rng 1 15 m.Kind)||!(rng 1 4 m.Branch)||!(rng 0 9999 m.Who))=!(zne m):=by
  unfold zne rng
  simp only[Bool.not_and,Bool.or_assoc]
 rw[show (!(zjj c)||!(rng 0 109572 m.Day)||!(rng 1 9999 m.Item)||!(rng 1 15 m.Kind)||!(rng 1 4 m.Branch)||!(rng 0 9999 m.Who))=(!(zjj c)||!(zne m)) by rw[←hw];simp only[Bool.or_assoc]]
 cases hb:(!(zjj c)||!(zne m)) with
 |true=>rfl
 |false=>
  simp only[Bool.or_eq_false_iff,Bool.not_eq_false']at hb
  obtain ⟨h1,h2⟩:=hb
  rw[h2,Bool.not_true]at hw
  simp only[Bool.or_eq_false_iff,Bool.not_eq_false']at hw
  obtain ⟨⟨⟨⟨w1,w2⟩,w3⟩,w4⟩,w5⟩:=hw
  have hs:rng 1 12 c.State=true:=by
   unfold zjj at h1
   rw[zcg]
   cases hq:(decide (c.State<1)||decide (12<c.State)||decide (c.Branch<1)||decide (4<c.Branch)) with
   |true=>rw[hq]at h1;cases h1
   |false=>simp only[Bool.or_eq_false_iff,decide_eq_false_iff_not]at hq;omega
  rw[za5m hs w3]
  simp only[cond_false]
  cases ha:zj4 c.State m.Kind with
  |false=>rfl
  |true=>
   simp only[Bool.not_true,cond_false]
   have h0:=(zcg.1 w5).1
   unfold zaat zcz
   simp only[zaop,za5o]
   generalize (c.State==5)=g5
   generalize (m.Who==c.Who)=g7
   generalize (m.Branch==c.To)=g6
   by_cases hw0:m.Who=0
   ·have e2:decide (1≤m.Who)=false:=by rw[decide_eq_false_iff_not];omega
    rw[e2]
    simp only[hw0]
    by_cases hb:m.Branch=c.Branch
    ·simp only[hb,beq_self_eq_true]
     rcases zeb w3 with h|h|h|h|h|h|h|h|h|h|h|h|h|h|h<;>
      (simp only[h];cases g5<;>cases g6<;>cases g7<;>rfl)
    ·have e3:(m.Branch==c.Branch)=false:=by simpa using hb
     simp only[e3]
     rcases zeb w3 with h|h|h|h|h|h|h|h|h|h|h|h|h|h|h<;>
      (simp only[h];cases g5<;>cases g6<;>cases g7<;>rfl)
   ·have e2:decide (1≤m.Who)=true:=by rw[decide_eq_true_eq];omega
    have e1:(m.Who==0)=false:=by simpa using hw0
    rw[e2]
    simp only[e1]
    by_cases hb:m.Branch=c.Branch
    ·simp only[hb,beq_self_eq_true]
     rcases zeb w3 with h|h|h|h|h|h|h|h|h|h|h|h|h|h|h<;>
      (simp only[h];cases g5<;>cases g6<;>cases g7<;>rfl)
    ·have e3:(m.Branch==c.Branch)=false:=by simpa using hb
     simp only[e3]
     rcases zeb w3 with h|h|h|h|h|h|h|h|h|h|h|h|h|h|h<;>
      (simp only[h];cases g5<;>cases g6<;>cases g7<;>rfl)
end Go.Proofs.YtdahfgialanmpaaGreatDoor
namespace Go.Proofs.YtdahfgialanmpaaGreatDoor
open Ev
open Go (IntKind)
theorem zan5 {c:Circ} {item:Int} (hl:c.Items.length<1000000000):qab c item=some (fIdx (fun x=>x.ID==item) c.Items):=by
 unfold qab
 rw[za5f (fun x=>x.ID==item) hl (fun x _=>rfl)]
def zcy (x:Item):Bool:=rng 1 9999 x.ID&&rng 1 9999 x.Record&&rng 1 4 x.Branch&&rng 1 9 x.Kind&&rng 0 100000000 x.Price&&decide ((x.Call.length:Int)≤200)&&vld x.Call
def zc0 (c:Circ) (x:Item):Bool:=!(!((zed x.Branch c.Moves x.ID).2.2==0)||!(zbf (zed x.Branch c.Moves x.ID).1 x.Custody))
def zaaa (c:Circ):Bool:=c.Moves.all (fun m=>(c.Items.find? (fun x=>x.ID==m.Item)).isSome)
def zix (c:Circ):Bool:=!(decide (64<(c.Items.length:Int))||decide (2000<(c.Moves.length:Int)))&&(zc3 (fun i x=>!(!(zcy x)||zbn c.Items i (fun y=>decide (x.ID≤y.ID)))) 0 c.Items&&(zaaa c&&c.Items.all (zc0 c)))
end Go.Proofs.YtdahfgialanmpaaGreatDoor
namespace Go.Proofs.YtdahfgialanmpaaGreatDoor
open Ev
open Go (IntKind)
theorem zcp {X:Type} {key:X→Int} {l:List X} (h:∀i x,l[i]?=some x→zbn l i (fun y=>decide (key x≤key y))=false):∀(j i:Nat) (x y:X),i<j→l[i]?=some x→l[j]?=some y→key x<key y:=by
 intro j
 induction j with
 |zero=>intro i x y hi;omega
 |succ j ih=>
  intro i x y hi hx hy
  have hj:=(List.getElem?_eq_some_iff.1 hy).1
  have hz:l[j]?=some l[j]:=List.getElem?_eq_getElem (by omega)
  have:=h _ _ hy
  simp only[zbn,hz,decide_eq_false_iff_not]at this
  by_cases e:i=j
  ·subst e
   rw[hz]at hx;cases hx;omega
  ·have:=ih i x l[j] (by omega) hx hz
   omega
theorem zxf {X:Type} {key:X→Int} {l:List X} (h:∀i x,l[i]?=some x→zbn l i (fun y=>decide (key x≤key y))=false) {x:X} (hx:x∈l):l.find? (fun y=>key y==key x)=some x:=by
 rcases zbl (fun y=>key y==key x) l with ⟨h1,h2⟩|⟨i,y,h1,h2,h3,h4⟩
 ·rw[List.find?_eq_none]at h2
  exact absurd (beq_self_eq_true _) (h2 x hx)
 ·rw[h4]
  obtain ⟨j,hj⟩:=List.getElem?_of_mem hx
  have e:key y=key x:=by simpa using h3
  by_cases hij:i=j
  ·subst hij;rw[h2]at hj;exact hj
  ·rcases Nat.lt_or_gt_of_ne hij with hlt|hlt
   ·have:=zcp h _ _ _ _ hlt h2 hj;omega
   ·have:=zcp h _ _ _ _ hlt hj h2;omega
theorem zkw {X:Type} {f:Nat→X→Int}:∀{l:List X} {k:Nat},zcd f k l=0→∀i x,l[i]?=some x→f (k+i) x=0:=by
 intro l
 induction l with
 |nil=>intro k _ i x hx;simp at hx
 |cons y l ih=>
  intro k h i x hx
  unfold zcd at h
  by_cases e:f k y=0
  ·rw[e]at h
   simp only[beq_self_eq_true,if_true]at h
   cases i with
   |zero=>simp at hx;subst hx;exact e
   |succ i=>have:=ih h i x (by simpa using hx);rwa [show k+(i+1)=k+1+i by omega]
  ·have:(f k y==0)=false:=by simpa using e
   rw[this]at h
   exact absurd h e
theorem zdo {b:Bool} {n m:Int} (h:(bif b then n else m)=0) (hn:n≠0):b=false:=by
 cases b with
 |false=>rfl
 |true=>exact absurd h hn
theorem zhq {l:List Hold} (h:zdx l=0):zcd (zdc l) 0 l=0:=by
 unfold zdx at h
 rw[zdo h (by decide)]at h
 simp only[cond_false]at h
 by_cases e:zcd (zdc l) 0 l=0
 ·exact e
 ·have h2:(zcd (zdc l) 0 l==0)=false:=by simpa using e
  rw[h2]at h
  exact h
theorem zse {l:List Hold} (h:zdx l=0):∀i x,l[i]?=some x→zbn l i (fun y=>decide (x.ID≤y.ID))=false:=by
 intro i x hx
 have:=zkw (k:=0) (zhq h) i x hx
 rw[Nat.zero_add,zhp]at this
 exact zdo this (by decide)
theorem z2n {l:List Hold} (h:zdx l=0) {x:Hold} (hx:x∈l):zb0 x=0:=by
 obtain ⟨i,hi⟩:=List.getElem?_of_mem hx
 have:=zkw (k:=0) (zhq h) i x hi
 rw[Nat.zero_add,zhp]at this
 rw[zdo this (by decide)]at this
 exact this
theorem zku {a b:Custody}:zbf a b=true↔a=b:=by
 obtain ⟨a1,a2,a3,a4⟩:=a
 obtain ⟨b1,b2,b3,b4⟩:=b
 unfold zbf
 simp[Bool.and_eq_true]
 try (constructor<;>(intro h;simp_all))
end Go.Proofs.YtdahfgialanmpaaGreatDoor
namespace Go.Proofs.YtdahfgialanmpaaGreatDoor
open Ev
open Go (IntKind)
theorem zv4 (c:Circ) (i:Nat) (x:Item):zdy c i x=(!(!(zcy x)||zbn c.Items i (fun y=>decide (x.ID≤y.ID)))&&zc0 c x):=by
 unfold zdy zc0 zcy
 rw[Bool.eq_iff_iff]
 simp only[Bool.and_eq_true,Bool.not_eq_true',Bool.or_eq_false_iff,decide_eq_false_iff_not,Bool.not_eq_false',zcg,decide_eq_true_eq]
 constructor
 ·rintro ⟨⟨h1,h2⟩,h3⟩
  obtain ⟨⟨⟨⟨⟨⟨a1,a2⟩,a3⟩,a4⟩,a5⟩,a6⟩,a7⟩:=h1
  obtain ⟨⟨⟨⟨⟨b1,b2⟩,b3⟩,b4⟩,b5⟩,b6⟩:=h2
  refine ⟨⟨⟨⟨⟨⟨⟨⟨⟨?_,?_⟩,⟨?_,?_⟩⟩,⟨?_,?_⟩⟩,⟨?_,?_⟩⟩,⟨?_,?_⟩⟩,?_⟩,b6⟩,a3⟩,h3⟩<;>omega
 ·rintro ⟨⟨h1,a3⟩,h3⟩
  obtain ⟨⟨⟨⟨⟨⟨⟨a1,a2⟩,⟨a4,a5⟩⟩,⟨a6,a7⟩⟩,⟨a8,a9⟩⟩,⟨b1,b2⟩⟩,b3⟩,b4⟩:=h1
  refine ⟨⟨⟨⟨⟨⟨⟨⟨?_,?_⟩,a3⟩,?_⟩,?_⟩,?_⟩,?_⟩,⟨⟨⟨⟨⟨?_,?_⟩,?_⟩,?_⟩,?_⟩,b4⟩⟩,h3⟩<;>omega
theorem zsl (c:Circ):ze6 c=zix c:=by
 have key:zc3 (zdy c) 0 c.Items=(zc3 (fun i x=>!(!(zcy x)||zbn c.Items i (fun y=>decide (x.ID≤y.ID)))) 0 c.Items&&c.Items.all (zc0 c)):=by
  have gen:∀(l:List Item) (k:Nat),zc3 (zdy c) k l=(zc3 (fun i x=>!(!(zcy x)||zbn c.Items i (fun y=>decide (x.ID≤y.ID)))) k l&&l.all (zc0 c)):=by
   intro l
   induction l with
   |nil=>intro k;rfl
   |cons x l ih=>
    intro k
    simp only[zc3,List.all_cons]
    rw[ih,zv4]
    generalize (!(!(zcy x)||zbn c.Items k (fun y=>decide (x.ID≤y.ID))))=b1
    generalize zc3 (fun i x=>!(!(zcy x)||zbn c.Items i (fun y=>decide (x.ID≤y.ID)))) (k+1) l=b2
    cases b1<;>cases b2<;>cases zc0 c x<;>cases l.all (zc0 c)<;>rfl
  exact gen _ _
 unfold ze6 zix zaaa
 rw[key]
 generalize (!(decide (64<(c.Items.length:Int))||decide (2000<(c.Moves.length:Int))))=b1
 generalize zc3 (fun i x=>!(!(zcy x)||zbn c.Items i (fun y=>decide (x.ID≤y.ID)))) 0 c.Items=b2
 generalize c.Moves.all (fun m=>(c.Items.find? (fun x=>x.ID==m.Item)).isSome)=b3
 cases b1<;>cases b2<;>cases b3<;>cases c.Items.all (zc0 c)<;>rfl
theorem zsn {c:Circ} (h:zix c=true):∀i x,c.Items[i]?=some x→zbn c.Items i (fun y=>decide (x.ID≤y.ID))=false:=by
 intro i x hx
 unfold zix at h
 simp only[Bool.and_eq_true]at h
 have:=(zj3.1 h.2.1) i x hx
 rw[Nat.zero_add]at this
 simp only[Bool.not_eq_true',Bool.or_eq_false_iff]at this
 exact this.2
theorem zsm {c:Circ} (h:zix c=true) {x:Item} (hx:x∈c.Items):zc0 c x=true:=by
 unfold zix at h
 simp only[Bool.and_eq_true,List.all_eq_true]at h
 exact h.2.2.2 x hx
end Go.Proofs.YtdahfgialanmpaaGreatDoor
namespace Go.Proofs.YtdahfgialanmpaaGreatDoor
open Ev
open Go (IntKind)
theorem zcx {X:Type} (l:List X):l.all (fun _=>true)=true:=by rw[List.all_eq_true];intros;rfl
theorem zbg (x:Custody):zbf x x=true:=by simp[zbf]
theorem zp9 (x:Item):zp8 x x=true:=by simp[zp8,zbg]
theorem zkv (x:Patron):zic x x=true:=by simp[zic,zbg]
theorem zqb (x:Loan):zqa x x=true:=by simp[zqa,zbg]
theorem zp7 (x:Hold):zp6 x x=true:=by simp[zp6,zbg]
theorem zkt (x:Charge):zib x x=true:=by simp[zib,zbg]
theorem zqf (x:Rule):zqe x x=true:=by simp[zqe,zbg]
theorem zqd (x:Move):zqc x x=true:=by simp[zqc,zbg]
theorem z3y {c:Circ} (hs:Short c):zab zwr (0,c,c,())=some (.inl (c,c,())):=by
 have h:=zax (step:=zwr) (fun i=>((i:Int),c,c,())) c.Items (fun _ _=>true) (.inr (false,())) (.inl (c,c,())) hs.items
  (by simp only[zwr,dge,cond_false])
  (fun i x hx=>by
   have hi:=(List.getElem?_eq_some_iff.1 hx).1
   have:=hs.items
   simp only[zwr,dlt hi,zai,hx,cond_true,zp9,Bool.not_true,cond_false,zam (show i<9223372036854775807 by omega)])
 rw[show zab zwr (0,c,c,())=_ from h,za3]
 rw[zcx];rfl
theorem zwl {c:Circ} (hs:Short c):zab zl4 (0,c,c,())=some (.inl (c,c,())):=by
 have h:=zax (step:=zl4) (fun i=>((i:Int),c,c,())) c.Patrons (fun _ _=>true) (.inr (false,())) (.inl (c,c,())) hs.patrons
  (by simp only[zl4,dge,cond_false])
  (fun i x hx=>by
   have hi:=(List.getElem?_eq_some_iff.1 hx).1
   have:=hs.patrons
   simp only[zl4,dlt hi,zai,hx,cond_true,zkv,Bool.not_true,cond_false,zam (show i<9223372036854775807 by omega)])
 rw[show zab zl4 (0,c,c,())=_ from h,za3]
 rw[zcx];rfl
theorem zwm {c:Circ} (hs:Short c):zab zl5 (0,c,c,())=some (.inl (c,c,())):=by
 have h:=zax (step:=zl5) (fun i=>((i:Int),c,c,())) c.Loans (fun _ _=>true) (.inr (false,())) (.inl (c,c,())) hs.loans
  (by simp only[zl5,dge,cond_false])
  (fun i x hx=>by
   have hi:=(List.getElem?_eq_some_iff.1 hx).1
   have:=hs.loans
   simp only[zl5,dlt hi,zai,hx,cond_true,zqb,Bool.not_true,cond_false,zam (show i<9223372036854775807 by omega)])
 rw[show zab zl5 (0,c,c,())=_ from h,za3]
 rw[zcx];rfl
theorem zwn {c:Circ} (hs:Short c):zab zl6 (0,c,c,())=some (.inl (c,c,())):=by
 have h:=zax (step:=zl6) (fun i=>((i:Int),c,c,())) c.Holds (fun _ _=>true) (.inr (false,())) (.inl (c,c,())) hs.holds
  (by simp only[zl6,dge,cond_false])
  (fun i x hx=>by
   have hi:=(List.getElem?_eq_some_iff.1 hx).1
   have:=hs.holds
   simp only[zl6,dlt hi,zai,hx,cond_true,zp7,Bool.not_true,cond_false,zam (show i<9223372036854775807 by omega)])
 rw[show zab zl6 (0,c,c,())=_ from h,za3]
 rw[zcx];rfl
theorem zwo {c:Circ} (hs:Short c):zab zl7 (0,c,c,())=some (.inl (c,c,())):=by
 have h:=zax (step:=zl7) (fun i=>((i:Int),c,c,())) c.Charges (fun _ _=>true) (.inr (false,())) (.inl (c,c,())) hs.charges
  (by simp only[zl7,dge,cond_false])
  (fun i x hx=>by
   have hi:=(List.getElem?_eq_some_iff.1 hx).1
   have:=hs.charges
   simp only[zl7,dlt hi,zai,hx,cond_true,zkt,Bool.not_true,cond_false,zam (show i<9223372036854775807 by omega)])
 rw[show zab zl7 (0,c,c,())=_ from h,za3]
 rw[zcx];rfl
theorem zwp {c:Circ} (hs:Short c):zab zl8 (0,c,c,())=some (.inl (c,c,())):=by
 have h:=zax (step:=zl8) (fun i=>((i:Int),c,c,())) c.Rules (fun _ _=>true) (.inr (false,())) (.inl (c,c,())) hs.rules
  (by simp only[zl8,dge,cond_false])
  (fun i x hx=>by
   have hi:=(List.getElem?_eq_some_iff.1 hx).1
   have:=hs.rules
   simp only[zl8,dlt hi,zai,hx,cond_true,zqf,Bool.not_true,cond_false,zam (show i<9223372036854775807 by omega)])
 rw[show zab zl8 (0,c,c,())=_ from h,za3]
 rw[zcx];rfl
theorem zwq {c:Circ} (hs:Short c):zab zl9 (0,c,c,())=some (.inl (c,c,())):=by
 have h:=zax (step:=zl9) (fun i=>((i:Int),c,c,())) c.Moves (fun _ _=>true) (.inr (false,())) (.inl (c,c,())) hs.moves
  (by simp only[zl9,dge,cond_false])
  (fun i x hx=>by
   have hi:=(List.getElem?_eq_some_iff.1 hx).1
   have:=hs.moves
   simp only[zl9,dlt hi,zai,hx,cond_true,zqd,Bool.not_true,cond_false,zam (show i<9223372036854775807 by omega)])
 rw[show zab zl9 (0,c,c,())=_ from h,za3]
 rw[zcx];rfl
theorem zww {c:Circ} (hs:Short c):zab zeg (0,0,c,c,())=some (.inl (0,c,c,())):=by
 have st:∀k:Int,zeg (0,k,c,c,())=(bif decide (k<(c.Cals.x0.Closed.length:Int)) then (match getI c.Cals.x0.Closed k with|some x=>(match getI c.Cals.x0.Closed k with|some y=>(bif !(x==y) then some (.inr (.inr (false,()))) else some (.inl (0,wr .i64 (k+1),c,c,())))|none=>none)|none=>none) else some (.inr (.inl (0,c,c,())))):=fun k=>rfl
 have h:=zax (step:=zeg) (fun k=>(0,(k:Int),c,c,())) c.Cals.x0.Closed (fun _ _=>true) (.inr (false,())) (.inl (0,c,c,())) hs.cal0
  (by rw[st];simp only[dge,cond_false])
  (fun k x hx=>by
   have hi:=(List.getElem?_eq_some_iff.1 hx).1
   have:=hs.cal0
   rw[st]
   simp only[dlt hi,zai,hx,cond_true,beq_self_eq_true,Bool.not_true,cond_false,zam (show k<9223372036854775807 by omega)])
 rw[show zab zeg (0,0,c,c,())=_ from h,za3]
 rw[zcx];rfl
theorem zajr {c:Circ} (hs:Short c):zjk (0,c,c,())=some (.inl (1,c,c,())):=by
 have st:zjk (0,c,c,())=(bif !(c.Cals.x0.Week==c.Cals.x0.Week) then some (.inr (.inr (false,()))) else bif !((c.Cals.x0.Closed.length:Int)==(c.Cals.x0.Closed.length:Int)) then some (.inr (.inr (false,()))) else
  match zab zeg (0,0,c,c,()) with
  |some (.inl (i,a,b,_))=>some (.inl (wr .i64 (i+1),a,b,()))
  |some (.inr (v,_))=>some (.inr (.inr (v,())))
  |none=>none):=by
  show (bif !(c.Cals.x0.Week==c.Cals.x0.Week) then _ else _)=_
  cases (!(c.Cals.x0.Week==c.Cals.x0.Week))<;>rfl
 rw[st,zww hs]
 simp only[beq_self_eq_true,Bool.not_true,cond_false]
 try rfl
theorem zwx {c:Circ} (hs:Short c):zab zeg (1,0,c,c,())=some (.inl (1,c,c,())):=by
 have st:∀k:Int,zeg (1,k,c,c,())=(bif decide (k<(c.Cals.x1.Closed.length:Int)) then (match getI c.Cals.x1.Closed k with|some x=>(match getI c.Cals.x1.Closed k with|some y=>(bif !(x==y) then some (.inr (.inr (false,()))) else some (.inl (1,wr .i64 (k+1),c,c,())))|none=>none)|none=>none) else some (.inr (.inl (1,c,c,())))):=fun k=>rfl
 have h:=zax (step:=zeg) (fun k=>(1,(k:Int),c,c,())) c.Cals.x1.Closed (fun _ _=>true) (.inr (false,())) (.inl (1,c,c,())) hs.cal1
  (by rw[st];simp only[dge,cond_false])
  (fun k x hx=>by
   have hi:=(List.getElem?_eq_some_iff.1 hx).1
   have:=hs.cal1
   rw[st]
   simp only[dlt hi,zai,hx,cond_true,beq_self_eq_true,Bool.not_true,cond_false,zam (show k<9223372036854775807 by omega)])
 rw[show zab zeg (1,0,c,c,())=_ from h,za3]
 rw[zcx];rfl
theorem zajs {c:Circ} (hs:Short c):zjk (1,c,c,())=some (.inl (2,c,c,())):=by
 have st:zjk (1,c,c,())=(bif !(c.Cals.x1.Week==c.Cals.x1.Week) then some (.inr (.inr (false,()))) else bif !((c.Cals.x1.Closed.length:Int)==(c.Cals.x1.Closed.length:Int)) then some (.inr (.inr (false,()))) else
  match zab zeg (1,0,c,c,()) with
  |some (.inl (i,a,b,_))=>some (.inl (wr .i64 (i+1),a,b,()))
  |some (.inr (v,_))=>some (.inr (.inr (v,())))
  |none=>none):=by
  show (bif !(c.Cals.x1.Week==c.Cals.x1.Week) then _ else _)=_
  cases (!(c.Cals.x1.Week==c.Cals.x1.Week))<;>rfl
 rw[st,zwx hs]
 simp only[beq_self_eq_true,Bool.not_true,cond_false]
 try rfl
theorem zwy {c:Circ} (hs:Short c):zab zeg (2,0,c,c,())=some (.inl (2,c,c,())):=by
 have st:∀k:Int,zeg (2,k,c,c,())=(bif decide (k<(c.Cals.x2.Closed.length:Int)) then (match getI c.Cals.x2.Closed k with|some x=>(match getI c.Cals.x2.Closed k with|some y=>(bif !(x==y) then some (.inr (.inr (false,()))) else some (.inl (2,wr .i64 (k+1),c,c,())))|none=>none)|none=>none) else some (.inr (.inl (2,c,c,())))):=fun k=>rfl
 have h:=zax (step:=zeg) (fun k=>(2,(k:Int),c,c,())) c.Cals.x2.Closed (fun _ _=>true) (.inr (false,())) (.inl (2,c,c,())) hs.cal2
  (by rw[st];simp only[dge,cond_false])
  (fun k x hx=>by
   have hi:=(List.getElem?_eq_some_iff.1 hx).1
   have:=hs.cal2
   rw[st]
   simp only[dlt hi,zai,hx,cond_true,beq_self_eq_true,Bool.not_true,cond_false,zam (show k<9223372036854775807 by omega)])
 rw[show zab zeg (2,0,c,c,())=_ from h,za3]
 rw[zcx];rfl
theorem zajt {c:Circ} (hs:Short c):zjk (2,c,c,())=some (.inl (3,c,c,())):=by
 have st:zjk (2,c,c,())=(bif !(c.Cals.x2.Week==c.Cals.x2.Week) then some (.inr (.inr (false,()))) else bif !((c.Cals.x2.Closed.length:Int)==(c.Cals.x2.Closed.length:Int)) then some (.inr (.inr (false,()))) else
  match zab zeg (2,0,c,c,()) with
  |some (.inl (i,a,b,_))=>some (.inl (wr .i64 (i+1),a,b,()))
  |some (.inr (v,_))=>some (.inr (.inr (v,())))
  |none=>none):=by
  show (bif !(c.Cals.x2.Week==c.Cals.x2.Week) then _ else _)=_
  cases (!(c.Cals.x2.Week==c.Cals.x2.Week))<;>rfl
 rw[st,zwy hs]
 simp only[beq_self_eq_true,Bool.not_true,cond_false]
 try rfl
theorem zwz {c:Circ} (hs:Short c):zab zeg (3,0,c,c,())=some (.inl (3,c,c,())):=by
 have st:∀k:Int,zeg (3,k,c,c,())=(bif decide (k<(c.Cals.x3.Closed.length:Int)) then (match getI c.Cals.x3.Closed k with|some x=>(match getI c.Cals.x3.Closed k with|some y=>(bif !(x==y) then some (.inr (.inr (false,()))) else some (.inl (3,wr .i64 (k+1),c,c,())))|none=>none)|none=>none) else some (.inr (.inl (3,c,c,())))):=fun k=>rfl
 have h:=zax (step:=zeg) (fun k=>(3,(k:Int),c,c,())) c.Cals.x3.Closed (fun _ _=>true) (.inr (false,())) (.inl (3,c,c,())) hs.cal3
  (by rw[st];simp only[dge,cond_false])
  (fun k x hx=>by
   have hi:=(List.getElem?_eq_some_iff.1 hx).1
   have:=hs.cal3
   rw[st]
   simp only[dlt hi,zai,hx,cond_true,beq_self_eq_true,Bool.not_true,cond_false,zam (show k<9223372036854775807 by omega)])
 rw[show zab zeg (3,0,c,c,())=_ from h,za3]
 rw[zcx];rfl
theorem zaju {c:Circ} (hs:Short c):zjk (3,c,c,())=some (.inl (4,c,c,())):=by
 have st:zjk (3,c,c,())=(bif !(c.Cals.x3.Week==c.Cals.x3.Week) then some (.inr (.inr (false,()))) else bif !((c.Cals.x3.Closed.length:Int)==(c.Cals.x3.Closed.length:Int)) then some (.inr (.inr (false,()))) else
  match zab zeg (3,0,c,c,()) with
  |some (.inl (i,a,b,_))=>some (.inl (wr .i64 (i+1),a,b,()))
  |some (.inr (v,_))=>some (.inr (.inr (v,())))
  |none=>none):=by
  show (bif !(c.Cals.x3.Week==c.Cals.x3.Week) then _ else _)=_
  cases (!(c.Cals.x3.Week==c.Cals.x3.Week))<;>rfl
 rw[st,zwz hs]
 simp only[beq_self_eq_true,Bool.not_true,cond_false]
 try rfl
theorem zaxv {c:Circ} (hs:Short c):qy c c=some true:=by
 have s4:zjk (4,c,c,())=some (.inr (.inl ())):=rfl
 have h:zab zjk (0,c,c,())=some (.inl ()):=by
  refine zav 5 (by rw[zaz];omega) ?_
  simp only[zau,zajr hs,zajs hs,zajt hs,zaju hs,s4]
 unfold qy
 rw[h]
theorem zaaq {c:Circ} (hs:Short c):qc c c=some true:=by
 unfold qc
 simp -zeta only[k_or,beq_self_eq_true,Bool.not_true,Bool.or_false]
 dsimp only
 simp only[z3y hs,zwl hs,zwm hs,zwn hs,zwo hs,zwp hs,zwq hs,zaxv hs,Bool.or_false,cond_false]
end Go.Proofs.YtdahfgialanmpaaGreatDoor
namespace Go.Proofs.YtdahfgialanmpaaGreatDoor
open Ev
open Go (IntKind)
theorem zgt {n m:Nat} (h:n+m≤1000000100):decide (n+m≤LIM)=true:=by rw[decide_eq_true_eq];unfold LIM;omega
theorem zjm {X:Type} {s:List X} (h:s.length<1000000000):decide (([]:List X).length+s.length≤LIM)=true:=zgt (by simp;omega)
def zbp:Circ:=⟨0,[],[],[],[],[],[],⟨⟨0,[]⟩,⟨0,[]⟩,⟨0,[]⟩,⟨0,[]⟩⟩,[],0,0,false⟩
theorem ziy:Short zbp:=by
 constructor<;>first|(show (0:Nat)<_;decide)|(intro x hx;cases hx)
end Go.Proofs.YtdahfgialanmpaaGreatDoor
namespace Go.Proofs.YtdahfgialanmpaaGreatDoor
open Ev
open Go (IntKind)
def ChOk (x:Charge):Prop:=0≤x.Paid∧x.Paid<x.Amount∧x.Amount≤100000000
theorem z1z {l:List Charge} (h:zdb l=0):l.length≤128∧∀x∈l,ChOk x:=by
 unfold zdb at h
 rw[Bool.cond_eq_ite]at h
 split at h
 ·omega
 ·rename_i hlen
  simp only[decide_eq_true_eq]at hlen
  refine ⟨by omega,fun x hx=>?_⟩
  obtain ⟨i,hi⟩:=List.getElem?_of_mem hx
  have:=z2f.1 h i x hi
  unfold zd7 at this
  simp only[Bool.cond_eq_ite]at this
  split at this
  ·omega
  ·split at this
   ·omega
   ·split at this
    ·omega
    ·split at this
     ·omega
     ·rename_i h4
      simp only[Bool.or_eq_true,decide_eq_true_eq,not_or]at h4
      unfold ChOk
      omega
def owed (p:Int):List Charge→Int
 | []=>0
 |x::l=>(bif x.Patron==p then x.Amount-x.Paid else 0)+owed p l
def payS (p:Int):List Charge→Int→List Charge×Int
 | [],r=>([],r)
 |x::l,r=>
  bif x.Patron==p then
   (bif decide (x.Paid+(if x.Amount-x.Paid<r then x.Amount-x.Paid else r)<x.Amount) then
    ({x with Paid:=x.Paid+(if x.Amount-x.Paid<r then x.Amount-x.Paid else r)}::(payS p l (r-(if x.Amount-x.Paid<r then x.Amount-x.Paid else r))).1,(payS p l (r-(if x.Amount-x.Paid<r then x.Amount-x.Paid else r))).2)
   else payS p l (r-(if x.Amount-x.Paid<r then x.Amount-x.Paid else r)))
  else (x::(payS p l r).1,(payS p l r).2)
theorem za47 {l:List Charge} {p r:Int} (hl:l.length≤1000) (hc:∀x∈l,ChOk x):qbk l p r=some (bif decide (r<1)||decide (100000000<r) then ([],0,1) else ((payS p l r).1,(payS p l r).2,0)):=by
 unfold qbk
 simp -zeta only[k_or]
 dsimp only
 cases hb:(decide (r<1)||decide (100000000<r)) with
 |true=>rfl
 |false=>
  simp only[Bool.or_eq_false_iff,decide_eq_false_iff_not]at hb
  simp only[cond_false]
  have key:∀(k i:Nat) (r:Int) (out:List Charge),i+k=l.length→0≤r→r≤100000000→out.length≤i→
   zau zi1 (k+1) (p,r,l,(l.length:Int),(i:Int),out,())=some ((payS p (l.drop i) r).2,out++(payS p (l.drop i) r).1,()):=by
   intro k
   induction k with
   |zero=>
    intro i r out hi h0 h1 h2
    have:i=l.length:=by omega
    subst this
    rw[List.drop_length]
    simp only[zau,zi1,dge,cond_false,payS,List.append_nil]
   |succ k ih=>
    intro i r out hi h0 h1 h2
    have hlt:i<l.length:=by omega
    have hx:l[i]?=some l[i]:=List.getElem?_eq_getElem hlt
    have hok:=hc l[i] (List.getElem_mem hlt)
    rw[List.drop_eq_getElem_cons hlt]
    generalize l[i]=x at hx hok ⊢
    unfold ChOk at hok
    have hw:wr .i64 (x.Amount-x.Paid)=x.Amount-x.Paid:=zds (by omega) (by omega)
    obtain ⟨n,hn⟩:∃n,(if x.Amount-x.Paid<r then x.Amount-x.Paid else r)=n:=⟨_,rfl⟩
    have hn0:0≤n∧n≤r∧n≤x.Amount-x.Paid:=by rw[←hn];split<;>omega
    have hlim:∀y:Charge,decide (out.length+([y]:List Charge).length≤LIM)=true:=fun y=>by rw[z4s,decide_eq_true_eq];simp;omega
    rw[zau]
    simp only[zi1,dlt hlt,zai,hx,cond_true,hw,payS,zam (show i<9223372036854775807 by omega),hn]
    cases x.Patron==p with
    |true=>
     simp only[cond_true]
     rw[zds (n:=r-n) (by omega) (by omega),zds (n:=x.Paid+n) (by omega) (by omega)]
     cases decide (x.Paid+n<x.Amount) with
     |true=>
      simp only[cond_true,hlim]
      rw[ih (i+1) _ _ (by omega) (by omega) (by omega) (by simp;omega)]
      simp
     |false=>
      simp only[cond_false]
      rw[ih (i+1) _ _ (by omega) (by omega) (by omega) (by omega)]
    |false=>
     have hd:decide (x.Paid<x.Amount)=true:=by rw[decide_eq_true_eq];omega
     simp only[cond_false,hd,cond_true,hlim]
     rw[ih (i+1) _ _ (by omega) h0 h1 (by simp;omega)]
     simp
  have:=key l.length 0 r [] (by omega) (by omega) (by omega) (by simp)
  rw[show ((0:Int))=((0:Nat):Int) from rfl,zav (l.length+1) (by rw[zaz];omega) this]
  simp
end Go.Proofs.YtdahfgialanmpaaGreatDoor
namespace Go.Proofs.YtdahfgialanmpaaGreatDoor
open Ev
open Go (IntKind)
end Go.Proofs.YtdahfgialanmpaaGreatDoor
namespace Go.Proofs.YtdahfgialanmpaaGreatDoor
open Ev
open Go (IntKind)
def zdi (r:Rule):Int:=(bif !(r.Patron==0) then 4 else 0)+((bif !(r.Item==0) then 2 else 0)+(bif !(r.Branch==0) then 1 else 0))
theorem za5e (r:Rule):qe8 r=some (zdi r):=by
 unfold qe8 zdi
 cases r.Patron==0<;>cases r.Item==0<;>cases r.Branch==0<;>rfl
theorem za48 (r:Rule):qbn r=some (zdi r):=by
 unfold qbn
 have st:∀(a b c n:Int),(∀(m:Int),zi2 (m,3,0,[a,b,c],())=some (.inl (bif !(a==0) then wr .i64 ((wr .i64 (m*2))+1) else wr .i64 (m*2),3,1,[a,b,c],())))∧
  (∀(m:Int),zi2 (m,3,1,[a,b,c],())=some (.inl (bif !(b==0) then wr .i64 ((wr .i64 (m*2))+1) else wr .i64 (m*2),3,2,[a,b,c],())))∧
  (∀(m:Int),zi2 (m,3,2,[a,b,c],())=some (.inl (bif !(c==0) then wr .i64 ((wr .i64 (m*2))+1) else wr .i64 (m*2),3,3,[a,b,c],()))):=fun a b c n=>
  ⟨fun m=>by show (bif !(a==0) then _ else _)=_;cases a==0<;>rfl,fun m=>by show (bif !(b==0) then _ else _)=_;cases b==0<;>rfl,fun m=>by show (bif !(c==0) then _ else _)=_;cases c==0<;>rfl⟩
 obtain ⟨s0,s1,s2⟩:=st r.Patron r.Item r.Branch 0
 have s3:∀m:Int,zi2 (m,3,3,[r.Patron,r.Item,r.Branch],())=some (.inr (m,())):=fun m=>rfl
 have h:zab zi2 (0,(([r.Patron,r.Item,r.Branch]).length:Int),0,[r.Patron,r.Item,r.Branch],())=some (zdi r,()):=by
  refine zav 4 (by rw[zaz];omega) ?_
  show zau zi2 4 (0,3,0,[r.Patron,r.Item,r.Branch],())=_
  simp only[zau,s0,s1,s2,s3]
  unfold zdi
  cases r.Patron==0<;>cases r.Item==0<;>cases r.Branch==0<;>rfl
 rw[h]
def zm7 (r:Rule) (p i b:Int):Bool:=(r.Patron==0||r.Patron==p)&&(r.Item==0||r.Item==i)&&(r.Branch==0||r.Branch==b)
theorem zao1 (r:Rule) (p i b:Int):qfq r p i b=some (zm7 r p i b):=by
 unfold qfq zm7
 simp -zeta only[k_or,zbc]
 try rfl
theorem za5d (a b:Int):qe2 a b=some (a==0||a==b):=by
 unfold qe2
 cases a==0<;>rfl
theorem zaoq (r:Rule) (p i b:Int):qch r p i b=some (zm7 r p i b):=by
 unfold qch zm7
 simp -zeta only[za5d,k_or,zbc]
 try dsimp only
def wB (l:List Rule) (b:Int):Int:=match getI l b with|some y=>zdi y|none=>0
def zrk (l:List Rule) (p it br:Int) (i:Nat) (x:Rule) (b:Int):Int:=bif zm7 x p it br&&(decide (b<0)||decide (wB l b<zdi x)) then (i:Int) else b
def zaep (l:List Rule) (p it br:Int):Int:=zc1 (fun i x b=>.inl (zrk l p it br i x b)) (fun b=>b) 0 l (-1)
def zfs (l:List Rule) (b:Int):Prop:=b<0∨∃k:Nat,b=(k:Int)∧k<l.length
theorem zrl {l:List Rule} {b:Int} (h:zfs l b) (hb:decide (b<0)=false):∃y,getI l b=some y∧wB l b=zdi y:=by
 rcases h with h|⟨k,rfl,hk⟩
 ·rw[decide_eq_false_iff_not]at hb;omega
 ·have:getI l (k:Int)=some l[k]:=by rw[zai,List.getElem?_eq_getElem hk]
  exact ⟨_,this,by unfold wB;rw[this]⟩
theorem zj9 {l:List Rule} {p it br:Int} {i:Nat} {x:Rule} {b:Int} (h:zfs l b) (hi:i<l.length):zfs l (zrk l p it br i x b):=by
 unfold zrk
 cases zm7 x p it br&&(decide (b<0)||decide (wB l b<zdi x)) with
 |true=>exact .inr ⟨i,rfl,hi⟩
 |false=>exact h
theorem zus {X σ β γ:Type} {f:Nat→X→σ→σ} {g:σ→β} (k:β→γ):∀{l:List X} {i:Nat} {s:σ},k (zc1 (fun i x s=>.inl (f i x s)) g i l s)=zc1 (fun i x s=>.inl (f i x s)) (fun s=>k (g s)) i l s:=by
 intro l
 induction l with
 |nil=>intros;rfl
 |cons x l ih=>intro i s;simp only[zc1];exact ih
theorem za4o {l:List Rule} {p it br:Int} (hl:l.length<1000000000):qa0 l p it br=some (zaep l p it br):=by
 have h:=zbk (step:=zlu) (fun (i:Nat) (b:Int)=>zfs l b) (fun i b=>(l,p,it,br,b,l,(l.length:Int),(i:Int),())) l
  (fun i x b=>.inl (zrk l p it br i x b)) (fun b=>(b,())) (by rw[zaz];omega)
  (fun b _=>by simp only[zlu,dge,cond_false])
  (fun i x b hx hi=>by
   have hlt:=(List.getElem?_eq_some_iff.1 hx).1
   refine ⟨?_,fun s' hs'=>by cases hs';exact zj9 hi hlt⟩
   unfold zrk
   cases hb:decide (b<0) with
   |true=>
    simp only[zlu,dlt hlt,zai,hx,cond_true,zaoq,hb,zam (show i<9223372036854775807 by omega)]
    cases zm7 x p it br<;>rfl
   |false=>
    obtain ⟨y,h1,h2⟩:=zrl hi hb
    simp only[zlu,dlt hlt,zai,hx,cond_true,cond_false,zaoq,za48,h1,h2,hb,zam (show i<9223372036854775807 by omega)]
    cases zm7 x p it br<;>cases decide (zdi y<zdi x)<;>rfl) (-1) (.inl (by omega))
 unfold qa0
 rw[show zab zlu (l,p,it,br,(-1),l,(l.length:Int),0,())=_ from h,←zus (g:=fun b=>b) (fun b:Int=>(b,()))]
 try rfl
theorem zaoe {l:List Rule} {p it br:Int} (hl:l.length<1000000000):qb3 l p it br=some (zaep l p it br):=by
 have h:=zbk (step:=zl2) (fun (i:Nat) (b:Int)=>zfs l b) (fun i b=>(l,p,it,br,b,(i:Int),())) l
  (fun i x b=>.inl (zrk l p it br i x b)) (fun b=>(b,())) (by rw[zaz];omega)
  (fun b _=>by simp only[zl2,dge,cond_false])
  (fun i x b hx hi=>by
   have hlt:=(List.getElem?_eq_some_iff.1 hx).1
   refine ⟨?_,fun s' hs'=>by cases hs';exact zj9 hi hlt⟩
   unfold zrk
   cases hb:decide (b<0) with
   |true=>
    simp only[zl2,dlt hlt,zai,hx,cond_true,zao1,hb,zam (show i<9223372036854775807 by omega)]
    cases zm7 x p it br<;>rfl
   |false=>
    obtain ⟨y,h1,h2⟩:=zrl hi hb
    simp only[zl2,dlt hlt,zai,hx,cond_true,cond_false,zao1,za5e,h1,h2,hb,zam (show i<9223372036854775807 by omega)]
    cases zm7 x p it br<;>cases decide (zdi y<zdi x)<;>rfl) (-1) (.inl (by omega))
 unfold qb3
 rw[show zab zl2 (l,p,it,br,(-1),0,())=_ from h,←zus (g:=fun b=>b) (fun b:Int=>(b,()))]
 try rfl
theorem zaxr {l:List Rule} {p it br:Int} (hl:l.length<1000000000):qdp l p it br=qf7 l p it br:=by
 unfold qdp qf7
 rw[za4o hl,zaoe hl]
 try rfl
theorem zaxo {c:Circ} {p:Int} {x:Item} (hs:Short c):qci c p x=qf6 c p x:=by
 unfold qci qf6
 rw[zaos hs.patrons,zi3 hs.patrons]
 dsimp only
 rw[zaxr hs.rules]
 try rfl
def calS (c:Circ) (b:Int):Calendar:=bif b==1 then c.Cals.x0 else bif b==2 then c.Cals.x1 else bif b==3 then c.Cals.x2 else c.Cals.x3
theorem znv {n:Int} (h:rng 1 4 n=true):n=1∨n=2∨n=3∨n=4:=by
 have:=zcg.1 h;omega
theorem za69 {c:Circ} {b:Int} (h:rng 1 4 b=true):qp c b=some (calS c b):=by
 rcases znv h with h|h|h|h<;>subst h<;>rfl
theorem zaou {c:Circ} {b:Int} (h:rng 1 4 b=true):qct c b=some (calS c b):=by
 rcases znv h with h|h|h|h<;>subst h<;>rfl
end Go.Proofs.YtdahfgialanmpaaGreatDoor
namespace Go.Proofs.YtdahfgialanmpaaGreatDoor
open Ev
open Go (IntKind)
def zf6 (week:Int) (i:Nat):Bool:=(wr .i64 (BitVec.ofInt 64 (week.fdiv (2 ^ (min i 64))) &&& BitVec.ofInt 64 1).toNat)==0
theorem za43 (c:Calendar):qaz c=some ⟨zf6 c.Week 0,zf6 c.Week 1,zf6 c.Week 2,zf6 c.Week 3,zf6 c.Week 4,zf6 c.Week 5,zf6 c.Week 6⟩:=by
 have h:zab zaao (0,c,(⟨false,false,false,false,false,false,false⟩:V7 Bool),(⟨false,false,false,false,false,false,false⟩:V7 Bool),())=some ((⟨false,false,false,false,false,false,false⟩:V7 Bool),(⟨zf6 c.Week 0,zf6 c.Week 1,zf6 c.Week 2,zf6 c.Week 3,zf6 c.Week 4,zf6 c.Week 5,zf6 c.Week 6⟩:V7 Bool),()):=by
  refine zav 8 (by rw[zaz];omega) ?_
  try rfl
 unfold qaz
 rw[h]
def bitW:Int→Nat→Int
 |n,0=>n
 |n,k+1=>bitW (wr .i64 (n.tdiv 2)) k
theorem z3u {day n:Int} {c:Calendar}:∀(k:Nat) (i:Nat) (n:Int),i+k<100→zau zoi (k+1) (day,n,((i+k:Nat):Int),(i:Int),c,())=some (day,bitW n k,c,()):=by
 intro k
 induction k with
 |zero=>
  intro i n hi
  have:decide ((i:Int)<((i+0:Nat):Int))=false:=by rw[decide_eq_false_iff_not];omega
  simp only[zau,zoi,this,cond_false,bitW]
 |succ k ih=>
  intro i n hi
  have:decide ((i:Int)<((i+(k+1):Nat):Int))=true:=by rw[decide_eq_true_eq];omega
  rw[zau]
  simp only[zoi,this,cond_true,zam (show i<9223372036854775807 by omega),bitW]
  have:=ih (i+1) (wr .i64 (n.tdiv 2)) (by omega)
  rw[show i+1+k=i+(k+1) by omega]at this
  exact this
theorem z4q:((List.range 127).all fun n=>(List.range 7).all fun w=>zf6 (n:Int) w==!((bitW (n:Int) w).tmod 2==1))=true:=by kernel_rfl
theorem zaea {week:Int} {w:Nat} (h1:0≤week) (h2:week≤126) (hw:w<7):zf6 week w=!((bitW week w).tmod 2==1):=by
 obtain ⟨n,rfl⟩:∃n:Nat,week=(n:Int):=⟨week.toNat,by omega⟩
 have h:=z4q
 rw[List.all_eq_true]at h
 have h3:=h n (List.mem_range.2 (by omega))
 rw[List.all_eq_true]at h3
 have h4:=h3 w (List.mem_range.2 hw)
 simpa using h4
def lbS (t:Int) (l:List Int):Nat:=(l.takeWhile (fun x=>decide (x<t))).length
theorem za62 {t:Int} {l:List Int}:lbS t l≤l.length:=by
 unfold lbS
 have:=(List.takeWhile_prefix (fun x=>decide (x<t)) (l:=l)).length_le
 exact this
theorem zso {t:Int}:∀{l:List Int} {k:Nat} {x:Int},k<lbS t l→l[k]?=some x→x<t:=by
 intro l
 induction l with
 |nil=>intro k x h;simp[lbS]at h
 |cons y l ih=>
  intro k x h hx
  unfold lbS at h ih
  rw[List.takeWhile_cons]at h
  by_cases hy:y<t
  ·simp only[hy,decide_true,if_true,List.length_cons]at h
   cases k with
   |zero=>simp at hx;omega
   |succ k=>exact ih (k:=k) (by omega) (by simpa using hx)
  ·simp[hy]at h
theorem za4j {t:Int}:∀{l:List Int} {x:Int},l[lbS t l]?=some x→¬x<t:=by
 intro l
 induction l with
 |nil=>intro x h;simp[lbS]at h
 |cons y l ih=>
  intro x hx
  unfold lbS at hx ih
  rw[List.takeWhile_cons]at hx
  by_cases hy:y<t
  ·simp only[hy,decide_true,if_true,List.length_cons,List.getElem?_cons_succ]at hx
   exact ih hx
  ·simp[hy]at hx;omega
theorem zan1 {t:Int} {l:List Int} (hsort:∀(j i:Nat) (x y:Int),i<j→l[i]?=some x→l[j]?=some y→x<y) {k:Nat} {x:Int} (hx:l[k]?=some x):decide (x<t)=decide (k<lbS t l):=by
 rw[decide_eq_decide]
 constructor
 ·intro h
  by_cases hk:k<lbS t l
  ·exact hk
  ·exfalso
   have hlt:lbS t l<l.length:=by have:=(List.getElem?_eq_some_iff.1 hx).1;omega
   have hz:l[lbS t l]?=some l[lbS t l]:=List.getElem?_eq_getElem hlt
   have:=za4j hz
   by_cases e:lbS t l=k
   ·subst e
    rw[hz]at hx;cases hx;exact this h
   ·have:=hsort k (lbS t l) _ _ (by omega) hz hx;omega
 ·intro h;exact zso h hx
theorem za4l {i j:Nat} (h:i+j<2000000000):wr .i64 ((wr .u64 (wr .i64 ((i:Int)+(j:Int)))).fdiv (2 ^ 1))=(((i+j) / 2:Nat):Int):=by
 rw[zds (n:=(i:Int)+(j:Int)) (by omega) (by omega)]
 have:wr .u64 ((i:Int)+(j:Int))=(i:Int)+(j:Int):=by
  unfold wr;simp[IntKind.wrap,IntKind.bits,IntKind.signed];omega
 rw[this,Int.fdiv_eq_ediv_of_nonneg _ (by omega)]
 have e:((i:Int)+(j:Int)) / 2 ^ 1=(((i+j) / 2:Nat):Int):=by omega
 rw[e,zds (by omega) (by omega)]
theorem za5l (x y:Int):qfk x y=some (decide (x<y)):=by
 have e:∀z:Int,qfi z=some false:=fun z=>by unfold qfi;simp
 unfold qfk
 rw[e]
 try rfl
theorem z4g {l:List Int} {t:Int} (hl:l.length<1000000000) (hsort:∀(j i:Nat) (x y:Int),i<j→l[i]?=some x→l[j]?=some y→x<y) :
 zab zof (l,t,(l.length:Int),0,(l.length:Int),())=some (l,t,(l.length:Int),(lbS t l:Int),()):=by
 refine zaeb (step:=zof) (fun a=>∃i j:Nat,a=(l,t,(l.length:Int),(i:Int),(j:Int),())∧i≤lbS t l∧lbS t l≤j∧j≤l.length) (fun a=>(a.2.2.2.2.1-a.2.2.2.1).toNat) (fun _=>(l,t,(l.length:Int),(lbS t l:Int),())) ?_ ⟨0,l.length,rfl,by omega,za62,by omega⟩ (by rw[zaz];show ((l.length:Int)-0).toNat<_;omega)
 rintro a ⟨i,j,rfl,h1,h2,h3⟩
 by_cases hij:i<j
 ·left
  have d:decide ((i:Int)<(j:Int))=true:=by rw[decide_eq_true_eq];omega
  have hm:(i+j) / 2<l.length:=by omega
  have hx:l[(i+j) / 2]?=some l[(i+j) / 2]:=List.getElem?_eq_getElem hm
  have hlb:=zan1 (t:=t) hsort hx
  simp only[zof,d,cond_true,za4l (show i+j<2000000000 by omega),zai,hx,za5l,hlb]
  by_cases hk:(i+j) / 2<lbS t l
  ·rw[show decide ((i+j) / 2<lbS t l)=true by rw[decide_eq_true_eq];exact hk]
   simp only[cond_true,zam (show (i+j) / 2<9223372036854775807 by omega)]
   exact ⟨_,rfl,⟨(i+j) / 2+1,j,rfl,by omega,h2,h3⟩,by simp only;omega,trivial⟩
  ·rw[show decide ((i+j) / 2<lbS t l)=false by rw[decide_eq_false_iff_not];exact hk]
   simp only[cond_false]
   exact ⟨_,rfl,⟨i,(i+j) / 2,rfl,h1,by omega,by omega⟩,by simp only;omega,trivial⟩
 ·right
  have d:decide ((i:Int)<(j:Int))=false:=by rw[decide_eq_false_iff_not];omega
  have hi:i=lbS t l:=by omega
  subst hi
  simp only[zof,d,cond_false]
theorem zaba {l:List Int} {t:Int} (hl:l.length<1000000000) (hsort:∀(j i:Nat) (x y:Int),i<j→l[i]?=some x→l[j]?=some y→x<y) :
 qa3 l t=some ((lbS t l:Int),l.any (fun x=>x==t)):=by
 unfold qa3
 rw[z4g hl hsort]
 by_cases hk:lbS t l<l.length
 ·have d:decide ((lbS t l:Int)<(l.length:Int))=true:=by rw[decide_eq_true_eq];omega
  have hx:l[lbS t l]?=some l[lbS t l]:=List.getElem?_eq_getElem hk
  have hn:qez l[lbS t l]=some false:=by unfold qez;simp
  simp only[d,cond_true,zai,hx,hn,cond_false]
  have e:(l[lbS t l]==t)=l.any (fun x=>x==t):=by
   rw[Bool.eq_iff_iff,List.any_eq_true]
   constructor
   ·intro h;exact ⟨_,List.getElem_mem hk,h⟩
   ·rintro ⟨x,hm,he⟩
    have he':x=t:=by simpa using he
    obtain ⟨i,hi⟩:=List.getElem?_of_mem hm
    have h1:=zan1 (t:=t) hsort hi
    have h2:=za4j hx
    rw[decide_eq_decide]at h1
    by_cases e:i=lbS t l
    ·rw[e,hx]at hi;cases hi;exact he
    ·have:lbS t l<i:=by omega
     have:=hsort _ _ _ _ this hx hi
     omega
  rw[←e]
  cases l[lbS t l]==t<;>rfl
 ·have d:decide ((lbS t l:Int)<(l.length:Int))=false:=by rw[decide_eq_false_iff_not];omega
  have e:l.any (fun x=>x==t)=false:=by
   rw[List.any_eq_false]
   intro x hm he
   have he':x=t:=by simpa using he
   obtain ⟨i,hi⟩:=List.getElem?_of_mem hm
   have:=(List.getElem?_eq_some_iff.1 hi).1
   have:=zso (t:=t) (show i<lbS t l by omega) hi
   omega
  simp only[d,cond_false,e]
end Go.Proofs.YtdahfgialanmpaaGreatDoor
namespace Go.Proofs.YtdahfgialanmpaaGreatDoor
open Ev
open Go (IntKind)
theorem zv0 {l:List Int} (h:incr l=true):∀(j i:Nat) (x y:Int),i<j→l[i]?=some x→l[j]?=some y→x<y:=by
 have h2:∀i x,l[i]?=some x→zbn l i (fun y=>decide (x≤y))=false:=by
  intro i x hx
  have:=(zj3.1 h) i x hx
  rw[Nat.zero_add]at this
  simpa using this
 exact zcp (key:=fun x:Int=>x) h2
structure CalOk (c:Calendar):Prop where
 w1:0≤c.Week
 w2:c.Week≤126
 len:c.Closed.length<1000000000
 inc:incr c.Closed=true
theorem zaes {c:Calendar} (h:(zcl c==0)=true):CalOk c:=by
 have h:zcl c=0:=by simpa using h
 unfold zcl at h
 have h1:=zdo h (by decide)
 rw[h1]at h
 simp only[cond_false]at h
 have h2:=zdo h (by decide)
 rw[h2]at h
 simp only[cond_false]at h
 simp only[Bool.or_eq_false_iff,decide_eq_false_iff_not]at h1 h2
 cases h3:c.Closed.all (fun x=>!(decide (x<0)||decide (109572<x))) with
 |false=>rw[h3]at h;cases h
 |true=>
  rw[h3]at h
  cases h4:incr c.Closed with
  |false=>rw[h4]at h;cases h
  |true=>exact ⟨by omega,by omega,by omega,h4⟩
def z3e (c:Calendar) (d:Int):Bool:=rng 0 109572 d&&(!(c.Closed.any (fun x=>x==d))&&zf6 c.Week (d.tmod 7).toNat)
theorem za6p {d:Int} (h:0≤d):0≤d.tmod 7∧d.tmod 7<7:=by
 rw[Int.tmod_eq_emod_of_nonneg h];omega
theorem zaor {c:Calendar} (hc:CalOk c) (d:Int):qcn c d=some (z3e c d):=by
 unfold qcn z3e
 rw[zaoy]
 dsimp only
 cases hr:rng 0 109572 d with
 |false=>rfl
 |true=>
  simp -zeta only[Bool.not_true,cond_false,Bool.true_and]
  rw[zaba hc.len (zv0 hc.inc)]
  dsimp only
  cases c.Closed.any (fun x=>x==d) with
  |true=>rfl
  |false=>
   have hk:qdn d=some (d.tmod 7):=by
    have e:qf2 d=some (rng 0 109572 d):=by
     unfold qf2
     simp -zeta only[zbc]
     try rfl
    unfold qdn
    rw[e,hr]
    try rfl
   simp only[Bool.not_false,cond_true,za43,hk,Bool.true_and]
   obtain ⟨h1,h2⟩:=za6p (zcg.1 hr).1
   generalize d.tmod 7=w at h1 h2
   have:w=0∨w=1∨w=2∨w=3∨w=4∨w=5∨w=6:=by omega
   rcases this with h|h|h|h|h|h|h<;>subst h<;>rfl
theorem zwi {c:Calendar} {d:Int} (hl:c.Closed.length<1000000000):zab zg6 (d,0,c,())=some (bif c.Closed.all (fun x=>!(x==d)) then .inl () else .inr (false,())):=by
 have h:=zax (step:=zg6) (fun i=>(d,(i:Int),c,())) c.Closed (fun _ x=>!(x==d)) (.inr (false,())) (.inl ()) hl
  (by simp only[zg6,dge,cond_false])
  (fun i x hx=>by
   have hi:=(List.getElem?_eq_some_iff.1 hx).1
   simp only[zg6,dlt hi,zai,hx,cond_true,zam (show i<9223372036854775807 by omega)]
   cases x==d<;>rfl)
 rw[show zab zg6 (d,0,c,())=_ from h,za3]
theorem zan6 {c:Calendar} (hc:CalOk c) (d:Int):qah c d=some (z3e c d):=by
 unfold qah z3e
 simp -zeta only[k_or]
 dsimp only
 rw[←zwe]
 cases hr:rng 0 109572 d with
 |false=>rfl
 |true=>
  have hk:qfl d=some (d.tmod 7):=by
   have e:qga d=some (rng 0 109572 d):=by
    unfold qga
    simp -zeta only[zbc]
    try rfl
   unfold qfl
   rw[e,hr]
   try rfl
  simp only[Bool.not_true,cond_false,Bool.true_and,hk]
  obtain ⟨h1,h2⟩:=za6p (zcg.1 hr).1
  generalize d.tmod 7=w at h1 h2
  obtain ⟨n,rfl⟩:∃n:Nat,w=(n:Int):=⟨w.toNat,by omega⟩
  have hn:n<7:=by omega
  have hw:zab zoi (d,c.Week,(n:Int),0,c,())=some (d,bitW c.Week n,c,()):=by
   have:=z3u (day:=d) (n:=0) (c:=c) n 0 c.Week (by omega)
   rw[Nat.zero_add]at this
   exact zav (n+1) (by rw[zaz];omega) this
  simp only[hw,Int.toNat_natCast,zaea hc.w1 hc.w2 hn,zwi hc.len]
  cases (bitW c.Week n).tmod 2==1 with
  |true=>simp
  |false=>
   simp only[cond_false,Bool.not_false,Bool.and_true,zaqe,Bool.not_not]
   cases c.Closed.all (fun x=>!(x==d))<;>rfl
theorem zu4 {α β:Type} {s1 s2:α→Option (α⊕β)} (Inv:α→Prop) (h:∀a,Inv a→s1 a=s2 a) (hi:∀a b,Inv a→s1 a=some (.inl b)→Inv b) {a:α} (ha:Inv a):zab s1 a=zab s2 a:=by
 have key:∀n a,Inv a→zau s1 n a=zau s2 n a:=by
  intro n
  induction n with
  |zero=>intro a _;rfl
  |succ n ih=>
   intro a ha
   simp only[zau]
   rw[←h a ha]
   cases hs:s1 a with
   |none=>rfl
   |some x=>
    cases x with
    |inl b=>exact ih b (hi a b ha hs)
    |inr b=>rfl
 exact key FUEL a ha
theorem zaak {c:Calendar} (hc:CalOk c) (d:Int):qa6 c d=qbq c d:=by
 have h:∀d0:Int,zab zuh (d0,c,())=zab zot (d0,c,()):=fun d0=>by
  refine zu4 (fun a=>a.2.1=c) ?_ ?_ rfl
  ·rintro ⟨d,c',_⟩ (rfl:c'=c)
   simp only[zuh,zot,zaor hc,zan6 hc]
  ·rintro ⟨d,c',_⟩ b (rfl:c'=c) hb
   simp only[zuh,zaor hc]at hb
   cases hq:decide (d≤109572) with
   |false=>rw[hq]at hb;cases hb
   |true=>
    rw[hq]at hb
    simp only[cond_true]at hb
    cases ho:z3e c' d with
    |true=>rw[ho]at hb;cases hb
    |false=>rw[ho]at hb;cases hb;rfl
 unfold qa6 qbq
 rw[h]
 try rfl
end Go.Proofs.YtdahfgialanmpaaGreatDoor
namespace Go.Proofs.YtdahfgialanmpaaGreatDoor
open Ev
open Go (IntKind)
end Go.Proofs.YtdahfgialanmpaaGreatDoor
namespace Go.Proofs.YtdahfgialanmpaaGreatDoor
open Ev
open Go (IntKind)
end Go.Proofs.YtdahfgialanmpaaGreatDoor
namespace Go.Proofs.YtdahfgialanmpaaGreatDoor
open Ev
open Go (IntKind)
structure FitP (c:Circ):Prop where
 charges:zdb c.Charges=0
 loans:zhv c.Loans=0
 holds:zdx c.Holds=0
 rules:zgk c.Rules=0
 patrons:ze9 c.Patrons=0
 cal0:CalOk c.Cals.x0
 cal1:CalOk c.Cals.x1
 cal2:CalOk c.Cals.x2
 cal3:CalOk c.Cals.x3
 items:zix c=true
 loanG:∀n∈c.Loans,zhu c n=true
 itemG:∀x∈c.Items,(zvz c.Loans x.ID).2=zuk x.Custody
 holdG:∀h∈c.Holds,zgi c h=true
 readyG:∀x∈c.Items,zgb c x=true
 nums:zqv c=true
theorem fitP {c:Circ} (h:zo0 c=true):FitP c:=by
 unfold zo0 at h
 rw[zsl]at h
 simp only[Bool.and_eq_true]at h
 obtain ⟨h1,h2,h3,h4,h5,h6,h7⟩:=h
 unfold zk5 at h2
 simp only[Bool.not_eq_true',Bool.or_eq_false_iff,Bool.not_eq_false',beq_iff_eq]at h2
 unfold zhi at h3
 simp only[Bool.and_eq_true]at h3
 unfold zf4 at h6
 unfold zf2 at h7
 simp only[Bool.and_eq_true,List.all_eq_true,beq_iff_eq]at h6 h7
 exact ⟨h2.1.2,h2.1.1.1.2,h2.1.1.2,h2.2,h2.1.1.1.1,zaes h3.1,zaes h3.2.1,zaes h3.2.2.1,zaes h3.2.2.2,h5,h6.1,h6.2,h7.1,h7.2,h1⟩
theorem zaql {c:Circ} (h:FitP c) (b:Int):CalOk (calS c b):=by
 unfold calS
 cases b==1 with
 |true=>exact h.cal0
 |false=>
  cases b==2 with
  |true=>exact h.cal1
  |false=>
   cases b==3 with
   |true=>exact h.cal2
   |false=>exact h.cal3
theorem zaxx {c:Circ} (h:FitP c) {r:Rule} (hr:r∈c.Rules):zo1 r=true:=by
 have h:=h.rules
 unfold zgk at h
 rw[zdo h (by decide)]at h
 obtain ⟨i,hi⟩:=List.getElem?_of_mem hr
 have:=zkw (k:=0) h i r hi
 rw[Nat.zero_add]at this
 unfold zha at this
 have:=zdo this (by decide)
 simpa using this
def zff (c:Custody):Prop:=rng 1 4 c.Branch=true
theorem zuo {c:Custody} (h:zjj c=true):zff c:=by
 unfold zjj at h
 unfold zff
 cases hq:(decide (c.State<1)||decide (12<c.State)||decide (c.Branch<1)||decide (4<c.Branch)) with
 |true=>rw[hq]at h;cases h
 |false=>
  simp only[Bool.or_eq_false_iff,decide_eq_false_iff_not]at hq
  rw[zcg];omega
theorem zq8 {m:Move} (h:zne m=true):rng 1 4 m.Branch=true:=by
 unfold zne at h
 simp only[Bool.and_eq_true,decide_eq_true_eq]at h
 rw[zcg];omega
theorem zhf {c:Custody} {m:Move} (h:((za8 c m).2==0)=true):zff (za8 c m).1:=by
 unfold za8 at h ⊢
 cases e1:(!(zjj c)||!(zne m)) with
 |true=>rw[e1]at h;cases h
 |false=>
  have e0:=e1
  simp only[Bool.or_eq_false_iff,Bool.not_eq_false']at e0
  have b1:=zuo e0.1
  have b2:=zq8 e0.2
  rw[e1]at h
  simp only[cond_false]at h ⊢
  cases e2:!(zj4 c.State m.Kind) with
  |true=>rw[e2]at h;cases h
  |false=>
   rw[e2]at h
   simp only[cond_false]at h ⊢
   cases e3:(m.Kind==3&&c.State==5&&!(m.Who==c.Who)) with
   |true=>rw[e3]at h;cases h
   |false=>
    rw[e3]at h
    simp only[cond_false]at h ⊢
    cases e4:!(zaat c m) with
    |true=>rw[e4]at h;cases h
    |false=>
     simp only[cond_false]
     cases (zcz m.Kind==2) with
     |true=>exact b2
     |false=>
      simp only[cond_false]
      cases (zcz m.Kind==4||(zcz m.Kind==5||zcz m.Kind==8)) with
      |true=>exact b1
      |false=>
       simp only[cond_false]
       cases e5:(zcz m.Kind==6) with
       |true=>exact b1
       |false=>
        simp only[cond_false]
        cases (zcz m.Kind==9||zcz m.Kind==10) with
        |true=>exact b1
        |false=>exact b1
theorem znf:∀{l:List Move} {i:Nat} {item:Int} {c d:Custody},zff c→zde i l item c=.inl d→zff d:=by
 intro l
 induction l with
 |nil=>intro i item c d hc h;simp only[zde]at h;cases h;exact hc
 |cons x l ih=>
  intro i item c d hc h
  simp only[zde]at h
  cases e:x.Item==item with
  |false=>rw[e]at h;exact ih hc h
  |true=>
   rw[e]at h
   simp only[cond_true]at h
   cases e2:(za8 c x).2==0 with
   |true=>rw[e2]at h;exact ih (zhf e2) h
   |false=>rw[e2]at h;cases h
theorem zmh {c:Circ} {x:Item} (h:zc0 c x=true):zff x.Custody:=by
 unfold zc0 at h
 simp only[Bool.not_eq_true',Bool.or_eq_false_iff,Bool.not_eq_false',beq_iff_eq]at h
 obtain ⟨h1,h2⟩:=h
 have e:=zku.1 h2
 rw[←e]
 unfold zed at h1 ⊢
 cases hb:(decide (x.Branch<1)||decide (4<x.Branch)) with
 |true=>rw[hb]at h1;cases h1
 |false=>
  rw[hb]at h1
  simp only[cond_false]at h1 ⊢
  have hb2:zff (zws x.Branch):=by
   simp only[Bool.or_eq_false_iff,decide_eq_false_iff_not]at hb
   show rng 1 4 x.Branch=true
   rw[zcg];omega
  cases hr:zde 0 c.Moves x.ID (zws x.Branch) with
  |inl d=>exact znf hb2 hr
  |inr p=>
   rw[hr]at h1
   exfalso
   obtain ⟨i,e⟩:=p
   simp only at h1
   have key:∀(l:List Move) (i:Nat) (c:Custody) (p:Int×Int),zde i l x.ID c=.inr p→p.2≠0:=by
    intro l
    induction l with
    |nil=>intro i c p h;simp only[zde]at h;cases h
    |cons y l ih=>
     intro i c p h
     simp only[zde]at h
     cases e:y.Item==x.ID with
     |false=>rw[e]at h;exact ih _ _ _ h
     |true=>
      rw[e]at h
      simp only[cond_true]at h
      cases e2:(za8 c y).2==0 with
      |true=>rw[e2]at h;exact ih _ _ _ h
      |false=>rw[e2]at h;cases h;simpa using e2
   exact key _ _ _ _ hr h1
theorem z2j {c:Circ} (h:FitP c) {x:Item} (hx:x∈c.Items):rng 1 4 x.Custody.Branch=true:=zmh (zsm h.items hx)
theorem z5j {l:List Rule} {p it br:Int}:zfs l (zaep l p it br):=by
 have key:∀(m:List Rule) (i:Nat) (b:Int),i+m.length=l.length→zfs l b→zfs l (zc1 (σ:=Int) (β:=Int) (fun i x b=>.inl (zrk l p it br i x b)) (fun b=>b) i m b):=by
  intro m
  induction m with
  |nil=>intro i b _ h;exact h
  |cons x m ih=>intro i b hi h;simp only[zc1];simp only[List.length_cons]at hi;exact ih _ _ (by omega) (zj9 h (by omega))
 exact key l 0 (-1) (by omega) (.inl (by omega))
theorem zaxw {c:Circ} (hs:Short c) {p:Int} {x:Item}:∃r b,qf6 c p x=some (r,b)∧(b=true→r∈c.Rules):=by
 unfold qf6
 rw[zi3 hs.patrons]
 dsimp only
 cases (getP c.Patrons p).2 with
 |false=>exact ⟨_,false,rfl,fun h=>by cases h⟩
 |true=>
  simp only[Bool.not_true,cond_false]
  unfold qf7
  rw[zaoe hs.rules]
  dsimp only
  rcases z5j (l:=c.Rules) (p:=(getP c.Patrons p).1.Kind) (it:=x.Kind) (br:=x.Branch) with h|⟨k,hk,hlt⟩
  ·rw[show decide (zaep c.Rules (getP c.Patrons p).1.Kind x.Kind x.Branch<0)=true by rw[decide_eq_true_eq];exact h]
   exact ⟨_,false,rfl,fun h=>by cases h⟩
  ·rw[hk,show decide ((k:Int)<0)=false by rw[decide_eq_false_iff_not];omega]
   simp only[cond_false,zai,List.getElem?_eq_getElem hlt]
   exact ⟨_,true,rfl,fun _=>List.getElem_mem hlt⟩
end Go.Proofs.YtdahfgialanmpaaGreatDoor
namespace Go.Proofs.YtdahfgialanmpaaGreatDoor
open Ev
open Go (IntKind)
theorem zi9 {α β:Type} {step:α→Option (α⊕β)} (Inv:α→Prop) (μ:α→Nat) (h:∀a,Inv a→(∃a',step a=some (.inl a')∧Inv a'∧μ a'<μ a)∨∃b,step a=some (.inr b)) {a:α} (ha:Inv a) (hm:μ a<FUEL):∃r,zab step a=some r:=by
 have key:∀n a,Inv a→μ a<n→∃r,zau step n a=some r:=by
  intro n
  induction n with
  |zero=>intro a _ h;omega
  |succ n ih=>
   intro a hi hn
   simp only[zau]
   rcases h a hi with ⟨a',h1,h2,h3⟩|⟨b,h1⟩
   ·rw[h1];exact ih a' h2 (by omega)
   ·rw[h1];exact ⟨b,rfl⟩
 exact key FUEL a ha hm
theorem zud {c:Calendar} (hc:CalOk c) (d:Int):∃a b,qbq c d=some (a,b):=by
 obtain ⟨r,hr⟩:=zi9 (step:=zot) (fun a=>0≤a.1∧a.2.1=c) (fun a=>(109573-a.1).toNat) (by
  rintro ⟨d,c',_⟩ ⟨h0,(rfl:c'=c)⟩
  simp only at h0
  simp only[zot,zan6 hc]
  by_cases hq:d≤109572
  ·rw[show decide (d≤109572)=true by rw[decide_eq_true_eq];exact hq]
   simp only[cond_true]
   cases z3e c' d with
   |true=>exact .inr ⟨_,rfl⟩
   |false=>
    simp only[cond_false]
    rw[zds (by omega) (by omega)]
    exact .inl ⟨_,rfl,⟨by show 0≤d+1;omega,rfl⟩,by show (109573-(d+1)).toNat<(109573-d).toNat;omega⟩
  ·rw[show decide (d≤109572)=false by rw[decide_eq_false_iff_not];exact hq]
   exact .inr ⟨_,rfl⟩) (a:=((if d<0 then 0 else d),c,())) ⟨by show 0≤if d<0 then 0 else d;split<;>omega,rfl⟩ (by rw[zaz];show (109573-if d<0 then 0 else d).toNat<_;split<;>omega)
 unfold qbq
 rw[hr]
 rcases r with _|⟨a,b,_⟩
 ·exact ⟨_,_,rfl⟩
 ·exact ⟨_,_,rfl⟩
theorem zx2 {α β:Type} {b:Bool} {x y:Option (α×β)} (hx:∃u v,x=some (u,v)) (hy:∃u v,y=some (u,v)):∃u v,(bif b then x else y)=some (u,v):=by
 cases b
 ·exact hy
 ·exact hx
def zakc (a b:Option (Circ×Int×Int)):Prop:=∃c n e,a=some (c,n,e)∧b=some (c,n,e)∧Short c
theorem zrd {e:Int}:zakc (some (zbp,0,e)) (some (zbp,0,e)):=⟨_,_,_,rfl,rfl,ziy⟩
end Go.Proofs.YtdahfgialanmpaaGreatDoor
namespace Go.Proofs.YtdahfgialanmpaaGreatDoor
open Ev
open Go (IntKind)
def getH (l:List Hold) (id:Int):Hold×Bool:=match l.find? (fun h=>h.ID==id) with|some h=>(h,true)|none=>(zhw,false)
theorem z05 {l:List Hold} {id:Int} (hl:l.length<1000000000):qc4 l id=some (getH l id):=by
 unfold qc4 qay getH
 rw[z03 (p:=fun (g:Unit×Int×Unit) x0=>qeq x0 g.2.1) (g:=((),(id,()))) (fun x=>x.ID==id) hl (fun x _=>rfl)]
 rcases zbl (fun x:Hold=>x.ID==id) l with ⟨h1,h2⟩|⟨i,x,h1,h2,h3,h4⟩
 ·simp only[h1,h2]
  try rfl
 ·have d:decide ((0:Int)≤(i:Int))=true:=by rw[decide_eq_true_eq];omega
  simp only[h1,h4,d,cond_true,zai,h2]
theorem z01 {l:List Hold} {id:Int} (hl:l.length<1000000000):qao l id=some (getH l id):=by
 unfold qao getH
 have h:=zbu (step:=zok) (fun i=>(l,id,(i:Int),zhw,())) l (fun x=>x.ID==id) (fun _ x=>(.inr (true,x,()):(Hold×Unit)⊕(Bool×Hold×Unit))) (.inl (zhw,())) hl
  (by simp only[zok,dge,cond_false])
  (fun i x hx=>by
   have hi:=(List.getElem?_eq_some_iff.1 hx).1
   simp only[zok,dlt hi,zai,hx,cond_true,zam (show i<9223372036854775807 by omega)])
 rw[show zab zok (l,id,0,(⟨0,0,0,0,0,0,0,0,0,0,0⟩:Hold),())=_ from h,zid]
 cases l.find? (fun x=>x.ID==id)<;>rfl
theorem zu3 {α β γ:Type} {s1:α→Option (α⊕β)} {s2:γ→Option (γ⊕β)} (Inv:α→Prop) (φ:α→γ)
 (h:∀a,Inv a→s2 (φ a)=(match s1 a with|none=>none|some (.inl b)=>some (.inl (φ b))|some (.inr b)=>some (.inr b)))
 (hi:∀a b,Inv a→s1 a=some (.inl b)→Inv b) {a:α} (ha:Inv a):zab s2 (φ a)=zab s1 a:=by
 have key:∀n a,Inv a→zau s2 n (φ a)=zau s1 n a:=by
  intro n
  induction n with
  |zero=>intro a _;rfl
  |succ n ih=>
   intro a ha
   simp only[zau]
   rw[h a ha]
   cases hs:s1 a with
   |none=>rfl
   |some x=>
    cases x with
    |inl b=>exact ih b (hi a b ha hs)
    |inr b=>rfl
 exact key FUEL a ha
theorem zaaj {c:Calendar} (hc:CalOk c) (day n:Int):qa5 c day n=qb4 c day n:=by
 have hw:zab zl3 (n,day,0,c,())=zab zog (day,n,0,c,()):=by
  refine zu3 (s1:=zog) (s2:=zl3) (fun a=>a.2.2.2.1=c) (fun a=>(a.2.1,a.1,a.2.2.1,a.2.2.2.1,())) ?_ ?_ (a:=(day,n,0,c,())) rfl
  ·rintro ⟨d,n,i,c',_⟩ (rfl:c'=c)
   simp only[zog,zl3,zaak hc]
   cases decide (i<n) with
   |false=>rfl
   |true=>
    simp only[cond_true]
    cases qbq c' (wr .i64 (d+1)) with
    |none=>rfl
    |some p=>
     obtain ⟨a,b⟩:=p
     simp only
     cases !(b==0)<;>rfl
  ·rintro ⟨d,n,i,c',_⟩ b (rfl:c'=c) hb
   simp only[zog]at hb
   cases hq:decide (i<n) with
   |false=>rw[hq]at hb;cases hb
   |true=>
    rw[hq]at hb
    simp only[cond_true]at hb
    cases hn:qa6 c' (wr .i64 (d+1)) with
    |none=>rw[hn]at hb;cases hb
    |some p=>
     obtain ⟨a,b2⟩:=p
     rw[hn]at hb
     simp only at hb
     cases he:!(b2==0) with
     |true=>rw[he]at hb;cases hb
     |false=>rw[he]at hb;cases hb;rfl
 unfold qa5 qb4
 simp -zeta only[k_or,zaoy,zaak hc]
 dsimp only
 rw[hw,←zwe 0 109572]
 try rfl
end Go.Proofs.YtdahfgialanmpaaGreatDoor
namespace Go.Proofs.YtdahfgialanmpaaGreatDoor
open Ev
open Go (IntKind)
theorem znz {c:Calendar} (hc:CalOk c) (d n:Int):∃a b,qb4 c d n=some (a,b):=by
 unfold qb4
 simp -zeta only[k_or]
 dsimp only
 cases hb:(decide (n<0)||decide (1000<n)) with
 |true=>exact ⟨_,_,rfl⟩
 |false=>
  simp only[Bool.or_eq_false_iff,decide_eq_false_iff_not]at hb
  simp only[cond_false]
  refine zx2 ⟨_,_,rfl⟩ (zx2 ?_ ?_)
  ·obtain ⟨a,b,h⟩:=zud hc d
   rw[h]
   exact ⟨_,_,rfl⟩
  ·obtain ⟨r,hr⟩:=zi9 (step:=zl3) (fun a=>a.1=n∧0≤a.2.2.1∧a.2.2.2.1=c) (fun a=>(n-a.2.2.1).toNat) (by
    rintro ⟨n',d,i,c',_⟩ ⟨(rfl:n'=n),h0,(rfl:c'=c)⟩
    simp only at h0
    simp only[zl3]
    by_cases hq:i<n'
    ·rw[show decide (i<n')=true by rw[decide_eq_true_eq];exact hq]
     obtain ⟨a,b,h⟩:=zud hc (wr .i64 (d+1))
     simp only[cond_true,h]
     cases !(b==0) with
     |true=>exact .inr ⟨_,rfl⟩
     |false=>
      simp only[cond_false]
      rw[zds (n:=i+1) (by omega) (by omega)]
      exact .inl ⟨_,rfl,⟨rfl,by show 0≤i+1;omega,rfl⟩,by show (n'-(i+1)).toNat<(n'-i).toNat;omega⟩
    ·rw[show decide (i<n')=false by rw[decide_eq_false_iff_not];exact hq]
     exact .inr ⟨_,rfl⟩) (a:=(n,d,0,c,())) ⟨rfl,by show (0:Int)≤0;omega,rfl⟩ (by rw[zaz];show (n-0).toNat<_;omega)
   rw[hr]
   rcases r with ⟨a,_⟩|⟨a,b,_⟩
   ·exact ⟨_,_,rfl⟩
   ·exact ⟨_,_,rfl⟩
end Go.Proofs.YtdahfgialanmpaaGreatDoor
namespace Go.Proofs.YtdahfgialanmpaaGreatDoor
open Ev
open Go (IntKind)
def insW {X:Type} (lt:X→X→Bool) (y:X):List X→List X→List X
 | [],rest=>y::rest
 |z::zs,rest=>bif lt y z then insW lt y zs (z::rest) else zs.reverse++z::y::rest
theorem z8i {X:Type} {lt:X→X→Bool} {y:X}:∀{r rest more:List X},insW lt y r (rest++more)=insW lt y r rest++more:=by
 intro r
 induction r with
 |nil=>intro rest more;rfl
 |cons z zs ih=>
  intro rest more
  simp only[insW]
  cases lt y z with
  |true=>simp only[cond_true];rw[←List.cons_append,ih]
  |false=>simp
theorem z2r {X:Type} {lt:X→X→Bool} {y:X}:∀{B A rest:List X},(∀b∈B,lt y b=true)→(∀a∈A,lt y a=false)→insW lt y (B++A) rest=A.reverse++y::(B.reverse++rest):=by
 intro B
 induction B with
 |nil=>
  intro A rest _ hA
  cases A with
  |nil=>rfl
  |cons a A=>simp only[List.nil_append,insW,hA a (List.mem_cons_self ..),cond_false,List.reverse_cons,List.append_assoc,List.reverse_nil];rfl
 |cons b B ih=>
  intro A rest hB hA
  simp only[List.cons_append,insW,hB b (List.mem_cons_self ..),cond_true]
  rw[ih (fun b hb=>hB b (List.mem_cons_of_mem _ hb)) hA]
  simp
section
variable {γ:Type} {p:γ→Hold→Hold→Option Int} {g:γ} {lt:Hold→Hold→Bool}
theorem zav4 (hp:∀y z,∃n,p g y z=some n∧decide (n<0)=lt y z) {b i:Int}:∀(r:List Hold) (y:Hold) (rest:List Hold),r.length<1000000→
 zau (z36 p) (r.length+1) (0,b,g,i,(r.length:Int),r.reverse++y::rest,())=some (0,b,g,i,insW lt y r rest,()):=by
 intro r
 induction r with
 |nil=>
  intro y rest _
  simp only[List.length_nil,zau,insW,z36]
  try rfl
 |cons z zs ih=>
  intro y rest hl
  simp only[List.length_cons]at hl
  obtain ⟨n,h1,h2⟩:=hp y z
  have d:decide ((0:Int)<((zs.length+1:Nat):Int))=true:=by rw[decide_eq_true_eq];omega
  have w:=zhd (j:=zs.length) (by omega)
  have e:(z::zs).reverse++y::rest=zs.reverse++z::y::rest:=by simp
  have gy:(zs.reverse++z::y::rest)[zs.length+1]?=some y:=by rw[List.getElem?_append_right (by simp)];simp
  have gz:(zs.reverse++z::y::rest)[zs.length]?=some z:=by rw[List.getElem?_append_right (by simp)];simp
  have s1:(zs.reverse++z::y::rest).set (zs.length+1) z=zs.reverse++z::z::rest:=by
   rw[List.set_append_right _ _ (by simp)];simp
  have gz2:(zs.reverse++z::z::rest)[zs.length]?=some z:=by rw[List.getElem?_append_right (by simp)];simp
  have s2:(zs.reverse++z::z::rest).set zs.length y=zs.reverse++y::z::rest:=by
   rw[List.set_append_right _ _ (by simp)];simp
  rw[zau,e]
  simp only[List.length_cons,z36,d,cond_true,w,zai,Int.toNat_natCast,gy,gz,h1,h2,s1,gz2,s2,insW]
  cases lt y z with
  |true=>simp only[cond_true];exact ih y (z::rest) (by omega)
  |false=>rfl
def zfc (lt:Hold→Hold→Bool) (l:List Hold):List Hold:=l.foldl (fun pre y=>insW lt y pre.reverse []) []
theorem zgl {l:List Hold} {y:Hold}:zfc lt (l++[y])=insW lt y (zfc lt l).reverse []:=by
 unfold zfc
 rw[List.foldl_append];rfl
theorem zv2 {y:Hold}:∀{r rest:List Hold},(insW lt y r rest).length=r.length+1+rest.length:=by
 intro r
 induction r with
 |nil=>intro rest;simp[insW];omega
 |cons z zs ih=>
  intro rest
  simp only[insW]
  cases lt y z with
  |true=>simp only[cond_true];rw[ih];simp;omega
  |false=>simp;omega
theorem zuy:∀{l:List Hold},(zfc lt l).length=l.length:=by
 have key:∀(l pre:List Hold),(l.foldl (fun pre y=>insW lt y pre.reverse []) pre).length=pre.length+l.length:=by
  intro l
  induction l with
  |nil=>intro pre;rfl
  |cons y l ih=>intro pre;rw[List.foldl_cons,ih,zv2];simp;omega
 intro l
 unfold zfc
 rw[key];simp
theorem zaj7 (hp:∀y z,∃n,p g y z=some n∧decide (n<0)=lt y z) {l:List Hold} (hl:l.length<1000000):∀(k i:Nat),i+k=l.length→
 zau (z35 p) (k+1) (0,(l.length:Int),g,(i:Int),zfc lt (l.take i)++l.drop i,())=some (zfc lt l,()):=by
 intro k
 induction k with
 |zero=>
  intro i hi
  have:i=l.length:=by omega
  subst this
  have d:decide ((l.length:Int)<(l.length:Int))=false:=by rw[decide_eq_false_iff_not];omega
  simp only[zau,z35,d,cond_false,List.take_length,List.drop_length,List.append_nil]
 |succ k ih=>
  intro i hi
  have hlt:i<l.length:=by omega
  have d:decide ((i:Int)<(l.length:Int))=true:=by rw[decide_eq_true_eq];omega
  have hlen:(zfc lt (l.take i)).length=i:=by rw[zuy,List.length_take];omega
  have hr:=zav4 (p:=p) (g:=g) (lt:=lt) hp (b:=(l.length:Int)) (i:=(i:Int)) (zfc lt (l.take i)).reverse l[i] (l.drop (i+1)) (by rw[List.length_reverse,hlen];omega)
  rw[List.length_reverse,List.reverse_reverse,hlen,←List.drop_eq_getElem_cons hlt]at hr
  have hw:zab (z36 p) (0,(l.length:Int),g,(i:Int),(i:Int),zfc lt (l.take i)++l.drop i,())=_:=zav (i+1) (by rw[zaz];omega) hr
  rw[zau]
  simp only[z35,d,cond_true,hw,zam (show i<9223372036854775807 by omega)]
  have e:insW lt l[i] (zfc lt (l.take i)).reverse (l.drop (i+1))=zfc lt (l.take (i+1))++l.drop (i+1):=by
   have:=z8i (lt:=lt) (y:=l[i]) (r:=(zfc lt (l.take i)).reverse) (rest:=[]) (more:=l.drop (i+1))
   rw[List.nil_append]at this
   rw[this,List.take_succ_eq_append_getElem hlt,zgl]
  rw[e]
  exact ih (i+1) (by omega)
theorem za1b (hp:∀y z,∃n,p g y z=some n∧decide (n<0)=lt y z) {l:List Hold} (hl:l.length<20):qed p l g=some (zfc lt l):=by
 have h1:zab (zajp p) ((l.length:Int),g,20,0,20,l,())=some ((l.length:Int),g,20,0,l,()):=by
  refine zav 1 (by rw[zaz];omega) ?_
  have d:decide ((20:Int)≤(l.length:Int))=false:=by rw[decide_eq_false_iff_not];omega
  simp only[zau,zajp,d,cond_false]
 have h2:∀m:List Hold,zab (zajq p) ((l.length:Int),g,20,m,())=some (m,()):=fun m=>by
  refine zav 1 (by rw[zaz];omega) ?_
  have d:decide ((20:Int)<(l.length:Int))=false:=by rw[decide_eq_false_iff_not];omega
  simp only[zau,zajq,d,cond_false]
 have h3:qr p l 0 (l.length:Int) g=some (zfc lt l):=by
  unfold qr
  have hw:zab (z35 p) (0,(l.length:Int),g,wr .i64 (0+1),l,())=some (zfc lt l,()):=by
   cases l with
   |nil=>
    refine zav 1 (by rw[zaz];omega) ?_
    try rfl
   |cons y m=>
    have:=zaj7 (p:=p) (g:=g) (lt:=lt) hp (l:=y::m) (by omega) m.length 1 (by simp only[List.length_cons];omega)
    exact zav (m.length+1) (by rw[zaz];simp only[List.length_cons]at hl;omega) this
  rw[hw]
 unfold qed qo
 rw[h1]
 simp only[h3,h2]
end
end Go.Proofs.YtdahfgialanmpaaGreatDoor
namespace Go.Proofs.YtdahfgialanmpaaGreatDoor
open Ev
open Go (IntKind)
def rk (k:Int) (l:List Hold):List Hold:=l.filter (fun x=>x.Rank==k)
def ltR (y z:Hold):Bool:=decide (z.Rank<y.Rank)
def za9 (l:List Hold):List Hold:=rk 9 l++(rk 8 l++(rk 7 l++(rk 6 l++(rk 5 l++(rk 4 l++(rk 3 l++(rk 2 l++(rk 1 l++rk 0 l))))))))
theorem za58 {k:Int} {l:List Hold} {x:Hold} (h:x∈rk k l):x.Rank=k:=by
 unfold rk at h
 rw[List.mem_filter]at h
 simpa using h.2
theorem zev (k:Int) (l:List Hold) (y:Hold):rk k (l++[y])=rk k l++(bif y.Rank==k then [y] else []):=by
 unfold rk
 rw[List.filter_append,List.filter_cons]
 cases y.Rank==k<;>simp
theorem zav3 {A B:List Hold} {y:Hold} (hA:∀a∈A,y.Rank≤a.Rank) (hB:∀b∈B,b.Rank<y.Rank):insW ltR y (A++B).reverse []=A++y::B:=by
 rw[List.reverse_append,z2r (by intro b hb;rw[List.mem_reverse]at hb;unfold ltR;rw[decide_eq_true_eq];exact hB b hb) (by intro a ha;rw[List.mem_reverse]at ha;unfold ltR;rw[decide_eq_false_iff_not];have:=hA a ha;omega)]
 simp
theorem zxe:∀(m:List Hold) (l:List Hold),l=m.reverse→(∀x∈l,rng 0 9 x.Rank=true)→zfc ltR l=za9 l:=by
 intro m
 induction m with
 |nil=>intro l h _;subst h;rfl
 |cons y m ih=>
  intro l h hr
  rw[List.reverse_cons]at h
  subst h
  have hy:=zcg.1 (hr y (by simp))
  rw[zgl,ih m.reverse rfl (fun x hx=>hr x (by simp at hx ⊢;exact .inl hx))]
  generalize m.reverse=l
  have hc:y.Rank=0∨y.Rank=1∨y.Rank=2∨y.Rank=3∨y.Rank=4∨y.Rank=5∨y.Rank=6∨y.Rank=7∨y.Rank=8∨y.Rank=9:=by omega
  have mid:∀(A B:List Hold),za9 l=A++B→(∀a∈A,y.Rank≤a.Rank)→(∀b∈B,b.Rank<y.Rank)→insW ltR y (za9 l).reverse []=A++y::B:=fun A B e hA hB=>by rw[e];exact zav3 hA hB
  have mm:∀(k:Int) (x:Hold),x∈rk k l→x.Rank=k:=fun k x h=>za58 h
  rcases hc with h|h|h|h|h|h|h|h|h|h
  ·rw[mid (rk 9 l++(rk 8 l++(rk 7 l++(rk 6 l++(rk 5 l++(rk 4 l++(rk 3 l++(rk 2 l++(rk 1 l++rk 0 l))))))))) [] (by simp[za9]) (by intro a ha;simp only[List.mem_append]at ha;rcases ha with h|h|h|h|h|h|h|h|h|h<;>(have:=mm _ _ h;omega)) (by intro b hb;cases hb)]
   simp[za9,zev,h]
  ·rw[mid (rk 9 l++(rk 8 l++(rk 7 l++(rk 6 l++(rk 5 l++(rk 4 l++(rk 3 l++(rk 2 l++rk 1 l)))))))) (rk 0 l) (by simp[za9]) (by intro a ha;simp only[List.mem_append]at ha;rcases ha with h|h|h|h|h|h|h|h|h<;>(have:=mm _ _ h;omega)) (by intro b hb;have:=mm _ _ hb;omega)]
   simp[za9,zev,h]
  ·rw[mid (rk 9 l++(rk 8 l++(rk 7 l++(rk 6 l++(rk 5 l++(rk 4 l++(rk 3 l++rk 2 l))))))) (rk 1 l++rk 0 l) (by simp[za9]) (by intro a ha;simp only[List.mem_append]at ha;rcases ha with h|h|h|h|h|h|h|h<;>(have:=mm _ _ h;omega)) (by intro b hb;simp only[List.mem_append]at hb;rcases hb with h|h<;>(have:=mm _ _ h;omega))]
   simp[za9,zev,h]
  ·rw[mid (rk 9 l++(rk 8 l++(rk 7 l++(rk 6 l++(rk 5 l++(rk 4 l++rk 3 l)))))) (rk 2 l++(rk 1 l++rk 0 l)) (by simp[za9]) (by intro a ha;simp only[List.mem_append]at ha;rcases ha with h|h|h|h|h|h|h<;>(have:=mm _ _ h;omega)) (by intro b hb;simp only[List.mem_append]at hb;rcases hb with h|h|h<;>(have:=mm _ _ h;omega))]
   simp[za9,zev,h]
  ·rw[mid (rk 9 l++(rk 8 l++(rk 7 l++(rk 6 l++(rk 5 l++rk 4 l))))) (rk 3 l++(rk 2 l++(rk 1 l++rk 0 l))) (by simp[za9]) (by intro a ha;simp only[List.mem_append]at ha;rcases ha with h|h|h|h|h|h<;>(have:=mm _ _ h;omega)) (by intro b hb;simp only[List.mem_append]at hb;rcases hb with h|h|h|h<;>(have:=mm _ _ h;omega))]
   simp[za9,zev,h]
  ·rw[mid (rk 9 l++(rk 8 l++(rk 7 l++(rk 6 l++rk 5 l)))) (rk 4 l++(rk 3 l++(rk 2 l++(rk 1 l++rk 0 l)))) (by simp[za9]) (by intro a ha;simp only[List.mem_append]at ha;rcases ha with h|h|h|h|h<;>(have:=mm _ _ h;omega)) (by intro b hb;simp only[List.mem_append]at hb;rcases hb with h|h|h|h|h<;>(have:=mm _ _ h;omega))]
   simp[za9,zev,h]
  ·rw[mid (rk 9 l++(rk 8 l++(rk 7 l++rk 6 l))) (rk 5 l++(rk 4 l++(rk 3 l++(rk 2 l++(rk 1 l++rk 0 l))))) (by simp[za9]) (by intro a ha;simp only[List.mem_append]at ha;rcases ha with h|h|h|h<;>(have:=mm _ _ h;omega)) (by intro b hb;simp only[List.mem_append]at hb;rcases hb with h|h|h|h|h|h<;>(have:=mm _ _ h;omega))]
   simp[za9,zev,h]
  ·rw[mid (rk 9 l++(rk 8 l++rk 7 l)) (rk 6 l++(rk 5 l++(rk 4 l++(rk 3 l++(rk 2 l++(rk 1 l++rk 0 l)))))) (by simp[za9]) (by intro a ha;simp only[List.mem_append]at ha;rcases ha with h|h|h<;>(have:=mm _ _ h;omega)) (by intro b hb;simp only[List.mem_append]at hb;rcases hb with h|h|h|h|h|h|h<;>(have:=mm _ _ h;omega))]
   simp[za9,zev,h]
  ·rw[mid (rk 9 l++rk 8 l) (rk 7 l++(rk 6 l++(rk 5 l++(rk 4 l++(rk 3 l++(rk 2 l++(rk 1 l++rk 0 l))))))) (by simp[za9]) (by intro a ha;simp only[List.mem_append]at ha;rcases ha with h|h<;>(have:=mm _ _ h;omega)) (by intro b hb;simp only[List.mem_append]at hb;rcases hb with h|h|h|h|h|h|h|h<;>(have:=mm _ _ h;omega))]
   simp[za9,zev,h]
  ·rw[mid (rk 9 l) (rk 8 l++(rk 7 l++(rk 6 l++(rk 5 l++(rk 4 l++(rk 3 l++(rk 2 l++(rk 1 l++rk 0 l)))))))) (by simp[za9]) (by intro a ha;have:=mm _ _ ha;omega) (by intro b hb;simp only[List.mem_append]at hb;rcases hb with h|h|h|h|h|h|h|h|h<;>(have:=mm _ _ h;omega))]
   simp[za9,zev,h]
def zca (record day:Int) (x:Hold):Bool:=x.Record==record&&x.State==1&&decide (x.Asleep≤day)
theorem zad9 (record day:Int) (x:Hold):(x.State==1&&x.Record==record&&decide (x.Asleep≤day))=zca record day x:=by
 unfold zca
 cases x.Record==record<;>cases x.State==1<;>rfl
theorem zaax (y z:Hold) (hy:rng 0 9 y.Rank=true) (hz:rng 0 9 z.Rank=true):decide (wr .i64 (z.Rank-y.Rank)<0)=ltR y z:=by
 have h1:=zcg.1 hy
 have h2:=zcg.1 hz
 rw[zds (by omega) (by omega)]
 unfold ltR
 rw[decide_eq_decide];omega
theorem zaha {lt:Hold→Hold→Bool} {y x:Hold}:∀{r rest:List Hold},x∈insW lt y r rest→x=y∨x∈r∨x∈rest:=by
 intro r
 induction r with
 |nil=>intro rest h;simp only[insW,List.mem_cons]at h;rcases h with h|h<;>simp[h]
 |cons z zs ih=>
  intro rest h
  simp only[insW]at h
  cases hb:lt y z with
  |true=>
   rw[hb]at h
   rcases ih h with h|h|h
   ·exact .inl h
   ·exact .inr (.inl (List.mem_cons_of_mem _ h))
   ·rcases List.mem_cons.1 h with h|h
    ·subst h;exact .inr (.inl (List.mem_cons_self ..))
    ·exact .inr (.inr h)
  |false=>
   rw[hb]at h
   simp only[cond_false,List.mem_append,List.mem_reverse,List.mem_cons]at h
   rcases h with h|h|h|h
   ·exact .inr (.inl (List.mem_cons_of_mem _ h))
   ·subst h;exact .inr (.inl (List.mem_cons_self ..))
   ·exact .inl h
   ·exact .inr (.inr h)
theorem z2q {lt lt':Hold→Hold→Bool} {y:Hold}:∀{r rest:List Hold},(∀z∈r,lt y z=lt' y z)→insW lt y r rest=insW lt' y r rest:=by
 intro r
 induction r with
 |nil=>intros;rfl
 |cons z zs ih=>
  intro rest h
  simp only[insW]
  rw[h z (List.mem_cons_self ..),ih (fun z hz=>h z (List.mem_cons_of_mem _ hz))]
theorem zad1 {lt lt':Hold→Hold→Bool}:∀(m l:List Hold),l=m.reverse→(∀x∈l,∀y∈l,lt x y=lt' x y)→zfc lt l=zfc lt' l∧∀x∈zfc lt' l,x∈l:=by
 intro m
 induction m with
 |nil=>intro l h _;subst h;exact ⟨rfl,fun x hx=>by cases hx⟩
 |cons y m ih=>
  intro l h hc
  rw[List.reverse_cons]at h
  subst h
  obtain ⟨e1,e2⟩:=ih m.reverse rfl (fun a ha b hb=>hc a (by simp at ha ⊢;exact .inl ha) b (by simp at hb ⊢;exact .inl hb))
  rw[zgl,zgl,e1]
  refine ⟨z2q (fun z hz=>hc y (by simp) z ?_),fun x hx=>?_⟩
  ·rw[List.mem_reverse]at hz
   have:=e2 z hz
   simp at this ⊢;exact .inl this
  ·rcases zaha hx with h|h|h
   ·subst h;simp
   ·rw[List.mem_reverse]at h
    have:=e2 x h
    simp at this ⊢;exact .inl this
   ·cases h
theorem z38 {l:List Hold} (hl:l.length<20) (hr:∀x∈l,rng 0 9 x.Rank=true):qed (fun (g:Unit×Unit) x0 x1=>qcg x0 x1) l ((),())=some (za9 l):=by
 rw[za1b (lt:=fun y z=>decide (wr .i64 (z.Rank-y.Rank)<0)) (fun y z=>⟨_,rfl,rfl⟩) hl]
 congr 1
 rw[(zad1 l.reverse l (by simp) (fun x hx y hy=>zaax x y (hr x hx) (hr y hy))).1]
 exact zxe l.reverse l (by simp) hr
end Go.Proofs.YtdahfgialanmpaaGreatDoor
namespace Go.Proofs.YtdahfgialanmpaaGreatDoor
open Ev
open Go (IntKind)
theorem zf0 {X:Type} (p:X→Bool):∀(l o:List X),l.foldl (fun s y=>bif p y then s++[y] else s) o=o++l.filter p:=by
 intro l
 induction l with
 |nil=>intro o;simp
 |cons x l ih=>intro o;rw[List.foldl_cons,ih,List.filter_cons];cases p x<;>simp
theorem zje {X Y:Type} (p:X→Bool) (f:X→Y):∀(l:List X) (o:List Y),l.foldl (fun s y=>bif p y then s++[f y] else s) o=o++(l.filter p).map f:=by
 intro l
 induction l with
 |nil=>intro o;simp
 |cons x l ih=>intro o;rw[List.foldl_cons,ih,List.filter_cons];cases p x<;>simp
theorem za65 {l:List Hold} {record day:Int} (hl:l.length<1000000) (h20:(l.filter (zca record day)).length<20) (hr:∀x∈l,rng 0 9 x.Rank=true):qh l record day=some (za9 (l.filter (zca record day))):=by
 have h:=zbk (step:=z3z) (fun (i:Nat) (s:List Hold)=>s.length≤i) (fun i s=>(record,day,l,(l.length:Int),(i:Int),s,())) l
  (fun i y s=>.inl (bif zca record day y then s++[y] else s)) (fun s=>(s,())) (by rw[zaz];omega)
  (fun s _=>by simp only[z3z,dge,cond_false])
  (fun i y s hx hi=>by
   have hlt:=(List.getElem?_eq_some_iff.1 hx).1
   have l1:decide (s.length+([y]:List Hold).length≤LIM)=true:=zgt (by simp;omega)
   refine ⟨?_,fun s' hs'=>?_⟩
   ·simp -zeta only[z3z,dlt hlt,zai,hx,cond_true,l1,zbc,zam (show i<9223372036854775807 by omega)]
    unfold zca
    dsimp only
    cases (y.Record==record&&y.State==1&&decide (y.Asleep≤day))<;>rfl
   ·cases hs'
    cases zca record day y<;>simp<;>omega) [] (by simp)
 rw[zdg]at h
 unfold qh
 rw[show zab z3z (record,day,l,(l.length:Int),0,[],())=_ from h,zf0,List.nil_append]
 simp only
 rw[z38 h20 (fun x hx=>hr x (List.mem_filter.1 hx).1)]
theorem z3s {l:List Hold} {record day rank:Int} (hl:l.length<1000000) (s:List Int) (hs:s.length<100000000):zab zlw (l,record,day,rank,0,s,())=some (l,record,day,rank,s++(rk rank (l.filter (zca record day))).map (fun x=>x.ID),()):=by
 have h:=zbk (step:=zlw) (fun (i:Nat) (o:List Int)=>o.length≤s.length+i) (fun i o=>(l,record,day,rank,(i:Int),o,())) l
  (fun i y o=>.inl (bif zca record day y&&y.Rank==rank then o++[y.ID] else o)) (fun o=>(l,record,day,rank,o,())) (by rw[zaz];omega)
  (fun o _=>by simp only[zlw,dge,cond_false])
  (fun i y o hx hi=>by
   have hlt:=(List.getElem?_eq_some_iff.1 hx).1
   have l1:decide (o.length+([y.ID]:List Int).length≤LIM)=true:=zgt (by simp;omega)
   refine ⟨?_,fun s' hs'=>?_⟩
   ·simp -zeta only[zlw,dlt hlt,zai,hx,cond_true,l1,zbc,zam (show i<9223372036854775807 by omega)]
    dsimp only
    rw[zad9]
    cases (zca record day y&&y.Rank==rank)<;>rfl
   ·cases hs'
    cases (zca record day y&&y.Rank==rank)<;>simp<;>omega) s (by omega)
 rw[zdg]at h
 rw[show zab zlw (l,record,day,rank,0,s,())=_ from h]
 have e:(fun (s:List Int) (x:Hold)=>bif zca record day x&&x.Rank==rank then s++[x.ID] else s)=(fun s x=>bif (fun y=>zca record day y&&y.Rank==rank) x then s++[(fun z:Hold=>z.ID) x] else s):=rfl
 rw[e,zje]
 unfold rk
 rw[List.filter_filter]
 have e2:(fun y:Hold=>zca record day y&&y.Rank==rank)=(fun a=>a.Rank==rank&&zca record day a):=by funext y;rw[Bool.and_comm]
 rw[e2]
def dn (q:List Hold):Nat→List Hold
 |0=>[]
 |k+1=>rk (k:Int) q++dn q k
theorem z5n (q:List Hold):za9 q=dn q 10:=by
 simp[za9,dn]
theorem zup {k:Int} {q:List Hold}:(rk k q).length≤q.length:=List.length_filter_le _ _
theorem zaxl {l:List Hold} {record day:Int} (hl:l.length<1000000):∀(k:Nat) (s:List Int),k≤10→s.length+k*1000000<100000000→
 zau zui (k+1) (l,record,day,(k:Int)-1,s,())=some (s++(dn (l.filter (zca record day)) k).map (fun x=>x.ID),()):=by
 intro k
 induction k with
 |zero=>
  intro s _ _
  simp only[zau,dn,List.map_nil,List.append_nil]
  try rfl
 |succ k ih=>
  intro s hk hs
  have e:((k+1:Nat):Int)-1=(k:Int):=by omega
  have hlen:(rk (k:Int) (l.filter (zca record day))).length≤l.length:=Nat.le_trans zup (List.length_filter_le _ _)
  rw[zau]
  have d2:decide ((0:Int)≤(k:Int))=true:=by rw[decide_eq_true_eq];omega
  simp only[zui,d2,cond_true,e,z3s hl s (by omega)]
  rw[zds (n:=(k:Int)-1) (by omega) (by omega),ih _ (by omega) (by rw[List.length_append,List.length_map];omega)]
  simp only[dn,List.map_append,List.append_assoc]
theorem za4s {l:List Hold} {record day:Int} (hl:l.length<1000000):qaa l record day=some ((za9 (l.filter (zca record day))).map (fun x=>x.ID)):=by
 have h:=zaxl (record:=record) (day:=day) hl 10 [] (by omega) (by simp)
 unfold qaa
 rw[show zab zui (l,record,day,9,([]:List Int),())=_ from zav 11 (by rw[zaz];omega) h,List.nil_append,z5n]
theorem zgg {q:List Hold} {x:Hold} (h:x∈za9 q):x∈q:=by
 have k:∀(k:Int),x∈rk k q→x∈q:=fun k h=>(List.mem_filter.1 h).1
 unfold za9 at h
 simp only[List.mem_append]at h
 rcases h with h|h|h|h|h|h|h|h|h|h<;>exact k _ h
def z3g (branch:Int) (vlocal:Bool) (x:Item) (h:Hold) (first:Int):Int⊕Int:=
 bif !(h.Item==0)&&!(h.Item==x.ID) then .inl first
 else bif !vlocal||h.Pickup==branch then .inr h.ID
 else .inl (bif first==0 then h.ID else first)
def zuf (branch:Int) (vlocal:Bool) (x:Item) (h:Hold) (first:Int):Int⊕Int:=
 bif !(h.Item==0)&&!(h.Item==x.ID) then .inl first
 else bif vlocal&&h.Pickup==branch then .inr h.ID
 else .inl (bif first==0 then h.ID else first)
def z3h (branch:Int) (vlocal:Bool) (x:Item):List Hold→Int→Int
 | [],first=>first
 |h::q,first=>match z3g branch vlocal x h first with | .inl f=>z3h branch vlocal x q f | .inr r=>r
def zg4 (branch:Int) (vlocal:Bool) (x:Item):List Hold→Int→Int
 | [],first=>first
 |h::q,first=>match zuf branch vlocal x h first with | .inl f=>zg4 branch vlocal x q f | .inr r=>r
theorem z3i {branch:Int} {x:Item}:∀{q:List Hold} {f:Int},f≠0→zg4 branch false x q f=f:=by
 intro q
 induction q with
 |nil=>intros;rfl
 |cons h q ih=>
  intro f hf
  have h0:(f==0)=false:=by simpa using hf
  simp only[zg4,zuf,Bool.false_and,cond_false,h0]
  cases (!(h.Item==0)&&!(h.Item==x.ID))<;>exact ih hf
theorem zaag {branch:Int} {vlocal:Bool} {x:Item}:∀{q:List Hold} {f:Int},(∀h∈q,h.ID≠0)→(vlocal=false→f=0)→z3h branch vlocal x q f=zg4 branch vlocal x q f:=by
 intro q
 induction q with
 |nil=>intros;rfl
 |cons h q ih=>
  intro f hq hf
  simp only[z3h,zg4,z3g,zuf]
  cases (!(h.Item==0)&&!(h.Item==x.ID)) with
  |true=>exact ih (fun y hy=>hq y (List.mem_cons_of_mem _ hy)) hf
  |false=>
   cases vlocal with
   |true=>
    cases h.Pickup==branch with
    |true=>rfl
    |false=>exact ih (fun y hy=>hq y (List.mem_cons_of_mem _ hy)) (fun e=>by cases e)
   |false=>
    have:=hf rfl
    subst this
    exact (z3i (hq h (List.mem_cons_self ..))).symm
end Go.Proofs.YtdahfgialanmpaaGreatDoor
namespace Go.Proofs.YtdahfgialanmpaaGreatDoor
open Ev
open Go (IntKind)
theorem zfj {l:List Hold} (hsort:∀i x,l[i]?=some x→zbn l i (fun y=>decide (x.ID≤y.ID))=false) {h:Hold} (hm:h∈l):getH l h.ID=(h,true):=by
 unfold getH
 rw[zxf (key:=fun y:Hold=>y.ID) hsort hm]
theorem z3j {β:Type} {branch:Int} {vlocal:Bool} {x:Item} (fin:Int→β) (out:Int→β) (hfo:∀v:Int,True):∀(q:List Hold) (i:Nat) (f:Int),∃r:Int⊕Int,(match r with | .inl v=>v | .inr v=>v)=z3h branch vlocal x q f∧
 zc1 (fun (_:Nat) h f=>match z3g branch vlocal x h f with | .inl f=>.inl f | .inr v=>.inr (out v)) fin i q f=(match r with | .inl v=>fin v | .inr v=>out v):=by
 intro q
 induction q with
 |nil=>intro i f;exact ⟨.inl f,rfl,rfl⟩
 |cons h q ih=>
  intro i f
  simp only[zc1,z3h]
  cases z3g branch vlocal x h f with
  |inl f'=>exact ih (i+1) f'
  |inr v=>exact ⟨.inr v,rfl,rfl⟩
theorem z3k {β:Type} {branch:Int} {vlocal:Bool} {x:Item} (fin:Int→β) (out:Int→β) (hfo:∀v:Int,True):∀(q:List Hold) (i:Nat) (f:Int),∃r:Int⊕Int,(match r with | .inl v=>v | .inr v=>v)=zg4 branch vlocal x q f∧
 zc1 (fun (_:Nat) h f=>match zuf branch vlocal x h f with | .inl f=>.inl f | .inr v=>.inr (out v)) fin i q f=(match r with | .inl v=>fin v | .inr v=>out v):=by
 intro q
 induction q with
 |nil=>intro i f;exact ⟨.inl f,rfl,rfl⟩
 |cons h q ih=>
  intro i f
  simp only[zc1,zg4]
  cases zuf branch vlocal x h f with
  |inl f'=>exact ih (i+1) f'
  |inr v=>exact ⟨.inr v,rfl,rfl⟩
theorem zhh {q:List Hold}:(za9 q).length≤10*q.length:=by
 have k:∀n:Int,(rk n q).length≤q.length:=fun n=>zup
 unfold za9
 simp only[List.length_append]
 have:=k 0;have:=k 1;have:=k 2;have:=k 3;have:=k 4;have:=k 5;have:=k 6;have:=k 7;have:=k 8;have:=k 9
 omega
theorem za46 {l:List Hold} {x:Item} {branch day:Int} {vlocal:Bool} (hl:l.length<1000000) (h20:(l.filter (zca x.Record day)).length<20) (hr:∀x∈l,rng 0 9 x.Rank=true) :
 qbj l x branch day vlocal=some (z3h branch vlocal x (za9 (l.filter (zca x.Record day))) 0):=by
 unfold qbj
 rw[za65 hl h20 hr]
 have hq:(za9 (l.filter (zca x.Record day))).length<1000:=by have:=zhh (q:=l.filter (zca x.Record day));omega
 generalize za9 (l.filter (zca x.Record day))=q at hq ⊢
 have h:=zct (step:=zor) (fun i f=>(branch,vlocal,f,q,(q.length:Int),(i:Int),x,())) q
  (fun _ h f=>match z3g branch vlocal x h f with | .inl f=>.inl f | .inr v=>.inr (.inr (v,()))) (fun f=>.inl (f,())) (by rw[zaz];omega)
  (fun f=>by simp only[zor,dge,cond_false])
  (fun i y f hx=>by
   have hlt:=(List.getElem?_eq_some_iff.1 hx).1
   simp -zeta only[zor,dlt hlt,zai,hx,cond_true,k_or,zbc,zam (show i<9223372036854775807 by omega)]
   unfold z3g
   dsimp only
   cases (!(y.Item==0)&&!(y.Item==x.ID)) with
   |true=>rfl
   |false=>
    cases (!vlocal||y.Pickup==branch) with
    |true=>rfl
    |false=>cases f==0<;>rfl) 0
 obtain ⟨r,r1,r2⟩:=z3j (branch:=branch) (vlocal:=vlocal) (x:=x) (fun f=>(.inl (f,()):(Int×Unit)⊕(Int×Unit))) (fun v=>.inr (v,())) (fun _=>trivial) q 0 0
 rw[r2]at h
 simp only
 rw[show zab zor (branch,vlocal,0,q,(q.length:Int),0,x,())=_ from h,←r1]
 cases r<;>rfl
theorem za45 {l:List Hold} {x:Item} {branch day:Int} {vlocal:Bool} (hl:l.length<1000000) (hsort:∀i x,l[i]?=some x→zbn l i (fun y=>decide (x.ID≤y.ID))=false) :
 qb5 l x branch day vlocal=some (zg4 branch vlocal x (za9 (l.filter (zca x.Record day))) 0):=by
 unfold qb5
 rw[za4s hl]
 have hq:(za9 (l.filter (zca x.Record day))).length<100000000:=by
  have:=zhh (q:=l.filter (zca x.Record day))
  have:=List.length_filter_le (zca x.Record day) l
  omega
 have hm:∀h∈za9 (l.filter (zca x.Record day)),h∈l:=fun h hh=>(List.mem_filter.1 (zgg hh)).1
 generalize za9 (l.filter (zca x.Record day))=q at hq hm ⊢
 have h:=zct (step:=zoq) (fun i f=>(l,branch,vlocal,q.map (fun x=>x.ID),f,(i:Int),x,())) q
  (fun _ h f=>match zuf branch vlocal x h f with | .inl f=>.inl f | .inr v=>.inr (.inr (v,()))) (fun f=>.inl (f,())) (by rw[zaz];omega)
  (fun f=>by
   have d:decide ((q.length:Int)<((q.map (fun x=>x.ID)).length:Int))=false:=by rw[decide_eq_false_iff_not,List.length_map];omega
   simp only[zoq,d,cond_false])
  (fun i y f hx=>by
   have hlt:=(List.getElem?_eq_some_iff.1 hx).1
   have d:decide ((i:Int)<((q.map (fun x=>x.ID)).length:Int))=true:=by rw[decide_eq_true_eq,List.length_map];omega
   have gx:(q.map (fun x=>x.ID))[i]?=some y.ID:=by rw[List.getElem?_map,hx];rfl
   simp -zeta only[zoq,d,zai,gx,cond_true,k_or,zbc,z01 (show l.length<1000000000 by omega),zfj hsort (hm y (List.mem_of_getElem? hx)),zam (show i<9223372036854775807 by omega)]
   unfold zuf
   dsimp only
   cases (!(y.Item==0)&&!(y.Item==x.ID)) with
   |true=>rfl
   |false=>
    cases (vlocal&&y.Pickup==branch) with
    |true=>rfl
    |false=>cases f==0<;>rfl) 0
 obtain ⟨r,r1,r2⟩:=z3k (branch:=branch) (vlocal:=vlocal) (x:=x) (fun f=>(.inl (f,()):(Int×Unit)⊕(Int×Unit))) (fun v=>.inr (v,())) (fun _=>trivial) q 0 0
 rw[r2]at h
 simp only
 rw[show zab zoq (l,branch,vlocal,q.map (fun x=>x.ID),0,0,x,())=_ from h,←r1]
 cases r<;>rfl
theorem z2l {c:Circ} (h:FitP c) {o:Hold} (ho:o∈c.Holds):rng 0 9 o.Rank=true∧o.ID≠0:=by
 have:=z2n h.holds ho
 unfold zb0 at this
 have:=zdo this (by decide)
 simp only[Bool.or_eq_false_iff,decide_eq_false_iff_not]at this
 obtain ⟨⟨hx,h1⟩,h2⟩:=this
 refine ⟨by rw[zcg];omega,?_⟩
 have:=hx.1.1.1.1.1.1.1.1.1.1
 omega
end Go.Proofs.YtdahfgialanmpaaGreatDoor
namespace Go.Proofs.YtdahfgialanmpaaGreatDoor
open Ev
open Go (IntKind)
end Go.Proofs.YtdahfgialanmpaaGreatDoor
namespace Go.Proofs.YtdahfgialanmpaaGreatDoor
open Ev
open Go (IntKind)
def zd5 (l:List Hold) (id:Int):List Hold×Hold×Int:=
 match l.find? (fun h=>h.ID==id) with|some h=>(l.filter (fun x=>!(x.ID==id)),h,0)|none=>([],zhw,9)
theorem z17 {l:List Hold} (hsort:∀i x,l[i]?=some x→zbn l i (fun y=>decide (x.ID≤y.ID))=false) {i:Nat} {x:Hold} (hx:l[i]?=some x):l.take i++l.drop (i+1)=l.filter (fun y=>!(y.ID==x.ID)):=by
 have hlt:=(List.getElem?_eq_some_iff.1 hx).1
 have e:l=l.take i++x::l.drop (i+1):=by
  have h2:l[i]=x:=(List.getElem?_eq_some_iff.1 hx).2
  rw[←h2,←List.drop_eq_getElem_cons hlt,List.take_append_drop]
 have hA:(l.take i).filter (fun y=>!(y.ID==x.ID))=l.take i:=by
  rw[List.filter_eq_self]
  intro y hy
  obtain ⟨j,hj⟩:=List.getElem?_of_mem hy
  have hj2:=(List.getElem?_eq_some_iff.1 hj).1
  rw[List.length_take]at hj2
  rw[List.getElem?_take_of_lt (by omega)]at hj
  have:=zcp (key:=fun y:Hold=>y.ID) hsort i j y x (by omega) hj hx
  have hne:¬y.ID=x.ID:=by omega
  simpa using hne
 have hB:(l.drop (i+1)).filter (fun y=>!(y.ID==x.ID))=l.drop (i+1):=by
  rw[List.filter_eq_self]
  intro y hy
  obtain ⟨j,hj⟩:=List.getElem?_of_mem hy
  rw[List.getElem?_drop]at hj
  have:=zcp (key:=fun y:Hold=>y.ID) hsort (i+1+j) i x y (by omega) hx hj
  have hne:¬y.ID=x.ID:=by omega
  simpa using hne
 conv=>rhs;rw[e]
 rw[List.filter_append,hA,List.filter_cons,hB]
 simp
theorem za5i {l:List Hold} {id:Int} (hl:l.length<100000000) (hsort:∀i x,l[i]?=some x→zbn l i (fun y=>decide (x.ID≤y.ID))=false):qer l id=some (zd5 l id):=by
 have hl2:l.length<1000000000:=by omega
 unfold qer qay zd5
 rw[z03 (p:=fun (g:Unit×Int×Unit) x0=>qeq x0 g.2.1) (g:=((),(id,()))) (fun x=>x.ID==id) hl2 (fun x _=>rfl)]
 dsimp only
 rcases zbl (fun x:Hold=>x.ID==id) l with ⟨h1,h2⟩|⟨i,x,h1,h2,h3,h4⟩
 ·simp only[h1,h2,zr6,cond_true]
  try rfl
 ·have hlt:=(List.getElem?_eq_some_iff.1 h2).1
  have hc:qd1 l=some l:=by unfold qd1;rw[zjm hl2];rfl
  have hid:x.ID=id:=by simpa using h3
  have hd:qej l (i:Int) ((i+1:Nat):Int)=some (l.take i++l.drop (i+1)):=by
   show zia l (i:Int) ((i+1:Nat):Int)=_
   unfold zia
   have d1:decide ((0:Int)≤(i:Int))=true:=by rw[decide_eq_true_eq];omega
   have d2:decide ((i:Int)≤((i+1:Nat):Int))=true:=by rw[decide_eq_true_eq];omega
   have d3:decide (((i+1:Nat):Int)≤(l.length:Int))=true:=by rw[decide_eq_true_eq];omega
   have d4:decide (l.length≤1073741824)=true:=by rw[decide_eq_true_eq];omega
   simp only[d1,d2,d3,d4,Bool.and_self,cond_true,Int.toNat_natCast]
  simp only[h4,h1,zp4,cond_false,hc,zam (show i<9223372036854775807 by omega),hd,zai,h2]
  rw[z17 hsort h2,hid]
theorem za44 {l:List Hold} {id:Int} (hl:l.length<100000000):qb2 l id=some (zd5 l id):=by
 have hl2:l.length<1000000000:=by omega
 unfold qb2 zd5
 rw[z01 hl2]
 unfold getH
 cases hf:l.find? (fun h=>h.ID==id) with
 |none=>rfl
 |some h=>
  have hw:=zbk (step:=zop) (fun (i:Nat) (s:List Hold)=>s.length≤i) (fun i s=>(l,id,(i:Int),zhw,h,s,())) l
   (fun i y s=>.inl (bif !(y.ID==id) then s++[y] else s)) (fun s=>(zhw,h,s,())) (by rw[zaz];omega)
   (fun s _=>by simp only[zop,dge,cond_false])
   (fun i y s hx hi=>by
    have hlt:=(List.getElem?_eq_some_iff.1 hx).1
    have l1:decide (s.length+([y]:List Hold).length≤LIM)=true:=zgt (by simp;omega)
    refine ⟨?_,fun s' hs'=>?_⟩
    ·simp only[zop,dlt hlt,zai,hx,cond_true,l1,zam (show i<9223372036854775807 by omega)]
     cases !(y.ID==id)<;>rfl
    ·cases hs'
     cases !(y.ID==id)<;>simp<;>omega) [] (by simp)
  rw[zdg]at hw
  simp only[Bool.not_true,cond_false]
  rw[show zab zop (l,id,0,(⟨0,0,0,0,0,0,0,0,0,0,0⟩:Hold),h,([]:List Hold),())=_ from hw,zf0]
  try rfl
def zay (c:Circ) (l:List Hold):Circ:=⟨c.Today,c.Items,c.Patrons,c.Loans,l,c.Charges,c.Rules,c.Cals,c.Moves,c.NextHold,c.NextCharge,c.Local⟩
theorem zp1 (c:Circ) (l:List Hold):qcv l 0 ⟨c,0⟩=some ((),⟨zay c l,0⟩):=rfl
theorem zes (c:Circ) (l:List Hold) (e:Int) (he:e≠0):qcv l e ⟨c,0⟩=some ((),⟨zay c c.Holds,e⟩):=by
 have h:(e==0)=false:=by simpa using he
 unfold qcv qu
 simp only[h,Bool.not_false,cond_true,beq_self_eq_true,cond_false]
 try rfl
end Go.Proofs.YtdahfgialanmpaaGreatDoor
namespace Go.Proofs.YtdahfgialanmpaaGreatDoor
open Ev
open Go (IntKind)
def zni {X:Type} (i:Int) (upd:X→X):Nat→List X→List X
 |_,[]=>[]
 |k,x::l=>(bif (k:Int)==i then upd x else x)::zni i upd (k+1) l
theorem z4n {X:Type} {i:Nat} {upd:X→X}:∀{l:List X} {k:Nat},i<k→zni (i:Int) upd k l=l:=by
 intro l
 induction l with
 |nil=>intros;rfl
 |cons x l ih=>
  intro k h
  have:((k:Int)==(i:Int))=false:=by
   have hne:¬(k:Int)=(i:Int):=by omega
   simpa using hne
  simp only[zni,this,cond_false]
  rw[ih (by omega)]
theorem zad3 {X:Type} {upd:X→X} {x:X}:∀{l:List X} {k j:Nat},l[j]?=some x→zni ((k+j:Nat):Int) upd k l=l.set j (upd x):=by
 intro l
 induction l with
 |nil=>intro k j h;simp at h
 |cons y l ih=>
  intro k j h
  cases j with
  |zero=>
   simp at h
   subst h
   have:((k:Int)==((k+0:Nat):Int))=true:=by simp
   simp only[zni,this,cond_true,List.set_cons_zero]
   rw[z4n (by omega)]
  |succ j=>
   have hne:((k:Int)==((k+(j+1):Nat):Int))=false:=by
    have:¬(k:Int)=((k+(j+1):Nat):Int):=by omega
    simpa using this
   simp only[zni,hne,cond_false,List.set_cons_succ]
   have:=ih (k:=k+1) (j:=j) (by simpa using h)
   rw[show k+1+j=k+(j+1) by omega]at this
   rw[this]
theorem zaa9 {X β:Type} {i:Int} {upd:X→X} {g:List X→β}:∀{l:List X} {k:Nat} {s:List X},zc1 (fun (k:Nat) x (s:List X)=>.inl (s++[bif (k:Int)==i then upd x else x])) g k l s=g (s++zni i upd k l):=by
 intro l
 induction l with
 |nil=>intro k s;simp[zc1,zni]
 |cons x l ih=>intro k s;simp only[zc1,zni];rw[ih];simp
def znj (u:Custody) (x:Item):Item:=⟨x.ID,x.Record,x.Branch,x.Kind,x.Price,x.Call,u⟩
def zgq (c:Circ) (i:Nat) (x:Item) (m:Move) (u:Custody):Circ:=⟨c.Today,c.Items.set i (znj u x),c.Patrons,c.Loans,c.Holds,c.Charges,c.Rules,c.Cals,c.Moves++[m],c.NextHold,c.NextCharge,c.Local⟩
def zf5 (c:Circ) (e:Int):Int:=bif e==0&&decide (2000≤(c.Moves.length:Int)) then 13 else e
theorem zfx {c:Circ} {i:Nat} {x:Item} {kind branch who:Int} (hs:Short c) (hm:c.Moves.length<100000000) (hx:c.Items[i]?=some x) :
 qbm (i:Int) kind branch who ⟨c,0⟩=some ((),bif zf5 c (za8 x.Custody ⟨c.Today,x.ID,kind,branch,who⟩).2==0 then ⟨zgq c i x ⟨c.Today,x.ID,kind,branch,who⟩ (za8 x.Custody ⟨c.Today,x.ID,kind,branch,who⟩).1,0⟩ else ⟨c,zf5 c (za8 x.Custody ⟨c.Today,x.ID,kind,branch,who⟩).2⟩):=by
 have hc1:qcx c.Items=some c.Items:=by unfold qcx;rw[zjm hs.items];rfl
 have hc2:qdz c.Moves=some c.Moves:=by unfold qdz;rw[zjm hs.moves];rfl
 have l1:decide (c.Moves.length+([(⟨c.Today,x.ID,kind,branch,who⟩:Move)]:List Move).length≤LIM)=true:=zgt (by simp;omega)
 unfold qbm zf5
 simp -zeta only[beq_self_eq_true,Bool.not_true,cond_false,zai,hx,za5h,zbc]
 generalize za8 x.Custody ⟨c.Today,x.ID,kind,branch,who⟩=q
 obtain ⟨u,e⟩:=q
 dsimp only
 cases hb:(e==0&&decide (2000≤(c.Moves.length:Int))) with
 |true=>
  simp only[cond_true,qu,beq_self_eq_true]
  try rfl
 |false=>
  simp only[cond_false]
  cases he:e==0 with
  |true=>
   have:e=0:=by simpa using he
   subst this
   simp only[Bool.not_true,cond_false,cond_true,hc1,hc2,zai,hx,Int.toNat_natCast,l1]
   try rfl
  |false=>
   simp only[Bool.not_false,cond_true,cond_false,qu,beq_self_eq_true]
theorem zwk {c:Circ} {i:Nat} {m:Move} {u:Custody} (hs:Short c):zab zg8 ((i:Int),0,c,zbp,m,u,[],())=some (c,zbp,m,zni (i:Int) (znj u) 0 c.Items,()):=by
 have h:=zbk (step:=zg8) (fun (k:Nat) (s:List Item)=>s.length≤k) (fun k s=>((i:Int),(k:Int),c,zbp,m,u,s,())) c.Items
  (fun k x s=>.inl (s++[bif (k:Int)==(i:Int) then znj u x else x])) (fun s=>(c,zbp,m,s,())) (by rw[zaz];have:=hs.items;omega)
  (fun s _=>by simp only[zg8,dge,cond_false])
  (fun k x s hx hi=>by
   have hlt:=(List.getElem?_eq_some_iff.1 hx).1
   have:=hs.items
   have l1:∀y:Item,decide (s.length+([y]:List Item).length≤LIM)=true:=fun y=>zgt (by simp;omega)
   refine ⟨?_,fun s' hs'=>?_⟩
   ·simp only[zg8,dlt hlt,zai,hx,cond_true,l1,zam (show k<9223372036854775807 by omega)]
    cases (k:Int)==(i:Int)<;>rfl
   ·cases hs'
    simp
    omega) [] (by simp)
 rw[zaa9]at h
 exact h
theorem zaan {c:Circ} {item:Int} {i:Nat} {x:Item} {kind branch who:Int} (hs:Short c) (hm:c.Moves.length<100000000) (hat:qj c item=some (i:Int)) (hx:c.Items[i]?=some x) (hid:x.ID=item) :
 qav c item kind branch who=some (bif zf5 c (za8 x.Custody ⟨c.Today,x.ID,kind,branch,who⟩).2==0 then (zgq c i x ⟨c.Today,x.ID,kind,branch,who⟩ (za8 x.Custody ⟨c.Today,x.ID,kind,branch,who⟩).1,0) else (zbp,zf5 c (za8 x.Custody ⟨c.Today,x.ID,kind,branch,who⟩).2)):=by
 subst hid
 unfold qav zf5
 rw[hat]
 simp only[zai,hx,zaot]
 generalize za8 x.Custody ⟨c.Today,x.ID,kind,branch,who⟩=q
 obtain ⟨u,e⟩:=q
 simp only
 cases he:e==0 with
 |false=>simp only[Bool.not_false,cond_true,Bool.false_and,cond_false,he];rfl
 |true=>
  have:e=0:=by simpa using he
  subst this
  simp only[Bool.not_true,cond_false,Bool.true_and]
  cases decide (2000≤(c.Moves.length:Int)) with
  |true=>rfl
  |false=>
   have hw:=zwk (i:=i) (m:=⟨c.Today,x.ID,kind,branch,who⟩) (u:=u) hs
   have l1:decide (c.Moves.length≤LIM)=true:=by rw[decide_eq_true_eq];unfold LIM;omega
   have l2:decide (c.Moves.length+([(⟨c.Today,x.ID,kind,branch,who⟩:Move)]:List Move).length≤LIM)=true:=zgt (by simp;omega)
   have es:=zad3 (upd:=znj u) (l:=c.Items) (k:=0) (j:=i) hx
   rw[Nat.zero_add]at es
   rw[es]at hw
   simp only[cond_false]
   rw[show zab zg8 ((i:Int),0,c,(⟨0,[],[],[],[],[],[],⟨⟨0,[]⟩,⟨0,[]⟩,⟨0,[]⟩,⟨0,[]⟩⟩,[],0,0,false⟩:Circ),(⟨c.Today,x.ID,kind,branch,who⟩:Move),u,([]:List Item),())=_ from hw]
   simp only[l1,l2,cond_true]
   try rfl
end Go.Proofs.YtdahfgialanmpaaGreatDoor
namespace Go.Proofs.YtdahfgialanmpaaGreatDoor
open Ev
open Go (IntKind)
theorem zug {branch:Int} {vlocal:Bool} {x:Item}:∀{q:List Hold} {f:Int},zg4 branch vlocal x q f=f∨∃h∈q,zg4 branch vlocal x q f=h.ID:=by
 intro q
 induction q with
 |nil=>intro f;exact .inl rfl
 |cons h q ih=>
  intro f
  have lift:∀g:Int,(zg4 branch vlocal x q g=g∨∃o∈q,zg4 branch vlocal x q g=o.ID)→(g=f∨g=h.ID)→(zg4 branch vlocal x q g=f∨∃o∈h::q,zg4 branch vlocal x q g=o.ID):=by
   intro g hg hgf
   rcases hg with hg|⟨o,ho,hg⟩
   ·rcases hgf with e|e
    ·exact .inl (by rw[hg,e])
    ·exact .inr ⟨h,List.mem_cons_self ..,by rw[hg,e]⟩
   ·exact .inr ⟨o,List.mem_cons_of_mem _ ho,hg⟩
  simp only[zg4,zuf]
  cases (!(h.Item==0)&&!(h.Item==x.ID)) with
  |true=>exact lift f ih (.inl rfl)
  |false=>
   cases (vlocal&&h.Pickup==branch) with
   |true=>exact .inr ⟨h,List.mem_cons_self ..,rfl⟩
   |false=>
    cases f==0 with
    |true=>exact lift h.ID ih (.inr rfl)
    |false=>exact lift f ih (.inl rfl)
end Go.Proofs.YtdahfgialanmpaaGreatDoor
namespace Go.Proofs.YtdahfgialanmpaaGreatDoor
open Ev
open Go (IntKind)
end Go.Proofs.YtdahfgialanmpaaGreatDoor
namespace Go.Proofs.YtdahfgialanmpaaGreatDoor
open Ev
open Go (IntKind)
end Go.Proofs.YtdahfgialanmpaaGreatDoor
namespace Go.Proofs.YtdahfgialanmpaaGreatDoor
open Ev
open Go (IntKind)
theorem zhk (c:Circ) (id e0:Int) (h0:e0≠0):qd5 id ⟨c,e0⟩=some ((),⟨c,e0⟩):=by
 have h:(e0==0)=false:=by simpa using h0
 unfold qd5
 simp only[h,cond_false]
theorem ziu {c:Circ} {id:Int} (hl:c.Holds.length<100000000) (hsort:∀i x,c.Holds[i]?=some x→zbn c.Holds i (fun y=>decide (x.ID≤y.ID))=false) :
 qd5 id ⟨c,0⟩=some ((),bif (zd5 c.Holds id).2.2==0 then ⟨zay c (zd5 c.Holds id).1,0⟩ else ⟨zay c c.Holds,(zd5 c.Holds id).2.2⟩):=by
 unfold qd5
 simp only[beq_self_eq_true,cond_true,za5i hl hsort]
 generalize zd5 c.Holds id=q
 obtain ⟨l,o,e⟩:=q
 simp only
 by_cases he:e=0
 ·subst he
  rw[zp1]
  try rfl
 ·have h:(e==0)=false:=by simpa using he
  rw[zes c l e he,h]
  try rfl
end Go.Proofs.YtdahfgialanmpaaGreatDoor
namespace Go.Proofs.YtdahfgialanmpaaGreatDoor
open Ev
open Go (IntKind)
theorem zwc {c:Circ} {i:Nat} {x:Item} {m:Move} {u:Custody} (hs:Short c) (hm:c.Moves.length<100000000) (hx:c.Items[i]?=some x):Short (zgq c i x m u):=by
 obtain ⟨h1,h2,h3,h4,h5,h6,h7,h8,h9,h10,h11,h12,h13⟩:=hs
 refine ⟨?_,h2,h3,h4,h5,h6,?_,fun z hz=>?_,h9,h10,h11,h12,h13⟩
 ·show (c.Items.set i _).length<_
  rw[List.length_set];exact h1
 ·show (c.Moves++[m]).length<_
  simp;omega
 ·rcases List.mem_or_eq_of_mem_set hz with h|h
  ·exact h8 z h
  ·rw[h];exact h8 x (List.mem_of_getElem? hx)
theorem zfw {c:Circ} {l:List Hold} (hs:Short c) (hl:l.length<1000000000):Short (zay c l):=by
 obtain ⟨h1,h2,h3,h4,h5,h6,h7,h8,h9,h10,h11,h12,h13⟩:=hs
 exact ⟨h1,h2,h3,hl,h5,h6,h7,h8,h9,h10,h11,h12,h13⟩
end Go.Proofs.YtdahfgialanmpaaGreatDoor
namespace Go.Proofs.YtdahfgialanmpaaGreatDoor
open Ev
open Go (IntKind)
theorem zr4 {c:Circ} {id:Int} (hs:Short c):qc7 id ⟨c,0⟩=some (fIdx (fun x=>x.ID==id) c.Items,⟨c,bif decide (fIdx (fun x=>x.ID==id) c.Items<0) then 9 else 0⟩):=by
 unfold qc7
 simp only[zan5 hs.items]
 cases decide (fIdx (fun x:Item=>x.ID==id) c.Items<0)<;>rfl
end Go.Proofs.YtdahfgialanmpaaGreatDoor
